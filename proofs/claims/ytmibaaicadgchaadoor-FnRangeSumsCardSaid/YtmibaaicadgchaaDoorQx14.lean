/- Functions of the translation as Lean functions, each with a proof that a call answers so; out of the seat, by this claim's own program prt.py. -/
import Derived.Test.YtmibaaicadgchaaDoorWTab
import Derived.Test.YtmibaaicadgchaaDoorWRepsOne
import Derived.Test.YtmibaaicadgchaaDoorWInv
import Derived.Test.YtmibaaicadgchaaDoorQx0
import Derived.Test.YtmibaaicadgchaaDoorQx1
import Derived.Test.YtmibaaicadgchaaDoorQx3
import Derived.Test.YtmibaaicadgchaaDoorQx6
import Derived.Test.YtmibaaicadgchaaDoorQx7
import Derived.Test.YtmibaaicadgchaaDoorQx8
import Derived.Test.YtmibaaicadgchaaDoorQx11
import Derived.Test.YtmibaaicadgchaaDoorQx12
import Derived.Test.YtmibaaicadgchaaDoorQx13
import Derived.Test.YtmibaaicadgchaaDoorQStep
namespace Go.Proofs.YtmibaaicadgchaaDoor.Q
open Go.RowKit Go.Proofs.YtmibaaicadgchaaDoorW.PrintWords Go.Proofs.YtmibaaicadgchaaDoorW.PrintLast Go.Proofs.YtmibaaicadgchaaDoorW.PrintMore
attribute [local go_sem] max2_int min2_int max_two min_two max_three min_three max_four min_four   -- for this text's walks alone
set_option linter.unusedVariables false
set_option linter.unusedSimpArgs false

attribute [local go_sem high] eqA25
/-! ### laws_FnRangeSums: function 3 -/
abbrev laws_FnRangeSums.b0_ : Array Bool := #[false, false, false, false, false, false, false, false, false, false, false, false, false, false, false, false, false, false, false, false, false, false, false, false, false, false]
abbrev laws_FnRangeSums.b1_ : Array Bool := #[true, false, false, false, false, false, false, false, false, false, false, false, false, false, false, false, false, false, false, false, false, false, false, false, false, false]
abbrev laws_FnRangeSums.b2_ : Array Bool := #[true, true, false, false, false, false, false, false, false, false, false, false, false, false, false, false, false, false, false, false, false, false, false, false, false, false]
abbrev laws_FnRangeSums.b3_ : Array Bool := #[true, true, true, false, false, false, false, false, false, false, false, false, false, false, false, false, false, false, false, false, false, false, false, false, false, false]
abbrev laws_FnRangeSums.b4_ : Array Bool := #[true, true, true, true, false, false, false, false, false, false, false, false, false, false, false, false, false, false, false, false, false, false, false, false, false, false]
abbrev laws_FnRangeSums.b5_ : Array Bool := #[true, true, true, true, true, false, false, false, false, false, false, false, false, false, false, false, false, false, false, false, false, false, false, false, false, false]
abbrev laws_FnRangeSums.b6_ : Array Bool := #[true, true, true, true, true, true, false, false, false, false, false, false, false, false, false, false, false, false, false, false, false, false, false, false, false, false]
abbrev laws_FnRangeSums.b7_ : Array Bool := #[true, true, true, true, true, true, true, false, false, false, false, false, false, false, false, false, false, false, false, false, false, false, false, false, false, false]
abbrev laws_FnRangeSums.b8_ : Array Bool := #[true, true, true, true, true, true, true, true, false, false, false, false, false, false, false, false, false, false, false, false, false, false, false, false, false, false]
abbrev laws_FnRangeSums.b9_ : Array Bool := #[true, true, true, true, true, true, true, true, true, false, false, false, false, false, false, false, false, false, false, false, false, false, false, false, false, false]
abbrev laws_FnRangeSums.b10_ : Array Bool := #[true, true, true, true, true, true, true, true, true, true, false, false, false, false, false, false, false, false, false, false, false, false, false, false, false, false]
abbrev laws_FnRangeSums.b11_ : Array Bool := #[true, true, true, true, true, true, true, true, true, true, true, false, false, false, false, false, false, false, false, false, false, false, false, false, false, false]
abbrev laws_FnRangeSums.b12_ : Array Bool := #[true, true, true, true, true, true, true, true, true, true, true, true, false, false, false, false, false, false, false, false, false, false, false, false, false, false]
abbrev laws_FnRangeSums.b13_ : Array Bool := #[true, true, true, true, true, true, true, true, true, true, true, true, true, false, false, false, false, false, false, false, false, false, false, false, false, false]
abbrev laws_FnRangeSums.b14_ : Array Bool := #[true, true, true, true, true, true, true, true, true, true, true, true, true, true, false, false, false, false, false, false, false, false, false, false, false, false]
abbrev laws_FnRangeSums.b15_ : Array Bool := #[true, true, true, true, true, true, true, true, true, true, true, true, true, true, true, false, false, false, false, false, false, false, false, false, false, false]
abbrev laws_FnRangeSums.b16_ : Array Bool := #[true, true, true, true, true, true, true, true, true, true, true, true, true, true, true, true, false, false, false, false, false, false, false, false, false, false]
abbrev laws_FnRangeSums.b17_ : Array Bool := #[true, true, true, true, true, true, true, true, true, true, true, true, true, true, true, true, true, false, false, false, false, false, false, false, false, false]
abbrev laws_FnRangeSums.b18_ : Array Bool := #[true, true, true, true, true, true, true, true, true, true, true, true, true, true, true, true, true, true, false, false, false, false, false, false, false, false]
abbrev laws_FnRangeSums.b19_ : Array Bool := #[true, true, true, true, true, true, true, true, true, true, true, true, true, true, true, true, true, true, true, false, false, false, false, false, false, false]
abbrev laws_FnRangeSums.b20_ : Array Bool := #[true, true, true, true, true, true, true, true, true, true, true, true, true, true, true, true, true, true, true, true, false, false, false, false, false, false]
abbrev laws_FnRangeSums.b21_ : Array Bool := #[true, true, true, true, true, true, true, true, true, true, true, true, true, true, true, true, true, true, true, true, true, false, false, false, false, false]
abbrev laws_FnRangeSums.b22_ : Array Bool := #[true, true, true, true, true, true, true, true, true, true, true, true, true, true, true, true, true, true, true, true, true, true, false, false, false, false]
abbrev laws_FnRangeSums.b23_ : Array Bool := #[true, true, true, true, true, true, true, true, true, true, true, true, true, true, true, true, true, true, true, true, true, true, true, false, false, false]
abbrev laws_FnRangeSums.b24_ : Array Bool := #[true, true, true, true, true, true, true, true, true, true, true, true, true, true, true, true, true, true, true, true, true, true, true, true, false, false]
abbrev laws_FnRangeSums.b25_ : Array Bool := #[true, true, true, true, true, true, true, true, true, true, true, true, true, true, true, true, true, true, true, true, true, true, true, true, true, false]
abbrev laws_FnRangeSums.b26_ : Array Bool := #[true, true, true, true, true, true, true, true, true, true, true, true, true, true, true, true, true, true, true, true, true, true, true, true, true, true]
abbrev laws_FnRangeSums.b27_ : Array Bool := #[false, false, false, false, false, false, false, false, false, false, false, false, false, false]
abbrev laws_FnRangeSums.b28_ : Array Bool := #[true, false, false, false, false, false, false, false, false, false, false, false, false, false]
abbrev laws_FnRangeSums.b29_ : Array Bool := #[true, false, true, false, false, false, false, false, false, false, false, false, false, false]
abbrev laws_FnRangeSums.b30_ : Array Bool := #[true, false, true, true, false, false, false, false, false, false, false, false, false, false]
abbrev laws_FnRangeSums.b31_ : Array Bool := #[true, false, true, true, true, false, false, false, false, false, false, false, false, false]
abbrev laws_FnRangeSums.b32_ : Array Bool := #[true, false, true, true, true, true, false, false, false, false, false, false, false, false]
abbrev laws_FnRangeSums.b33_ : Array Bool := #[true, false, true, true, true, true, false, true, false, false, false, false, false, false]
abbrev laws_FnRangeSums.b34_ : Array Bool := #[false, false, false, false, false, false, false, false, false, false, false, false, false]
abbrev laws_FnRangeSums.b35_ : Array Bool := #[true, true, true, true, true, true, false, true, false, false, false, false, false, false]
abbrev laws_FnRangeSums.b36_ : Array Bool := #[true, false, false, false, false, false, false, false, false, false, false, false, false]
abbrev laws_FnRangeSums.b37_ : Array Bool := #[true, true, true, true, true, true, true, true, false, false, false, false, false, false]
abbrev laws_FnRangeSums.b38_ : Array Bool := #[true, false, true, false, false, false, false, false, false, false, false, false, false]
abbrev laws_FnRangeSums.b39_ : Array Bool := #[true, true, true, true, true, true, true, true, true, false, false, false, false, false]
abbrev laws_FnRangeSums.b40_ : Array Bool := #[true, false, true, true, false, false, false, false, false, false, false, false, false]
abbrev laws_FnRangeSums.b41_ : Array Bool := #[true, true, true, true, true, true, true, true, true, true, false, false, false, false]
abbrev laws_FnRangeSums.b42_ : Array Bool := #[true, false, true, true, true, false, false, false, false, false, false, false, false]
abbrev laws_FnRangeSums.b43_ : Array Bool := #[true, true, true, true, true, true, true, true, true, true, true, false, false, false]
abbrev laws_FnRangeSums.b44_ : Array Bool := #[true, false, true, true, true, false, true, false, false, false, false, false, false]
abbrev laws_FnRangeSums.b45_ : Array Bool := #[true, true, true, true, true, true, true, true, true, true, true, true, false, false]
abbrev laws_FnRangeSums.b46_ : Array Bool := #[true, true, true, true, true, false, true, false, false, false, false, false, false]
abbrev laws_FnRangeSums.b47_ : Array Bool := #[true, true, true, true, true, true, true, true, true, true, true, true, true, false]
abbrev laws_FnRangeSums.b48_ : Array Bool := #[true, true, true, true, true, true, true, false, false, false, false, false, false]
abbrev laws_FnRangeSums.b49_ : Array Bool := #[true, true, true, true, true, true, true, true, true, true, true, true, true, true]
abbrev laws_FnRangeSums.b50_ : Array Bool := #[true, true, true, true, true, true, true, true, false, false, false, false, false]
abbrev laws_FnRangeSums.b51_ : Array Bool := #[true, true, true, true, true, true, true, true, true, false, false, false, false]
abbrev laws_FnRangeSums.b52_ : Array Bool := #[true, true, true, true, true, true, true, true, true, true, false, false, false]
abbrev laws_FnRangeSums.b53_ : Array Bool := #[true, true, true, true, true, true, true, true, true, true, true, false, false]
abbrev laws_FnRangeSums.b54_ : Array Bool := #[true, true, true, true, true, true, true, true, true, true, true, true, false]
abbrev laws_FnRangeSums.b55_ : Array Bool := #[true, true, true, true, true, true, true, true, true, true, true, true, true]
mutual
def laws_FnRangeSums.j0 : Nat → List Int → Bool → Int → Int → Int → Int → Int → Int → Int → Int → Int → Int → Option (Bool)
 | 0, _, _, _, _, _, _, _, _, _, _, _, _ => none
 | k + 1, x0, x52, x292000, x292001, x293000, x293001, x300000, x300001, x301000, x301001, x302000, x302001 => if x52 = true then (some false) else ((spec_RangeOk.f x292000 x292001).bind fun t312 => (if t312 = true then ((spec_RangeOk.f x293000 x293001).bind fun t313 => (if t313 = true then (if x292000 > x292001 then (laws_FnRangeSums.j1 k x0 true x292000 x292001 x293000 x293001 x300000 x300001 x301000 x301001 x302000 x302001) else (laws_FnRangeSums.j1 k x0 (decide (x293000 > x293001)) x292000 x292001 x293000 x293001 x300000 x300001 x301000 x301001 x302000 x302001)) else (laws_FnRangeSums.j1 k x0 true x292000 x292001 x293000 x293001 x300000 x300001 x301000 x301001 x302000 x302001))) else (laws_FnRangeSums.j1 k x0 true x292000 x292001 x293000 x293001 x300000 x300001 x301000 x301001 x302000 x302001)))
def laws_FnRangeSums.j1 : Nat → List Int → Bool → Int → Int → Int → Int → Int → Int → Int → Int → Int → Int → Option (Bool)
 | 0, _, _, _, _, _, _, _, _, _, _, _, _ => none
 | k + 1, x0, x74, x292000, x292001, x293000, x293001, x300000, x300001, x301000, x301001, x302000, x302001 => if x74 = true then (some true) else (laws_FnRangeSums.l0 k x0 0 x292000 x292001 x293000 x293001 x300000 x300001 x301000 x301001 x302000 x302001)
def laws_FnRangeSums.l0 : Nat → List Int → Int → Int → Int → Int → Int → Int → Int → Int → Int → Int → Int → Option (Bool)
 | 0, _, _, _, _, _, _, _, _, _, _, _, _ => none
 | k + 1, x0, x8, x292000, x292001, x293000, x293001, x300000, x300001, x301000, x301001, x302000, x302001 => if x8 < 6 then ((laws_pick.f k x0 x8 (wrap64 ((wrap64 (x292001 - x292000)) + 1))).bind fun t314 => ((laws_pick.f k x0 (wrap64 (x8 + 9)) (wrap64 ((wrap64 (x293001 - x293000)) + 1))).bind fun t315 => ((laws_within.f (wrap64 ((wrap64 (x292000 + t314)) + (wrap64 (x293000 + t315))))).bind fun t316 => (if t316 = true then ((impl_RangeHas.f x300000 x300001 (wrap64 ((wrap64 (x292000 + t314)) + (wrap64 (x293000 + t315))))).bind fun t317 => (if t317 = true then ((laws_within.f (wrap64 ((wrap64 (x292000 + t314)) - (wrap64 (x293000 + t315))))).bind fun t318 => (if t318 = true then ((impl_RangeHas.f x301000 x301001 (wrap64 ((wrap64 (x292000 + t314)) - (wrap64 (x293000 + t315))))).bind fun t319 => (if t319 = true then ((laws_within.f (wrap64 ((wrap64 (x292000 + t314)) * (wrap64 (x293000 + t315))))).bind fun t320 => (if t320 = true then ((impl_RangeHas.f x302000 x302001 (wrap64 ((wrap64 (x292000 + t314)) * (wrap64 (x293000 + t315))))).bind fun t321 => (if t321 = true then ((impl_RangeNeg.f k x292000 x292001).bind fun bt322 => ((impl_RangeHas.f bt322.1 bt322.2 (wrap64 (-(wrap64 (x292000 + t314))))).bind fun t324 => (if t324 = true then (laws_FnRangeSums.l0 k x0 (wrap64 (x8 + 1)) x292000 x292001 x293000 x293001 x300000 x300001 x301000 x301001 x302000 x302001) else (some false)))) else (some false))) else ((impl_RangeNeg.f k x292000 x292001).bind fun bt325 => ((impl_RangeHas.f bt325.1 bt325.2 (wrap64 (-(wrap64 (x292000 + t314))))).bind fun t327 => (if t327 = true then (laws_FnRangeSums.l0 k x0 (wrap64 (x8 + 1)) x292000 x292001 x293000 x293001 x300000 x300001 x301000 x301001 x302000 x302001) else (some false)))))) else (some false))) else ((laws_within.f (wrap64 ((wrap64 (x292000 + t314)) * (wrap64 (x293000 + t315))))).bind fun t328 => (if t328 = true then ((impl_RangeHas.f x302000 x302001 (wrap64 ((wrap64 (x292000 + t314)) * (wrap64 (x293000 + t315))))).bind fun t329 => (if t329 = true then ((impl_RangeNeg.f k x292000 x292001).bind fun bt330 => ((impl_RangeHas.f bt330.1 bt330.2 (wrap64 (-(wrap64 (x292000 + t314))))).bind fun t332 => (if t332 = true then (laws_FnRangeSums.l0 k x0 (wrap64 (x8 + 1)) x292000 x292001 x293000 x293001 x300000 x300001 x301000 x301001 x302000 x302001) else (some false)))) else (some false))) else ((impl_RangeNeg.f k x292000 x292001).bind fun bt333 => ((impl_RangeHas.f bt333.1 bt333.2 (wrap64 (-(wrap64 (x292000 + t314))))).bind fun t335 => (if t335 = true then (laws_FnRangeSums.l0 k x0 (wrap64 (x8 + 1)) x292000 x292001 x293000 x293001 x300000 x300001 x301000 x301001 x302000 x302001) else (some false)))))))) else (some false))) else ((laws_within.f (wrap64 ((wrap64 (x292000 + t314)) - (wrap64 (x293000 + t315))))).bind fun t336 => (if t336 = true then ((impl_RangeHas.f x301000 x301001 (wrap64 ((wrap64 (x292000 + t314)) - (wrap64 (x293000 + t315))))).bind fun t337 => (if t337 = true then ((laws_within.f (wrap64 ((wrap64 (x292000 + t314)) * (wrap64 (x293000 + t315))))).bind fun t338 => (if t338 = true then ((impl_RangeHas.f x302000 x302001 (wrap64 ((wrap64 (x292000 + t314)) * (wrap64 (x293000 + t315))))).bind fun t339 => (if t339 = true then ((impl_RangeNeg.f k x292000 x292001).bind fun bt340 => ((impl_RangeHas.f bt340.1 bt340.2 (wrap64 (-(wrap64 (x292000 + t314))))).bind fun t342 => (if t342 = true then (laws_FnRangeSums.l0 k x0 (wrap64 (x8 + 1)) x292000 x292001 x293000 x293001 x300000 x300001 x301000 x301001 x302000 x302001) else (some false)))) else (some false))) else ((impl_RangeNeg.f k x292000 x292001).bind fun bt343 => ((impl_RangeHas.f bt343.1 bt343.2 (wrap64 (-(wrap64 (x292000 + t314))))).bind fun t345 => (if t345 = true then (laws_FnRangeSums.l0 k x0 (wrap64 (x8 + 1)) x292000 x292001 x293000 x293001 x300000 x300001 x301000 x301001 x302000 x302001) else (some false)))))) else (some false))) else ((laws_within.f (wrap64 ((wrap64 (x292000 + t314)) * (wrap64 (x293000 + t315))))).bind fun t346 => (if t346 = true then ((impl_RangeHas.f x302000 x302001 (wrap64 ((wrap64 (x292000 + t314)) * (wrap64 (x293000 + t315))))).bind fun t347 => (if t347 = true then ((impl_RangeNeg.f k x292000 x292001).bind fun bt348 => ((impl_RangeHas.f bt348.1 bt348.2 (wrap64 (-(wrap64 (x292000 + t314))))).bind fun t350 => (if t350 = true then (laws_FnRangeSums.l0 k x0 (wrap64 (x8 + 1)) x292000 x292001 x293000 x293001 x300000 x300001 x301000 x301001 x302000 x302001) else (some false)))) else (some false))) else ((impl_RangeNeg.f k x292000 x292001).bind fun bt351 => ((impl_RangeHas.f bt351.1 bt351.2 (wrap64 (-(wrap64 (x292000 + t314))))).bind fun t353 => (if t353 = true then (laws_FnRangeSums.l0 k x0 (wrap64 (x8 + 1)) x292000 x292001 x293000 x293001 x300000 x300001 x301000 x301001 x302000 x302001) else (some false)))))))))))) else (some true)
end
def laws_FnRangeSums.f (k : Nat) (l0 : List Int) : Option (Bool) := (laws_big.f l0).bind fun t286 => (if t286 = true then (some true) else ((spec_DrawRangeMul.f l0).bind fun bt287 => ((impl_RangeAdd.f k bt287.1 bt287.2.1 bt287.2.2.1 bt287.2.2.2).bind fun bt293 => ((impl_RangeSub.f k bt287.1 bt287.2.1 bt287.2.2.1 bt287.2.2.2).bind fun bt295 => ((impl_RangeMul.f k bt287.1 bt287.2.1 bt287.2.2.1 bt287.2.2.2).bind fun bt297 => ((spec_RangeAdd.f bt287.1 bt287.2.1 bt287.2.2.1 bt287.2.2.2).bind fun bt302 => (if (!(bt293.1 == bt302.1) || (!(bt293.2 == bt302.2))) = true then (laws_FnRangeSums.j0 k l0 true bt287.1 bt287.2.1 bt287.2.2.1 bt287.2.2.2 bt293.1 bt293.2 bt295.1 bt295.2 bt297.1 bt297.2) else ((spec_RangeSub.f bt287.1 bt287.2.1 bt287.2.2.1 bt287.2.2.2).bind fun bt304 => (if (!(bt295.1 == bt304.1) || (!(bt295.2 == bt304.2))) = true then (laws_FnRangeSums.j0 k l0 true bt287.1 bt287.2.1 bt287.2.2.1 bt287.2.2.2 bt293.1 bt293.2 bt295.1 bt295.2 bt297.1 bt297.2) else ((spec_RangeMul.f bt287.1 bt287.2.1 bt287.2.2.1 bt287.2.2.2).bind fun bt306 => (if (!(bt297.1 == bt306.1) || (!(bt297.2 == bt306.2))) = true then (laws_FnRangeSums.j0 k l0 true bt287.1 bt287.2.1 bt287.2.2.1 bt287.2.2.2 bt293.1 bt293.2 bt295.1 bt295.2 bt297.1 bt297.2) else ((impl_RangeNeg.f k bt287.1 bt287.2.1).bind fun bt308 => ((spec_RangeNeg.f bt287.1 bt287.2.1).bind fun bt310 => (laws_FnRangeSums.j0 k l0 (!(bt308.1 == bt310.1) || (!(bt308.2 == bt310.2))) bt287.1 bt287.2.1 bt287.2.2.1 bt287.2.2.2 bt293.1 bt293.2 bt295.1 bt295.2 bt297.1 bt297.2))))))))))))))
theorem laws_FnRangeSums.mono_l : ∀ k, (∀ y0 y1 y2 y3 y4 y5 y6 y7 y8 y9 y10 y11, LeO (laws_FnRangeSums.j0 k y0 y1 y2 y3 y4 y5 y6 y7 y8 y9 y10 y11) (laws_FnRangeSums.j0 (k + 1) y0 y1 y2 y3 y4 y5 y6 y7 y8 y9 y10 y11)) ∧ (∀ y0 y1 y2 y3 y4 y5 y6 y7 y8 y9 y10 y11, LeO (laws_FnRangeSums.j1 k y0 y1 y2 y3 y4 y5 y6 y7 y8 y9 y10 y11) (laws_FnRangeSums.j1 (k + 1) y0 y1 y2 y3 y4 y5 y6 y7 y8 y9 y10 y11)) ∧ (∀ y0 y1 y2 y3 y4 y5 y6 y7 y8 y9 y10 y11, LeO (laws_FnRangeSums.l0 k y0 y1 y2 y3 y4 y5 y6 y7 y8 y9 y10 y11) (laws_FnRangeSums.l0 (k + 1) y0 y1 y2 y3 y4 y5 y6 y7 y8 y9 y10 y11))
 | 0 => ⟨fun _ _ _ _ _ _ _ _ _ _ _ _ r h => by simp [laws_FnRangeSums.j0] at h, fun _ _ _ _ _ _ _ _ _ _ _ _ r h => by simp [laws_FnRangeSums.j1] at h, fun _ _ _ _ _ _ _ _ _ _ _ _ r h => by simp [laws_FnRangeSums.l0] at h⟩
 | k + 1 => by
  obtain ⟨ih0, ih1, ih2⟩ := laws_FnRangeSums.mono_l k; refine ⟨?_, ?_, ?_⟩
  ·
   intro y0 y1 y2 y3 y4 y5 y6 y7 y8 y9 y10 y11; unfold laws_FnRangeSums.j0
   repeat' first
   | (with_reducible exact ih0 _ _ _ _ _ _ _ _ _ _ _ _)
   | (with_reducible exact ih1 _ _ _ _ _ _ _ _ _ _ _ _)
   | (with_reducible exact ih2 _ _ _ _ _ _ _ _ _ _ _ _)
   | (with_reducible exact impl_RangeAdd.mono _ _ _ _ _)
   | (with_reducible exact impl_RangeMul.mono _ _ _ _ _)
   | (with_reducible exact impl_RangeNeg.mono _ _ _)
   | (with_reducible exact impl_RangeSub.mono _ _ _ _ _)
   | (with_reducible exact laws_pick.mono _ _ _ _)
   | (with_reducible exact LeO.refl _)
   | (with_reducible exact LeO.none _)
   | (with_reducible refine LeO.ite ?_ ?_)
   | (with_reducible refine LeO.bind ?_ (fun _ => ?_))
   | exact ih0 _ _ _ _ _ _ _ _ _ _ _ _
   | exact ih1 _ _ _ _ _ _ _ _ _ _ _ _
   | exact ih2 _ _ _ _ _ _ _ _ _ _ _ _
   | exact impl_RangeAdd.mono _ _ _ _ _
   | exact impl_RangeMul.mono _ _ _ _ _
   | exact impl_RangeNeg.mono _ _ _
   | exact impl_RangeSub.mono _ _ _ _ _
   | exact laws_pick.mono _ _ _ _
   | exact LeO.none _
   | refine LeO.ite ?_ ?_
   | refine LeO.bind ?_ (fun _ => ?_)
  ·
   intro y0 y1 y2 y3 y4 y5 y6 y7 y8 y9 y10 y11; unfold laws_FnRangeSums.j1
   repeat' first
   | (with_reducible exact ih0 _ _ _ _ _ _ _ _ _ _ _ _)
   | (with_reducible exact ih1 _ _ _ _ _ _ _ _ _ _ _ _)
   | (with_reducible exact ih2 _ _ _ _ _ _ _ _ _ _ _ _)
   | (with_reducible exact impl_RangeAdd.mono _ _ _ _ _)
   | (with_reducible exact impl_RangeMul.mono _ _ _ _ _)
   | (with_reducible exact impl_RangeNeg.mono _ _ _)
   | (with_reducible exact impl_RangeSub.mono _ _ _ _ _)
   | (with_reducible exact laws_pick.mono _ _ _ _)
   | (with_reducible exact LeO.refl _)
   | (with_reducible exact LeO.none _)
   | (with_reducible refine LeO.ite ?_ ?_)
   | (with_reducible refine LeO.bind ?_ (fun _ => ?_))
   | exact ih0 _ _ _ _ _ _ _ _ _ _ _ _
   | exact ih1 _ _ _ _ _ _ _ _ _ _ _ _
   | exact ih2 _ _ _ _ _ _ _ _ _ _ _ _
   | exact impl_RangeAdd.mono _ _ _ _ _
   | exact impl_RangeMul.mono _ _ _ _ _
   | exact impl_RangeNeg.mono _ _ _
   | exact impl_RangeSub.mono _ _ _ _ _
   | exact laws_pick.mono _ _ _ _
   | exact LeO.none _
   | refine LeO.ite ?_ ?_
   | refine LeO.bind ?_ (fun _ => ?_)
  ·
   intro y0 y1 y2 y3 y4 y5 y6 y7 y8 y9 y10 y11; unfold laws_FnRangeSums.l0
   repeat' first
   | (with_reducible exact ih0 _ _ _ _ _ _ _ _ _ _ _ _)
   | (with_reducible exact ih1 _ _ _ _ _ _ _ _ _ _ _ _)
   | (with_reducible exact ih2 _ _ _ _ _ _ _ _ _ _ _ _)
   | (with_reducible exact impl_RangeAdd.mono _ _ _ _ _)
   | (with_reducible exact impl_RangeMul.mono _ _ _ _ _)
   | (with_reducible exact impl_RangeNeg.mono _ _ _)
   | (with_reducible exact impl_RangeSub.mono _ _ _ _ _)
   | (with_reducible exact laws_pick.mono _ _ _ _)
   | (with_reducible exact LeO.refl _)
   | (with_reducible exact LeO.none _)
   | (with_reducible refine LeO.ite ?_ ?_)
   | (with_reducible refine LeO.bind ?_ (fun _ => ?_))
   | exact ih0 _ _ _ _ _ _ _ _ _ _ _ _
   | exact ih1 _ _ _ _ _ _ _ _ _ _ _ _
   | exact ih2 _ _ _ _ _ _ _ _ _ _ _ _
   | exact impl_RangeAdd.mono _ _ _ _ _
   | exact impl_RangeMul.mono _ _ _ _ _
   | exact impl_RangeNeg.mono _ _ _
   | exact impl_RangeSub.mono _ _ _ _ _
   | exact laws_pick.mono _ _ _ _
   | exact LeO.none _
   | refine LeO.ite ?_ ?_
   | refine LeO.bind ?_ (fun _ => ?_)
theorem laws_FnRangeSums.mono : ∀ a0 k, LeO (laws_FnRangeSums.f k a0) (laws_FnRangeSums.f (k + 1) a0) := by
 intro a0 k; obtain ⟨ih0, ih1, ih2⟩ := laws_FnRangeSums.mono_l k; unfold laws_FnRangeSums.f
 repeat' first
   | (with_reducible exact ih0 _ _ _ _ _ _ _ _ _ _ _ _)
   | (with_reducible exact ih1 _ _ _ _ _ _ _ _ _ _ _ _)
   | (with_reducible exact ih2 _ _ _ _ _ _ _ _ _ _ _ _)
   | (with_reducible exact impl_RangeAdd.mono _ _ _ _ _)
   | (with_reducible exact impl_RangeMul.mono _ _ _ _ _)
   | (with_reducible exact impl_RangeNeg.mono _ _ _)
   | (with_reducible exact impl_RangeSub.mono _ _ _ _ _)
   | (with_reducible exact laws_pick.mono _ _ _ _)
   | (with_reducible exact LeO.refl _)
   | (with_reducible exact LeO.none _)
   | (with_reducible refine LeO.ite ?_ ?_)
   | (with_reducible refine LeO.bind ?_ (fun _ => ?_))
   | exact ih0 _ _ _ _ _ _ _ _ _ _ _ _
   | exact ih1 _ _ _ _ _ _ _ _ _ _ _ _
   | exact ih2 _ _ _ _ _ _ _ _ _ _ _ _
   | exact impl_RangeAdd.mono _ _ _ _ _
   | exact impl_RangeMul.mono _ _ _ _ _
   | exact impl_RangeNeg.mono _ _ _
   | exact impl_RangeSub.mono _ _ _ _ _
   | exact laws_pick.mono _ _ _ _
   | exact LeO.none _
   | refine LeO.ite ?_ ?_
   | refine LeO.bind ?_ (fun _ => ?_)
def laws_FnRangeSums.T4 : Bool × List (List Nat × List Nat) := (true, [([], []), ([], []), ([0, 1], [0, 1]), ([], []), ([], []), ([3, 4, 2], [3, 4]), ([], []), ([], []), ([6, 7, 5], [6, 7]), ([], []), ([], []), ([], []), ([9, 2, 8, 0, 1, 2, 9, 10, 11], [2, 9]), ([10, 5, 12, 0, 1, 2, 3, 4, 5, 9, 10, 11, 12], [5, 10]), ([11, 8, 13, 0, 1, 2, 3, 4, 5, 6, 7, 8, 9, 10, 11, 12, 13], [8, 11])])
def laws_FnRangeSums.B4 : List Nat := [0, 0, 3, 0, 0, 31, 0, 0, 255, 0, 0, 0, 4095, 8191, 16383]
theorem laws_FnRangeSums.tab4 : rtab .any (opsOf Tryd.f3 4) = laws_FnRangeSums.T4 := by kernel_rfl
theorem laws_FnRangeSums.bits4 : waitsOk laws_FnRangeSums.T4.2 laws_FnRangeSums.B4 = true := by kernel_rfl
def laws_FnRangeSums.T5 : Bool × List (List Nat × List Nat) := (true, [([], []), ([], []), ([], []), ([1, 2], [1, 2]), ([0, 3], [0, 3]), ([4, 3], [4]), ([5], [5]), ([5], [5]), ([5], [5]), ([7, 8, 5, 5], [5, 7, 8]), ([6, 9, 5], [5, 6, 9]), ([5, 10], [5, 10]), ([11, 9], [11]), ([12], [12]), ([12], [12]), ([12], [12]), ([14, 15, 12, 12], [12, 14, 15]), ([13, 16, 12], [12, 13, 16]), ([12, 17], [12, 17]), ([18, 16], [18]), ([19], [19]), ([20, 19, 19], [19, 20]), ([19], [19]), ([22, 21, 19], [19, 22]), ([21, 23, 19], [19, 21, 23]), ([19, 24], [19, 24])])
def laws_FnRangeSums.B5 : List Nat := [0, 0, 0, 6, 15, 31, 63, 63, 63, 447, 1023, 2047, 4095, 8191, 8191, 8191, 57343, 131071, 262143, 524287, 1048575, 2097151, 1048575, 8388607, 16777215, 33554431]
theorem laws_FnRangeSums.tab5 : rtab .any (opsOf Tryd.f3 5) = laws_FnRangeSums.T5 := by kernel_rfl
theorem laws_FnRangeSums.bits5 : waitsOk laws_FnRangeSums.T5.2 laws_FnRangeSums.B5 = true := by kernel_rfl
def laws_FnRangeSums.T12 : Bool × List (List Nat × List Nat) := (true, [([], []), ([0], [0]), ([], []), ([], []), ([], []), ([4], [4]), ([], []), ([6], [6]), ([5, 7], [5, 7]), ([8], [8]), ([2, 3, 9], [2, 3, 9]), ([1, 10], [1, 10]), ([11, 10, 0, 1, 2, 3, 4, 5, 6, 7, 8, 9, 10, 11], [11])])
def laws_FnRangeSums.B12 : List Nat := [0, 1, 0, 0, 0, 16, 0, 64, 240, 496, 1020, 2047, 4095]
theorem laws_FnRangeSums.tab12 : rtab .any (opsOf Tryd.f3 12) = laws_FnRangeSums.T12 := by kernel_rfl
theorem laws_FnRangeSums.bits12 : waitsOk laws_FnRangeSums.T12.2 laws_FnRangeSums.B12 = true := by kernel_rfl
def laws_FnRangeSums.T13 : Bool × List (List Nat × List Nat) := (true, [([], []), ([0], [0]), ([], []), ([], []), ([3], [3]), ([], []), ([5], [5]), ([], []), ([7], [7]), ([6, 8], [6, 8]), ([9], [9]), ([2, 4, 10], [2, 4, 10]), ([1, 11], [1, 11]), ([12, 11, 0, 1, 2, 3, 4, 5, 6, 7, 8, 9, 10, 11, 12], [12])])
def laws_FnRangeSums.B13 : List Nat := [0, 1, 0, 0, 8, 0, 32, 0, 128, 480, 992, 2044, 4095, 8191]
theorem laws_FnRangeSums.tab13 : rtab .any (opsOf Tryd.f3 13) = laws_FnRangeSums.T13 := by kernel_rfl
theorem laws_FnRangeSums.bits13 : waitsOk laws_FnRangeSums.T13.2 laws_FnRangeSums.B13 = true := by kernel_rfl
set_option maxHeartbeats 8000000 in
set_option maxRecDepth 100000 in
theorem laws_FnRangeSums.calls (k : Nat) (A0 : Option Addr) (c0 : Nat) (l0 : List Int) (r : Bool) (w : World) (hG0 : GL0 w) (hr0 : Kd.C (Kd.int .u8) w A0 l0.length l0) (hc0 : l0.length ≤ c0) (h : laws_FnRangeSums.f k l0 = some r) (hr_ : r = true) :
  Calls Tryd.prog 3 #[.slice A0 l0.length c0] w fun e w' => e = .returned (.bool r) ∧ Below w.heap.size w w' := by
 have hu25 := Tryd.underlying25; have HR0 := Aside0.mk hr0; have HC0 := Aside0.mk hc0; clear hr0 hc0; have HB := Aside0.mk (Below.refl w.heap.size w); have HG0 := Aside0.mk hG0; clear hG0; have H : ((laws_big.f l0).bind fun t286 => (if t286 = true then (some true) else ((spec_DrawRangeMul.f l0).bind fun bt287 => ((impl_RangeAdd.f k bt287.1 bt287.2.1 bt287.2.2.1 bt287.2.2.2).bind fun bt293 => ((impl_RangeSub.f k bt287.1 bt287.2.1 bt287.2.2.1 bt287.2.2.2).bind fun bt295 => ((impl_RangeMul.f k bt287.1 bt287.2.1 bt287.2.2.1 bt287.2.2.2).bind fun bt297 => ((spec_RangeAdd.f bt287.1 bt287.2.1 bt287.2.2.1 bt287.2.2.2).bind fun bt302 => (if (!(bt293.1 == bt302.1) || (!(bt293.2 == bt302.2))) = true then (laws_FnRangeSums.j0 k l0 true bt287.1 bt287.2.1 bt287.2.2.1 bt287.2.2.2 bt293.1 bt293.2 bt295.1 bt295.2 bt297.1 bt297.2) else ((spec_RangeSub.f bt287.1 bt287.2.1 bt287.2.2.1 bt287.2.2.2).bind fun bt304 => (if (!(bt295.1 == bt304.1) || (!(bt295.2 == bt304.2))) = true then (laws_FnRangeSums.j0 k l0 true bt287.1 bt287.2.1 bt287.2.2.1 bt287.2.2.2 bt293.1 bt293.2 bt295.1 bt295.2 bt297.1 bt297.2) else ((spec_RangeMul.f bt287.1 bt287.2.1 bt287.2.2.1 bt287.2.2.2).bind fun bt306 => (if (!(bt297.1 == bt306.1) || (!(bt297.2 == bt306.2))) = true then (laws_FnRangeSums.j0 k l0 true bt287.1 bt287.2.1 bt287.2.2.1 bt287.2.2.2 bt293.1 bt293.2 bt295.1 bt295.2 bt297.1 bt297.2) else ((impl_RangeNeg.f k bt287.1 bt287.2.1).bind fun bt308 => ((spec_RangeNeg.f bt287.1 bt287.2.1).bind fun bt310 => (laws_FnRangeSums.j0 k l0 (!(bt308.1 == bt310.1) || (!(bt308.2 == bt310.2))) bt287.1 bt287.2.1 bt287.2.2.1 bt287.2.2.2 bt293.1 bt293.2 bt295.1 bt295.2 bt297.1 bt297.2))))))))))))))) = some r := h; clear h; replace H := Option.bind_eq_some_iff.mp H; obtain ⟨t286, A20, H⟩ := H; (try dsimp only at H); have A2 := Aside0.mk A20; clear A20
 by_cases c3 : t286 = true
 ·
  subst c3; have H1 : (some true) = some r := by rw [if_pos rfl] at H; exact H
  clear H; have H := H1; clear H1; obtain rfl := Option.some.inj H
  go_enter Tryd.func3, Tryd.ntmps3
  go_wp2_with (first | ((with_reducible refine gate_callee (f := 6) rfl ?_); refine gl_ 12 Tryd.func6 #[.slice A0 l0.length c0] (h := ?_); (with_reducible refine (laws_big.calls _ _ l0 true _ ?side1 ?side2 A2.out).mono ?_); (case side1 => repeat (first | exact HR0.out | (with_reducible refine Kd.C_alloc ?_ _) | (with_reducible refine Kd.C_drewN ?_ _) | (with_reducible refine Kd.C_drew ?_))); (case side2 => exact HC0.out); rintro e w' ⟨rfl, ⟨nd, rfl⟩⟩; refine ⟨_, rfl, ?_⟩))
  go_ret
  exact ⟨by first | rfl | (simp [errW_none, errW_some] <;> rfl) | (simp [*, errW_none, errW_some] <;> rfl), by repeat (first | (with_reducible first | exact HB.out | apply below_alloc | apply pw_below_drewN | apply below_drew1) | exact HB.out)⟩
 ·
  replace c3 := Bool.eq_false_iff.mpr c3; subst c3; have H1 : ((spec_DrawRangeMul.f l0).bind fun bt287 => ((impl_RangeAdd.f k bt287.1 bt287.2.1 bt287.2.2.1 bt287.2.2.2).bind fun bt293 => ((impl_RangeSub.f k bt287.1 bt287.2.1 bt287.2.2.1 bt287.2.2.2).bind fun bt295 => ((impl_RangeMul.f k bt287.1 bt287.2.1 bt287.2.2.1 bt287.2.2.2).bind fun bt297 => ((spec_RangeAdd.f bt287.1 bt287.2.1 bt287.2.2.1 bt287.2.2.2).bind fun bt302 => (if (!(bt293.1 == bt302.1) || (!(bt293.2 == bt302.2))) = true then (laws_FnRangeSums.j0 k l0 true bt287.1 bt287.2.1 bt287.2.2.1 bt287.2.2.2 bt293.1 bt293.2 bt295.1 bt295.2 bt297.1 bt297.2) else ((spec_RangeSub.f bt287.1 bt287.2.1 bt287.2.2.1 bt287.2.2.2).bind fun bt304 => (if (!(bt295.1 == bt304.1) || (!(bt295.2 == bt304.2))) = true then (laws_FnRangeSums.j0 k l0 true bt287.1 bt287.2.1 bt287.2.2.1 bt287.2.2.2 bt293.1 bt293.2 bt295.1 bt295.2 bt297.1 bt297.2) else ((spec_RangeMul.f bt287.1 bt287.2.1 bt287.2.2.1 bt287.2.2.2).bind fun bt306 => (if (!(bt297.1 == bt306.1) || (!(bt297.2 == bt306.2))) = true then (laws_FnRangeSums.j0 k l0 true bt287.1 bt287.2.1 bt287.2.2.1 bt287.2.2.2 bt293.1 bt293.2 bt295.1 bt295.2 bt297.1 bt297.2) else ((impl_RangeNeg.f k bt287.1 bt287.2.1).bind fun bt308 => ((spec_RangeNeg.f bt287.1 bt287.2.1).bind fun bt310 => (laws_FnRangeSums.j0 k l0 (!(bt308.1 == bt310.1) || (!(bt308.2 == bt310.2))) bt287.1 bt287.2.1 bt287.2.2.1 bt287.2.2.2 bt293.1 bt293.2 bt295.1 bt295.2 bt297.1 bt297.2))))))))))))) = some r := by rw [if_neg (show ¬ (false = true) by decide)] at H; exact H
  clear H; have H := H1; clear H1; replace H := Option.bind_eq_some_iff.mp H; obtain ⟨⟨t287, t288, t289, t290⟩, A40, H⟩ := H; (try dsimp only at H); have A4 := Aside0.mk A40; clear A40; replace H := Option.bind_eq_some_iff.mp H; obtain ⟨⟨t293, t294⟩, A50, H⟩ := H; (try dsimp only at H); have A5 := Aside0.mk A50; clear A50; replace H := Option.bind_eq_some_iff.mp H; obtain ⟨⟨t295, t296⟩, A60, H⟩ := H; (try dsimp only at H); have A6 := Aside0.mk A60; clear A60; replace H := Option.bind_eq_some_iff.mp H; obtain ⟨⟨t297, t298⟩, A70, H⟩ := H; (try dsimp only at H); have A7 := Aside0.mk A70; clear A70; have HC8 := Aside0.mk H; clear H
  go_enter Tryd.func3, Tryd.ntmps3
  try go_wp2_with (first | ((with_reducible refine gate_callee (f := 6) rfl ?_); refine gl_ 12 Tryd.func6 #[.slice A0 l0.length c0] (h := ?_); (with_reducible refine (laws_big.calls _ _ l0 false _ ?side1 ?side2 A2.out).mono ?_); (case side1 => repeat (first | exact HR0.out | (with_reducible refine Kd.C_alloc ?_ _) | (with_reducible refine Kd.C_drewN ?_ _) | (with_reducible refine Kd.C_drew ?_))); (case side2 => exact HC0.out); rintro e w' ⟨rfl, ⟨nd, rfl⟩⟩; refine ⟨_, rfl, ?_⟩) | ((with_reducible refine gate_callee (f := 7) rfl ?_); refine gl_ 15 Tryd.func7 #[.slice A0 l0.length c0] (h := ?_); (with_reducible refine (spec_DrawRangeMul.calls _ _ l0 t287 t288 t289 t290 _ ?side1 ?side2 A4.out).mono ?_); (case side1 => repeat (first | exact HR0.out | (with_reducible refine Kd.C_alloc ?_ _) | (with_reducible refine Kd.C_drewN ?_ _) | (with_reducible refine Kd.C_drew ?_))); (case side2 => exact HC0.out); rintro e w9 ⟨rfl, hb⟩; refine ⟨_, rfl, ?_⟩; replace HB := hb_ HB hb; (try clear hb); (try clear hb2); (try clear hk); (try clear hi)) | ((with_reducible refine gate_dst (N := 3) rfl ?_); refine box_event ?hg (N := 3) ?hd (cs := #[.int .i64 0, .int .i64 0]) (t := 25) ?hr ?_; (case hd => rfl); (case hg => rfl); (case hr => first | (go_simp; done) | (go_simp; rfl)); intro gb291 hg w10 hbox hb; have n0_ := Aside0.mk (below_step (sq_below HB.out) hb); have n1_ := Aside0.mk (hbox); have n2_ := Aside0.mk ((by rw [hg]; exact (below_size (sq_below HB.out)) : w.heap.size ≤ gb291)); have n3_ := Aside0.mk ((by rw [hg]; exact (below_size (sq_below HB.out)) : w.heap.size ≤ gb291)); clear HB; have HB := n0_; have BK291 := n1_; have GW291 := n2_; have GE291 := n3_; clear n0_ n1_ n2_ n3_; clear hb hbox hg) | ((with_reducible refine gate_dst (N := 4) rfl ?_); refine box_event ?hg (N := 4) ?hd (cs := #[.int .i64 0, .int .i64 0]) (t := 25) ?hr ?_; (case hd => rfl); (case hg => rfl); (case hr => first | (go_simp; done) | (go_simp; rfl)); intro gb292 hg w11 hbox hb; have n0_ := Aside0.mk (blk_below (sq_blk BK291.out) hb); have n1_ := Aside0.mk (below_step (sq_below1 HB.out GE291.out) hb); have n2_ := Aside0.mk (hbox); have n3_ := Aside0.mk ((by rw [hg]; exact (below_size (sq_below1 HB.out GE291.out)) : w.heap.size ≤ gb292)); have n4_ := Aside0.mk ((by rw [hg]; exact (below_size (sq_below1 HB.out GE291.out)) : w.heap.size ≤ gb292)); have n5_ := Aside0.mk ((by rw [hg]; exact Nat.ne_of_lt (blk_lt (g := gb291) (o := .cells #[.int .i64 0, .int .i64 0] 25 (0, 0)) (sq_blk BK291.out)) : gb291 ≠ gb292)); have n6_ := Aside0.mk (Ne.symm n5_.out); clear BK291; clear HB; have BK291 := n0_; have HB := n1_; have BK292 := n2_; have GW292 := n3_; have GE292 := n4_; have NB291_292 := n5_; have NB292_291 := n6_; clear n0_ n1_ n2_ n3_ n4_ n5_ n6_; clear hb hbox hg; have hnb12 := NB291_292.out; have hnc12 := NB292_291.out; have hcz13_0 := cl_ (v := .int .i64 0) BK291 0; have hcz13_1 := cl_ (v := .int .i64 0) BK291 1; have hfz13_0 := blk_frozen BK291.out 0; have hfz13_1 := blk_frozen BK291.out 1; have hcz14_0 := cl_ (v := .int .i64 0) BK292 0; have hcz14_1 := cl_ (v := .int .i64 0) BK292 1; have hfz14_0 := blk_frozen BK292.out 0; have hfz14_1 := blk_frozen BK292.out 1))
  have n0_ : Aside0 (((((w11.setCell ⟨gb291, 0, none⟩ (.int .i64 t287)).setCell ⟨gb291, 1, none⟩ (.int .i64 t288)).setCell ⟨gb292, 0, none⟩ (.int .i64 t289)).setCell ⟨gb292, 1, none⟩ (.int .i64 t290)).heap[gb291]? = some (.cells #[.int .i64 t287, .int .i64 t288] 25 (0, 0))) := ⟨by (with_reducible repeat (first | refine blk_drewN ?_ _ | refine blk_drew ?_ | refine blk_alloc ?_ _)); refine blk_far ?_ NB291_292.out _; (with_reducible repeat (first | refine blk_drewN ?_ _ | refine blk_drew ?_ | refine blk_alloc ?_ _)); refine blk_far ?_ NB291_292.out _; (with_reducible repeat (first | refine blk_drewN ?_ _ | refine blk_drew ?_ | refine blk_alloc ?_ _)); refine blk_put (cs := #[.int .i64 t287, .int .i64 0]) ?_ 1 _ rfl; (with_reducible repeat (first | refine blk_drewN ?_ _ | refine blk_drew ?_ | refine blk_alloc ?_ _)); refine blk_put (cs := #[.int .i64 0, .int .i64 0]) ?_ 0 _ rfl; (with_reducible repeat (first | refine blk_drewN ?_ _ | refine blk_drew ?_ | refine blk_alloc ?_ _)); exact BK291.out⟩; have n1_ : Aside0 (((((w11.setCell ⟨gb291, 0, none⟩ (.int .i64 t287)).setCell ⟨gb291, 1, none⟩ (.int .i64 t288)).setCell ⟨gb292, 0, none⟩ (.int .i64 t289)).setCell ⟨gb292, 1, none⟩ (.int .i64 t290)).heap[gb292]? = some (.cells #[.int .i64 t289, .int .i64 t290] 25 (0, 0))) := ⟨by (with_reducible repeat (first | refine blk_drewN ?_ _ | refine blk_drew ?_ | refine blk_alloc ?_ _)); refine blk_put (cs := #[.int .i64 t289, .int .i64 0]) ?_ 1 _ rfl; (with_reducible repeat (first | refine blk_drewN ?_ _ | refine blk_drew ?_ | refine blk_alloc ?_ _)); refine blk_put (cs := #[.int .i64 0, .int .i64 0]) ?_ 0 _ rfl; (with_reducible repeat (first | refine blk_drewN ?_ _ | refine blk_drew ?_ | refine blk_alloc ?_ _)); refine blk_far ?_ NB292_291.out _; (with_reducible repeat (first | refine blk_drewN ?_ _ | refine blk_drew ?_ | refine blk_alloc ?_ _)); refine blk_far ?_ NB292_291.out _; (with_reducible repeat (first | refine blk_drewN ?_ _ | refine blk_drew ?_ | refine blk_alloc ?_ _)); exact BK292.out⟩; have n2_ : Aside0 (Below w.heap.size w ((((w11.setCell ⟨gb291, 0, none⟩ (.int .i64 t287)).setCell ⟨gb291, 1, none⟩ (.int .i64 t288)).setCell ⟨gb292, 0, none⟩ (.int .i64 t289)).setCell ⟨gb292, 1, none⟩ (.int .i64 t290))) := ⟨by repeat (first | (with_reducible first | exact HB.out | apply below_alloc | apply pw_below_drewN | apply below_drew1 | refine below_set ?_ GE291.out | refine below_set ?_ GE292.out) | exact HB.out)⟩
  (try clear BK291)
  (try clear BK292)
  (try clear HB)
  generalize ((((w11.setCell ⟨gb291, 0, none⟩ (.int .i64 t287)).setCell ⟨gb291, 1, none⟩ (.int .i64 t288)).setCell ⟨gb292, 0, none⟩ (.int .i64 t289)).setCell ⟨gb292, 1, none⟩ (.int .i64 t290)) = w15 at n0_ n1_ n2_ ⊢; have BK291 := n0_; have BK292 := n1_; have HB := n2_; clear n0_ n1_ n2_; replace BK291 := bd_ BK291; replace BK292 := bd_ BK292; replace HB := hd_ HB; refine start_ (n := 15) (S := fun w' => True) (ds := []) #[false, false, false, false, false, false, false, false, false, false, false, false, false, false, false] (by kernel_rfl) rfl rfl trivial (fun hHeld => ?_); refine with_tabW laws_FnRangeSums.tab4 laws_FnRangeSums.bits4 (fun HT_ HW_ => ?_); generalize w15.drew = w16 at BK291 BK292 HB hHeld ⊢; refine inv_at [0, 1, 2, 3, 4, 5, 6, 7, 8, 9, 10, 11, 12, 13, 14] (fun a0_ b a w' => ∃ (gb299 : Nat) (gb300 : Nat) (gb301 : Nat) (m9_ : Value) (m10_ : Value) (m11_ : Value), a = putSel a0_ b [(0, 18, .agg #[.int .i64 t287, .int .i64 t288]), (1, 19, .agg #[.int .i64 t289, .int .i64 t290]), (2, 20, .agg #[.int .i64 t293, .int .i64 t294]), (3, 21, .agg #[.int .i64 t287, .int .i64 t288]), (4, 22, .agg #[.int .i64 t289, .int .i64 t290]), (5, 23, .agg #[.int .i64 t295, .int .i64 t296]), (6, 24, .agg #[.int .i64 t287, .int .i64 t288]), (7, 25, .agg #[.int .i64 t289, .int .i64 t290]), (8, 26, .agg #[.int .i64 t297, .int .i64 t298]), (9, 5, m9_), (10, 6, m10_), (11, 7, m11_)] ∧ (w'.heap[gb291]? = some (.cells #[.int .i64 t287, .int .i64 t288] 25 (0, 0))) ∧ (w'.heap[gb292]? = some (.cells #[.int .i64 t289, .int .i64 t290] 25 (0, 0))) ∧ (Below w.heap.size w w') ∧ (b 9 = true → b 10 = true → gb300 ≠ gb299) ∧ (b 9 = true → b 10 = true → gb299 ≠ gb300) ∧ (b 9 = true → b 11 = true → gb301 ≠ gb299) ∧ (b 9 = true → b 11 = true → gb299 ≠ gb301) ∧ (b 10 = true → b 11 = true → gb301 ≠ gb300) ∧ (b 10 = true → b 11 = true → gb300 ≠ gb301) ∧ (b 9 = true → b 12 = false → w'.heap[gb299]? = some (.cells #[.int .i64 0, .int .i64 0] 25 (0, 0))) ∧ (b 9 = true → w.heap.size ≤ gb299) ∧ (b 9 = true → w.heap.size ≤ gb299) ∧ (b 9 = true → gb291 ≠ gb299) ∧ (b 9 = true → gb299 ≠ gb291) ∧ (b 9 = true → gb292 ≠ gb299) ∧ (b 9 = true → gb299 ≠ gb292) ∧ (b 10 = true → b 13 = false → w'.heap[gb300]? = some (.cells #[.int .i64 0, .int .i64 0] 25 (0, 0))) ∧ (b 10 = true → w.heap.size ≤ gb300) ∧ (b 10 = true → w.heap.size ≤ gb300) ∧ (b 10 = true → gb291 ≠ gb300) ∧ (b 10 = true → gb300 ≠ gb291) ∧ (b 10 = true → gb292 ≠ gb300) ∧ (b 10 = true → gb300 ≠ gb292) ∧ (b 11 = true → b 14 = false → w'.heap[gb301]? = some (.cells #[.int .i64 0, .int .i64 0] 25 (0, 0))) ∧ (b 11 = true → w.heap.size ≤ gb301) ∧ (b 11 = true → w.heap.size ≤ gb301) ∧ (b 11 = true → gb291 ≠ gb301) ∧ (b 11 = true → gb301 ≠ gb291) ∧ (b 11 = true → gb292 ≠ gb301) ∧ (b 11 = true → gb301 ≠ gb292) ∧ (b 12 = true → w'.heap[gb299]? = some (.cells #[.int .i64 t293, .int .i64 t294] 25 (0, 0))) ∧ (b 13 = true → w'.heap[gb300]? = some (.cells #[.int .i64 t295, .int .i64 t296] 25 (0, 0))) ∧ (b 14 = true → w'.heap[gb301]? = some (.cells #[.int .i64 t297, .int .i64 t298] 25 (0, 0))) ∧ (b 9 = true → (m9_ : Value) = .pointer (some ⟨gb299, 0, none⟩)) ∧ (b 10 = true → (m10_ : Value) = .pointer (some ⟨gb300, 0, none⟩)) ∧ (b 11 = true → (m11_ : Value) = .pointer (some ⟨gb301, 0, none⟩))) HT_.out HW_.out (by kernel_rfl) (by kernel_rfl) ?_ ?_ ?_
  ·
   exact ⟨0, 0, 0, .bool false, .bool false, .bool false, by simp only [putSel, Bool.false_eq_true, if_false], BK291.out, BK292.out, HB.out, fun h_ => absurd h_ (by decide), fun h_ => absurd h_ (by decide), fun h_ => absurd h_ (by decide), fun h_ => absurd h_ (by decide), fun h_ => absurd h_ (by decide), fun h_ => absurd h_ (by decide), fun h_ => absurd h_ (by decide), fun h_ => absurd h_ (by decide), fun h_ => absurd h_ (by decide), fun h_ => absurd h_ (by decide), fun h_ => absurd h_ (by decide), fun h_ => absurd h_ (by decide), fun h_ => absurd h_ (by decide), fun h_ => absurd h_ (by decide), fun h_ => absurd h_ (by decide), fun h_ => absurd h_ (by decide), fun h_ => absurd h_ (by decide), fun h_ => absurd h_ (by decide), fun h_ => absurd h_ (by decide), fun h_ => absurd h_ (by decide), fun h_ => absurd h_ (by decide), fun h_ => absurd h_ (by decide), fun h_ => absurd h_ (by decide), fun h_ => absurd h_ (by decide), fun h_ => absurd h_ (by decide), fun h_ => absurd h_ (by decide), fun h_ => absurd h_ (by decide), fun h_ => absurd h_ (by decide), fun h_ => absurd h_ (by decide), fun h_ => absurd h_ (by decide), fun h_ => absurd h_ (by decide), fun h_ => absurd h_ (by decide), fun h_ => absurd h_ (by decide)⟩
  ·
   clear BK291 BK292 HB; refine steps_cons ?_ ?_
   ·
    rintro b a w' ⟨gb299, gb300, gb301, m9_, m10_, m11_, ha, Q_BK291, Q_BK292, Q_HB, Q_NB300_299, Q_NB299_300, Q_NB301_299, Q_NB299_301, Q_NB301_300, Q_NB300_301, Q_BK299, Q_GW299, Q_GE299, Q_NB291_299, Q_NB299_291, Q_NB292_299, Q_NB299_292, Q_BK300, Q_GW300, Q_GE300, Q_NB291_300, Q_NB300_291, Q_NB292_300, Q_NB300_292, Q_BK301, Q_GW301, Q_GE301, Q_NB291_301, Q_NB301_291, Q_NB292_301, Q_NB301_292, Q_BK299_e12, Q_BK300_e13, Q_BK301_e14, Q_X9_, Q_X10_, Q_X11_⟩ hb_ hon hoff; refine ⟨_, rfl, fun K hK => ?_⟩; have e3 : a.tmps[3]? = some (.pointer (some ⟨gb291, 0, none⟩)) := by rw [ha]; exact (putSel_off rfl).trans rfl
    replace ha := Aside0.mk ha; have BK291 := Aside0.mk Q_BK291; have BK292 := Aside0.mk Q_BK292; have HB := Aside0.mk Q_HB; have hc0_ : w'.cell? ⟨gb291, 0, none⟩ = some (.int .i64 t287) := (blk_cell BK291.out 0).trans rfl; have hc1_ : w'.cell? ⟨gb291, 1, none⟩ = some (.int .i64 t288) := (blk_cell BK291.out 1).trans rfl; refine value_ (w1 := w') (v := .agg #[.int .i64 t287, .int .i64 t288]) (by rfl) rfl ?_ ?_
    ·
     go_simp
     (try simp only [i64_w])
     try rfl
    refine hK.out _ _ ⟨gb299, gb300, gb301, m9_, m10_, m11_, (by rw [ha.out]; exact putSel_upk 0 hb_ rfl rfl rfl), Q_BK291, Q_BK292, Q_HB, Q_NB300_299, Q_NB299_300, Q_NB301_299, Q_NB299_301, Q_NB301_300, Q_NB300_301, Q_BK299, Q_GW299, Q_GE299, Q_NB291_299, Q_NB299_291, Q_NB292_299, Q_NB299_292, Q_BK300, Q_GW300, Q_GE300, Q_NB291_300, Q_NB300_291, Q_NB292_300, Q_NB300_292, Q_BK301, Q_GW301, Q_GE301, Q_NB291_301, Q_NB301_291, Q_NB292_301, Q_NB301_292, fun h0_ => absurd ((hoff 12 (by kernel_rfl)).symm.trans h0_) (by decide), fun h0_ => absurd ((hoff 13 (by kernel_rfl)).symm.trans h0_) (by decide), fun h0_ => absurd ((hoff 14 (by kernel_rfl)).symm.trans h0_) (by decide), Q_X9_, Q_X10_, Q_X11_⟩
   refine steps_cons ?_ ?_
   ·
    rintro b a w' ⟨gb299, gb300, gb301, m9_, m10_, m11_, ha, Q_BK291, Q_BK292, Q_HB, Q_NB300_299, Q_NB299_300, Q_NB301_299, Q_NB299_301, Q_NB301_300, Q_NB300_301, Q_BK299, Q_GW299, Q_GE299, Q_NB291_299, Q_NB299_291, Q_NB292_299, Q_NB299_292, Q_BK300, Q_GW300, Q_GE300, Q_NB291_300, Q_NB300_291, Q_NB292_300, Q_NB300_292, Q_BK301, Q_GW301, Q_GE301, Q_NB291_301, Q_NB301_291, Q_NB292_301, Q_NB301_292, Q_BK299_e12, Q_BK300_e13, Q_BK301_e14, Q_X9_, Q_X10_, Q_X11_⟩ hb_ hon hoff; refine ⟨_, rfl, fun K hK => ?_⟩; have e4 : a.tmps[4]? = some (.pointer (some ⟨gb292, 0, none⟩)) := by rw [ha]; exact (putSel_off rfl).trans rfl
    replace ha := Aside0.mk ha; have BK291 := Aside0.mk Q_BK291; have BK292 := Aside0.mk Q_BK292; have HB := Aside0.mk Q_HB; have hc0_ : w'.cell? ⟨gb292, 0, none⟩ = some (.int .i64 t289) := (blk_cell BK292.out 0).trans rfl; have hc1_ : w'.cell? ⟨gb292, 1, none⟩ = some (.int .i64 t290) := (blk_cell BK292.out 1).trans rfl; refine value_ (w1 := w') (v := .agg #[.int .i64 t289, .int .i64 t290]) (by rfl) rfl ?_ ?_
    ·
     go_simp
     (try simp only [i64_w])
     try rfl
    refine hK.out _ _ ⟨gb299, gb300, gb301, m9_, m10_, m11_, (by rw [ha.out]; exact putSel_upk 1 hb_ rfl rfl rfl), Q_BK291, Q_BK292, Q_HB, Q_NB300_299, Q_NB299_300, Q_NB301_299, Q_NB299_301, Q_NB301_300, Q_NB300_301, Q_BK299, Q_GW299, Q_GE299, Q_NB291_299, Q_NB299_291, Q_NB292_299, Q_NB299_292, Q_BK300, Q_GW300, Q_GE300, Q_NB291_300, Q_NB300_291, Q_NB292_300, Q_NB300_292, Q_BK301, Q_GW301, Q_GE301, Q_NB291_301, Q_NB301_291, Q_NB292_301, Q_NB301_292, fun h0_ => absurd ((hoff 12 (by kernel_rfl)).symm.trans h0_) (by decide), fun h0_ => absurd ((hoff 13 (by kernel_rfl)).symm.trans h0_) (by decide), fun h0_ => absurd ((hoff 14 (by kernel_rfl)).symm.trans h0_) (by decide), Q_X9_, Q_X10_, Q_X11_⟩
   refine steps_cons ?_ ?_
   ·
    rintro b a w' ⟨gb299, gb300, gb301, m9_, m10_, m11_, ha, Q_BK291, Q_BK292, Q_HB, Q_NB300_299, Q_NB299_300, Q_NB301_299, Q_NB299_301, Q_NB301_300, Q_NB300_301, Q_BK299, Q_GW299, Q_GE299, Q_NB291_299, Q_NB299_291, Q_NB292_299, Q_NB299_292, Q_BK300, Q_GW300, Q_GE300, Q_NB291_300, Q_NB300_291, Q_NB292_300, Q_NB300_292, Q_BK301, Q_GW301, Q_GE301, Q_NB291_301, Q_NB301_291, Q_NB292_301, Q_NB301_292, Q_BK299_e12, Q_BK300_e13, Q_BK301_e14, Q_X9_, Q_X10_, Q_X11_⟩ hb_ hon hoff; refine ⟨_, rfl, fun K hK => ?_⟩; have e18 : a.tmps[18]? = some (.agg #[.int .i64 t287, .int .i64 t288]) := by rw [ha]; exact putSel_on (e := (0, 18, .agg #[.int .i64 t287, .int .i64 t288])) 0 rfl rfl (hon 0 (by kernel_rfl)) rfl
    have e19 : a.tmps[19]? = some (.agg #[.int .i64 t289, .int .i64 t290]) := by rw [ha]; exact putSel_on (e := (1, 19, .agg #[.int .i64 t289, .int .i64 t290])) 1 rfl rfl (hon 1 (by kernel_rfl)) rfl
    replace ha := Aside0.mk ha; have BK291 := Aside0.mk Q_BK291; have BK292 := Aside0.mk Q_BK292; have HB := Aside0.mk Q_HB; refine goes_ Tryd.func8 (by kernel_rfl) rfl #[.agg #[.int .i64 t287, .int .i64 t288], .agg #[.int .i64 t289, .int .i64 t290]] (by rfl) rfl rfl (by first | (simp only [List.map_toArray, List.map_cons, List.map_nil, Act.eval, Array.getD_eq_getD_getElem?, Option.getD_some, e18, e19]; done) | (simp only [List.map_toArray, List.map_cons, List.map_nil, Act.eval, Array.getD_eq_getD_getElem?, Option.getD_some, e18, e19]; rfl)) ?_; with_reducible refine (impl_RangeAdd.calls k t287 t288 t289 t290 t293 t294 _ ?side1 A5.out).mono ?_
    (case side1 => exact GL0.below HG0.out (sq_below2 HB.out GE291.out GE292.out))
    rintro e w17 ⟨rfl, hb⟩; refine ⟨_, rfl, ?_⟩; have n0_ := Aside0.mk (blk_below (sq_blk BK291.out) hb); have n1_ := Aside0.mk (blk_below (sq_blk BK292.out) hb); have n2_ := Aside0.mk (below_step (sq_below2 HB.out GE291.out GE292.out) hb); have z_BK299 := fun (h0_ : b 9 = true) (h1_ : b 12 = false) => (show w17.heap[gb299]? = some (.cells #[.int .i64 0, .int .i64 0] 25 (0, 0)) from by first | exact (blk_below (g := gb299) (o := .cells #[.int .i64 0, .int .i64 0] 25 (0, 0)) (by (with_reducible repeat (first | refine blk_drewN ?_ _ | refine blk_drew ?_ | refine blk_alloc ?_ _)); exact (Q_BK299 h0_ h1_)) hb)); have z_BK300 := fun (h0_ : b 10 = true) (h1_ : b 13 = false) => (show w17.heap[gb300]? = some (.cells #[.int .i64 0, .int .i64 0] 25 (0, 0)) from by first | exact (blk_below (g := gb300) (o := .cells #[.int .i64 0, .int .i64 0] 25 (0, 0)) (by (with_reducible repeat (first | refine blk_drewN ?_ _ | refine blk_drew ?_ | refine blk_alloc ?_ _)); exact (Q_BK300 h0_ h1_)) hb)); have z_BK301 := fun (h0_ : b 11 = true) (h1_ : b 14 = false) => (show w17.heap[gb301]? = some (.cells #[.int .i64 0, .int .i64 0] 25 (0, 0)) from by first | exact (blk_below (g := gb301) (o := .cells #[.int .i64 0, .int .i64 0] 25 (0, 0)) (by (with_reducible repeat (first | refine blk_drewN ?_ _ | refine blk_drew ?_ | refine blk_alloc ?_ _)); exact (Q_BK301 h0_ h1_)) hb)); clear BK291 BK292 HB; have BK291 := n0_; have BK292 := n1_; have HB := n2_; clear n0_ n1_ n2_
    (try clear hb)
    (try clear hb2)
    (try clear hk)
    (try clear hi)
    refine hK.out _ _ ⟨gb299, gb300, gb301, m9_, m10_, m11_, (by rw [ha.out]; exact putSel_upk 2 hb_ rfl rfl rfl), (sq_blk BK291.out), (sq_blk BK292.out), (sq_below2 HB.out GE291.out GE292.out), Q_NB300_299, Q_NB299_300, Q_NB301_299, Q_NB299_301, Q_NB301_300, Q_NB300_301, z_BK299, Q_GW299, Q_GE299, Q_NB291_299, Q_NB299_291, Q_NB292_299, Q_NB299_292, z_BK300, Q_GW300, Q_GE300, Q_NB291_300, Q_NB300_291, Q_NB292_300, Q_NB300_292, z_BK301, Q_GW301, Q_GE301, Q_NB291_301, Q_NB301_291, Q_NB292_301, Q_NB301_292, fun h0_ => absurd ((hoff 12 (by kernel_rfl)).symm.trans h0_) (by decide), fun h0_ => absurd ((hoff 13 (by kernel_rfl)).symm.trans h0_) (by decide), fun h0_ => absurd ((hoff 14 (by kernel_rfl)).symm.trans h0_) (by decide), Q_X9_, Q_X10_, Q_X11_⟩
   refine steps_cons ?_ ?_
   ·
    rintro b a w' ⟨gb299, gb300, gb301, m9_, m10_, m11_, ha, Q_BK291, Q_BK292, Q_HB, Q_NB300_299, Q_NB299_300, Q_NB301_299, Q_NB299_301, Q_NB301_300, Q_NB300_301, Q_BK299, Q_GW299, Q_GE299, Q_NB291_299, Q_NB299_291, Q_NB292_299, Q_NB299_292, Q_BK300, Q_GW300, Q_GE300, Q_NB291_300, Q_NB300_291, Q_NB292_300, Q_NB300_292, Q_BK301, Q_GW301, Q_GE301, Q_NB291_301, Q_NB301_291, Q_NB292_301, Q_NB301_292, Q_BK299_e12, Q_BK300_e13, Q_BK301_e14, Q_X9_, Q_X10_, Q_X11_⟩ hb_ hon hoff; refine ⟨_, rfl, fun K hK => ?_⟩; have e3 : a.tmps[3]? = some (.pointer (some ⟨gb291, 0, none⟩)) := by rw [ha]; exact (putSel_off rfl).trans rfl
    replace ha := Aside0.mk ha; have BK291 := Aside0.mk Q_BK291; have BK292 := Aside0.mk Q_BK292; have HB := Aside0.mk Q_HB; have hc0_ : w'.cell? ⟨gb291, 0, none⟩ = some (.int .i64 t287) := (blk_cell BK291.out 0).trans rfl; have hc1_ : w'.cell? ⟨gb291, 1, none⟩ = some (.int .i64 t288) := (blk_cell BK291.out 1).trans rfl; refine value_ (w1 := w') (v := .agg #[.int .i64 t287, .int .i64 t288]) (by rfl) rfl ?_ ?_
    ·
     go_simp
     (try simp only [i64_w])
     try rfl
    refine hK.out _ _ ⟨gb299, gb300, gb301, m9_, m10_, m11_, (by rw [ha.out]; exact putSel_upk 3 hb_ rfl rfl rfl), Q_BK291, Q_BK292, Q_HB, Q_NB300_299, Q_NB299_300, Q_NB301_299, Q_NB299_301, Q_NB301_300, Q_NB300_301, Q_BK299, Q_GW299, Q_GE299, Q_NB291_299, Q_NB299_291, Q_NB292_299, Q_NB299_292, Q_BK300, Q_GW300, Q_GE300, Q_NB291_300, Q_NB300_291, Q_NB292_300, Q_NB300_292, Q_BK301, Q_GW301, Q_GE301, Q_NB291_301, Q_NB301_291, Q_NB292_301, Q_NB301_292, fun h0_ => absurd ((hoff 12 (by kernel_rfl)).symm.trans h0_) (by decide), fun h0_ => absurd ((hoff 13 (by kernel_rfl)).symm.trans h0_) (by decide), fun h0_ => absurd ((hoff 14 (by kernel_rfl)).symm.trans h0_) (by decide), Q_X9_, Q_X10_, Q_X11_⟩
   refine steps_cons ?_ ?_
   ·
    rintro b a w' ⟨gb299, gb300, gb301, m9_, m10_, m11_, ha, Q_BK291, Q_BK292, Q_HB, Q_NB300_299, Q_NB299_300, Q_NB301_299, Q_NB299_301, Q_NB301_300, Q_NB300_301, Q_BK299, Q_GW299, Q_GE299, Q_NB291_299, Q_NB299_291, Q_NB292_299, Q_NB299_292, Q_BK300, Q_GW300, Q_GE300, Q_NB291_300, Q_NB300_291, Q_NB292_300, Q_NB300_292, Q_BK301, Q_GW301, Q_GE301, Q_NB291_301, Q_NB301_291, Q_NB292_301, Q_NB301_292, Q_BK299_e12, Q_BK300_e13, Q_BK301_e14, Q_X9_, Q_X10_, Q_X11_⟩ hb_ hon hoff; refine ⟨_, rfl, fun K hK => ?_⟩; have e4 : a.tmps[4]? = some (.pointer (some ⟨gb292, 0, none⟩)) := by rw [ha]; exact (putSel_off rfl).trans rfl
    replace ha := Aside0.mk ha; have BK291 := Aside0.mk Q_BK291; have BK292 := Aside0.mk Q_BK292; have HB := Aside0.mk Q_HB; have hc0_ : w'.cell? ⟨gb292, 0, none⟩ = some (.int .i64 t289) := (blk_cell BK292.out 0).trans rfl; have hc1_ : w'.cell? ⟨gb292, 1, none⟩ = some (.int .i64 t290) := (blk_cell BK292.out 1).trans rfl; refine value_ (w1 := w') (v := .agg #[.int .i64 t289, .int .i64 t290]) (by rfl) rfl ?_ ?_
    ·
     go_simp
     (try simp only [i64_w])
     try rfl
    refine hK.out _ _ ⟨gb299, gb300, gb301, m9_, m10_, m11_, (by rw [ha.out]; exact putSel_upk 4 hb_ rfl rfl rfl), Q_BK291, Q_BK292, Q_HB, Q_NB300_299, Q_NB299_300, Q_NB301_299, Q_NB299_301, Q_NB301_300, Q_NB300_301, Q_BK299, Q_GW299, Q_GE299, Q_NB291_299, Q_NB299_291, Q_NB292_299, Q_NB299_292, Q_BK300, Q_GW300, Q_GE300, Q_NB291_300, Q_NB300_291, Q_NB292_300, Q_NB300_292, Q_BK301, Q_GW301, Q_GE301, Q_NB291_301, Q_NB301_291, Q_NB292_301, Q_NB301_292, fun h0_ => absurd ((hoff 12 (by kernel_rfl)).symm.trans h0_) (by decide), fun h0_ => absurd ((hoff 13 (by kernel_rfl)).symm.trans h0_) (by decide), fun h0_ => absurd ((hoff 14 (by kernel_rfl)).symm.trans h0_) (by decide), Q_X9_, Q_X10_, Q_X11_⟩
   refine steps_cons ?_ ?_
   ·
    rintro b a w' ⟨gb299, gb300, gb301, m9_, m10_, m11_, ha, Q_BK291, Q_BK292, Q_HB, Q_NB300_299, Q_NB299_300, Q_NB301_299, Q_NB299_301, Q_NB301_300, Q_NB300_301, Q_BK299, Q_GW299, Q_GE299, Q_NB291_299, Q_NB299_291, Q_NB292_299, Q_NB299_292, Q_BK300, Q_GW300, Q_GE300, Q_NB291_300, Q_NB300_291, Q_NB292_300, Q_NB300_292, Q_BK301, Q_GW301, Q_GE301, Q_NB291_301, Q_NB301_291, Q_NB292_301, Q_NB301_292, Q_BK299_e12, Q_BK300_e13, Q_BK301_e14, Q_X9_, Q_X10_, Q_X11_⟩ hb_ hon hoff; refine ⟨_, rfl, fun K hK => ?_⟩; have e21 : a.tmps[21]? = some (.agg #[.int .i64 t287, .int .i64 t288]) := by rw [ha]; exact putSel_on (e := (3, 21, .agg #[.int .i64 t287, .int .i64 t288])) 3 rfl rfl (hon 3 (by kernel_rfl)) rfl
    have e22 : a.tmps[22]? = some (.agg #[.int .i64 t289, .int .i64 t290]) := by rw [ha]; exact putSel_on (e := (4, 22, .agg #[.int .i64 t289, .int .i64 t290])) 4 rfl rfl (hon 4 (by kernel_rfl)) rfl
    replace ha := Aside0.mk ha; have BK291 := Aside0.mk Q_BK291; have BK292 := Aside0.mk Q_BK292; have HB := Aside0.mk Q_HB; refine goes_ Tryd.func9 (by kernel_rfl) rfl #[.agg #[.int .i64 t287, .int .i64 t288], .agg #[.int .i64 t289, .int .i64 t290]] (by rfl) rfl rfl (by first | (simp only [List.map_toArray, List.map_cons, List.map_nil, Act.eval, Array.getD_eq_getD_getElem?, Option.getD_some, e21, e22]; done) | (simp only [List.map_toArray, List.map_cons, List.map_nil, Act.eval, Array.getD_eq_getD_getElem?, Option.getD_some, e21, e22]; rfl)) ?_; with_reducible refine (impl_RangeSub.calls k t287 t288 t289 t290 t295 t296 _ ?side1 A6.out).mono ?_
    (case side1 => exact GL0.below HG0.out (sq_below2 HB.out GE291.out GE292.out))
    rintro e w19 ⟨rfl, hb⟩; refine ⟨_, rfl, ?_⟩; have n0_ := Aside0.mk (blk_below (sq_blk BK291.out) hb); have n1_ := Aside0.mk (blk_below (sq_blk BK292.out) hb); have n2_ := Aside0.mk (below_step (sq_below2 HB.out GE291.out GE292.out) hb); have z_BK299 := fun (h0_ : b 9 = true) (h1_ : b 12 = false) => (show w19.heap[gb299]? = some (.cells #[.int .i64 0, .int .i64 0] 25 (0, 0)) from by first | exact (blk_below (g := gb299) (o := .cells #[.int .i64 0, .int .i64 0] 25 (0, 0)) (by (with_reducible repeat (first | refine blk_drewN ?_ _ | refine blk_drew ?_ | refine blk_alloc ?_ _)); exact (Q_BK299 h0_ h1_)) hb)); have z_BK300 := fun (h0_ : b 10 = true) (h1_ : b 13 = false) => (show w19.heap[gb300]? = some (.cells #[.int .i64 0, .int .i64 0] 25 (0, 0)) from by first | exact (blk_below (g := gb300) (o := .cells #[.int .i64 0, .int .i64 0] 25 (0, 0)) (by (with_reducible repeat (first | refine blk_drewN ?_ _ | refine blk_drew ?_ | refine blk_alloc ?_ _)); exact (Q_BK300 h0_ h1_)) hb)); have z_BK301 := fun (h0_ : b 11 = true) (h1_ : b 14 = false) => (show w19.heap[gb301]? = some (.cells #[.int .i64 0, .int .i64 0] 25 (0, 0)) from by first | exact (blk_below (g := gb301) (o := .cells #[.int .i64 0, .int .i64 0] 25 (0, 0)) (by (with_reducible repeat (first | refine blk_drewN ?_ _ | refine blk_drew ?_ | refine blk_alloc ?_ _)); exact (Q_BK301 h0_ h1_)) hb)); clear BK291 BK292 HB; have BK291 := n0_; have BK292 := n1_; have HB := n2_; clear n0_ n1_ n2_
    (try clear hb)
    (try clear hb2)
    (try clear hk)
    (try clear hi)
    refine hK.out _ _ ⟨gb299, gb300, gb301, m9_, m10_, m11_, (by rw [ha.out]; exact putSel_upk 5 hb_ rfl rfl rfl), (sq_blk BK291.out), (sq_blk BK292.out), (sq_below2 HB.out GE291.out GE292.out), Q_NB300_299, Q_NB299_300, Q_NB301_299, Q_NB299_301, Q_NB301_300, Q_NB300_301, z_BK299, Q_GW299, Q_GE299, Q_NB291_299, Q_NB299_291, Q_NB292_299, Q_NB299_292, z_BK300, Q_GW300, Q_GE300, Q_NB291_300, Q_NB300_291, Q_NB292_300, Q_NB300_292, z_BK301, Q_GW301, Q_GE301, Q_NB291_301, Q_NB301_291, Q_NB292_301, Q_NB301_292, fun h0_ => absurd ((hoff 12 (by kernel_rfl)).symm.trans h0_) (by decide), fun h0_ => absurd ((hoff 13 (by kernel_rfl)).symm.trans h0_) (by decide), fun h0_ => absurd ((hoff 14 (by kernel_rfl)).symm.trans h0_) (by decide), Q_X9_, Q_X10_, Q_X11_⟩
   refine steps_cons ?_ ?_
   ·
    rintro b a w' ⟨gb299, gb300, gb301, m9_, m10_, m11_, ha, Q_BK291, Q_BK292, Q_HB, Q_NB300_299, Q_NB299_300, Q_NB301_299, Q_NB299_301, Q_NB301_300, Q_NB300_301, Q_BK299, Q_GW299, Q_GE299, Q_NB291_299, Q_NB299_291, Q_NB292_299, Q_NB299_292, Q_BK300, Q_GW300, Q_GE300, Q_NB291_300, Q_NB300_291, Q_NB292_300, Q_NB300_292, Q_BK301, Q_GW301, Q_GE301, Q_NB291_301, Q_NB301_291, Q_NB292_301, Q_NB301_292, Q_BK299_e12, Q_BK300_e13, Q_BK301_e14, Q_X9_, Q_X10_, Q_X11_⟩ hb_ hon hoff; refine ⟨_, rfl, fun K hK => ?_⟩; have e3 : a.tmps[3]? = some (.pointer (some ⟨gb291, 0, none⟩)) := by rw [ha]; exact (putSel_off rfl).trans rfl
    replace ha := Aside0.mk ha; have BK291 := Aside0.mk Q_BK291; have BK292 := Aside0.mk Q_BK292; have HB := Aside0.mk Q_HB; have hc0_ : w'.cell? ⟨gb291, 0, none⟩ = some (.int .i64 t287) := (blk_cell BK291.out 0).trans rfl; have hc1_ : w'.cell? ⟨gb291, 1, none⟩ = some (.int .i64 t288) := (blk_cell BK291.out 1).trans rfl; refine value_ (w1 := w') (v := .agg #[.int .i64 t287, .int .i64 t288]) (by rfl) rfl ?_ ?_
    ·
     go_simp
     (try simp only [i64_w])
     try rfl
    refine hK.out _ _ ⟨gb299, gb300, gb301, m9_, m10_, m11_, (by rw [ha.out]; exact putSel_upk 6 hb_ rfl rfl rfl), Q_BK291, Q_BK292, Q_HB, Q_NB300_299, Q_NB299_300, Q_NB301_299, Q_NB299_301, Q_NB301_300, Q_NB300_301, Q_BK299, Q_GW299, Q_GE299, Q_NB291_299, Q_NB299_291, Q_NB292_299, Q_NB299_292, Q_BK300, Q_GW300, Q_GE300, Q_NB291_300, Q_NB300_291, Q_NB292_300, Q_NB300_292, Q_BK301, Q_GW301, Q_GE301, Q_NB291_301, Q_NB301_291, Q_NB292_301, Q_NB301_292, fun h0_ => absurd ((hoff 12 (by kernel_rfl)).symm.trans h0_) (by decide), fun h0_ => absurd ((hoff 13 (by kernel_rfl)).symm.trans h0_) (by decide), fun h0_ => absurd ((hoff 14 (by kernel_rfl)).symm.trans h0_) (by decide), Q_X9_, Q_X10_, Q_X11_⟩
   refine steps_cons ?_ ?_
   ·
    rintro b a w' ⟨gb299, gb300, gb301, m9_, m10_, m11_, ha, Q_BK291, Q_BK292, Q_HB, Q_NB300_299, Q_NB299_300, Q_NB301_299, Q_NB299_301, Q_NB301_300, Q_NB300_301, Q_BK299, Q_GW299, Q_GE299, Q_NB291_299, Q_NB299_291, Q_NB292_299, Q_NB299_292, Q_BK300, Q_GW300, Q_GE300, Q_NB291_300, Q_NB300_291, Q_NB292_300, Q_NB300_292, Q_BK301, Q_GW301, Q_GE301, Q_NB291_301, Q_NB301_291, Q_NB292_301, Q_NB301_292, Q_BK299_e12, Q_BK300_e13, Q_BK301_e14, Q_X9_, Q_X10_, Q_X11_⟩ hb_ hon hoff; refine ⟨_, rfl, fun K hK => ?_⟩; have e4 : a.tmps[4]? = some (.pointer (some ⟨gb292, 0, none⟩)) := by rw [ha]; exact (putSel_off rfl).trans rfl
    replace ha := Aside0.mk ha; have BK291 := Aside0.mk Q_BK291; have BK292 := Aside0.mk Q_BK292; have HB := Aside0.mk Q_HB; have hc0_ : w'.cell? ⟨gb292, 0, none⟩ = some (.int .i64 t289) := (blk_cell BK292.out 0).trans rfl; have hc1_ : w'.cell? ⟨gb292, 1, none⟩ = some (.int .i64 t290) := (blk_cell BK292.out 1).trans rfl; refine value_ (w1 := w') (v := .agg #[.int .i64 t289, .int .i64 t290]) (by rfl) rfl ?_ ?_
    ·
     go_simp
     (try simp only [i64_w])
     try rfl
    refine hK.out _ _ ⟨gb299, gb300, gb301, m9_, m10_, m11_, (by rw [ha.out]; exact putSel_upk 7 hb_ rfl rfl rfl), Q_BK291, Q_BK292, Q_HB, Q_NB300_299, Q_NB299_300, Q_NB301_299, Q_NB299_301, Q_NB301_300, Q_NB300_301, Q_BK299, Q_GW299, Q_GE299, Q_NB291_299, Q_NB299_291, Q_NB292_299, Q_NB299_292, Q_BK300, Q_GW300, Q_GE300, Q_NB291_300, Q_NB300_291, Q_NB292_300, Q_NB300_292, Q_BK301, Q_GW301, Q_GE301, Q_NB291_301, Q_NB301_291, Q_NB292_301, Q_NB301_292, fun h0_ => absurd ((hoff 12 (by kernel_rfl)).symm.trans h0_) (by decide), fun h0_ => absurd ((hoff 13 (by kernel_rfl)).symm.trans h0_) (by decide), fun h0_ => absurd ((hoff 14 (by kernel_rfl)).symm.trans h0_) (by decide), Q_X9_, Q_X10_, Q_X11_⟩
   refine steps_cons ?_ ?_
   ·
    rintro b a w' ⟨gb299, gb300, gb301, m9_, m10_, m11_, ha, Q_BK291, Q_BK292, Q_HB, Q_NB300_299, Q_NB299_300, Q_NB301_299, Q_NB299_301, Q_NB301_300, Q_NB300_301, Q_BK299, Q_GW299, Q_GE299, Q_NB291_299, Q_NB299_291, Q_NB292_299, Q_NB299_292, Q_BK300, Q_GW300, Q_GE300, Q_NB291_300, Q_NB300_291, Q_NB292_300, Q_NB300_292, Q_BK301, Q_GW301, Q_GE301, Q_NB291_301, Q_NB301_291, Q_NB292_301, Q_NB301_292, Q_BK299_e12, Q_BK300_e13, Q_BK301_e14, Q_X9_, Q_X10_, Q_X11_⟩ hb_ hon hoff; refine ⟨_, rfl, fun K hK => ?_⟩; have e24 : a.tmps[24]? = some (.agg #[.int .i64 t287, .int .i64 t288]) := by rw [ha]; exact putSel_on (e := (6, 24, .agg #[.int .i64 t287, .int .i64 t288])) 6 rfl rfl (hon 6 (by kernel_rfl)) rfl
    have e25 : a.tmps[25]? = some (.agg #[.int .i64 t289, .int .i64 t290]) := by rw [ha]; exact putSel_on (e := (7, 25, .agg #[.int .i64 t289, .int .i64 t290])) 7 rfl rfl (hon 7 (by kernel_rfl)) rfl
    replace ha := Aside0.mk ha; have BK291 := Aside0.mk Q_BK291; have BK292 := Aside0.mk Q_BK292; have HB := Aside0.mk Q_HB; refine goes_ Tryd.func10 (by kernel_rfl) rfl #[.agg #[.int .i64 t287, .int .i64 t288], .agg #[.int .i64 t289, .int .i64 t290]] (by rfl) rfl rfl (by first | (simp only [List.map_toArray, List.map_cons, List.map_nil, Act.eval, Array.getD_eq_getD_getElem?, Option.getD_some, e24, e25]; done) | (simp only [List.map_toArray, List.map_cons, List.map_nil, Act.eval, Array.getD_eq_getD_getElem?, Option.getD_some, e24, e25]; rfl)) ?_; with_reducible refine (impl_RangeMul.calls k t287 t288 t289 t290 t297 t298 _ ?side1 A7.out).mono ?_
    (case side1 => exact GL0.below HG0.out (sq_below2 HB.out GE291.out GE292.out))
    rintro e w20 ⟨rfl, hb⟩; refine ⟨_, rfl, ?_⟩; have n0_ := Aside0.mk (blk_below (sq_blk BK291.out) hb); have n1_ := Aside0.mk (blk_below (sq_blk BK292.out) hb); have n2_ := Aside0.mk (below_step (sq_below2 HB.out GE291.out GE292.out) hb); have z_BK299 := fun (h0_ : b 9 = true) (h1_ : b 12 = false) => (show w20.heap[gb299]? = some (.cells #[.int .i64 0, .int .i64 0] 25 (0, 0)) from by first | exact (blk_below (g := gb299) (o := .cells #[.int .i64 0, .int .i64 0] 25 (0, 0)) (by (with_reducible repeat (first | refine blk_drewN ?_ _ | refine blk_drew ?_ | refine blk_alloc ?_ _)); exact (Q_BK299 h0_ h1_)) hb)); have z_BK300 := fun (h0_ : b 10 = true) (h1_ : b 13 = false) => (show w20.heap[gb300]? = some (.cells #[.int .i64 0, .int .i64 0] 25 (0, 0)) from by first | exact (blk_below (g := gb300) (o := .cells #[.int .i64 0, .int .i64 0] 25 (0, 0)) (by (with_reducible repeat (first | refine blk_drewN ?_ _ | refine blk_drew ?_ | refine blk_alloc ?_ _)); exact (Q_BK300 h0_ h1_)) hb)); have z_BK301 := fun (h0_ : b 11 = true) (h1_ : b 14 = false) => (show w20.heap[gb301]? = some (.cells #[.int .i64 0, .int .i64 0] 25 (0, 0)) from by first | exact (blk_below (g := gb301) (o := .cells #[.int .i64 0, .int .i64 0] 25 (0, 0)) (by (with_reducible repeat (first | refine blk_drewN ?_ _ | refine blk_drew ?_ | refine blk_alloc ?_ _)); exact (Q_BK301 h0_ h1_)) hb)); clear BK291 BK292 HB; have BK291 := n0_; have BK292 := n1_; have HB := n2_; clear n0_ n1_ n2_
    (try clear hb)
    (try clear hb2)
    (try clear hk)
    (try clear hi)
    refine hK.out _ _ ⟨gb299, gb300, gb301, m9_, m10_, m11_, (by rw [ha.out]; exact putSel_upk 8 hb_ rfl rfl rfl), (sq_blk BK291.out), (sq_blk BK292.out), (sq_below2 HB.out GE291.out GE292.out), Q_NB300_299, Q_NB299_300, Q_NB301_299, Q_NB299_301, Q_NB301_300, Q_NB300_301, z_BK299, Q_GW299, Q_GE299, Q_NB291_299, Q_NB299_291, Q_NB292_299, Q_NB299_292, z_BK300, Q_GW300, Q_GE300, Q_NB291_300, Q_NB300_291, Q_NB292_300, Q_NB300_292, z_BK301, Q_GW301, Q_GE301, Q_NB291_301, Q_NB301_291, Q_NB292_301, Q_NB301_292, fun h0_ => absurd ((hoff 12 (by kernel_rfl)).symm.trans h0_) (by decide), fun h0_ => absurd ((hoff 13 (by kernel_rfl)).symm.trans h0_) (by decide), fun h0_ => absurd ((hoff 14 (by kernel_rfl)).symm.trans h0_) (by decide), Q_X9_, Q_X10_, Q_X11_⟩
   refine steps_cons ?_ ?_
   ·
    rintro b a w' ⟨gb299, gb300, gb301, m9_, m10_, m11_, ha, Q_BK291, Q_BK292, Q_HB, Q_NB300_299, Q_NB299_300, Q_NB301_299, Q_NB299_301, Q_NB301_300, Q_NB300_301, Q_BK299, Q_GW299, Q_GE299, Q_NB291_299, Q_NB299_291, Q_NB292_299, Q_NB299_292, Q_BK300, Q_GW300, Q_GE300, Q_NB291_300, Q_NB300_291, Q_NB292_300, Q_NB300_292, Q_BK301, Q_GW301, Q_GE301, Q_NB291_301, Q_NB301_291, Q_NB292_301, Q_NB301_292, Q_BK299_e12, Q_BK300_e13, Q_BK301_e14, Q_X9_, Q_X10_, Q_X11_⟩ hb_ hon hoff; refine ⟨_, rfl, fun K hK => ?_⟩; replace ha := Aside0.mk ha; have BK291 := Aside0.mk Q_BK291; have BK292 := Aside0.mk Q_BK292; have HB := Aside0.mk Q_HB; refine box_step ?hg (N := 5) ?hd (cs := #[.int .i64 0, .int .i64 0]) (t := 25) ?hr ?_; (case hd => rfl); (case hg => rfl); (case hr => first | (go_simp; done) | (go_simp; rfl)); intro gb299 hg w17 hbox hb; have n0_ := Aside0.mk (blk_below (sq_blk BK291.out) hb); have n1_ := Aside0.mk (blk_below (sq_blk BK292.out) hb); have n2_ := Aside0.mk (below_step (sq_below2 HB.out GE291.out GE292.out) hb); have n3_ := Aside0.mk (hbox); have n4_ := Aside0.mk ((by rw [hg]; exact (below_size (sq_below2 HB.out GE291.out GE292.out)) : w.heap.size ≤ gb299)); have n5_ := Aside0.mk ((by rw [hg]; exact (below_size (sq_below2 HB.out GE291.out GE292.out)) : w.heap.size ≤ gb299)); have n6_ := Aside0.mk ((by rw [hg]; exact Nat.ne_of_lt (blk_lt (g := gb291) (o := .cells #[.int .i64 t287, .int .i64 t288] 25 (0, 0)) (sq_blk BK291.out)) : gb291 ≠ gb299)); have n7_ := Aside0.mk (Ne.symm n6_.out); have n8_ := Aside0.mk ((by rw [hg]; exact Nat.ne_of_lt (blk_lt (g := gb292) (o := .cells #[.int .i64 t289, .int .i64 t290] 25 (0, 0)) (sq_blk BK292.out)) : gb292 ≠ gb299)); have n9_ := Aside0.mk (Ne.symm n8_.out); have z_NB300_299 := fun (h0_ : up b 9 9 = true) (h1_ : up b 9 10 = true) => (show gb300 ≠ gb299 from ((by rw [hg]; exact Nat.ne_of_lt (show gb300 < _ from by (have hb_ : b 10 = true := (by simpa [up] using h1_)); cases hq_ : b 13 with | false => exact blk_lt (g := gb300) (by (with_reducible repeat (first | refine blk_drewN ?_ _ | refine blk_drew ?_ | refine blk_alloc ?_ _)); exact (Q_BK300 hb_ hq_)) | true => exact blk_lt (g := gb300) (by (with_reducible repeat (first | refine blk_drewN ?_ _ | refine blk_drew ?_ | refine blk_alloc ?_ _)); exact (Q_BK300_e13 hq_))) : gb300 ≠ gb299))); have z_NB299_300 := fun (h0_ : up b 9 9 = true) (h1_ : up b 9 10 = true) => (show gb299 ≠ gb300 from ((by rw [hg]; exact Nat.ne_of_gt (show gb300 < _ from by (have hb_ : b 10 = true := (by simpa [up] using h1_)); cases hq_ : b 13 with | false => exact blk_lt (g := gb300) (by (with_reducible repeat (first | refine blk_drewN ?_ _ | refine blk_drew ?_ | refine blk_alloc ?_ _)); exact (Q_BK300 hb_ hq_)) | true => exact blk_lt (g := gb300) (by (with_reducible repeat (first | refine blk_drewN ?_ _ | refine blk_drew ?_ | refine blk_alloc ?_ _)); exact (Q_BK300_e13 hq_))) : gb299 ≠ gb300))); have z_NB301_299 := fun (h0_ : up b 9 9 = true) (h1_ : up b 9 11 = true) => (show gb301 ≠ gb299 from ((by rw [hg]; exact Nat.ne_of_lt (show gb301 < _ from by (have hb_ : b 11 = true := (by simpa [up] using h1_)); cases hq_ : b 14 with | false => exact blk_lt (g := gb301) (by (with_reducible repeat (first | refine blk_drewN ?_ _ | refine blk_drew ?_ | refine blk_alloc ?_ _)); exact (Q_BK301 hb_ hq_)) | true => exact blk_lt (g := gb301) (by (with_reducible repeat (first | refine blk_drewN ?_ _ | refine blk_drew ?_ | refine blk_alloc ?_ _)); exact (Q_BK301_e14 hq_))) : gb301 ≠ gb299))); have z_NB299_301 := fun (h0_ : up b 9 9 = true) (h1_ : up b 9 11 = true) => (show gb299 ≠ gb301 from ((by rw [hg]; exact Nat.ne_of_gt (show gb301 < _ from by (have hb_ : b 11 = true := (by simpa [up] using h1_)); cases hq_ : b 14 with | false => exact blk_lt (g := gb301) (by (with_reducible repeat (first | refine blk_drewN ?_ _ | refine blk_drew ?_ | refine blk_alloc ?_ _)); exact (Q_BK301 hb_ hq_)) | true => exact blk_lt (g := gb301) (by (with_reducible repeat (first | refine blk_drewN ?_ _ | refine blk_drew ?_ | refine blk_alloc ?_ _)); exact (Q_BK301_e14 hq_))) : gb299 ≠ gb301))); have z_BK300 := fun (h0_ : b 10 = true) (h1_ : b 13 = false) => (show w17.heap[gb300]? = some (.cells #[.int .i64 0, .int .i64 0] 25 (0, 0)) from by first | exact (blk_below (g := gb300) (o := .cells #[.int .i64 0, .int .i64 0] 25 (0, 0)) (by (with_reducible repeat (first | refine blk_drewN ?_ _ | refine blk_drew ?_ | refine blk_alloc ?_ _)); exact (Q_BK300 h0_ h1_)) hb)); have z_BK301 := fun (h0_ : b 11 = true) (h1_ : b 14 = false) => (show w17.heap[gb301]? = some (.cells #[.int .i64 0, .int .i64 0] 25 (0, 0)) from by first | exact (blk_below (g := gb301) (o := .cells #[.int .i64 0, .int .i64 0] 25 (0, 0)) (by (with_reducible repeat (first | refine blk_drewN ?_ _ | refine blk_drew ?_ | refine blk_alloc ?_ _)); exact (Q_BK301 h0_ h1_)) hb)); clear BK291 BK292 HB; have BK291 := n0_; have BK292 := n1_; have HB := n2_; have BK299 := n3_; have GW299 := n4_; have GE299 := n5_; have NB291_299 := n6_; have NB299_291 := n7_; have NB292_299 := n8_; have NB299_292 := n9_; clear n0_ n1_ n2_ n3_ n4_ n5_ n6_ n7_ n8_ n9_ hb hbox hg; refine hK.out _ _ ⟨gb299, gb300, gb301, (.pointer (some ⟨gb299, 0, none⟩)), m10_, m11_, (by rw [ha.out]; exact putSel_upk 9 hb_ rfl rfl rfl), (sq_blk BK291.out), (sq_blk BK292.out), (sq_below3 HB.out GE291.out GE292.out GE299.out), z_NB300_299, z_NB299_300, z_NB301_299, z_NB299_301, Q_NB301_300, Q_NB300_301, fun _ _ => (sq_blk BK299.out), fun _ => GW299.out, fun _ => GE299.out, fun _ => NB291_299.out, fun _ => NB299_291.out, fun _ => NB292_299.out, fun _ => NB299_292.out, z_BK300, Q_GW300, Q_GE300, Q_NB291_300, Q_NB300_291, Q_NB292_300, Q_NB300_292, z_BK301, Q_GW301, Q_GE301, Q_NB291_301, Q_NB301_291, Q_NB292_301, Q_NB301_292, fun h0_ => absurd ((hoff 12 (by kernel_rfl)).symm.trans h0_) (by decide), fun h0_ => absurd ((hoff 13 (by kernel_rfl)).symm.trans h0_) (by decide), fun h0_ => absurd ((hoff 14 (by kernel_rfl)).symm.trans h0_) (by decide), fun _ => rfl, Q_X10_, Q_X11_⟩
   refine steps_cons ?_ ?_
   ·
    rintro b a w' ⟨gb299, gb300, gb301, m9_, m10_, m11_, ha, Q_BK291, Q_BK292, Q_HB, Q_NB300_299, Q_NB299_300, Q_NB301_299, Q_NB299_301, Q_NB301_300, Q_NB300_301, Q_BK299, Q_GW299, Q_GE299, Q_NB291_299, Q_NB299_291, Q_NB292_299, Q_NB299_292, Q_BK300, Q_GW300, Q_GE300, Q_NB291_300, Q_NB300_291, Q_NB292_300, Q_NB300_292, Q_BK301, Q_GW301, Q_GE301, Q_NB291_301, Q_NB301_291, Q_NB292_301, Q_NB301_292, Q_BK299_e12, Q_BK300_e13, Q_BK301_e14, Q_X9_, Q_X10_, Q_X11_⟩ hb_ hon hoff; refine ⟨_, rfl, fun K hK => ?_⟩; replace ha := Aside0.mk ha; have BK291 := Aside0.mk Q_BK291; have BK292 := Aside0.mk Q_BK292; have HB := Aside0.mk Q_HB; refine box_step ?hg (N := 6) ?hd (cs := #[.int .i64 0, .int .i64 0]) (t := 25) ?hr ?_; (case hd => rfl); (case hg => rfl); (case hr => first | (go_simp; done) | (go_simp; rfl)); intro gb300 hg w17 hbox hb; have n0_ := Aside0.mk (blk_below (sq_blk BK291.out) hb); have n1_ := Aside0.mk (blk_below (sq_blk BK292.out) hb); have n2_ := Aside0.mk (below_step (sq_below2 HB.out GE291.out GE292.out) hb); have n3_ := Aside0.mk (hbox); have n4_ := Aside0.mk ((by rw [hg]; exact (below_size (sq_below2 HB.out GE291.out GE292.out)) : w.heap.size ≤ gb300)); have n5_ := Aside0.mk ((by rw [hg]; exact (below_size (sq_below2 HB.out GE291.out GE292.out)) : w.heap.size ≤ gb300)); have n6_ := Aside0.mk ((by rw [hg]; exact Nat.ne_of_lt (blk_lt (g := gb291) (o := .cells #[.int .i64 t287, .int .i64 t288] 25 (0, 0)) (sq_blk BK291.out)) : gb291 ≠ gb300)); have n7_ := Aside0.mk (Ne.symm n6_.out); have n8_ := Aside0.mk ((by rw [hg]; exact Nat.ne_of_lt (blk_lt (g := gb292) (o := .cells #[.int .i64 t289, .int .i64 t290] 25 (0, 0)) (sq_blk BK292.out)) : gb292 ≠ gb300)); have n9_ := Aside0.mk (Ne.symm n8_.out); have z_NB300_299 := fun (h0_ : up b 10 9 = true) (h1_ : up b 10 10 = true) => (show gb300 ≠ gb299 from ((by rw [hg]; exact Nat.ne_of_gt (show gb299 < _ from by (have hb_ : b 9 = true := (by simpa [up] using h0_)); cases hq_ : b 12 with | false => exact blk_lt (g := gb299) (by (with_reducible repeat (first | refine blk_drewN ?_ _ | refine blk_drew ?_ | refine blk_alloc ?_ _)); exact (Q_BK299 hb_ hq_)) | true => exact blk_lt (g := gb299) (by (with_reducible repeat (first | refine blk_drewN ?_ _ | refine blk_drew ?_ | refine blk_alloc ?_ _)); exact (Q_BK299_e12 hq_))) : gb300 ≠ gb299))); have z_NB299_300 := fun (h0_ : up b 10 9 = true) (h1_ : up b 10 10 = true) => (show gb299 ≠ gb300 from ((by rw [hg]; exact Nat.ne_of_lt (show gb299 < _ from by (have hb_ : b 9 = true := (by simpa [up] using h0_)); cases hq_ : b 12 with | false => exact blk_lt (g := gb299) (by (with_reducible repeat (first | refine blk_drewN ?_ _ | refine blk_drew ?_ | refine blk_alloc ?_ _)); exact (Q_BK299 hb_ hq_)) | true => exact blk_lt (g := gb299) (by (with_reducible repeat (first | refine blk_drewN ?_ _ | refine blk_drew ?_ | refine blk_alloc ?_ _)); exact (Q_BK299_e12 hq_))) : gb299 ≠ gb300))); have z_NB301_300 := fun (h0_ : up b 10 10 = true) (h1_ : up b 10 11 = true) => (show gb301 ≠ gb300 from ((by rw [hg]; exact Nat.ne_of_lt (show gb301 < _ from by (have hb_ : b 11 = true := (by simpa [up] using h1_)); cases hq_ : b 14 with | false => exact blk_lt (g := gb301) (by (with_reducible repeat (first | refine blk_drewN ?_ _ | refine blk_drew ?_ | refine blk_alloc ?_ _)); exact (Q_BK301 hb_ hq_)) | true => exact blk_lt (g := gb301) (by (with_reducible repeat (first | refine blk_drewN ?_ _ | refine blk_drew ?_ | refine blk_alloc ?_ _)); exact (Q_BK301_e14 hq_))) : gb301 ≠ gb300))); have z_NB300_301 := fun (h0_ : up b 10 10 = true) (h1_ : up b 10 11 = true) => (show gb300 ≠ gb301 from ((by rw [hg]; exact Nat.ne_of_gt (show gb301 < _ from by (have hb_ : b 11 = true := (by simpa [up] using h1_)); cases hq_ : b 14 with | false => exact blk_lt (g := gb301) (by (with_reducible repeat (first | refine blk_drewN ?_ _ | refine blk_drew ?_ | refine blk_alloc ?_ _)); exact (Q_BK301 hb_ hq_)) | true => exact blk_lt (g := gb301) (by (with_reducible repeat (first | refine blk_drewN ?_ _ | refine blk_drew ?_ | refine blk_alloc ?_ _)); exact (Q_BK301_e14 hq_))) : gb300 ≠ gb301))); have z_BK299 := fun (h0_ : b 9 = true) (h1_ : b 12 = false) => (show w17.heap[gb299]? = some (.cells #[.int .i64 0, .int .i64 0] 25 (0, 0)) from by first | exact (blk_below (g := gb299) (o := .cells #[.int .i64 0, .int .i64 0] 25 (0, 0)) (by (with_reducible repeat (first | refine blk_drewN ?_ _ | refine blk_drew ?_ | refine blk_alloc ?_ _)); exact (Q_BK299 h0_ h1_)) hb)); have z_BK301 := fun (h0_ : b 11 = true) (h1_ : b 14 = false) => (show w17.heap[gb301]? = some (.cells #[.int .i64 0, .int .i64 0] 25 (0, 0)) from by first | exact (blk_below (g := gb301) (o := .cells #[.int .i64 0, .int .i64 0] 25 (0, 0)) (by (with_reducible repeat (first | refine blk_drewN ?_ _ | refine blk_drew ?_ | refine blk_alloc ?_ _)); exact (Q_BK301 h0_ h1_)) hb)); clear BK291 BK292 HB; have BK291 := n0_; have BK292 := n1_; have HB := n2_; have BK300 := n3_; have GW300 := n4_; have GE300 := n5_; have NB291_300 := n6_; have NB300_291 := n7_; have NB292_300 := n8_; have NB300_292 := n9_; clear n0_ n1_ n2_ n3_ n4_ n5_ n6_ n7_ n8_ n9_ hb hbox hg; refine hK.out _ _ ⟨gb299, gb300, gb301, m9_, (.pointer (some ⟨gb300, 0, none⟩)), m11_, (by rw [ha.out]; exact putSel_upk 10 hb_ rfl rfl rfl), (sq_blk BK291.out), (sq_blk BK292.out), (sq_below3 HB.out GE291.out GE292.out GE300.out), z_NB300_299, z_NB299_300, Q_NB301_299, Q_NB299_301, z_NB301_300, z_NB300_301, z_BK299, Q_GW299, Q_GE299, Q_NB291_299, Q_NB299_291, Q_NB292_299, Q_NB299_292, fun _ _ => (sq_blk BK300.out), fun _ => GW300.out, fun _ => GE300.out, fun _ => NB291_300.out, fun _ => NB300_291.out, fun _ => NB292_300.out, fun _ => NB300_292.out, z_BK301, Q_GW301, Q_GE301, Q_NB291_301, Q_NB301_291, Q_NB292_301, Q_NB301_292, fun h0_ => absurd ((hoff 12 (by kernel_rfl)).symm.trans h0_) (by decide), fun h0_ => absurd ((hoff 13 (by kernel_rfl)).symm.trans h0_) (by decide), fun h0_ => absurd ((hoff 14 (by kernel_rfl)).symm.trans h0_) (by decide), Q_X9_, fun _ => rfl, Q_X11_⟩
   refine steps_cons ?_ ?_
   ·
    rintro b a w' ⟨gb299, gb300, gb301, m9_, m10_, m11_, ha, Q_BK291, Q_BK292, Q_HB, Q_NB300_299, Q_NB299_300, Q_NB301_299, Q_NB299_301, Q_NB301_300, Q_NB300_301, Q_BK299, Q_GW299, Q_GE299, Q_NB291_299, Q_NB299_291, Q_NB292_299, Q_NB299_292, Q_BK300, Q_GW300, Q_GE300, Q_NB291_300, Q_NB300_291, Q_NB292_300, Q_NB300_292, Q_BK301, Q_GW301, Q_GE301, Q_NB291_301, Q_NB301_291, Q_NB292_301, Q_NB301_292, Q_BK299_e12, Q_BK300_e13, Q_BK301_e14, Q_X9_, Q_X10_, Q_X11_⟩ hb_ hon hoff; refine ⟨_, rfl, fun K hK => ?_⟩; replace ha := Aside0.mk ha; have BK291 := Aside0.mk Q_BK291; have BK292 := Aside0.mk Q_BK292; have HB := Aside0.mk Q_HB; refine box_step ?hg (N := 7) ?hd (cs := #[.int .i64 0, .int .i64 0]) (t := 25) ?hr ?_; (case hd => rfl); (case hg => rfl); (case hr => first | (go_simp; done) | (go_simp; rfl)); intro gb301 hg w17 hbox hb; have n0_ := Aside0.mk (blk_below (sq_blk BK291.out) hb); have n1_ := Aside0.mk (blk_below (sq_blk BK292.out) hb); have n2_ := Aside0.mk (below_step (sq_below2 HB.out GE291.out GE292.out) hb); have n3_ := Aside0.mk (hbox); have n4_ := Aside0.mk ((by rw [hg]; exact (below_size (sq_below2 HB.out GE291.out GE292.out)) : w.heap.size ≤ gb301)); have n5_ := Aside0.mk ((by rw [hg]; exact (below_size (sq_below2 HB.out GE291.out GE292.out)) : w.heap.size ≤ gb301)); have n6_ := Aside0.mk ((by rw [hg]; exact Nat.ne_of_lt (blk_lt (g := gb291) (o := .cells #[.int .i64 t287, .int .i64 t288] 25 (0, 0)) (sq_blk BK291.out)) : gb291 ≠ gb301)); have n7_ := Aside0.mk (Ne.symm n6_.out); have n8_ := Aside0.mk ((by rw [hg]; exact Nat.ne_of_lt (blk_lt (g := gb292) (o := .cells #[.int .i64 t289, .int .i64 t290] 25 (0, 0)) (sq_blk BK292.out)) : gb292 ≠ gb301)); have n9_ := Aside0.mk (Ne.symm n8_.out); have z_NB301_299 := fun (h0_ : up b 11 9 = true) (h1_ : up b 11 11 = true) => (show gb301 ≠ gb299 from ((by rw [hg]; exact Nat.ne_of_gt (show gb299 < _ from by (have hb_ : b 9 = true := (by simpa [up] using h0_)); cases hq_ : b 12 with | false => exact blk_lt (g := gb299) (by (with_reducible repeat (first | refine blk_drewN ?_ _ | refine blk_drew ?_ | refine blk_alloc ?_ _)); exact (Q_BK299 hb_ hq_)) | true => exact blk_lt (g := gb299) (by (with_reducible repeat (first | refine blk_drewN ?_ _ | refine blk_drew ?_ | refine blk_alloc ?_ _)); exact (Q_BK299_e12 hq_))) : gb301 ≠ gb299))); have z_NB299_301 := fun (h0_ : up b 11 9 = true) (h1_ : up b 11 11 = true) => (show gb299 ≠ gb301 from ((by rw [hg]; exact Nat.ne_of_lt (show gb299 < _ from by (have hb_ : b 9 = true := (by simpa [up] using h0_)); cases hq_ : b 12 with | false => exact blk_lt (g := gb299) (by (with_reducible repeat (first | refine blk_drewN ?_ _ | refine blk_drew ?_ | refine blk_alloc ?_ _)); exact (Q_BK299 hb_ hq_)) | true => exact blk_lt (g := gb299) (by (with_reducible repeat (first | refine blk_drewN ?_ _ | refine blk_drew ?_ | refine blk_alloc ?_ _)); exact (Q_BK299_e12 hq_))) : gb299 ≠ gb301))); have z_NB301_300 := fun (h0_ : up b 11 10 = true) (h1_ : up b 11 11 = true) => (show gb301 ≠ gb300 from ((by rw [hg]; exact Nat.ne_of_gt (show gb300 < _ from by (have hb_ : b 10 = true := (by simpa [up] using h0_)); cases hq_ : b 13 with | false => exact blk_lt (g := gb300) (by (with_reducible repeat (first | refine blk_drewN ?_ _ | refine blk_drew ?_ | refine blk_alloc ?_ _)); exact (Q_BK300 hb_ hq_)) | true => exact blk_lt (g := gb300) (by (with_reducible repeat (first | refine blk_drewN ?_ _ | refine blk_drew ?_ | refine blk_alloc ?_ _)); exact (Q_BK300_e13 hq_))) : gb301 ≠ gb300))); have z_NB300_301 := fun (h0_ : up b 11 10 = true) (h1_ : up b 11 11 = true) => (show gb300 ≠ gb301 from ((by rw [hg]; exact Nat.ne_of_lt (show gb300 < _ from by (have hb_ : b 10 = true := (by simpa [up] using h0_)); cases hq_ : b 13 with | false => exact blk_lt (g := gb300) (by (with_reducible repeat (first | refine blk_drewN ?_ _ | refine blk_drew ?_ | refine blk_alloc ?_ _)); exact (Q_BK300 hb_ hq_)) | true => exact blk_lt (g := gb300) (by (with_reducible repeat (first | refine blk_drewN ?_ _ | refine blk_drew ?_ | refine blk_alloc ?_ _)); exact (Q_BK300_e13 hq_))) : gb300 ≠ gb301))); have z_BK299 := fun (h0_ : b 9 = true) (h1_ : b 12 = false) => (show w17.heap[gb299]? = some (.cells #[.int .i64 0, .int .i64 0] 25 (0, 0)) from by first | exact (blk_below (g := gb299) (o := .cells #[.int .i64 0, .int .i64 0] 25 (0, 0)) (by (with_reducible repeat (first | refine blk_drewN ?_ _ | refine blk_drew ?_ | refine blk_alloc ?_ _)); exact (Q_BK299 h0_ h1_)) hb)); have z_BK300 := fun (h0_ : b 10 = true) (h1_ : b 13 = false) => (show w17.heap[gb300]? = some (.cells #[.int .i64 0, .int .i64 0] 25 (0, 0)) from by first | exact (blk_below (g := gb300) (o := .cells #[.int .i64 0, .int .i64 0] 25 (0, 0)) (by (with_reducible repeat (first | refine blk_drewN ?_ _ | refine blk_drew ?_ | refine blk_alloc ?_ _)); exact (Q_BK300 h0_ h1_)) hb)); clear BK291 BK292 HB; have BK291 := n0_; have BK292 := n1_; have HB := n2_; have BK301 := n3_; have GW301 := n4_; have GE301 := n5_; have NB291_301 := n6_; have NB301_291 := n7_; have NB292_301 := n8_; have NB301_292 := n9_; clear n0_ n1_ n2_ n3_ n4_ n5_ n6_ n7_ n8_ n9_ hb hbox hg; refine hK.out _ _ ⟨gb299, gb300, gb301, m9_, m10_, (.pointer (some ⟨gb301, 0, none⟩)), (by rw [ha.out]; exact putSel_upk 11 hb_ rfl rfl rfl), (sq_blk BK291.out), (sq_blk BK292.out), (sq_below3 HB.out GE291.out GE292.out GE301.out), Q_NB300_299, Q_NB299_300, z_NB301_299, z_NB299_301, z_NB301_300, z_NB300_301, z_BK299, Q_GW299, Q_GE299, Q_NB291_299, Q_NB299_291, Q_NB292_299, Q_NB299_292, z_BK300, Q_GW300, Q_GE300, Q_NB291_300, Q_NB300_291, Q_NB292_300, Q_NB300_292, fun _ _ => (sq_blk BK301.out), fun _ => GW301.out, fun _ => GE301.out, fun _ => NB291_301.out, fun _ => NB301_291.out, fun _ => NB292_301.out, fun _ => NB301_292.out, fun h0_ => absurd ((hoff 12 (by kernel_rfl)).symm.trans h0_) (by decide), fun h0_ => absurd ((hoff 13 (by kernel_rfl)).symm.trans h0_) (by decide), fun h0_ => absurd ((hoff 14 (by kernel_rfl)).symm.trans h0_) (by decide), Q_X9_, Q_X10_, fun _ => rfl⟩
   refine steps_cons ?_ ?_
   ·
    rintro b a w' ⟨gb299, gb300, gb301, m9_, m10_, m11_, ha, Q_BK291, Q_BK292, Q_HB, Q_NB300_299, Q_NB299_300, Q_NB301_299, Q_NB299_301, Q_NB301_300, Q_NB300_301, Q_BK299, Q_GW299, Q_GE299, Q_NB291_299, Q_NB299_291, Q_NB292_299, Q_NB299_292, Q_BK300, Q_GW300, Q_GE300, Q_NB291_300, Q_NB300_291, Q_NB292_300, Q_NB300_292, Q_BK301, Q_GW301, Q_GE301, Q_NB291_301, Q_NB301_291, Q_NB292_301, Q_NB301_292, Q_BK299_e12, Q_BK300_e13, Q_BK301_e14, Q_X9_, Q_X10_, Q_X11_⟩ hb_ hon hoff; refine ⟨_, rfl, fun K hK => ?_⟩; have e5 : a.tmps[5]? = some (m9_) := by rw [ha]; exact putSel_on (e := (9, 5, m9_)) 9 rfl rfl (hon 9 (by kernel_rfl)) rfl
    rw [Q_X9_ (hon 9 (by kernel_rfl))] at e5; have e20 : a.tmps[20]? = some (.agg #[.int .i64 t293, .int .i64 t294]) := by rw [ha]; exact putSel_on (e := (2, 20, .agg #[.int .i64 t293, .int .i64 t294])) 2 rfl rfl (hon 2 (by kernel_rfl)) rfl
    replace ha := Aside0.mk ha; have BK291 := Aside0.mk Q_BK291; have BK292 := Aside0.mk Q_BK292; have HB := Aside0.mk Q_HB; have NB300_299 := Aside0.mk (Q_NB300_299 (hon 9 (by kernel_rfl)) (hon 10 (by kernel_rfl))); have NB299_300 := Aside0.mk (Q_NB299_300 (hon 9 (by kernel_rfl)) (hon 10 (by kernel_rfl))); have NB301_299 := Aside0.mk (Q_NB301_299 (hon 9 (by kernel_rfl)) (hon 11 (by kernel_rfl))); have NB299_301 := Aside0.mk (Q_NB299_301 (hon 9 (by kernel_rfl)) (hon 11 (by kernel_rfl))); have NB301_300 := Aside0.mk (Q_NB301_300 (hon 10 (by kernel_rfl)) (hon 11 (by kernel_rfl))); have NB300_301 := Aside0.mk (Q_NB300_301 (hon 10 (by kernel_rfl)) (hon 11 (by kernel_rfl))); have BK299 := Aside0.mk (Q_BK299 (hon 9 (by kernel_rfl)) hb_); have GW299 := Aside0.mk (Q_GW299 (hon 9 (by kernel_rfl))); have GE299 := Aside0.mk (Q_GE299 (hon 9 (by kernel_rfl))); have NB291_299 := Aside0.mk (Q_NB291_299 (hon 9 (by kernel_rfl))); have NB299_291 := Aside0.mk (Q_NB299_291 (hon 9 (by kernel_rfl))); have NB292_299 := Aside0.mk (Q_NB292_299 (hon 9 (by kernel_rfl))); have NB299_292 := Aside0.mk (Q_NB299_292 (hon 9 (by kernel_rfl))); have BK300 := Aside0.mk (Q_BK300 (hon 10 (by kernel_rfl)) (hoff 13 (by kernel_rfl))); have GW300 := Aside0.mk (Q_GW300 (hon 10 (by kernel_rfl))); have GE300 := Aside0.mk (Q_GE300 (hon 10 (by kernel_rfl))); have NB291_300 := Aside0.mk (Q_NB291_300 (hon 10 (by kernel_rfl))); have NB300_291 := Aside0.mk (Q_NB300_291 (hon 10 (by kernel_rfl))); have NB292_300 := Aside0.mk (Q_NB292_300 (hon 10 (by kernel_rfl))); have NB300_292 := Aside0.mk (Q_NB300_292 (hon 10 (by kernel_rfl))); have BK301 := Aside0.mk (Q_BK301 (hon 11 (by kernel_rfl)) (hoff 14 (by kernel_rfl))); have GW301 := Aside0.mk (Q_GW301 (hon 11 (by kernel_rfl))); have GE301 := Aside0.mk (Q_GE301 (hon 11 (by kernel_rfl))); have NB291_301 := Aside0.mk (Q_NB291_301 (hon 11 (by kernel_rfl))); have NB301_291 := Aside0.mk (Q_NB301_291 (hon 11 (by kernel_rfl))); have NB292_301 := Aside0.mk (Q_NB292_301 (hon 11 (by kernel_rfl))); have NB301_292 := Aside0.mk (Q_NB301_292 (hon 11 (by kernel_rfl))); have hs24 : w'.cell? ⟨gb299, 0, none⟩ = some (.int .i64 0) := (blk_cell BK299.out 0).trans rfl; have hfs24 := blk_frozen BK299.out 0; have hns24_0 := NB291_299.out; have hns24_1 := NB292_299.out; have hns24_3 := NB300_299.out; have hns24_4 := NB301_299.out; have hms24_0 := NB299_291.out; have hms24_1 := NB299_292.out; have hms24_3 := NB299_300.out; have hms24_4 := NB299_301.out; have hs25 : w'.cell? ⟨gb299, 1, none⟩ = some (.int .i64 0) := (blk_cell BK299.out 1).trans rfl; have hfs25 := blk_frozen BK299.out 1; have hns25_0 := NB291_299.out; have hns25_1 := NB292_299.out; have hns25_3 := NB300_299.out; have hns25_4 := NB301_299.out; have hms25_0 := NB299_291.out; have hms25_1 := NB299_292.out; have hms25_3 := NB299_300.out; have hms25_4 := NB299_301.out; refine skip_ (w1 := ?_) (by rfl) rfl ?_ ?_; rotate_left
    ·
     go_simp; rfl
    refine hK.out _ _ ⟨gb299, gb300, gb301, m9_, m10_, m11_, (by rw [ha.out]; exact putSel_none (v := undef) rfl), (bf_ BK291 NB291_299).out, (bf_ BK292 NB292_299).out, (sq_below5 HB.out GE291.out GE292.out GE299.out GE300.out GE301.out), fun _ _ => NB300_299.out, fun _ _ => NB299_300.out, fun _ _ => NB301_299.out, fun _ _ => NB299_301.out, fun _ _ => NB301_300.out, fun _ _ => NB300_301.out, fun _ h1_ => absurd ((up_self b 12).symm.trans h1_) (by decide), fun _ => GW299.out, fun _ => GE299.out, fun _ => NB291_299.out, fun _ => NB299_291.out, fun _ => NB292_299.out, fun _ => NB299_292.out, fun _ _ => (bf_ BK300 NB300_299).out, fun _ => GW300.out, fun _ => GE300.out, fun _ => NB291_300.out, fun _ => NB300_291.out, fun _ => NB292_300.out, fun _ => NB300_292.out, fun _ _ => (bf_ BK301 NB301_299).out, fun _ => GW301.out, fun _ => GE301.out, fun _ => NB291_301.out, fun _ => NB301_291.out, fun _ => NB292_301.out, fun _ => NB301_292.out, fun _ => (by (with_reducible repeat (first | refine blk_drewN ?_ _ | refine blk_drew ?_ | refine blk_alloc ?_ _)); refine blk_put (cs := #[.int .i64 t293, .int .i64 0]) ?_ 1 _ rfl; (with_reducible repeat (first | refine blk_drewN ?_ _ | refine blk_drew ?_ | refine blk_alloc ?_ _)); refine blk_put (cs := #[.int .i64 0, .int .i64 0]) ?_ 0 _ rfl; (with_reducible repeat (first | refine blk_drewN ?_ _ | refine blk_drew ?_ | refine blk_alloc ?_ _)); exact BK299.out), fun h0_ => absurd ((hoff 13 (by kernel_rfl)).symm.trans h0_) (by decide), fun h0_ => absurd ((hoff 14 (by kernel_rfl)).symm.trans h0_) (by decide), Q_X9_, Q_X10_, Q_X11_⟩
   refine steps_cons ?_ ?_
   ·
    rintro b a w' ⟨gb299, gb300, gb301, m9_, m10_, m11_, ha, Q_BK291, Q_BK292, Q_HB, Q_NB300_299, Q_NB299_300, Q_NB301_299, Q_NB299_301, Q_NB301_300, Q_NB300_301, Q_BK299, Q_GW299, Q_GE299, Q_NB291_299, Q_NB299_291, Q_NB292_299, Q_NB299_292, Q_BK300, Q_GW300, Q_GE300, Q_NB291_300, Q_NB300_291, Q_NB292_300, Q_NB300_292, Q_BK301, Q_GW301, Q_GE301, Q_NB291_301, Q_NB301_291, Q_NB292_301, Q_NB301_292, Q_BK299_e12, Q_BK300_e13, Q_BK301_e14, Q_X9_, Q_X10_, Q_X11_⟩ hb_ hon hoff; refine ⟨_, rfl, fun K hK => ?_⟩; have e6 : a.tmps[6]? = some (m10_) := by rw [ha]; exact putSel_on (e := (10, 6, m10_)) 10 rfl rfl (hon 10 (by kernel_rfl)) rfl
    rw [Q_X10_ (hon 10 (by kernel_rfl))] at e6; have e23 : a.tmps[23]? = some (.agg #[.int .i64 t295, .int .i64 t296]) := by rw [ha]; exact putSel_on (e := (5, 23, .agg #[.int .i64 t295, .int .i64 t296])) 5 rfl rfl (hon 5 (by kernel_rfl)) rfl
    replace ha := Aside0.mk ha; have BK291 := Aside0.mk Q_BK291; have BK292 := Aside0.mk Q_BK292; have HB := Aside0.mk Q_HB; have NB300_299 := Aside0.mk (Q_NB300_299 (hon 9 (by kernel_rfl)) (hon 10 (by kernel_rfl))); have NB299_300 := Aside0.mk (Q_NB299_300 (hon 9 (by kernel_rfl)) (hon 10 (by kernel_rfl))); have NB301_299 := Aside0.mk (Q_NB301_299 (hon 9 (by kernel_rfl)) (hon 11 (by kernel_rfl))); have NB299_301 := Aside0.mk (Q_NB299_301 (hon 9 (by kernel_rfl)) (hon 11 (by kernel_rfl))); have NB301_300 := Aside0.mk (Q_NB301_300 (hon 10 (by kernel_rfl)) (hon 11 (by kernel_rfl))); have NB300_301 := Aside0.mk (Q_NB300_301 (hon 10 (by kernel_rfl)) (hon 11 (by kernel_rfl))); have GW299 := Aside0.mk (Q_GW299 (hon 9 (by kernel_rfl))); have GE299 := Aside0.mk (Q_GE299 (hon 9 (by kernel_rfl))); have NB291_299 := Aside0.mk (Q_NB291_299 (hon 9 (by kernel_rfl))); have NB299_291 := Aside0.mk (Q_NB299_291 (hon 9 (by kernel_rfl))); have NB292_299 := Aside0.mk (Q_NB292_299 (hon 9 (by kernel_rfl))); have NB299_292 := Aside0.mk (Q_NB299_292 (hon 9 (by kernel_rfl))); have BK300 := Aside0.mk (Q_BK300 (hon 10 (by kernel_rfl)) hb_); have GW300 := Aside0.mk (Q_GW300 (hon 10 (by kernel_rfl))); have GE300 := Aside0.mk (Q_GE300 (hon 10 (by kernel_rfl))); have NB291_300 := Aside0.mk (Q_NB291_300 (hon 10 (by kernel_rfl))); have NB300_291 := Aside0.mk (Q_NB300_291 (hon 10 (by kernel_rfl))); have NB292_300 := Aside0.mk (Q_NB292_300 (hon 10 (by kernel_rfl))); have NB300_292 := Aside0.mk (Q_NB300_292 (hon 10 (by kernel_rfl))); have BK301 := Aside0.mk (Q_BK301 (hon 11 (by kernel_rfl)) (hoff 14 (by kernel_rfl))); have GW301 := Aside0.mk (Q_GW301 (hon 11 (by kernel_rfl))); have GE301 := Aside0.mk (Q_GE301 (hon 11 (by kernel_rfl))); have NB291_301 := Aside0.mk (Q_NB291_301 (hon 11 (by kernel_rfl))); have NB301_291 := Aside0.mk (Q_NB301_291 (hon 11 (by kernel_rfl))); have NB292_301 := Aside0.mk (Q_NB292_301 (hon 11 (by kernel_rfl))); have NB301_292 := Aside0.mk (Q_NB301_292 (hon 11 (by kernel_rfl))); have BK299 := Aside0.mk (Q_BK299_e12 (hon 12 (by kernel_rfl))); have hs26 : w'.cell? ⟨gb300, 0, none⟩ = some (.int .i64 0) := (blk_cell BK300.out 0).trans rfl; have hfs26 := blk_frozen BK300.out 0; have hns26_0 := NB291_300.out; have hns26_1 := NB292_300.out; have hns26_2 := NB299_300.out; have hns26_4 := NB301_300.out; have hms26_0 := NB300_291.out; have hms26_1 := NB300_292.out; have hms26_2 := NB300_299.out; have hms26_4 := NB300_301.out; have hs27 : w'.cell? ⟨gb300, 1, none⟩ = some (.int .i64 0) := (blk_cell BK300.out 1).trans rfl; have hfs27 := blk_frozen BK300.out 1; have hns27_0 := NB291_300.out; have hns27_1 := NB292_300.out; have hns27_2 := NB299_300.out; have hns27_4 := NB301_300.out; have hms27_0 := NB300_291.out; have hms27_1 := NB300_292.out; have hms27_2 := NB300_299.out; have hms27_4 := NB300_301.out; refine skip_ (w1 := ?_) (by rfl) rfl ?_ ?_; rotate_left
    ·
     go_simp; rfl
    refine hK.out _ _ ⟨gb299, gb300, gb301, m9_, m10_, m11_, (by rw [ha.out]; exact putSel_none (v := undef) rfl), (bf_ BK291 NB291_300).out, (bf_ BK292 NB292_300).out, (sq_below5 HB.out GE291.out GE292.out GE299.out GE300.out GE301.out), fun _ _ => NB300_299.out, fun _ _ => NB299_300.out, fun _ _ => NB301_299.out, fun _ _ => NB299_301.out, fun _ _ => NB301_300.out, fun _ _ => NB300_301.out, fun _ h1_ => absurd ((hon 12 (by kernel_rfl)).symm.trans h1_) (by decide), fun _ => GW299.out, fun _ => GE299.out, fun _ => NB291_299.out, fun _ => NB299_291.out, fun _ => NB292_299.out, fun _ => NB299_292.out, fun _ h1_ => absurd ((up_self b 13).symm.trans h1_) (by decide), fun _ => GW300.out, fun _ => GE300.out, fun _ => NB291_300.out, fun _ => NB300_291.out, fun _ => NB292_300.out, fun _ => NB300_292.out, fun _ _ => (bf_ BK301 NB301_300).out, fun _ => GW301.out, fun _ => GE301.out, fun _ => NB291_301.out, fun _ => NB301_291.out, fun _ => NB292_301.out, fun _ => NB301_292.out, fun _ => (bf_ BK299 NB299_300).out, fun _ => (by (with_reducible repeat (first | refine blk_drewN ?_ _ | refine blk_drew ?_ | refine blk_alloc ?_ _)); refine blk_put (cs := #[.int .i64 t295, .int .i64 0]) ?_ 1 _ rfl; (with_reducible repeat (first | refine blk_drewN ?_ _ | refine blk_drew ?_ | refine blk_alloc ?_ _)); refine blk_put (cs := #[.int .i64 0, .int .i64 0]) ?_ 0 _ rfl; (with_reducible repeat (first | refine blk_drewN ?_ _ | refine blk_drew ?_ | refine blk_alloc ?_ _)); exact BK300.out), fun h0_ => absurd ((hoff 14 (by kernel_rfl)).symm.trans h0_) (by decide), Q_X9_, Q_X10_, Q_X11_⟩
   refine steps_cons ?_ ?_
   ·
    rintro b a w' ⟨gb299, gb300, gb301, m9_, m10_, m11_, ha, Q_BK291, Q_BK292, Q_HB, Q_NB300_299, Q_NB299_300, Q_NB301_299, Q_NB299_301, Q_NB301_300, Q_NB300_301, Q_BK299, Q_GW299, Q_GE299, Q_NB291_299, Q_NB299_291, Q_NB292_299, Q_NB299_292, Q_BK300, Q_GW300, Q_GE300, Q_NB291_300, Q_NB300_291, Q_NB292_300, Q_NB300_292, Q_BK301, Q_GW301, Q_GE301, Q_NB291_301, Q_NB301_291, Q_NB292_301, Q_NB301_292, Q_BK299_e12, Q_BK300_e13, Q_BK301_e14, Q_X9_, Q_X10_, Q_X11_⟩ hb_ hon hoff; refine ⟨_, rfl, fun K hK => ?_⟩; have e7 : a.tmps[7]? = some (m11_) := by rw [ha]; exact putSel_on (e := (11, 7, m11_)) 11 rfl rfl (hon 11 (by kernel_rfl)) rfl
    rw [Q_X11_ (hon 11 (by kernel_rfl))] at e7; have e26 : a.tmps[26]? = some (.agg #[.int .i64 t297, .int .i64 t298]) := by rw [ha]; exact putSel_on (e := (8, 26, .agg #[.int .i64 t297, .int .i64 t298])) 8 rfl rfl (hon 8 (by kernel_rfl)) rfl
    replace ha := Aside0.mk ha; have BK291 := Aside0.mk Q_BK291; have BK292 := Aside0.mk Q_BK292; have HB := Aside0.mk Q_HB; have NB300_299 := Aside0.mk (Q_NB300_299 (hon 9 (by kernel_rfl)) (hon 10 (by kernel_rfl))); have NB299_300 := Aside0.mk (Q_NB299_300 (hon 9 (by kernel_rfl)) (hon 10 (by kernel_rfl))); have NB301_299 := Aside0.mk (Q_NB301_299 (hon 9 (by kernel_rfl)) (hon 11 (by kernel_rfl))); have NB299_301 := Aside0.mk (Q_NB299_301 (hon 9 (by kernel_rfl)) (hon 11 (by kernel_rfl))); have NB301_300 := Aside0.mk (Q_NB301_300 (hon 10 (by kernel_rfl)) (hon 11 (by kernel_rfl))); have NB300_301 := Aside0.mk (Q_NB300_301 (hon 10 (by kernel_rfl)) (hon 11 (by kernel_rfl))); have GW299 := Aside0.mk (Q_GW299 (hon 9 (by kernel_rfl))); have GE299 := Aside0.mk (Q_GE299 (hon 9 (by kernel_rfl))); have NB291_299 := Aside0.mk (Q_NB291_299 (hon 9 (by kernel_rfl))); have NB299_291 := Aside0.mk (Q_NB299_291 (hon 9 (by kernel_rfl))); have NB292_299 := Aside0.mk (Q_NB292_299 (hon 9 (by kernel_rfl))); have NB299_292 := Aside0.mk (Q_NB299_292 (hon 9 (by kernel_rfl))); have GW300 := Aside0.mk (Q_GW300 (hon 10 (by kernel_rfl))); have GE300 := Aside0.mk (Q_GE300 (hon 10 (by kernel_rfl))); have NB291_300 := Aside0.mk (Q_NB291_300 (hon 10 (by kernel_rfl))); have NB300_291 := Aside0.mk (Q_NB300_291 (hon 10 (by kernel_rfl))); have NB292_300 := Aside0.mk (Q_NB292_300 (hon 10 (by kernel_rfl))); have NB300_292 := Aside0.mk (Q_NB300_292 (hon 10 (by kernel_rfl))); have BK301 := Aside0.mk (Q_BK301 (hon 11 (by kernel_rfl)) hb_); have GW301 := Aside0.mk (Q_GW301 (hon 11 (by kernel_rfl))); have GE301 := Aside0.mk (Q_GE301 (hon 11 (by kernel_rfl))); have NB291_301 := Aside0.mk (Q_NB291_301 (hon 11 (by kernel_rfl))); have NB301_291 := Aside0.mk (Q_NB301_291 (hon 11 (by kernel_rfl))); have NB292_301 := Aside0.mk (Q_NB292_301 (hon 11 (by kernel_rfl))); have NB301_292 := Aside0.mk (Q_NB301_292 (hon 11 (by kernel_rfl))); have BK299 := Aside0.mk (Q_BK299_e12 (hon 12 (by kernel_rfl))); have BK300 := Aside0.mk (Q_BK300_e13 (hon 13 (by kernel_rfl))); have hs28 : w'.cell? ⟨gb301, 0, none⟩ = some (.int .i64 0) := (blk_cell BK301.out 0).trans rfl; have hfs28 := blk_frozen BK301.out 0; have hns28_0 := NB291_301.out; have hns28_1 := NB292_301.out; have hns28_2 := NB299_301.out; have hns28_3 := NB300_301.out; have hms28_0 := NB301_291.out; have hms28_1 := NB301_292.out; have hms28_2 := NB301_299.out; have hms28_3 := NB301_300.out; have hs29 : w'.cell? ⟨gb301, 1, none⟩ = some (.int .i64 0) := (blk_cell BK301.out 1).trans rfl; have hfs29 := blk_frozen BK301.out 1; have hns29_0 := NB291_301.out; have hns29_1 := NB292_301.out; have hns29_2 := NB299_301.out; have hns29_3 := NB300_301.out; have hms29_0 := NB301_291.out; have hms29_1 := NB301_292.out; have hms29_2 := NB301_299.out; have hms29_3 := NB301_300.out; refine skip_ (w1 := ?_) (by rfl) rfl ?_ ?_; rotate_left
    ·
     go_simp; rfl
    refine hK.out _ _ ⟨gb299, gb300, gb301, m9_, m10_, m11_, (by rw [ha.out]; exact putSel_none (v := undef) rfl), (bf_ BK291 NB291_301).out, (bf_ BK292 NB292_301).out, (sq_below5 HB.out GE291.out GE292.out GE299.out GE300.out GE301.out), fun _ _ => NB300_299.out, fun _ _ => NB299_300.out, fun _ _ => NB301_299.out, fun _ _ => NB299_301.out, fun _ _ => NB301_300.out, fun _ _ => NB300_301.out, fun _ h1_ => absurd ((hon 12 (by kernel_rfl)).symm.trans h1_) (by decide), fun _ => GW299.out, fun _ => GE299.out, fun _ => NB291_299.out, fun _ => NB299_291.out, fun _ => NB292_299.out, fun _ => NB299_292.out, fun _ h1_ => absurd ((hon 13 (by kernel_rfl)).symm.trans h1_) (by decide), fun _ => GW300.out, fun _ => GE300.out, fun _ => NB291_300.out, fun _ => NB300_291.out, fun _ => NB292_300.out, fun _ => NB300_292.out, fun _ h1_ => absurd ((up_self b 14).symm.trans h1_) (by decide), fun _ => GW301.out, fun _ => GE301.out, fun _ => NB291_301.out, fun _ => NB301_291.out, fun _ => NB292_301.out, fun _ => NB301_292.out, fun _ => (bf_ BK299 NB299_301).out, fun _ => (bf_ BK300 NB300_301).out, fun _ => (by (with_reducible repeat (first | refine blk_drewN ?_ _ | refine blk_drew ?_ | refine blk_alloc ?_ _)); refine blk_put (cs := #[.int .i64 t297, .int .i64 0]) ?_ 1 _ rfl; (with_reducible repeat (first | refine blk_drewN ?_ _ | refine blk_drew ?_ | refine blk_alloc ?_ _)); refine blk_put (cs := #[.int .i64 0, .int .i64 0]) ?_ 0 _ rfl; (with_reducible repeat (first | refine blk_drewN ?_ _ | refine blk_drew ?_ | refine blk_alloc ?_ _)); exact BK301.out), Q_X9_, Q_X10_, Q_X11_⟩
   exact steps_nil
  rintro b a w29 hall ⟨gb299, gb300, gb301, m9_, m10_, m11_, ha, Q_BK291, Q_BK292, Q_HB, Q_NB300_299, Q_NB299_300, Q_NB301_299, Q_NB299_301, Q_NB301_300, Q_NB300_301, Q_BK299, Q_GW299, Q_GE299, Q_NB291_299, Q_NB299_291, Q_NB292_299, Q_NB299_292, Q_BK300, Q_GW300, Q_GE300, Q_NB291_300, Q_NB300_291, Q_NB292_300, Q_NB300_292, Q_BK301, Q_GW301, Q_GE301, Q_NB291_301, Q_NB301_291, Q_NB292_301, Q_NB301_292, Q_BK299_e12, Q_BK300_e13, Q_BK301_e14, Q_X9_, Q_X10_, Q_X11_⟩; clear BK291 BK292 HB; have hb0_ := hall 0 (by kernel_rfl); have hb1_ := hall 1 (by kernel_rfl); have hb2_ := hall 2 (by kernel_rfl); have hb3_ := hall 3 (by kernel_rfl); have hb4_ := hall 4 (by kernel_rfl); have hb5_ := hall 5 (by kernel_rfl); have hb6_ := hall 6 (by kernel_rfl); have hb7_ := hall 7 (by kernel_rfl); have hb8_ := hall 8 (by kernel_rfl); have hb9_ := hall 9 (by kernel_rfl); have hb10_ := hall 10 (by kernel_rfl); have hb11_ := hall 11 (by kernel_rfl); have hb12_ := hall 12 (by kernel_rfl); have hb13_ := hall 13 (by kernel_rfl); have hb14_ := hall 14 (by kernel_rfl); subst ha; obtain rfl := Q_X9_ hb9_; obtain rfl := Q_X10_ hb10_; obtain rfl := Q_X11_ hb11_; simp only [putSel, hb0_, hb1_, hb2_, hb3_, hb4_, hb5_, hb6_, hb7_, hb8_, hb9_, hb10_, hb11_, hb12_, hb13_, hb14_, if_true, Act.put, List.setIfInBounds_toArray, List.set_cons_zero, List.set_cons_succ]; have BK291 := Aside0.mk Q_BK291; clear Q_BK291; have BK292 := Aside0.mk Q_BK292; clear Q_BK292; have HB := Aside0.mk Q_HB; clear Q_HB; have NB300_299 := Aside0.mk (Q_NB300_299 hb9_ hb10_); clear Q_NB300_299; have NB299_300 := Aside0.mk (Q_NB299_300 hb9_ hb10_); clear Q_NB299_300; have NB301_299 := Aside0.mk (Q_NB301_299 hb9_ hb11_); clear Q_NB301_299; have NB299_301 := Aside0.mk (Q_NB299_301 hb9_ hb11_); clear Q_NB299_301; have NB301_300 := Aside0.mk (Q_NB301_300 hb10_ hb11_); clear Q_NB301_300; have NB300_301 := Aside0.mk (Q_NB300_301 hb10_ hb11_); clear Q_NB300_301 Q_BK299; have GW299 := Aside0.mk (Q_GW299 hb9_); clear Q_GW299; have GE299 := Aside0.mk (Q_GE299 hb9_); clear Q_GE299; have NB291_299 := Aside0.mk (Q_NB291_299 hb9_); clear Q_NB291_299; have NB299_291 := Aside0.mk (Q_NB299_291 hb9_); clear Q_NB299_291; have NB292_299 := Aside0.mk (Q_NB292_299 hb9_); clear Q_NB292_299; have NB299_292 := Aside0.mk (Q_NB299_292 hb9_); clear Q_NB299_292 Q_BK300; have GW300 := Aside0.mk (Q_GW300 hb10_); clear Q_GW300; have GE300 := Aside0.mk (Q_GE300 hb10_); clear Q_GE300; have NB291_300 := Aside0.mk (Q_NB291_300 hb10_); clear Q_NB291_300; have NB300_291 := Aside0.mk (Q_NB300_291 hb10_); clear Q_NB300_291; have NB292_300 := Aside0.mk (Q_NB292_300 hb10_); clear Q_NB292_300; have NB300_292 := Aside0.mk (Q_NB300_292 hb10_); clear Q_NB300_292 Q_BK301; have GW301 := Aside0.mk (Q_GW301 hb11_); clear Q_GW301; have GE301 := Aside0.mk (Q_GE301 hb11_); clear Q_GE301; have NB291_301 := Aside0.mk (Q_NB291_301 hb11_); clear Q_NB291_301; have NB301_291 := Aside0.mk (Q_NB301_291 hb11_); clear Q_NB301_291; have NB292_301 := Aside0.mk (Q_NB292_301 hb11_); clear Q_NB292_301; have NB301_292 := Aside0.mk (Q_NB301_292 hb11_); clear Q_NB301_292; have BK299 := Aside0.mk (Q_BK299_e12 hb12_); clear Q_BK299_e12; have BK300 := Aside0.mk (Q_BK300_e13 hb13_); clear Q_BK300_e13; have BK301 := Aside0.mk (Q_BK301_e14 hb14_); clear Q_BK301_e14 hall hb0_ hb1_ hb2_ hb3_ hb4_ hb5_ hb6_ hb7_ hb8_ hb9_ hb10_ hb11_ hb12_ hb13_ hb14_
  go_upto_region 5 with (fail)
  go_cut [52] (fun v52 wc => ∃ (kq : Nat) (x52_7 : Bool), v52 = .bool x52_7 ∧ Aside0 (laws_FnRangeSums.j0 kq l0 x52_7 t287 t288 t289 t290 t293 t294 t295 t296 t297 t298 = some r) ∧ Aside0 (kq ≤ k) ∧ Aside0 (wc.heap[gb291]? = some (.cells #[.int .i64 t287, .int .i64 t288] 25 (0, 0))) ∧ Aside0 (wc.heap[gb292]? = some (.cells #[.int .i64 t289, .int .i64 t290] 25 (0, 0))) ∧ Aside0 (wc.heap[gb299]? = some (.cells #[.int .i64 t293, .int .i64 t294] 25 (0, 0))) ∧ Aside0 (wc.heap[gb300]? = some (.cells #[.int .i64 t295, .int .i64 t296] 25 (0, 0))) ∧ Aside0 (wc.heap[gb301]? = some (.cells #[.int .i64 t297, .int .i64 t298] 25 (0, 0))) ∧ Aside0 (Below w.heap.size w wc))
  case first =>
   have H := HC8.out; clear HC8; replace H := Option.bind_eq_some_iff.mp H; obtain ⟨⟨t302, t303⟩, A300, H⟩ := H; (try dsimp only at H); have A30 := Aside0.mk A300; clear A300
   by_cases c31 : (!(t293 == t302) || (!(t294 == t303))) = true
   ·
    rw [if_pos c31] at H; have c31b0 : (!(t293 == t302) || (!(t294 == t303))) = true := c31; clear c31
    (first | rw [c31b0] | (simp only [i64_w, i32_w]; rw [c31b0]) | skip)
    have H' := Aside0.mk H; clear H
    try go_wp2
    replace BK291 := bd_ BK291; replace BK292 := bd_ BK292; replace BK299 := bd_ BK299; replace BK300 := bd_ BK300; replace BK301 := bd_ BK301; replace HB := hd_ HB; refine start_ (n := 26) (S := fun w' => w'.cell? ⟨gb299, 0, none⟩ = some (.int .i64 t293) ∧ w'.cell? ⟨gb299, 1, none⟩ = some (.int .i64 t294) ∧ w'.cell? ⟨gb291, 0, none⟩ = some (.int .i64 t287) ∧ w'.cell? ⟨gb291, 1, none⟩ = some (.int .i64 t288) ∧ w'.cell? ⟨gb292, 0, none⟩ = some (.int .i64 t289) ∧ w'.cell? ⟨gb292, 1, none⟩ = some (.int .i64 t290)) (ds := []) laws_FnRangeSums.b0_ (by kernel_rfl) rfl rfl ⟨cl_ BK299 0, cl_ BK299 1, cl_ BK291 0, cl_ BK291 1, cl_ BK292 0, cl_ BK292 1⟩ (fun hHeld => ?_); refine with_tabW laws_FnRangeSums.tab5 laws_FnRangeSums.bits5 (fun HT_ HW_ => ?_); generalize w29.drew = w32 at BK291 BK292 BK299 BK300 BK301 HB hHeld ⊢; refine take_y 0 (some 27) laws_FnRangeSums.b1_ rfl (take_ofW HT_.out HW_.out (by kernel_rfl)) hHeld (Or.inl ⟨by rfl, (by rintro w' ⟨s0, s1, s2, s3, s4, s5⟩; go_simp; with_reducible rfl)⟩) (h := ?_)
    refine take_y 1 (some 28) laws_FnRangeSums.b2_ rfl (take_ofW HT_.out HW_.out (by kernel_rfl)) hHeld (Or.inl ⟨by rfl, (by rintro w' ⟨s0, s1, s2, s3, s4, s5⟩; go_simp; with_reducible rfl)⟩) (h := ?_)
    refine take_y 2 (some 29) laws_FnRangeSums.b3_ rfl (take_ofW HT_.out HW_.out (by kernel_rfl)) hHeld (Or.inl ⟨by rfl, (by rintro w' ⟨s0, s1, s2, s3, s4, s5⟩; go_simp; with_reducible rfl)⟩) (h := ?_)
    refine one_ (i := 3) (N := some 30) laws_FnRangeSums.b4_ rfl rfl (one_of HT_.out (by kernel_rfl)) (by decide) (fun K hK => ?_); refine gs_ Tryd.func11 #[.agg #[.int .i64 t287, .int .i64 t288], .agg #[.int .i64 t289, .int .i64 t290]] (h := ?_); with_reducible refine (spec_RangeAdd.calls t287 t288 t289 t290 t302 t303 _ A30.out).mono ?_
    rintro e w33 ⟨rfl, hb⟩; refine ⟨_, rfl, ?_⟩; replace BK291 := bb_ BK291 hb; replace BK292 := bb_ BK292 hb; replace BK299 := bb_ BK299 hb; replace BK300 := bb_ BK300 hb; replace BK301 := bb_ BK301 hb; replace HB := hb5_ HB hb GE291 GE292 GE299 GE300 GE301
    (try clear hb)
    (try clear hb2)
    (try clear hk)
    (try clear hi)
    refine hK.out _ _ ⟨cl_ BK299 0, cl_ BK299 1, cl_ BK291 0, cl_ BK291 1, cl_ BK292 0, cl_ BK292 1⟩ (fun hHeld => ?_); clear hK K; refine norm_ (a' := ?_) ?_ ?_; rotate_left
    ·
     show Act.put _ (some 30) _ = _; simp only [Act.put, List.setIfInBounds_toArray, List.set_cons_zero, List.set_cons_succ, i64_w, i32_w]; rfl
    refine pure_y 4 (some 31) laws_FnRangeSums.b5_ (any_of HT_.out (by kernel_rfl)) (h := ?_)
    refine pure_y 5 (some 32) laws_FnRangeSums.b6_ (any_of HT_.out (by kernel_rfl)) (h := ?_)
    refine pure_n 6 (some 33) laws_FnRangeSums.b7_ (any_of HT_.out (by kernel_rfl)) (h := ?_)
    refine pure_n 7 (some 34) laws_FnRangeSums.b8_ (any_of HT_.out (by kernel_rfl)) (h := ?_)
    refine pure_n 8 (some 35) laws_FnRangeSums.b9_ (any_of HT_.out (by kernel_rfl)) (h := ?_)
    refine pure_n 9 (some 36) laws_FnRangeSums.b10_ (any_of HT_.out (by kernel_rfl)) (h := ?_)
    refine pure_n 10 (some 37) laws_FnRangeSums.b11_ (any_of HT_.out (by kernel_rfl)) (h := ?_)
    refine pure_y 11 (some 38) laws_FnRangeSums.b12_ (any_of HT_.out (by kernel_rfl)) (h := ?_)
    refine pure_y 12 (some 39) laws_FnRangeSums.b13_ (any_of HT_.out (by kernel_rfl)) (h := ?_)
    refine pure_n 13 (some 40) laws_FnRangeSums.b14_ (any_of HT_.out (by kernel_rfl)) (h := ?_)
    refine pure_n 14 (some 41) laws_FnRangeSums.b15_ (any_of HT_.out (by kernel_rfl)) (h := ?_)
    refine pure_n 15 (some 42) laws_FnRangeSums.b16_ (any_of HT_.out (by kernel_rfl)) (h := ?_)
    refine pure_n 16 (some 43) laws_FnRangeSums.b17_ (any_of HT_.out (by kernel_rfl)) (h := ?_)
    refine pure_n 17 (some 44) laws_FnRangeSums.b18_ (any_of HT_.out (by kernel_rfl)) (h := ?_)
    refine pure_y 18 (some 45) laws_FnRangeSums.b19_ (any_of HT_.out (by kernel_rfl)) (h := ?_)
    refine pure_y 19 (some 46) laws_FnRangeSums.b20_ (any_of HT_.out (by kernel_rfl)) (h := ?_)
    refine pure_n 20 (some 47) laws_FnRangeSums.b21_ (any_of HT_.out (by kernel_rfl)) (h := ?_)
    refine pure_n 21 (some 48) laws_FnRangeSums.b22_ (any_of HT_.out (by kernel_rfl)) (h := ?_)
    refine pure_n 22 (some 49) laws_FnRangeSums.b23_ (any_of HT_.out (by kernel_rfl)) (h := ?_)
    refine pure_n 23 (some 50) laws_FnRangeSums.b24_ (any_of HT_.out (by kernel_rfl)) (h := ?_)
    refine pure_n 24 (some 51) laws_FnRangeSums.b25_ (any_of HT_.out (by kernel_rfl)) (h := ?_)
    refine pure_y 25 (some 52) laws_FnRangeSums.b26_ (any_of HT_.out (by kernel_rfl)) (h := ?_)
    refine done_ (done_of HT_.out (by kernel_rfl)) ?_
    try go_wp2
    go_meet
    case rel => exact ⟨_, (true), (by first | rfl | (simp; done) | (simp [*]; done)), H', ⟨by first | omega | exact Nat.le_refl _⟩, bk_ BK291, bk_ BK292, bk_ BK299, bk_ BK300, bk_ BK301, ⟨by repeat (first | (with_reducible first | exact HB.out | apply below_alloc | apply pw_below_drewN | apply below_drew1 | refine below_set ?_ GE291.out | refine below_set ?_ GE292.out | refine below_set ?_ GE299.out | refine below_set ?_ GE300.out | refine below_set ?_ GE301.out) | exact HB.out)⟩⟩
   ·
    rw [if_neg c31] at H; have c31b0 : (!(t293 == t302) || (!(t294 == t303))) = false := by simpa using c31
    clear c31
    (first | rw [c31b0] | (simp only [i64_w, i32_w]; rw [c31b0]) | skip)
    replace H := Option.bind_eq_some_iff.mp H; obtain ⟨⟨t304, t305⟩, A340, H⟩ := H; (try dsimp only at H); have A34 := Aside0.mk A340; clear A340
    by_cases c35 : (!(t295 == t304) || (!(t296 == t305))) = true
    ·
     rw [if_pos c35] at H; have c35b0 : (!(t295 == t304) || (!(t296 == t305))) = true := c35; clear c35; have H' := Aside0.mk H; clear H
     try go_wp2
     replace BK291 := bd_ BK291; replace BK292 := bd_ BK292; replace BK299 := bd_ BK299; replace BK300 := bd_ BK300; replace BK301 := bd_ BK301; replace HB := hd_ HB; refine start_ (n := 26) (S := fun w' => w'.cell? ⟨gb299, 0, none⟩ = some (.int .i64 t293) ∧ w'.cell? ⟨gb299, 1, none⟩ = some (.int .i64 t294) ∧ w'.cell? ⟨gb291, 0, none⟩ = some (.int .i64 t287) ∧ w'.cell? ⟨gb291, 1, none⟩ = some (.int .i64 t288) ∧ w'.cell? ⟨gb292, 0, none⟩ = some (.int .i64 t289) ∧ w'.cell? ⟨gb292, 1, none⟩ = some (.int .i64 t290) ∧ w'.cell? ⟨gb300, 0, none⟩ = some (.int .i64 t295) ∧ w'.cell? ⟨gb300, 1, none⟩ = some (.int .i64 t296)) (ds := []) laws_FnRangeSums.b0_ (by kernel_rfl) rfl rfl ⟨cl_ BK299 0, cl_ BK299 1, cl_ BK291 0, cl_ BK291 1, cl_ BK292 0, cl_ BK292 1, cl_ BK300 0, cl_ BK300 1⟩ (fun hHeld => ?_); refine with_tabW laws_FnRangeSums.tab5 laws_FnRangeSums.bits5 (fun HT_ HW_ => ?_); generalize w29.drew = w36 at BK291 BK292 BK299 BK300 BK301 HB hHeld ⊢; refine take_y 0 (some 27) laws_FnRangeSums.b1_ rfl (take_ofW HT_.out HW_.out (by kernel_rfl)) hHeld (Or.inl ⟨by rfl, (by rintro w' ⟨s0, s1, s2, s3, s4, s5, s6, s7⟩; go_simp; with_reducible rfl)⟩) (h := ?_)
     refine take_y 1 (some 28) laws_FnRangeSums.b2_ rfl (take_ofW HT_.out HW_.out (by kernel_rfl)) hHeld (Or.inl ⟨by rfl, (by rintro w' ⟨s0, s1, s2, s3, s4, s5, s6, s7⟩; go_simp; with_reducible rfl)⟩) (h := ?_)
     refine take_y 2 (some 29) laws_FnRangeSums.b3_ rfl (take_ofW HT_.out HW_.out (by kernel_rfl)) hHeld (Or.inl ⟨by rfl, (by rintro w' ⟨s0, s1, s2, s3, s4, s5, s6, s7⟩; go_simp; with_reducible rfl)⟩) (h := ?_)
     refine one_ (i := 3) (N := some 30) laws_FnRangeSums.b4_ rfl rfl (one_of HT_.out (by kernel_rfl)) (by decide) (fun K hK => ?_); refine gs_ Tryd.func11 #[.agg #[.int .i64 t287, .int .i64 t288], .agg #[.int .i64 t289, .int .i64 t290]] (h := ?_); with_reducible refine (spec_RangeAdd.calls t287 t288 t289 t290 t302 t303 _ A30.out).mono ?_
     rintro e w37 ⟨rfl, hb⟩; refine ⟨_, rfl, ?_⟩; replace BK291 := bb_ BK291 hb; replace BK292 := bb_ BK292 hb; replace BK299 := bb_ BK299 hb; replace BK300 := bb_ BK300 hb; replace BK301 := bb_ BK301 hb; replace HB := hb5_ HB hb GE291 GE292 GE299 GE300 GE301
     (try clear hb)
     (try clear hb2)
     (try clear hk)
     (try clear hi)
     refine hK.out _ _ ⟨cl_ BK299 0, cl_ BK299 1, cl_ BK291 0, cl_ BK291 1, cl_ BK292 0, cl_ BK292 1, cl_ BK300 0, cl_ BK300 1⟩ (fun hHeld => ?_); clear hK K; refine norm_ (a' := ?_) ?_ ?_; rotate_left
     ·
      show Act.put _ (some 30) _ = _; simp only [Act.put, List.setIfInBounds_toArray, List.set_cons_zero, List.set_cons_succ, i64_w, i32_w]; rfl
     refine pure_y 4 (some 31) laws_FnRangeSums.b5_ (any_of HT_.out (by kernel_rfl)) (h := ?_)
     refine pure_y 5 (some 32) laws_FnRangeSums.b6_ (any_of HT_.out (by kernel_rfl)) (h := ?_)
     refine take_y 6 (some 33) laws_FnRangeSums.b7_ rfl (take_ofW HT_.out HW_.out (by kernel_rfl)) hHeld (Or.inl ⟨by rfl, (by rintro w' ⟨s0, s1, s2, s3, s4, s5, s6, s7⟩; go_simp; with_reducible rfl)⟩) (h := ?_)
     refine take_y 7 (some 34) laws_FnRangeSums.b8_ rfl (take_ofW HT_.out HW_.out (by kernel_rfl)) hHeld (Or.inl ⟨by rfl, (by rintro w' ⟨s0, s1, s2, s3, s4, s5, s6, s7⟩; go_simp; with_reducible rfl)⟩) (h := ?_)
     refine take_y 8 (some 35) laws_FnRangeSums.b9_ rfl (take_ofW HT_.out HW_.out (by kernel_rfl)) hHeld (Or.inl ⟨by rfl, (by rintro w' ⟨s0, s1, s2, s3, s4, s5, s6, s7⟩; go_simp; with_reducible rfl)⟩) (h := ?_)
     refine one_ (i := 9) (N := some 36) laws_FnRangeSums.b10_ rfl rfl (one_of HT_.out (by kernel_rfl)) (by decide) (fun K hK => ?_); refine gs_ Tryd.func12 #[.agg #[.int .i64 t287, .int .i64 t288], .agg #[.int .i64 t289, .int .i64 t290]] (h := ?_); with_reducible refine (spec_RangeSub.calls t287 t288 t289 t290 t304 t305 _ A34.out).mono ?_
     rintro e w38 ⟨rfl, hb⟩; refine ⟨_, rfl, ?_⟩; replace BK291 := bb_ BK291 hb; replace BK292 := bb_ BK292 hb; replace BK299 := bb_ BK299 hb; replace BK300 := bb_ BK300 hb; replace BK301 := bb_ BK301 hb; replace HB := hb5_ HB hb GE291 GE292 GE299 GE300 GE301
     (try clear hb)
     (try clear hb2)
     (try clear hk)
     (try clear hi)
     refine hK.out _ _ ⟨cl_ BK299 0, cl_ BK299 1, cl_ BK291 0, cl_ BK291 1, cl_ BK292 0, cl_ BK292 1, cl_ BK300 0, cl_ BK300 1⟩ (fun hHeld => ?_); clear hK K; refine norm_ (a' := ?_) ?_ ?_; rotate_left
     ·
      show Act.put _ (some 36) _ = _; simp only [Act.put, List.setIfInBounds_toArray, List.set_cons_zero, List.set_cons_succ, i64_w, i32_w]; rfl
     refine pure_y 10 (some 37) laws_FnRangeSums.b11_ (any_of HT_.out (by kernel_rfl)) (h := ?_)
     refine pure_y 11 (some 38) laws_FnRangeSums.b12_ (any_of HT_.out (by kernel_rfl)) (h := ?_)
     refine pure_y 12 (some 39) laws_FnRangeSums.b13_ (any_of HT_.out (by kernel_rfl)) (h := ?_)
     refine pure_n 13 (some 40) laws_FnRangeSums.b14_ (any_of HT_.out (by kernel_rfl)) (h := ?_)
     refine pure_n 14 (some 41) laws_FnRangeSums.b15_ (any_of HT_.out (by kernel_rfl)) (h := ?_)
     refine pure_n 15 (some 42) laws_FnRangeSums.b16_ (any_of HT_.out (by kernel_rfl)) (h := ?_)
     refine pure_n 16 (some 43) laws_FnRangeSums.b17_ (any_of HT_.out (by kernel_rfl)) (h := ?_)
     refine pure_n 17 (some 44) laws_FnRangeSums.b18_ (any_of HT_.out (by kernel_rfl)) (h := ?_)
     refine pure_y 18 (some 45) laws_FnRangeSums.b19_ (any_of HT_.out (by kernel_rfl)) (h := ?_)
     refine pure_y 19 (some 46) laws_FnRangeSums.b20_ (any_of HT_.out (by kernel_rfl)) (h := ?_)
     refine pure_n 20 (some 47) laws_FnRangeSums.b21_ (any_of HT_.out (by kernel_rfl)) (h := ?_)
     refine pure_n 21 (some 48) laws_FnRangeSums.b22_ (any_of HT_.out (by kernel_rfl)) (h := ?_)
     refine pure_n 22 (some 49) laws_FnRangeSums.b23_ (any_of HT_.out (by kernel_rfl)) (h := ?_)
     refine pure_n 23 (some 50) laws_FnRangeSums.b24_ (any_of HT_.out (by kernel_rfl)) (h := ?_)
     refine pure_n 24 (some 51) laws_FnRangeSums.b25_ (any_of HT_.out (by kernel_rfl)) (h := ?_)
     refine pure_y 25 (some 52) laws_FnRangeSums.b26_ (any_of HT_.out (by kernel_rfl)) (h := ?_)
     refine done_ (done_of HT_.out (by kernel_rfl)) ?_
     try go_wp2
     go_meet
     case rel => exact ⟨_, (true), (by first | rfl | (simp; done) | (simp [*]; done)), H', ⟨by first | omega | exact Nat.le_refl _⟩, bk_ BK291, bk_ BK292, bk_ BK299, bk_ BK300, bk_ BK301, ⟨by repeat (first | (with_reducible first | exact HB.out | apply below_alloc | apply pw_below_drewN | apply below_drew1 | refine below_set ?_ GE291.out | refine below_set ?_ GE292.out | refine below_set ?_ GE299.out | refine below_set ?_ GE300.out | refine below_set ?_ GE301.out) | exact HB.out)⟩⟩
    ·
     rw [if_neg c35] at H; have c35b0 : (!(t295 == t304) || (!(t296 == t305))) = false := by simpa using c35
     clear c35; replace H := Option.bind_eq_some_iff.mp H; obtain ⟨⟨t306, t307⟩, A390, H⟩ := H; (try dsimp only at H); have A39 := Aside0.mk A390; clear A390
     by_cases c40 : (!(t297 == t306) || (!(t298 == t307))) = true
     ·
      rw [if_pos c40] at H; have c40b0 : (!(t297 == t306) || (!(t298 == t307))) = true := c40; clear c40; have H' := Aside0.mk H; clear H
      try go_wp2
      replace BK291 := bd_ BK291; replace BK292 := bd_ BK292; replace BK299 := bd_ BK299; replace BK300 := bd_ BK300; replace BK301 := bd_ BK301; replace HB := hd_ HB; refine start_ (n := 26) (S := fun w' => w'.cell? ⟨gb299, 0, none⟩ = some (.int .i64 t293) ∧ w'.cell? ⟨gb299, 1, none⟩ = some (.int .i64 t294) ∧ w'.cell? ⟨gb291, 0, none⟩ = some (.int .i64 t287) ∧ w'.cell? ⟨gb291, 1, none⟩ = some (.int .i64 t288) ∧ w'.cell? ⟨gb292, 0, none⟩ = some (.int .i64 t289) ∧ w'.cell? ⟨gb292, 1, none⟩ = some (.int .i64 t290) ∧ w'.cell? ⟨gb300, 0, none⟩ = some (.int .i64 t295) ∧ w'.cell? ⟨gb300, 1, none⟩ = some (.int .i64 t296) ∧ w'.cell? ⟨gb301, 0, none⟩ = some (.int .i64 t297) ∧ w'.cell? ⟨gb301, 1, none⟩ = some (.int .i64 t298)) (ds := []) laws_FnRangeSums.b0_ (by kernel_rfl) rfl rfl ⟨cl_ BK299 0, cl_ BK299 1, cl_ BK291 0, cl_ BK291 1, cl_ BK292 0, cl_ BK292 1, cl_ BK300 0, cl_ BK300 1, cl_ BK301 0, cl_ BK301 1⟩ (fun hHeld => ?_); refine with_tabW laws_FnRangeSums.tab5 laws_FnRangeSums.bits5 (fun HT_ HW_ => ?_); generalize w29.drew = w41 at BK291 BK292 BK299 BK300 BK301 HB hHeld ⊢; refine take_y 0 (some 27) laws_FnRangeSums.b1_ rfl (take_ofW HT_.out HW_.out (by kernel_rfl)) hHeld (Or.inl ⟨by rfl, (by rintro w' ⟨s0, s1, s2, s3, s4, s5, s6, s7, s8, s9⟩; go_simp; with_reducible rfl)⟩) (h := ?_)
      refine take_y 1 (some 28) laws_FnRangeSums.b2_ rfl (take_ofW HT_.out HW_.out (by kernel_rfl)) hHeld (Or.inl ⟨by rfl, (by rintro w' ⟨s0, s1, s2, s3, s4, s5, s6, s7, s8, s9⟩; go_simp; with_reducible rfl)⟩) (h := ?_)
      refine take_y 2 (some 29) laws_FnRangeSums.b3_ rfl (take_ofW HT_.out HW_.out (by kernel_rfl)) hHeld (Or.inl ⟨by rfl, (by rintro w' ⟨s0, s1, s2, s3, s4, s5, s6, s7, s8, s9⟩; go_simp; with_reducible rfl)⟩) (h := ?_)
      refine one_ (i := 3) (N := some 30) laws_FnRangeSums.b4_ rfl rfl (one_of HT_.out (by kernel_rfl)) (by decide) (fun K hK => ?_); refine gs_ Tryd.func11 #[.agg #[.int .i64 t287, .int .i64 t288], .agg #[.int .i64 t289, .int .i64 t290]] (h := ?_); with_reducible refine (spec_RangeAdd.calls t287 t288 t289 t290 t302 t303 _ A30.out).mono ?_
      rintro e w42 ⟨rfl, hb⟩; refine ⟨_, rfl, ?_⟩; replace BK291 := bb_ BK291 hb; replace BK292 := bb_ BK292 hb; replace BK299 := bb_ BK299 hb; replace BK300 := bb_ BK300 hb; replace BK301 := bb_ BK301 hb; replace HB := hb5_ HB hb GE291 GE292 GE299 GE300 GE301
      (try clear hb)
      (try clear hb2)
      (try clear hk)
      (try clear hi)
      refine hK.out _ _ ⟨cl_ BK299 0, cl_ BK299 1, cl_ BK291 0, cl_ BK291 1, cl_ BK292 0, cl_ BK292 1, cl_ BK300 0, cl_ BK300 1, cl_ BK301 0, cl_ BK301 1⟩ (fun hHeld => ?_); clear hK K; refine norm_ (a' := ?_) ?_ ?_; rotate_left
      ·
       show Act.put _ (some 30) _ = _; simp only [Act.put, List.setIfInBounds_toArray, List.set_cons_zero, List.set_cons_succ, i64_w, i32_w]; rfl
      refine pure_y 4 (some 31) laws_FnRangeSums.b5_ (any_of HT_.out (by kernel_rfl)) (h := ?_)
      refine pure_y 5 (some 32) laws_FnRangeSums.b6_ (any_of HT_.out (by kernel_rfl)) (h := ?_)
      refine take_y 6 (some 33) laws_FnRangeSums.b7_ rfl (take_ofW HT_.out HW_.out (by kernel_rfl)) hHeld (Or.inl ⟨by rfl, (by rintro w' ⟨s0, s1, s2, s3, s4, s5, s6, s7, s8, s9⟩; go_simp; with_reducible rfl)⟩) (h := ?_)
      refine take_y 7 (some 34) laws_FnRangeSums.b8_ rfl (take_ofW HT_.out HW_.out (by kernel_rfl)) hHeld (Or.inl ⟨by rfl, (by rintro w' ⟨s0, s1, s2, s3, s4, s5, s6, s7, s8, s9⟩; go_simp; with_reducible rfl)⟩) (h := ?_)
      refine take_y 8 (some 35) laws_FnRangeSums.b9_ rfl (take_ofW HT_.out HW_.out (by kernel_rfl)) hHeld (Or.inl ⟨by rfl, (by rintro w' ⟨s0, s1, s2, s3, s4, s5, s6, s7, s8, s9⟩; go_simp; with_reducible rfl)⟩) (h := ?_)
      refine one_ (i := 9) (N := some 36) laws_FnRangeSums.b10_ rfl rfl (one_of HT_.out (by kernel_rfl)) (by decide) (fun K hK => ?_); refine gs_ Tryd.func12 #[.agg #[.int .i64 t287, .int .i64 t288], .agg #[.int .i64 t289, .int .i64 t290]] (h := ?_); with_reducible refine (spec_RangeSub.calls t287 t288 t289 t290 t304 t305 _ A34.out).mono ?_
      rintro e w43 ⟨rfl, hb⟩; refine ⟨_, rfl, ?_⟩; replace BK291 := bb_ BK291 hb; replace BK292 := bb_ BK292 hb; replace BK299 := bb_ BK299 hb; replace BK300 := bb_ BK300 hb; replace BK301 := bb_ BK301 hb; replace HB := hb5_ HB hb GE291 GE292 GE299 GE300 GE301
      (try clear hb)
      (try clear hb2)
      (try clear hk)
      (try clear hi)
      refine hK.out _ _ ⟨cl_ BK299 0, cl_ BK299 1, cl_ BK291 0, cl_ BK291 1, cl_ BK292 0, cl_ BK292 1, cl_ BK300 0, cl_ BK300 1, cl_ BK301 0, cl_ BK301 1⟩ (fun hHeld => ?_); clear hK K; refine norm_ (a' := ?_) ?_ ?_; rotate_left
      ·
       show Act.put _ (some 36) _ = _; simp only [Act.put, List.setIfInBounds_toArray, List.set_cons_zero, List.set_cons_succ, i64_w, i32_w]; rfl
      refine pure_y 10 (some 37) laws_FnRangeSums.b11_ (any_of HT_.out (by kernel_rfl)) (h := ?_)
      refine pure_y 11 (some 38) laws_FnRangeSums.b12_ (any_of HT_.out (by kernel_rfl)) (h := ?_)
      refine pure_y 12 (some 39) laws_FnRangeSums.b13_ (any_of HT_.out (by kernel_rfl)) (h := ?_)
      refine take_y 13 (some 40) laws_FnRangeSums.b14_ rfl (take_ofW HT_.out HW_.out (by kernel_rfl)) hHeld (Or.inl ⟨by rfl, (by rintro w' ⟨s0, s1, s2, s3, s4, s5, s6, s7, s8, s9⟩; go_simp; with_reducible rfl)⟩) (h := ?_)
      refine take_y 14 (some 41) laws_FnRangeSums.b15_ rfl (take_ofW HT_.out HW_.out (by kernel_rfl)) hHeld (Or.inl ⟨by rfl, (by rintro w' ⟨s0, s1, s2, s3, s4, s5, s6, s7, s8, s9⟩; go_simp; with_reducible rfl)⟩) (h := ?_)
      refine take_y 15 (some 42) laws_FnRangeSums.b16_ rfl (take_ofW HT_.out HW_.out (by kernel_rfl)) hHeld (Or.inl ⟨by rfl, (by rintro w' ⟨s0, s1, s2, s3, s4, s5, s6, s7, s8, s9⟩; go_simp; with_reducible rfl)⟩) (h := ?_)
      refine one_ (i := 16) (N := some 43) laws_FnRangeSums.b17_ rfl rfl (one_of HT_.out (by kernel_rfl)) (by decide) (fun K hK => ?_); refine gs_ Tryd.func13 #[.agg #[.int .i64 t287, .int .i64 t288], .agg #[.int .i64 t289, .int .i64 t290]] (h := ?_); with_reducible refine (spec_RangeMul.calls t287 t288 t289 t290 t306 t307 _ A39.out).mono ?_
      rintro e w44 ⟨rfl, hb⟩; refine ⟨_, rfl, ?_⟩; replace BK291 := bb_ BK291 hb; replace BK292 := bb_ BK292 hb; replace BK299 := bb_ BK299 hb; replace BK300 := bb_ BK300 hb; replace BK301 := bb_ BK301 hb; replace HB := hb5_ HB hb GE291 GE292 GE299 GE300 GE301
      (try clear hb)
      (try clear hb2)
      (try clear hk)
      (try clear hi)
      refine hK.out _ _ ⟨cl_ BK299 0, cl_ BK299 1, cl_ BK291 0, cl_ BK291 1, cl_ BK292 0, cl_ BK292 1, cl_ BK300 0, cl_ BK300 1, cl_ BK301 0, cl_ BK301 1⟩ (fun hHeld => ?_); clear hK K; refine norm_ (a' := ?_) ?_ ?_; rotate_left
      ·
       show Act.put _ (some 43) _ = _; simp only [Act.put, List.setIfInBounds_toArray, List.set_cons_zero, List.set_cons_succ, i64_w, i32_w]; rfl
      refine pure_y 17 (some 44) laws_FnRangeSums.b18_ (any_of HT_.out (by kernel_rfl)) (h := ?_)
      refine pure_y 18 (some 45) laws_FnRangeSums.b19_ (any_of HT_.out (by kernel_rfl)) (h := ?_)
      refine pure_y 19 (some 46) laws_FnRangeSums.b20_ (any_of HT_.out (by kernel_rfl)) (h := ?_)
      refine pure_n 20 (some 47) laws_FnRangeSums.b21_ (any_of HT_.out (by kernel_rfl)) (h := ?_)
      refine pure_n 21 (some 48) laws_FnRangeSums.b22_ (any_of HT_.out (by kernel_rfl)) (h := ?_)
      refine pure_n 22 (some 49) laws_FnRangeSums.b23_ (any_of HT_.out (by kernel_rfl)) (h := ?_)
      refine pure_n 23 (some 50) laws_FnRangeSums.b24_ (any_of HT_.out (by kernel_rfl)) (h := ?_)
      refine pure_n 24 (some 51) laws_FnRangeSums.b25_ (any_of HT_.out (by kernel_rfl)) (h := ?_)
      refine pure_y 25 (some 52) laws_FnRangeSums.b26_ (any_of HT_.out (by kernel_rfl)) (h := ?_)
      refine done_ (done_of HT_.out (by kernel_rfl)) ?_
      try go_wp2
      go_meet
      case rel => exact ⟨_, (true), (by first | rfl | (simp; done) | (simp [*]; done)), H', ⟨by first | omega | exact Nat.le_refl _⟩, bk_ BK291, bk_ BK292, bk_ BK299, bk_ BK300, bk_ BK301, ⟨by repeat (first | (with_reducible first | exact HB.out | apply below_alloc | apply pw_below_drewN | apply below_drew1 | refine below_set ?_ GE291.out | refine below_set ?_ GE292.out | refine below_set ?_ GE299.out | refine below_set ?_ GE300.out | refine below_set ?_ GE301.out) | exact HB.out)⟩⟩
     ·
      rw [if_neg c40] at H; have c40b0 : (!(t297 == t306) || (!(t298 == t307))) = false := by simpa using c40
      clear c40; replace H := Option.bind_eq_some_iff.mp H; obtain ⟨⟨t308, t309⟩, A450, H⟩ := H; (try dsimp only at H); have A45 := Aside0.mk A450; clear A450; replace H := Option.bind_eq_some_iff.mp H; obtain ⟨⟨t310, t311⟩, A460, H⟩ := H; (try dsimp only at H); have A46 := Aside0.mk A460; clear A460; have H' := Aside0.mk H; clear H
      try go_wp2
      replace BK291 := bd_ BK291; replace BK292 := bd_ BK292; replace BK299 := bd_ BK299; replace BK300 := bd_ BK300; replace BK301 := bd_ BK301; replace HB := hd_ HB; refine start_ (n := 26) (S := fun w' => w'.cell? ⟨gb299, 0, none⟩ = some (.int .i64 t293) ∧ w'.cell? ⟨gb299, 1, none⟩ = some (.int .i64 t294) ∧ w'.cell? ⟨gb291, 0, none⟩ = some (.int .i64 t287) ∧ w'.cell? ⟨gb291, 1, none⟩ = some (.int .i64 t288) ∧ w'.cell? ⟨gb292, 0, none⟩ = some (.int .i64 t289) ∧ w'.cell? ⟨gb292, 1, none⟩ = some (.int .i64 t290) ∧ w'.cell? ⟨gb300, 0, none⟩ = some (.int .i64 t295) ∧ w'.cell? ⟨gb300, 1, none⟩ = some (.int .i64 t296) ∧ w'.cell? ⟨gb301, 0, none⟩ = some (.int .i64 t297) ∧ w'.cell? ⟨gb301, 1, none⟩ = some (.int .i64 t298)) (ds := []) laws_FnRangeSums.b0_ (by kernel_rfl) rfl rfl ⟨cl_ BK299 0, cl_ BK299 1, cl_ BK291 0, cl_ BK291 1, cl_ BK292 0, cl_ BK292 1, cl_ BK300 0, cl_ BK300 1, cl_ BK301 0, cl_ BK301 1⟩ (fun hHeld => ?_); refine with_tabW laws_FnRangeSums.tab5 laws_FnRangeSums.bits5 (fun HT_ HW_ => ?_); generalize w29.drew = w47 at BK291 BK292 BK299 BK300 BK301 HB hHeld ⊢; refine take_y 0 (some 27) laws_FnRangeSums.b1_ rfl (take_ofW HT_.out HW_.out (by kernel_rfl)) hHeld (Or.inl ⟨by rfl, (by rintro w' ⟨s0, s1, s2, s3, s4, s5, s6, s7, s8, s9⟩; go_simp; with_reducible rfl)⟩) (h := ?_)
      refine take_y 1 (some 28) laws_FnRangeSums.b2_ rfl (take_ofW HT_.out HW_.out (by kernel_rfl)) hHeld (Or.inl ⟨by rfl, (by rintro w' ⟨s0, s1, s2, s3, s4, s5, s6, s7, s8, s9⟩; go_simp; with_reducible rfl)⟩) (h := ?_)
      refine take_y 2 (some 29) laws_FnRangeSums.b3_ rfl (take_ofW HT_.out HW_.out (by kernel_rfl)) hHeld (Or.inl ⟨by rfl, (by rintro w' ⟨s0, s1, s2, s3, s4, s5, s6, s7, s8, s9⟩; go_simp; with_reducible rfl)⟩) (h := ?_)
      refine one_ (i := 3) (N := some 30) laws_FnRangeSums.b4_ rfl rfl (one_of HT_.out (by kernel_rfl)) (by decide) (fun K hK => ?_); refine gs_ Tryd.func11 #[.agg #[.int .i64 t287, .int .i64 t288], .agg #[.int .i64 t289, .int .i64 t290]] (h := ?_); with_reducible refine (spec_RangeAdd.calls t287 t288 t289 t290 t302 t303 _ A30.out).mono ?_
      rintro e w48 ⟨rfl, hb⟩; refine ⟨_, rfl, ?_⟩; replace BK291 := bb_ BK291 hb; replace BK292 := bb_ BK292 hb; replace BK299 := bb_ BK299 hb; replace BK300 := bb_ BK300 hb; replace BK301 := bb_ BK301 hb; replace HB := hb5_ HB hb GE291 GE292 GE299 GE300 GE301
      (try clear hb)
      (try clear hb2)
      (try clear hk)
      (try clear hi)
      refine hK.out _ _ ⟨cl_ BK299 0, cl_ BK299 1, cl_ BK291 0, cl_ BK291 1, cl_ BK292 0, cl_ BK292 1, cl_ BK300 0, cl_ BK300 1, cl_ BK301 0, cl_ BK301 1⟩ (fun hHeld => ?_); clear hK K; refine norm_ (a' := ?_) ?_ ?_; rotate_left
      ·
       show Act.put _ (some 30) _ = _; simp only [Act.put, List.setIfInBounds_toArray, List.set_cons_zero, List.set_cons_succ, i64_w, i32_w]; rfl
      refine pure_y 4 (some 31) laws_FnRangeSums.b5_ (any_of HT_.out (by kernel_rfl)) (h := ?_)
      refine pure_y 5 (some 32) laws_FnRangeSums.b6_ (any_of HT_.out (by kernel_rfl)) (h := ?_)
      refine take_y 6 (some 33) laws_FnRangeSums.b7_ rfl (take_ofW HT_.out HW_.out (by kernel_rfl)) hHeld (Or.inl ⟨by rfl, (by rintro w' ⟨s0, s1, s2, s3, s4, s5, s6, s7, s8, s9⟩; go_simp; with_reducible rfl)⟩) (h := ?_)
      refine take_y 7 (some 34) laws_FnRangeSums.b8_ rfl (take_ofW HT_.out HW_.out (by kernel_rfl)) hHeld (Or.inl ⟨by rfl, (by rintro w' ⟨s0, s1, s2, s3, s4, s5, s6, s7, s8, s9⟩; go_simp; with_reducible rfl)⟩) (h := ?_)
      refine take_y 8 (some 35) laws_FnRangeSums.b9_ rfl (take_ofW HT_.out HW_.out (by kernel_rfl)) hHeld (Or.inl ⟨by rfl, (by rintro w' ⟨s0, s1, s2, s3, s4, s5, s6, s7, s8, s9⟩; go_simp; with_reducible rfl)⟩) (h := ?_)
      refine one_ (i := 9) (N := some 36) laws_FnRangeSums.b10_ rfl rfl (one_of HT_.out (by kernel_rfl)) (by decide) (fun K hK => ?_); refine gs_ Tryd.func12 #[.agg #[.int .i64 t287, .int .i64 t288], .agg #[.int .i64 t289, .int .i64 t290]] (h := ?_); with_reducible refine (spec_RangeSub.calls t287 t288 t289 t290 t304 t305 _ A34.out).mono ?_
      rintro e w49 ⟨rfl, hb⟩; refine ⟨_, rfl, ?_⟩; replace BK291 := bb_ BK291 hb; replace BK292 := bb_ BK292 hb; replace BK299 := bb_ BK299 hb; replace BK300 := bb_ BK300 hb; replace BK301 := bb_ BK301 hb; replace HB := hb5_ HB hb GE291 GE292 GE299 GE300 GE301
      (try clear hb)
      (try clear hb2)
      (try clear hk)
      (try clear hi)
      refine hK.out _ _ ⟨cl_ BK299 0, cl_ BK299 1, cl_ BK291 0, cl_ BK291 1, cl_ BK292 0, cl_ BK292 1, cl_ BK300 0, cl_ BK300 1, cl_ BK301 0, cl_ BK301 1⟩ (fun hHeld => ?_); clear hK K; refine norm_ (a' := ?_) ?_ ?_; rotate_left
      ·
       show Act.put _ (some 36) _ = _; simp only [Act.put, List.setIfInBounds_toArray, List.set_cons_zero, List.set_cons_succ, i64_w, i32_w]; rfl
      refine pure_y 10 (some 37) laws_FnRangeSums.b11_ (any_of HT_.out (by kernel_rfl)) (h := ?_)
      refine pure_y 11 (some 38) laws_FnRangeSums.b12_ (any_of HT_.out (by kernel_rfl)) (h := ?_)
      refine pure_y 12 (some 39) laws_FnRangeSums.b13_ (any_of HT_.out (by kernel_rfl)) (h := ?_)
      refine take_y 13 (some 40) laws_FnRangeSums.b14_ rfl (take_ofW HT_.out HW_.out (by kernel_rfl)) hHeld (Or.inl ⟨by rfl, (by rintro w' ⟨s0, s1, s2, s3, s4, s5, s6, s7, s8, s9⟩; go_simp; with_reducible rfl)⟩) (h := ?_)
      refine take_y 14 (some 41) laws_FnRangeSums.b15_ rfl (take_ofW HT_.out HW_.out (by kernel_rfl)) hHeld (Or.inl ⟨by rfl, (by rintro w' ⟨s0, s1, s2, s3, s4, s5, s6, s7, s8, s9⟩; go_simp; with_reducible rfl)⟩) (h := ?_)
      refine take_y 15 (some 42) laws_FnRangeSums.b16_ rfl (take_ofW HT_.out HW_.out (by kernel_rfl)) hHeld (Or.inl ⟨by rfl, (by rintro w' ⟨s0, s1, s2, s3, s4, s5, s6, s7, s8, s9⟩; go_simp; with_reducible rfl)⟩) (h := ?_)
      refine one_ (i := 16) (N := some 43) laws_FnRangeSums.b17_ rfl rfl (one_of HT_.out (by kernel_rfl)) (by decide) (fun K hK => ?_); refine gs_ Tryd.func13 #[.agg #[.int .i64 t287, .int .i64 t288], .agg #[.int .i64 t289, .int .i64 t290]] (h := ?_); with_reducible refine (spec_RangeMul.calls t287 t288 t289 t290 t306 t307 _ A39.out).mono ?_
      rintro e w50 ⟨rfl, hb⟩; refine ⟨_, rfl, ?_⟩; replace BK291 := bb_ BK291 hb; replace BK292 := bb_ BK292 hb; replace BK299 := bb_ BK299 hb; replace BK300 := bb_ BK300 hb; replace BK301 := bb_ BK301 hb; replace HB := hb5_ HB hb GE291 GE292 GE299 GE300 GE301
      (try clear hb)
      (try clear hb2)
      (try clear hk)
      (try clear hi)
      refine hK.out _ _ ⟨cl_ BK299 0, cl_ BK299 1, cl_ BK291 0, cl_ BK291 1, cl_ BK292 0, cl_ BK292 1, cl_ BK300 0, cl_ BK300 1, cl_ BK301 0, cl_ BK301 1⟩ (fun hHeld => ?_); clear hK K; refine norm_ (a' := ?_) ?_ ?_; rotate_left
      ·
       show Act.put _ (some 43) _ = _; simp only [Act.put, List.setIfInBounds_toArray, List.set_cons_zero, List.set_cons_succ, i64_w, i32_w]; rfl
      refine pure_y 17 (some 44) laws_FnRangeSums.b18_ (any_of HT_.out (by kernel_rfl)) (h := ?_)
      refine pure_y 18 (some 45) laws_FnRangeSums.b19_ (any_of HT_.out (by kernel_rfl)) (h := ?_)
      refine pure_y 19 (some 46) laws_FnRangeSums.b20_ (any_of HT_.out (by kernel_rfl)) (h := ?_)
      refine take_y 20 (some 47) laws_FnRangeSums.b21_ rfl (take_ofW HT_.out HW_.out (by kernel_rfl)) hHeld (Or.inl ⟨by rfl, (by rintro w' ⟨s0, s1, s2, s3, s4, s5, s6, s7, s8, s9⟩; go_simp; with_reducible rfl)⟩) (h := ?_)
      refine take_y 22 (some 49) #[true, true, true, true, true, true, true, true, true, true, true, true, true, true, true, true, true, true, true, true, true, false, true, false, false, false] rfl (take_ofW HT_.out HW_.out (by kernel_rfl)) hHeld (Or.inl ⟨by rfl, (by rintro w' ⟨s0, s1, s2, s3, s4, s5, s6, s7, s8, s9⟩; go_simp; with_reducible rfl)⟩) (h := ?_)
      refine one_ (i := 21) (N := some 48) laws_FnRangeSums.b23_ rfl rfl (one_of HT_.out (by kernel_rfl)) (by decide) (fun K hK => ?_); refine gs_ Tryd.func14 #[.agg #[.int .i64 t287, .int .i64 t288]] (h := ?_); with_reducible refine (impl_RangeNeg.calls k t287 t288 t308 t309 _ ?side1 A45.out).mono ?_
      (case side1 => exact GL0.below HG0.out (sq_below5 HB.out GE291.out GE292.out GE299.out GE300.out GE301.out))
      rintro e w51 ⟨rfl, hb⟩; refine ⟨_, rfl, ?_⟩; replace BK291 := bb_ BK291 hb; replace BK292 := bb_ BK292 hb; replace BK299 := bb_ BK299 hb; replace BK300 := bb_ BK300 hb; replace BK301 := bb_ BK301 hb; replace HB := hb5_ HB hb GE291 GE292 GE299 GE300 GE301
      (try clear hb)
      (try clear hb2)
      (try clear hk)
      (try clear hi)
      refine hK.out _ _ ⟨cl_ BK299 0, cl_ BK299 1, cl_ BK291 0, cl_ BK291 1, cl_ BK292 0, cl_ BK292 1, cl_ BK300 0, cl_ BK300 1, cl_ BK301 0, cl_ BK301 1⟩ (fun hHeld => ?_); clear hK K; refine norm_ (a' := ?_) ?_ ?_; rotate_left
      ·
       show Act.put _ (some 48) _ = _; simp only [Act.put, List.setIfInBounds_toArray, List.set_cons_zero, List.set_cons_succ, i64_w, i32_w]; rfl
      refine one_ (i := 23) (N := some 50) laws_FnRangeSums.b24_ rfl rfl (one_of HT_.out (by kernel_rfl)) (by decide) (fun K hK => ?_); refine gs_ Tryd.func15 #[.agg #[.int .i64 t287, .int .i64 t288]] (h := ?_); with_reducible refine (spec_RangeNeg.calls t287 t288 t310 t311 _ A46.out).mono ?_
      rintro e w52 ⟨rfl, hb⟩; refine ⟨_, rfl, ?_⟩; replace BK291 := bb_ BK291 hb; replace BK292 := bb_ BK292 hb; replace BK299 := bb_ BK299 hb; replace BK300 := bb_ BK300 hb; replace BK301 := bb_ BK301 hb; replace HB := hb5_ HB hb GE291 GE292 GE299 GE300 GE301
      (try clear hb)
      (try clear hb2)
      (try clear hk)
      (try clear hi)
      refine hK.out _ _ ⟨cl_ BK299 0, cl_ BK299 1, cl_ BK291 0, cl_ BK291 1, cl_ BK292 0, cl_ BK292 1, cl_ BK300 0, cl_ BK300 1, cl_ BK301 0, cl_ BK301 1⟩ (fun hHeld => ?_); clear hK K; refine norm_ (a' := ?_) ?_ ?_; rotate_left
      ·
       show Act.put _ (some 50) _ = _; simp only [Act.put, List.setIfInBounds_toArray, List.set_cons_zero, List.set_cons_succ, i64_w, i32_w]; rfl
      refine pure_y 24 (some 51) laws_FnRangeSums.b25_ (any_of HT_.out (by kernel_rfl)) (h := ?_)
      refine pure_y 25 (some 52) laws_FnRangeSums.b26_ (any_of HT_.out (by kernel_rfl)) (h := ?_)
      refine done_ (done_of HT_.out (by kernel_rfl)) ?_
      try go_wp2
      go_meet
      case rel => exact ⟨_, ((!(t308 == t310) || (!(t309 == t311)))), (by first | rfl | (simp; done) | (simp [*]; done)), H', ⟨by first | omega | exact Nat.le_refl _⟩, bk_ BK291, bk_ BK292, bk_ BK299, bk_ BK300, bk_ BK301, ⟨by repeat (first | (with_reducible first | exact HB.out | apply below_alloc | apply pw_below_drewN | apply below_drew1 | refine below_set ?_ GE291.out | refine below_set ?_ GE292.out | refine below_set ?_ GE299.out | refine below_set ?_ GE300.out | refine below_set ?_ GE301.out) | exact HB.out)⟩⟩
  case rest =>
   clear HC8
   try clear c1
   try clear p2
   try clear c4
   try clear c11
   try clear c12
   try clear c13
   try clear c14
   try clear c15
   try clear c40
   try clear c40b0
   obtain ⟨kq, x52_7, rfl, HA, HJ7, BK291, BK292, BK299, BK300, BK301, HB⟩ := hcut; cases kq with
   | zero => exact absurd HA.out (by simp [laws_FnRangeSums.j0])
   | succ kj7 =>
    have H := HA.out; clear HA; simp only [laws_FnRangeSums.j0] at H
    by_cases c53 : x52_7 = true
    ·
     subst c53; have H1 : (some false) = some r := by rw [if_pos rfl] at H; exact H
     clear H; have H := H1; clear H1; exact absurd ((Option.some.inj H).trans hr_) Bool.false_ne_true
    ·
     replace c53 := Bool.eq_false_iff.mpr c53; subst c53; have H1 : ((spec_RangeOk.f t287 t288).bind fun t312 => (if t312 = true then ((spec_RangeOk.f t289 t290).bind fun t313 => (if t313 = true then (if t287 > t288 then (laws_FnRangeSums.j1 kj7 l0 true t287 t288 t289 t290 t293 t294 t295 t296 t297 t298) else (laws_FnRangeSums.j1 kj7 l0 (decide (t289 > t290)) t287 t288 t289 t290 t293 t294 t295 t296 t297 t298)) else (laws_FnRangeSums.j1 kj7 l0 true t287 t288 t289 t290 t293 t294 t295 t296 t297 t298))) else (laws_FnRangeSums.j1 kj7 l0 true t287 t288 t289 t290 t293 t294 t295 t296 t297 t298))) = some r := by rw [if_neg (show ¬ (false = true) by decide)] at H; exact H
     clear H; have H := H1; clear H1; have HC54 := Aside0.mk H; clear H
     go_upto_region 7 with (fail)
     go_cut [74] (fun v74 wc => ∃ (kq : Nat) (x74_53 : Bool), v74 = .bool x74_53 ∧ Aside0 (laws_FnRangeSums.j1 kq l0 x74_53 t287 t288 t289 t290 t293 t294 t295 t296 t297 t298 = some r) ∧ Aside0 (kq ≤ kj7) ∧ Aside0 (wc.heap[gb291]? = some (.cells #[.int .i64 t287, .int .i64 t288] 25 (0, 0))) ∧ Aside0 (wc.heap[gb292]? = some (.cells #[.int .i64 t289, .int .i64 t290] 25 (0, 0))) ∧ Aside0 (wc.heap[gb299]? = some (.cells #[.int .i64 t293, .int .i64 t294] 25 (0, 0))) ∧ Aside0 (wc.heap[gb300]? = some (.cells #[.int .i64 t295, .int .i64 t296] 25 (0, 0))) ∧ Aside0 (wc.heap[gb301]? = some (.cells #[.int .i64 t297, .int .i64 t298] 25 (0, 0))) ∧ Aside0 (Below w.heap.size w wc))
     case first =>
      have H := HC54.out; clear HC54; replace H := Option.bind_eq_some_iff.mp H; obtain ⟨t312, A550, H⟩ := H; (try dsimp only at H); have A55 := Aside0.mk A550; clear A550
      by_cases c56 : t312 = true
      ·
       subst c56; have H1 : ((spec_RangeOk.f t289 t290).bind fun t313 => (if t313 = true then (if t287 > t288 then (laws_FnRangeSums.j1 kj7 l0 true t287 t288 t289 t290 t293 t294 t295 t296 t297 t298) else (laws_FnRangeSums.j1 kj7 l0 (decide (t289 > t290)) t287 t288 t289 t290 t293 t294 t295 t296 t297 t298)) else (laws_FnRangeSums.j1 kj7 l0 true t287 t288 t289 t290 t293 t294 t295 t296 t297 t298))) = some r := by rw [if_pos rfl] at H; exact H
       clear H; have H := H1; clear H1; replace H := Option.bind_eq_some_iff.mp H; obtain ⟨t313, A570, H⟩ := H; (try dsimp only at H); have A57 := Aside0.mk A570; clear A570
       by_cases c58 : t313 = true
       ·
        subst c58; have H1 : (if t287 > t288 then (laws_FnRangeSums.j1 kj7 l0 true t287 t288 t289 t290 t293 t294 t295 t296 t297 t298) else (laws_FnRangeSums.j1 kj7 l0 (decide (t289 > t290)) t287 t288 t289 t290 t293 t294 t295 t296 t297 t298)) = some r := by rw [if_pos rfl] at H; exact H
        clear H; have H := H1; clear H1
        by_cases c59 : t287 > t288
        ·
         rw [if_pos c59] at H; have c59b0 : decide (t288 < t287) = true := decide_eq_true c59; clear c59
         (first | rw [c59b0] | (simp only [i64_w, i32_w]; rw [c59b0]) | skip)
         have H' := Aside0.mk H; clear H; have hnb60 := NB291_292.out; have hnc60 := NB292_291.out; have hnb61 := NB291_299.out; have hnc61 := NB299_291.out; have hnb62 := NB291_300.out; have hnc62 := NB300_291.out; have hnb63 := NB291_301.out; have hnc63 := NB301_291.out; have hcz64_0 := cl_ (v := .int .i64 t287) BK291 0; have hcz64_1 := cl_ (v := .int .i64 t288) BK291 1; have hfz64_0 := blk_frozen BK291.out 0; have hfz64_1 := blk_frozen BK291.out 1
         go_wp2_with (first | ((with_reducible refine gate_callee (f := 16) rfl ?_); refine gl_ 54 Tryd.func16 #[.agg #[.int .i64 t287, .int .i64 t288]] (h := ?_); (with_reducible refine (spec_RangeOk.calls t287 t288 true _ A55.out).mono ?_); rintro e w65 ⟨rfl, hb⟩; refine ⟨_, rfl, ?_⟩; replace BK291 := bb_ BK291 hb; replace BK292 := bb_ BK292 hb; replace BK299 := bb_ BK299 hb; replace BK300 := bb_ BK300 hb; replace BK301 := bb_ BK301 hb; replace HB := hb5_ HB hb GE291 GE292 GE299 GE300 GE301; (try clear hb); (try clear hb2); (try clear hk); (try clear hi); have hnb66 := NB292_299.out; have hnc66 := NB299_292.out; have hnb67 := NB292_300.out; have hnc67 := NB300_292.out; have hnb68 := NB292_301.out; have hnc68 := NB301_292.out; have hcz69_0 := cl_ (v := .int .i64 t289) BK292 0; have hcz69_1 := cl_ (v := .int .i64 t290) BK292 1; have hfz69_0 := blk_frozen BK292.out 0; have hfz69_1 := blk_frozen BK292.out 1) | (go_at_call 16; (with_reducible refine (spec_RangeOk.calls t289 t290 true _ A57.out).mono ?_); rintro e w70 ⟨rfl, hb⟩; replace BK291 := bb_ BK291 hb; replace BK292 := bb_ BK292 hb; replace BK299 := bb_ BK299 hb; replace BK300 := bb_ BK300 hb; replace BK301 := bb_ BK301 hb; replace HB := hb5_ HB hb GE291 GE292 GE299 GE300 GE301; (try clear hb); (try clear hb2); (try clear hk); (try clear hi); have hcz71_0 := cl_ (v := .int .i64 t287) BK291 0; have hcz71_1 := cl_ (v := .int .i64 t288) BK291 1; have hfz71_0 := blk_frozen BK291.out 0; have hfz71_1 := blk_frozen BK291.out 1))
         go_meet
         case rel => exact ⟨_, (true), (by first | rfl | (simp; done) | (simp [*]; done)), H', ⟨by have := HJ7.out; first | omega | exact Nat.le_refl _⟩, bk_ BK291, bk_ BK292, bk_ BK299, bk_ BK300, bk_ BK301, ⟨by repeat (first | (with_reducible first | exact HB.out | apply below_alloc | apply pw_below_drewN | apply below_drew1 | refine below_set ?_ GE291.out | refine below_set ?_ GE292.out | refine below_set ?_ GE299.out | refine below_set ?_ GE300.out | refine below_set ?_ GE301.out) | exact HB.out)⟩⟩
        ·
         rw [if_neg c59] at H; have c59b0 : decide (t288 < t287) = false := decide_eq_false c59; clear c59
         (first | rw [c59b0] | (simp only [i64_w, i32_w]; rw [c59b0]) | skip)
         have H' := Aside0.mk H; clear H; have hnb72 := NB291_292.out; have hnc72 := NB292_291.out; have hnb73 := NB291_299.out; have hnc73 := NB299_291.out; have hnb74 := NB291_300.out; have hnc74 := NB300_291.out; have hnb75 := NB291_301.out; have hnc75 := NB301_291.out; have hcz76_0 := cl_ (v := .int .i64 t287) BK291 0; have hcz76_1 := cl_ (v := .int .i64 t288) BK291 1; have hfz76_0 := blk_frozen BK291.out 0; have hfz76_1 := blk_frozen BK291.out 1
         go_wp2_with (first | ((with_reducible refine gate_callee (f := 16) rfl ?_); refine gl_ 54 Tryd.func16 #[.agg #[.int .i64 t287, .int .i64 t288]] (h := ?_); (with_reducible refine (spec_RangeOk.calls t287 t288 true _ A55.out).mono ?_); rintro e w77 ⟨rfl, hb⟩; refine ⟨_, rfl, ?_⟩; replace BK291 := bb_ BK291 hb; replace BK292 := bb_ BK292 hb; replace BK299 := bb_ BK299 hb; replace BK300 := bb_ BK300 hb; replace BK301 := bb_ BK301 hb; replace HB := hb5_ HB hb GE291 GE292 GE299 GE300 GE301; (try clear hb); (try clear hb2); (try clear hk); (try clear hi); have hnb78 := NB292_299.out; have hnc78 := NB299_292.out; have hnb79 := NB292_300.out; have hnc79 := NB300_292.out; have hnb80 := NB292_301.out; have hnc80 := NB301_292.out; have hcz81_0 := cl_ (v := .int .i64 t289) BK292 0; have hcz81_1 := cl_ (v := .int .i64 t290) BK292 1; have hfz81_0 := blk_frozen BK292.out 0; have hfz81_1 := blk_frozen BK292.out 1) | (go_at_call 16; (with_reducible refine (spec_RangeOk.calls t289 t290 true _ A57.out).mono ?_); rintro e w82 ⟨rfl, hb⟩; replace BK291 := bb_ BK291 hb; replace BK292 := bb_ BK292 hb; replace BK299 := bb_ BK299 hb; replace BK300 := bb_ BK300 hb; replace BK301 := bb_ BK301 hb; replace HB := hb5_ HB hb GE291 GE292 GE299 GE300 GE301; (try clear hb); (try clear hb2); (try clear hk); (try clear hi); have hcz83_0 := cl_ (v := .int .i64 t287) BK291 0; have hcz83_1 := cl_ (v := .int .i64 t288) BK291 1; have hfz83_0 := blk_frozen BK291.out 0; have hfz83_1 := blk_frozen BK291.out 1; have hcz84_0 := cl_ (v := .int .i64 t289) BK292 0; have hcz84_1 := cl_ (v := .int .i64 t290) BK292 1; have hfz84_0 := blk_frozen BK292.out 0; have hfz84_1 := blk_frozen BK292.out 1))
         go_meet
         case rel => exact ⟨_, (decide (t289 > t290)), (by first | rfl | (simp; done) | (simp [*]; done)), H', ⟨by have := HJ7.out; first | omega | exact Nat.le_refl _⟩, bk_ BK291, bk_ BK292, bk_ BK299, bk_ BK300, bk_ BK301, ⟨by repeat (first | (with_reducible first | exact HB.out | apply below_alloc | apply pw_below_drewN | apply below_drew1 | refine below_set ?_ GE291.out | refine below_set ?_ GE292.out | refine below_set ?_ GE299.out | refine below_set ?_ GE300.out | refine below_set ?_ GE301.out) | exact HB.out)⟩⟩
       ·
        replace c58 := Bool.eq_false_iff.mpr c58; subst c58; have H1 : (laws_FnRangeSums.j1 kj7 l0 true t287 t288 t289 t290 t293 t294 t295 t296 t297 t298) = some r := by rw [if_neg (show ¬ (false = true) by decide)] at H; exact H
        clear H; have H := H1; clear H1; have H' := Aside0.mk H; clear H; have hnb85 := NB291_292.out; have hnc85 := NB292_291.out; have hnb86 := NB291_299.out; have hnc86 := NB299_291.out; have hnb87 := NB291_300.out; have hnc87 := NB300_291.out; have hnb88 := NB291_301.out; have hnc88 := NB301_291.out; have hcz89_0 := cl_ (v := .int .i64 t287) BK291 0; have hcz89_1 := cl_ (v := .int .i64 t288) BK291 1; have hfz89_0 := blk_frozen BK291.out 0; have hfz89_1 := blk_frozen BK291.out 1
        go_wp2_with (first | ((with_reducible refine gate_callee (f := 16) rfl ?_); refine gl_ 54 Tryd.func16 #[.agg #[.int .i64 t287, .int .i64 t288]] (h := ?_); (with_reducible refine (spec_RangeOk.calls t287 t288 true _ A55.out).mono ?_); rintro e w90 ⟨rfl, hb⟩; refine ⟨_, rfl, ?_⟩; replace BK291 := bb_ BK291 hb; replace BK292 := bb_ BK292 hb; replace BK299 := bb_ BK299 hb; replace BK300 := bb_ BK300 hb; replace BK301 := bb_ BK301 hb; replace HB := hb5_ HB hb GE291 GE292 GE299 GE300 GE301; (try clear hb); (try clear hb2); (try clear hk); (try clear hi); have hnb91 := NB292_299.out; have hnc91 := NB299_292.out; have hnb92 := NB292_300.out; have hnc92 := NB300_292.out; have hnb93 := NB292_301.out; have hnc93 := NB301_292.out; have hcz94_0 := cl_ (v := .int .i64 t289) BK292 0; have hcz94_1 := cl_ (v := .int .i64 t290) BK292 1; have hfz94_0 := blk_frozen BK292.out 0; have hfz94_1 := blk_frozen BK292.out 1) | (go_at_call 16; (with_reducible refine (spec_RangeOk.calls t289 t290 false _ A57.out).mono ?_); rintro e w95 ⟨rfl, hb⟩; replace BK291 := bb_ BK291 hb; replace BK292 := bb_ BK292 hb; replace BK299 := bb_ BK299 hb; replace BK300 := bb_ BK300 hb; replace BK301 := bb_ BK301 hb; replace HB := hb5_ HB hb GE291 GE292 GE299 GE300 GE301; (try clear hb); (try clear hb2); (try clear hk); (try clear hi)))
        go_meet
        case rel => exact ⟨_, (true), (by first | rfl | (simp; done) | (simp [*]; done)), H', ⟨by have := HJ7.out; first | omega | exact Nat.le_refl _⟩, bk_ BK291, bk_ BK292, bk_ BK299, bk_ BK300, bk_ BK301, ⟨by repeat (first | (with_reducible first | exact HB.out | apply below_alloc | apply pw_below_drewN | apply below_drew1 | refine below_set ?_ GE291.out | refine below_set ?_ GE292.out | refine below_set ?_ GE299.out | refine below_set ?_ GE300.out | refine below_set ?_ GE301.out) | exact HB.out)⟩⟩
      ·
       replace c56 := Bool.eq_false_iff.mpr c56; subst c56; have H1 : (laws_FnRangeSums.j1 kj7 l0 true t287 t288 t289 t290 t293 t294 t295 t296 t297 t298) = some r := by rw [if_neg (show ¬ (false = true) by decide)] at H; exact H
       clear H; have H := H1; clear H1; have H' := Aside0.mk H; clear H; have hnb96 := NB291_292.out; have hnc96 := NB292_291.out; have hnb97 := NB291_299.out; have hnc97 := NB299_291.out; have hnb98 := NB291_300.out; have hnc98 := NB300_291.out; have hnb99 := NB291_301.out; have hnc99 := NB301_291.out; have hcz100_0 := cl_ (v := .int .i64 t287) BK291 0; have hcz100_1 := cl_ (v := .int .i64 t288) BK291 1; have hfz100_0 := blk_frozen BK291.out 0; have hfz100_1 := blk_frozen BK291.out 1
       go_wp2_with (first | ((with_reducible refine gate_callee (f := 16) rfl ?_); refine gl_ 54 Tryd.func16 #[.agg #[.int .i64 t287, .int .i64 t288]] (h := ?_); (with_reducible refine (spec_RangeOk.calls t287 t288 false _ A55.out).mono ?_); rintro e w101 ⟨rfl, hb⟩; refine ⟨_, rfl, ?_⟩; replace BK291 := bb_ BK291 hb; replace BK292 := bb_ BK292 hb; replace BK299 := bb_ BK299 hb; replace BK300 := bb_ BK300 hb; replace BK301 := bb_ BK301 hb; replace HB := hb5_ HB hb GE291 GE292 GE299 GE300 GE301; (try clear hb); (try clear hb2); (try clear hk); (try clear hi)))
       go_meet
       case rel => exact ⟨_, (true), (by first | rfl | (simp; done) | (simp [*]; done)), H', ⟨by have := HJ7.out; first | omega | exact Nat.le_refl _⟩, bk_ BK291, bk_ BK292, bk_ BK299, bk_ BK300, bk_ BK301, ⟨by repeat (first | (with_reducible first | exact HB.out | apply below_alloc | apply pw_below_drewN | apply below_drew1 | refine below_set ?_ GE291.out | refine below_set ?_ GE292.out | refine below_set ?_ GE299.out | refine below_set ?_ GE300.out | refine below_set ?_ GE301.out) | exact HB.out)⟩⟩
     case rest =>
      clear HC54
      try clear c1
      try clear p2
      try clear c4
      try clear c5
      try clear c6
      try clear c7
      try clear c8
      try clear c9
      try clear c11
      try clear c12
      try clear c13
      try clear c14
      try clear c15
      try clear c16
      try clear c40
      try clear c40b0
      try clear c53
      try clear c56
      try clear c58
      try clear c59
      try clear c59b0
      try clear c60
      try clear c61
      try clear c62
      try clear c63
      try clear c66
      try clear c67
      try clear c68
      try clear c72
      try clear c73
      try clear c74
      try clear c75
      try clear c78
      try clear c79
      try clear c80
      try clear c85
      try clear c86
      try clear c87
      try clear c88
      try clear c91
      try clear c92
      try clear c93
      try clear c96
      try clear c97
      try clear c98
      try clear c99
      try clear hcz100_0
      try clear hcz100_1
      try clear hcz64_0
      try clear hcz64_1
      try clear hcz69_0
      try clear hcz69_1
      try clear hcz71_0
      try clear hcz71_1
      try clear hcz76_0
      try clear hcz76_1
      try clear hcz81_0
      try clear hcz81_1
      try clear hcz83_0
      try clear hcz83_1
      try clear hcz84_0
      try clear hcz84_1
      try clear hcz89_0
      try clear hcz89_1
      try clear hcz94_0
      try clear hcz94_1
      try clear hfz100_0
      try clear hfz100_1
      try clear hfz64_0
      try clear hfz64_1
      try clear hfz69_0
      try clear hfz69_1
      try clear hfz71_0
      try clear hfz71_1
      try clear hfz76_0
      try clear hfz76_1
      try clear hfz81_0
      try clear hfz81_1
      try clear hfz83_0
      try clear hfz83_1
      try clear hfz84_0
      try clear hfz84_1
      try clear hfz89_0
      try clear hfz89_1
      try clear hfz94_0
      try clear hfz94_1
      try clear p2
      obtain ⟨kq, x74_53, rfl, HA, HJ53, BK291, BK292, BK299, BK300, BK301, HB⟩ := hcut; cases kq with
      | zero => exact absurd HA.out (by simp [laws_FnRangeSums.j1])
      | succ kj53 =>
       have H := HA.out; clear HA; simp only [laws_FnRangeSums.j1] at H
       by_cases c102 : x74_53 = true
       ·
        subst c102; have H1 : (some true) = some r := by rw [if_pos rfl] at H; exact H
        clear H; have H := H1; clear H1; obtain rfl := Option.some.inj H
        go_wp2
        go_ret
        exact ⟨by first | rfl | (simp [errW_none, errW_some] <;> rfl) | (simp [*, errW_none, errW_some] <;> rfl), by repeat (first | (with_reducible first | exact HB.out | apply below_alloc | apply pw_below_drewN | apply below_drew1 | refine below_set ?_ GE291.out | refine below_set ?_ GE292.out | refine below_set ?_ GE299.out | refine below_set ?_ GE300.out | refine below_set ?_ GE301.out) | exact HB.out)⟩
       ·
        replace c102 := Bool.eq_false_iff.mpr c102; subst c102; have H1 : (laws_FnRangeSums.l0 kj53 l0 0 t287 t288 t289 t290 t293 t294 t295 t296 t297 t298) = some r := by rw [if_neg (show ¬ (false = true) by decide)] at H; exact H
        clear H; have H := H1; clear H1; have H' := Aside0.mk H; clear H
        go_wp2
        go_loopg [8] kj53 (fun kq v8 w' => ∃ (x8_3 : Int), v8 = .int .i64 x8_3 ∧ Aside0 (laws_FnRangeSums.l0 kq l0 x8_3 t287 t288 t289 t290 t293 t294 t295 t296 t297 t298 = some r) ∧ Aside0 (kq ≤ kj53) ∧ Aside0 (w'.heap[gb291]? = some (.cells #[.int .i64 t287, .int .i64 t288] 25 (0, 0))) ∧ Aside0 (w'.heap[gb292]? = some (.cells #[.int .i64 t289, .int .i64 t290] 25 (0, 0))) ∧ Aside0 (w'.heap[gb299]? = some (.cells #[.int .i64 t293, .int .i64 t294] 25 (0, 0))) ∧ Aside0 (w'.heap[gb300]? = some (.cells #[.int .i64 t295, .int .i64 t296] 25 (0, 0))) ∧ Aside0 (w'.heap[gb301]? = some (.cells #[.int .i64 t297, .int .i64 t298] 25 (0, 0))) ∧ Aside0 (Below w.heap.size w w'))
        case atStart => exact ⟨(0), (by first | rfl | (simp; done) | (simp [*]; done)), H', ⟨Nat.le_refl _⟩, bk_ BK291, bk_ BK292, bk_ BK299, bk_ BK300, bk_ BK301, ⟨by repeat (first | (with_reducible first | exact HB.out | apply below_alloc | apply pw_below_drewN | apply below_drew1 | refine below_set ?_ GE291.out | refine below_set ?_ GE292.out | refine below_set ?_ GE299.out | refine below_set ?_ GE300.out | refine below_set ?_ GE301.out) | exact HB.out)⟩⟩
        case round =>
         clear H'
         try clear c1
         try clear p2
         try clear c4
         try clear c5
         try clear c6
         try clear c7
         try clear c8
         try clear c9
         try clear c10
         try clear c11
         try clear c12
         try clear c13
         try clear c14
         try clear c15
         try clear c16
         try clear c40
         try clear c40b0
         try clear c53
         try clear c56
         try clear c58
         try clear c59
         try clear c59b0
         try clear c60
         try clear c61
         try clear c62
         try clear c63
         try clear c66
         try clear c67
         try clear c68
         try clear c72
         try clear c73
         try clear c74
         try clear c75
         try clear c78
         try clear c79
         try clear c80
         try clear c85
         try clear c86
         try clear c87
         try clear c88
         try clear c91
         try clear c92
         try clear c93
         try clear c96
         try clear c97
         try clear c98
         try clear c99
         try clear c102
         try clear hcz100_0
         try clear hcz100_1
         try clear hcz64_0
         try clear hcz64_1
         try clear hcz69_0
         try clear hcz69_1
         try clear hcz71_0
         try clear hcz71_1
         try clear hcz76_0
         try clear hcz76_1
         try clear hcz81_0
         try clear hcz81_1
         try clear hcz83_0
         try clear hcz83_1
         try clear hcz84_0
         try clear hcz84_1
         try clear hcz89_0
         try clear hcz89_1
         try clear hcz94_0
         try clear hcz94_1
         try clear hfz100_0
         try clear hfz100_1
         try clear hfz64_0
         try clear hfz64_1
         try clear hfz69_0
         try clear hfz69_1
         try clear hfz71_0
         try clear hfz71_1
         try clear hfz76_0
         try clear hfz76_1
         try clear hfz81_0
         try clear hfz81_1
         try clear hfz83_0
         try clear hfz83_1
         try clear hfz84_0
         try clear hfz84_1
         try clear hfz89_0
         try clear hfz89_1
         try clear hfz94_0
         try clear hfz94_1
         try clear p2
         obtain ⟨x8_3, rfl, HA, HK3, BK291, BK292, BK299, BK300, BK301, HB⟩ := hrel; cases gk with
         | zero => exact absurd HA.out (by simp [laws_FnRangeSums.l0])
         | succ k3 =>
          have H := HA.out; clear HA; simp only [laws_FnRangeSums.l0] at H
          by_cases c103 : x8_3 < 6
          ·
           rw [if_pos c103] at H; have c103b0 : decide (x8_3 < 6) = true := decide_eq_true c103; clear c103; replace H := Option.bind_eq_some_iff.mp H; obtain ⟨t314, A1040, H⟩ := H; (try dsimp only at H); have A104 := Aside0.mk A1040; clear A1040; replace H := Option.bind_eq_some_iff.mp H; obtain ⟨t315, A1050, H⟩ := H; (try dsimp only at H); have A105 := Aside0.mk A1050; clear A1050; replace H := Option.bind_eq_some_iff.mp H; obtain ⟨t316, A1060, H⟩ := H; (try dsimp only at H); have A106 := Aside0.mk A1060; clear A1060
           by_cases c107 : t316 = true
           ·
            subst c107; have H1 : ((impl_RangeHas.f t293 t294 (wrap64 ((wrap64 (t287 + t314)) + (wrap64 (t289 + t315))))).bind fun t317 => (if t317 = true then ((laws_within.f (wrap64 ((wrap64 (t287 + t314)) - (wrap64 (t289 + t315))))).bind fun t318 => (if t318 = true then ((impl_RangeHas.f t295 t296 (wrap64 ((wrap64 (t287 + t314)) - (wrap64 (t289 + t315))))).bind fun t319 => (if t319 = true then ((laws_within.f (wrap64 ((wrap64 (t287 + t314)) * (wrap64 (t289 + t315))))).bind fun t320 => (if t320 = true then ((impl_RangeHas.f t297 t298 (wrap64 ((wrap64 (t287 + t314)) * (wrap64 (t289 + t315))))).bind fun t321 => (if t321 = true then ((impl_RangeNeg.f k3 t287 t288).bind fun bt322 => ((impl_RangeHas.f bt322.1 bt322.2 (wrap64 (-(wrap64 (t287 + t314))))).bind fun t324 => (if t324 = true then (laws_FnRangeSums.l0 k3 l0 (wrap64 (x8_3 + 1)) t287 t288 t289 t290 t293 t294 t295 t296 t297 t298) else (some false)))) else (some false))) else ((impl_RangeNeg.f k3 t287 t288).bind fun bt325 => ((impl_RangeHas.f bt325.1 bt325.2 (wrap64 (-(wrap64 (t287 + t314))))).bind fun t327 => (if t327 = true then (laws_FnRangeSums.l0 k3 l0 (wrap64 (x8_3 + 1)) t287 t288 t289 t290 t293 t294 t295 t296 t297 t298) else (some false)))))) else (some false))) else ((laws_within.f (wrap64 ((wrap64 (t287 + t314)) * (wrap64 (t289 + t315))))).bind fun t328 => (if t328 = true then ((impl_RangeHas.f t297 t298 (wrap64 ((wrap64 (t287 + t314)) * (wrap64 (t289 + t315))))).bind fun t329 => (if t329 = true then ((impl_RangeNeg.f k3 t287 t288).bind fun bt330 => ((impl_RangeHas.f bt330.1 bt330.2 (wrap64 (-(wrap64 (t287 + t314))))).bind fun t332 => (if t332 = true then (laws_FnRangeSums.l0 k3 l0 (wrap64 (x8_3 + 1)) t287 t288 t289 t290 t293 t294 t295 t296 t297 t298) else (some false)))) else (some false))) else ((impl_RangeNeg.f k3 t287 t288).bind fun bt333 => ((impl_RangeHas.f bt333.1 bt333.2 (wrap64 (-(wrap64 (t287 + t314))))).bind fun t335 => (if t335 = true then (laws_FnRangeSums.l0 k3 l0 (wrap64 (x8_3 + 1)) t287 t288 t289 t290 t293 t294 t295 t296 t297 t298) else (some false)))))))) else (some false))) = some r := by rw [if_pos rfl] at H; exact H
            clear H; have H := H1; clear H1; replace H := Option.bind_eq_some_iff.mp H; obtain ⟨t317, A1080, H⟩ := H; (try dsimp only at H); have A108 := Aside0.mk A1080; clear A1080
            by_cases c109 : t317 = true
            ·
             subst c109; have H1 : ((laws_within.f (wrap64 ((wrap64 (t287 + t314)) - (wrap64 (t289 + t315))))).bind fun t318 => (if t318 = true then ((impl_RangeHas.f t295 t296 (wrap64 ((wrap64 (t287 + t314)) - (wrap64 (t289 + t315))))).bind fun t319 => (if t319 = true then ((laws_within.f (wrap64 ((wrap64 (t287 + t314)) * (wrap64 (t289 + t315))))).bind fun t320 => (if t320 = true then ((impl_RangeHas.f t297 t298 (wrap64 ((wrap64 (t287 + t314)) * (wrap64 (t289 + t315))))).bind fun t321 => (if t321 = true then ((impl_RangeNeg.f k3 t287 t288).bind fun bt322 => ((impl_RangeHas.f bt322.1 bt322.2 (wrap64 (-(wrap64 (t287 + t314))))).bind fun t324 => (if t324 = true then (laws_FnRangeSums.l0 k3 l0 (wrap64 (x8_3 + 1)) t287 t288 t289 t290 t293 t294 t295 t296 t297 t298) else (some false)))) else (some false))) else ((impl_RangeNeg.f k3 t287 t288).bind fun bt325 => ((impl_RangeHas.f bt325.1 bt325.2 (wrap64 (-(wrap64 (t287 + t314))))).bind fun t327 => (if t327 = true then (laws_FnRangeSums.l0 k3 l0 (wrap64 (x8_3 + 1)) t287 t288 t289 t290 t293 t294 t295 t296 t297 t298) else (some false)))))) else (some false))) else ((laws_within.f (wrap64 ((wrap64 (t287 + t314)) * (wrap64 (t289 + t315))))).bind fun t328 => (if t328 = true then ((impl_RangeHas.f t297 t298 (wrap64 ((wrap64 (t287 + t314)) * (wrap64 (t289 + t315))))).bind fun t329 => (if t329 = true then ((impl_RangeNeg.f k3 t287 t288).bind fun bt330 => ((impl_RangeHas.f bt330.1 bt330.2 (wrap64 (-(wrap64 (t287 + t314))))).bind fun t332 => (if t332 = true then (laws_FnRangeSums.l0 k3 l0 (wrap64 (x8_3 + 1)) t287 t288 t289 t290 t293 t294 t295 t296 t297 t298) else (some false)))) else (some false))) else ((impl_RangeNeg.f k3 t287 t288).bind fun bt333 => ((impl_RangeHas.f bt333.1 bt333.2 (wrap64 (-(wrap64 (t287 + t314))))).bind fun t335 => (if t335 = true then (laws_FnRangeSums.l0 k3 l0 (wrap64 (x8_3 + 1)) t287 t288 t289 t290 t293 t294 t295 t296 t297 t298) else (some false)))))))) = some r := by rw [if_pos rfl] at H; exact H
             clear H; have H := H1; clear H1; replace H := Option.bind_eq_some_iff.mp H; obtain ⟨t318, A1100, H⟩ := H; (try dsimp only at H); have A110 := Aside0.mk A1100; clear A1100
             by_cases c111 : t318 = true
             ·
              subst c111; have H1 : ((impl_RangeHas.f t295 t296 (wrap64 ((wrap64 (t287 + t314)) - (wrap64 (t289 + t315))))).bind fun t319 => (if t319 = true then ((laws_within.f (wrap64 ((wrap64 (t287 + t314)) * (wrap64 (t289 + t315))))).bind fun t320 => (if t320 = true then ((impl_RangeHas.f t297 t298 (wrap64 ((wrap64 (t287 + t314)) * (wrap64 (t289 + t315))))).bind fun t321 => (if t321 = true then ((impl_RangeNeg.f k3 t287 t288).bind fun bt322 => ((impl_RangeHas.f bt322.1 bt322.2 (wrap64 (-(wrap64 (t287 + t314))))).bind fun t324 => (if t324 = true then (laws_FnRangeSums.l0 k3 l0 (wrap64 (x8_3 + 1)) t287 t288 t289 t290 t293 t294 t295 t296 t297 t298) else (some false)))) else (some false))) else ((impl_RangeNeg.f k3 t287 t288).bind fun bt325 => ((impl_RangeHas.f bt325.1 bt325.2 (wrap64 (-(wrap64 (t287 + t314))))).bind fun t327 => (if t327 = true then (laws_FnRangeSums.l0 k3 l0 (wrap64 (x8_3 + 1)) t287 t288 t289 t290 t293 t294 t295 t296 t297 t298) else (some false)))))) else (some false))) = some r := by rw [if_pos rfl] at H; exact H
              clear H; have H := H1; clear H1; replace H := Option.bind_eq_some_iff.mp H; obtain ⟨t319, A1120, H⟩ := H; (try dsimp only at H); have A112 := Aside0.mk A1120; clear A1120
              by_cases c113 : t319 = true
              ·
               subst c113; have H1 : ((laws_within.f (wrap64 ((wrap64 (t287 + t314)) * (wrap64 (t289 + t315))))).bind fun t320 => (if t320 = true then ((impl_RangeHas.f t297 t298 (wrap64 ((wrap64 (t287 + t314)) * (wrap64 (t289 + t315))))).bind fun t321 => (if t321 = true then ((impl_RangeNeg.f k3 t287 t288).bind fun bt322 => ((impl_RangeHas.f bt322.1 bt322.2 (wrap64 (-(wrap64 (t287 + t314))))).bind fun t324 => (if t324 = true then (laws_FnRangeSums.l0 k3 l0 (wrap64 (x8_3 + 1)) t287 t288 t289 t290 t293 t294 t295 t296 t297 t298) else (some false)))) else (some false))) else ((impl_RangeNeg.f k3 t287 t288).bind fun bt325 => ((impl_RangeHas.f bt325.1 bt325.2 (wrap64 (-(wrap64 (t287 + t314))))).bind fun t327 => (if t327 = true then (laws_FnRangeSums.l0 k3 l0 (wrap64 (x8_3 + 1)) t287 t288 t289 t290 t293 t294 t295 t296 t297 t298) else (some false)))))) = some r := by rw [if_pos rfl] at H; exact H
               clear H; have H := H1; clear H1; replace H := Option.bind_eq_some_iff.mp H; obtain ⟨t320, A1140, H⟩ := H; (try dsimp only at H); have A114 := Aside0.mk A1140; clear A1140
               by_cases c115 : t320 = true
               ·
                subst c115; have H1 : ((impl_RangeHas.f t297 t298 (wrap64 ((wrap64 (t287 + t314)) * (wrap64 (t289 + t315))))).bind fun t321 => (if t321 = true then ((impl_RangeNeg.f k3 t287 t288).bind fun bt322 => ((impl_RangeHas.f bt322.1 bt322.2 (wrap64 (-(wrap64 (t287 + t314))))).bind fun t324 => (if t324 = true then (laws_FnRangeSums.l0 k3 l0 (wrap64 (x8_3 + 1)) t287 t288 t289 t290 t293 t294 t295 t296 t297 t298) else (some false)))) else (some false))) = some r := by rw [if_pos rfl] at H; exact H
                clear H; have H := H1; clear H1; replace H := Option.bind_eq_some_iff.mp H; obtain ⟨t321, A1160, H⟩ := H; (try dsimp only at H); have A116 := Aside0.mk A1160; clear A1160
                by_cases c117 : t321 = true
                ·
                 subst c117; have H1 : ((impl_RangeNeg.f k3 t287 t288).bind fun bt322 => ((impl_RangeHas.f bt322.1 bt322.2 (wrap64 (-(wrap64 (t287 + t314))))).bind fun t324 => (if t324 = true then (laws_FnRangeSums.l0 k3 l0 (wrap64 (x8_3 + 1)) t287 t288 t289 t290 t293 t294 t295 t296 t297 t298) else (some false)))) = some r := by rw [if_pos rfl] at H; exact H
                 clear H; have H := H1; clear H1; replace H := Option.bind_eq_some_iff.mp H; obtain ⟨⟨t322, t323⟩, A1180, H⟩ := H; (try dsimp only at H); have A118 := Aside0.mk A1180; clear A1180; replace H := Option.bind_eq_some_iff.mp H; obtain ⟨t324, A1190, H⟩ := H; (try dsimp only at H); have A119 := Aside0.mk A1190; clear A1190
                 by_cases c120 : t324 = true
                 ·
                  subst c120; have H1 : (laws_FnRangeSums.l0 k3 l0 (wrap64 (x8_3 + 1)) t287 t288 t289 t290 t293 t294 t295 t296 t297 t298) = some r := by rw [if_pos rfl] at H; exact H
                  clear H; have H := H1; clear H1; have H' := Aside0.mk H; clear H
                  try go_wp2
                  replace BK291 := bd_ BK291; replace BK292 := bd_ BK292; replace BK299 := bd_ BK299; replace BK300 := bd_ BK300; replace BK301 := bd_ BK301; replace HB := hd_ HB; refine start_ (n := 13) (S := fun w' => w'.cell? ⟨gb291, 0, none⟩ = some (.int .i64 t287) ∧ w'.cell? ⟨gb291, 1, none⟩ = some (.int .i64 t288)) (ds := []) laws_FnRangeSums.b34_ (by kernel_rfl) rfl rfl ⟨cl_ BK291 0, cl_ BK291 1⟩ (fun hHeld => ?_); refine with_tabW laws_FnRangeSums.tab12 laws_FnRangeSums.bits12 (fun HT_ HW_ => ?_); generalize wr.drew = w121 at BK291 BK292 BK299 BK300 BK301 HB hHeld ⊢; refine pure_y 0 (some 79) laws_FnRangeSums.b36_ (any_of HT_.out (by kernel_rfl)) (h := ?_)
                  refine pure_y 2 (some 81) laws_FnRangeSums.b38_ (any_of HT_.out (by kernel_rfl)) (h := ?_)
                  refine pure_y 3 (some 82) laws_FnRangeSums.b40_ (any_of HT_.out (by kernel_rfl)) (h := ?_)
                  refine pure_y 4 (some 83) laws_FnRangeSums.b42_ (any_of HT_.out (by kernel_rfl)) (h := ?_)
                  refine pure_y 6 (some 85) laws_FnRangeSums.b44_ (any_of HT_.out (by kernel_rfl)) (h := ?_)
                  refine take_y 1 (some 80) laws_FnRangeSums.b46_ rfl (take_ofW HT_.out HW_.out (by kernel_rfl)) hHeld (Or.inl ⟨by rfl, (by rintro w' ⟨s0, s1⟩; go_simp; with_reducible rfl)⟩) (h := ?_)
                  refine take_y 5 (some 84) laws_FnRangeSums.b48_ rfl (take_ofW HT_.out HW_.out (by kernel_rfl)) hHeld (Or.inl ⟨by rfl, (by rintro w' ⟨s0, s1⟩; go_simp; with_reducible rfl)⟩) (h := ?_)
                  refine take_y 7 (some 86) laws_FnRangeSums.b50_ rfl (take_ofW HT_.out HW_.out (by kernel_rfl)) hHeld (Or.inl ⟨by rfl, (by rintro w' ⟨s0, s1⟩; go_simp; with_reducible rfl)⟩) (h := ?_)
                  refine pure_y 8 (some 87) laws_FnRangeSums.b51_ (any_of HT_.out (by kernel_rfl)) (h := ?_)
                  refine pure_y 9 (some 88) laws_FnRangeSums.b52_ (any_of HT_.out (by kernel_rfl)) (h := ?_)
                  refine one_ (i := 10) (N := some 89) laws_FnRangeSums.b53_ rfl rfl (one_of HT_.out (by kernel_rfl)) (by decide) (fun K hK => ?_); refine gs_ Tryd.func17 #[.slice A0 l0.length c0, .int .i64 x8_3, .int .i64 (wrap64 ((wrap64 (t288 - t287)) + 1))] (h := ?_); with_reducible refine (laws_pick.calls k3 _ _ l0 x8_3 (wrap64 ((wrap64 (t288 - t287)) + 1)) t314 _ ?side1 ?side2 A104.out).mono ?_
                  (case side1 => exact sq_c (Kd.C_below HR0.out HB.out))
                  (case side2 => exact HC0.out)
                  rintro e w' ⟨rfl, ⟨nd, rfl⟩⟩; refine ⟨_, rfl, ?_⟩; refine hK.out _ _ ⟨cl_ BK291 0, cl_ BK291 1⟩ (fun hHeld => ?_); clear hK K; refine norm_ (a' := ?_) ?_ ?_; rotate_left
                  ·
                   show Act.put _ (some 89) _ = _; simp only [Act.put, List.setIfInBounds_toArray, List.set_cons_zero, List.set_cons_succ, i64_w, i32_w]; rfl
                  refine pure_y 11 (some 90) laws_FnRangeSums.b54_ (any_of HT_.out (by kernel_rfl)) (h := ?_)
                  refine pure_y 12 (some 9) laws_FnRangeSums.b55_ (any_of HT_.out (by kernel_rfl)) (h := ?_)
                  refine done_ (done_of HT_.out (by kernel_rfl)) ?_
                  try go_wp2
                  (try (rw [drewN_self w121]; generalize hq_ : World.drewN w121 _ = w121; replace BK291 := bq_ hq_ BK291; replace BK292 := bq_ hq_ BK292; replace BK299 := bq_ hq_ BK299; replace BK300 := bq_ hq_ BK300; replace BK301 := bq_ hq_ BK301; replace HB := hq5_ hq_ HB GE291 GE292 GE299 GE300 GE301; clear hq_))
                  replace BK291 := bd_ BK291; replace BK292 := bd_ BK292; replace BK299 := bd_ BK299; replace BK300 := bd_ BK300; replace BK301 := bd_ BK301; replace HB := hd_ HB; refine start_ (n := 14) (S := fun w' => w'.cell? ⟨gb292, 0, none⟩ = some (.int .i64 t289) ∧ w'.cell? ⟨gb292, 1, none⟩ = some (.int .i64 t290)) (ds := []) laws_FnRangeSums.b27_ (by kernel_rfl) rfl rfl ⟨cl_ BK292 0, cl_ BK292 1⟩ (fun hHeld => ?_); refine with_tabW laws_FnRangeSums.tab13 laws_FnRangeSums.bits13 (fun HT_ HW_ => ?_); generalize w121.drew = w122 at BK291 BK292 BK299 BK300 BK301 HB hHeld ⊢; refine pure_y 0 (some 91) laws_FnRangeSums.b28_ (any_of HT_.out (by kernel_rfl)) (h := ?_)
                  refine pure_y 2 (some 93) laws_FnRangeSums.b29_ (any_of HT_.out (by kernel_rfl)) (h := ?_)
                  refine pure_y 3 (some 94) laws_FnRangeSums.b30_ (any_of HT_.out (by kernel_rfl)) (h := ?_)
                  refine pure_y 4 (some 95) laws_FnRangeSums.b31_ (any_of HT_.out (by kernel_rfl)) (h := ?_)
                  refine pure_y 5 (some 96) laws_FnRangeSums.b32_ (any_of HT_.out (by kernel_rfl)) (h := ?_)
                  refine pure_y 7 (some 98) laws_FnRangeSums.b33_ (any_of HT_.out (by kernel_rfl)) (h := ?_)
                  refine take_y 1 (some 92) laws_FnRangeSums.b35_ rfl (take_ofW HT_.out HW_.out (by kernel_rfl)) hHeld (Or.inl ⟨by rfl, (by rintro w' ⟨s0, s1⟩; go_simp; with_reducible rfl)⟩) (h := ?_)
                  refine take_y 6 (some 97) laws_FnRangeSums.b37_ rfl (take_ofW HT_.out HW_.out (by kernel_rfl)) hHeld (Or.inl ⟨by rfl, (by rintro w' ⟨s0, s1⟩; go_simp; with_reducible rfl)⟩) (h := ?_)
                  refine take_y 8 (some 99) laws_FnRangeSums.b39_ rfl (take_ofW HT_.out HW_.out (by kernel_rfl)) hHeld (Or.inl ⟨by rfl, (by rintro w' ⟨s0, s1⟩; go_simp; with_reducible rfl)⟩) (h := ?_)
                  refine pure_y 9 (some 100) laws_FnRangeSums.b41_ (any_of HT_.out (by kernel_rfl)) (h := ?_)
                  refine pure_y 10 (some 101) laws_FnRangeSums.b43_ (any_of HT_.out (by kernel_rfl)) (h := ?_)
                  refine one_ (i := 11) (N := some 102) laws_FnRangeSums.b45_ rfl rfl (one_of HT_.out (by kernel_rfl)) (by decide) (fun K hK => ?_); refine gs_ Tryd.func17 #[.slice A0 l0.length c0, .int .i64 (wrap64 (x8_3 + 9)), .int .i64 (wrap64 ((wrap64 (t290 - t289)) + 1))] (h := ?_); with_reducible refine (laws_pick.calls k3 _ _ l0 (wrap64 (x8_3 + 9)) (wrap64 ((wrap64 (t290 - t289)) + 1)) t315 _ ?side1 ?side2 A105.out).mono ?_
                  (case side1 => exact sq_c (Kd.C_below HR0.out HB.out))
                  (case side2 => exact HC0.out)
                  rintro e w' ⟨rfl, ⟨nd, rfl⟩⟩; refine ⟨_, rfl, ?_⟩; refine hK.out _ _ ⟨cl_ BK292 0, cl_ BK292 1⟩ (fun hHeld => ?_); clear hK K; refine norm_ (a' := ?_) ?_ ?_; rotate_left
                  ·
                   show Act.put _ (some 102) _ = _; simp only [Act.put, List.setIfInBounds_toArray, List.set_cons_zero, List.set_cons_succ, i64_w, i32_w]; rfl
                  refine pure_y 12 (some 103) laws_FnRangeSums.b47_ (any_of HT_.out (by kernel_rfl)) (h := ?_)
                  refine pure_y 13 (some 10) laws_FnRangeSums.b49_ (any_of HT_.out (by kernel_rfl)) (h := ?_)
                  refine done_ (done_of HT_.out (by kernel_rfl)) ?_
                  try go_wp2_with (first | ((with_reducible refine gate_callee (f := 18) rfl ?_); refine gl_ 107 Tryd.func18 #[.int .i64 (wrap64 ((wrap64 (t287 + t314)) + (wrap64 (t289 + t315))))] (h := ?_); (with_reducible refine (laws_within.calls (wrap64 ((wrap64 (t287 + t314)) + (wrap64 (t289 + t315)))) true _ A106.out).mono ?_); rintro e w' ⟨rfl, ⟨nd, rfl⟩⟩; refine ⟨_, rfl, ?_⟩; have hnb123 := NB299_291.out; have hnc123 := NB291_299.out; have hnb124 := NB299_292.out; have hnc124 := NB292_299.out; have hnb125 := NB299_300.out; have hnc125 := NB300_299.out; have hnb126 := NB299_301.out; have hnc126 := NB301_299.out; have hcz127_0 := cl_ (v := .int .i64 t293) BK299 0; have hcz127_1 := cl_ (v := .int .i64 t294) BK299 1; have hfz127_0 := blk_frozen BK299.out 0; have hfz127_1 := blk_frozen BK299.out 1) | (go_at_call 19; (with_reducible refine (impl_RangeHas.calls t293 t294 (wrap64 ((wrap64 (t287 + t314)) + (wrap64 (t289 + t315)))) true _ ?side1 A108.out).mono ?_); (case side1 => exact GL0.below HG0.out (sq_below5 HB.out GE291.out GE292.out GE299.out GE300.out GE301.out)); rintro e w128 ⟨rfl, hb⟩; replace BK291 := bb_ BK291 hb; replace BK292 := bb_ BK292 hb; replace BK299 := bb_ BK299 hb; replace BK300 := bb_ BK300 hb; replace BK301 := bb_ BK301 hb; replace HB := hb5_ HB hb GE291 GE292 GE299 GE300 GE301; (try clear hb); (try clear hb2); (try clear hk); (try clear hi)) | (go_at_call 18; (with_reducible refine (laws_within.calls (wrap64 ((wrap64 (t287 + t314)) - (wrap64 (t289 + t315)))) true _ A110.out).mono ?_); rintro e w' ⟨rfl, ⟨nd, rfl⟩⟩; have hnb129 := NB300_291.out; have hnc129 := NB291_300.out; have hnb130 := NB300_292.out; have hnc130 := NB292_300.out; have hnb131 := NB300_301.out; have hnc131 := NB301_300.out; have hcz132_0 := cl_ (v := .int .i64 t295) BK300 0; have hcz132_1 := cl_ (v := .int .i64 t296) BK300 1; have hfz132_0 := blk_frozen BK300.out 0; have hfz132_1 := blk_frozen BK300.out 1) | (go_at_call 19; (with_reducible refine (impl_RangeHas.calls t295 t296 (wrap64 ((wrap64 (t287 + t314)) - (wrap64 (t289 + t315)))) true _ ?side1 A112.out).mono ?_); (case side1 => exact GL0.below HG0.out (sq_below5 HB.out GE291.out GE292.out GE299.out GE300.out GE301.out)); rintro e w133 ⟨rfl, hb⟩; replace BK291 := bb_ BK291 hb; replace BK292 := bb_ BK292 hb; replace BK299 := bb_ BK299 hb; replace BK300 := bb_ BK300 hb; replace BK301 := bb_ BK301 hb; replace HB := hb5_ HB hb GE291 GE292 GE299 GE300 GE301; (try clear hb); (try clear hb2); (try clear hk); (try clear hi)) | (go_at_call 18; (with_reducible refine (laws_within.calls (wrap64 ((wrap64 (t287 + t314)) * (wrap64 (t289 + t315)))) true _ A114.out).mono ?_); rintro e w' ⟨rfl, ⟨nd, rfl⟩⟩; have hnb134 := NB301_291.out; have hnc134 := NB291_301.out; have hnb135 := NB301_292.out; have hnc135 := NB292_301.out; have hcz136_0 := cl_ (v := .int .i64 t297) BK301 0; have hcz136_1 := cl_ (v := .int .i64 t298) BK301 1; have hfz136_0 := blk_frozen BK301.out 0; have hfz136_1 := blk_frozen BK301.out 1) | (go_at_call 19; (with_reducible refine (impl_RangeHas.calls t297 t298 (wrap64 ((wrap64 (t287 + t314)) * (wrap64 (t289 + t315)))) true _ ?side1 A116.out).mono ?_); (case side1 => exact GL0.below HG0.out (sq_below5 HB.out GE291.out GE292.out GE299.out GE300.out GE301.out)); rintro e w137 ⟨rfl, hb⟩; replace BK291 := bb_ BK291 hb; replace BK292 := bb_ BK292 hb; replace BK299 := bb_ BK299 hb; replace BK300 := bb_ BK300 hb; replace BK301 := bb_ BK301 hb; replace HB := hb5_ HB hb GE291 GE292 GE299 GE300 GE301; (try clear hb); (try clear hb2); (try clear hk); (try clear hi); have hnb138 := NB291_292.out; have hnc138 := NB292_291.out; have hcz139_0 := cl_ (v := .int .i64 t287) BK291 0; have hcz139_1 := cl_ (v := .int .i64 t288) BK291 1; have hfz139_0 := blk_frozen BK291.out 0; have hfz139_1 := blk_frozen BK291.out 1) | (go_at_call 14; (with_reducible refine (impl_RangeNeg.calls k3 t287 t288 t322 t323 _ ?side1 A118.out).mono ?_); (case side1 => exact GL0.below HG0.out (sq_below5 HB.out GE291.out GE292.out GE299.out GE300.out GE301.out)); rintro e w140 ⟨rfl, hb⟩; replace BK291 := bb_ BK291 hb; replace BK292 := bb_ BK292 hb; replace BK299 := bb_ BK299 hb; replace BK300 := bb_ BK300 hb; replace BK301 := bb_ BK301 hb; replace HB := hb5_ HB hb GE291 GE292 GE299 GE300 GE301; (try clear hb); (try clear hb2); (try clear hk); (try clear hi)) | (go_at_call 19; (with_reducible refine (impl_RangeHas.calls t322 t323 (wrap64 (-(wrap64 (t287 + t314)))) true _ ?side1 A119.out).mono ?_); (case side1 => exact GL0.below HG0.out (sq_below5 HB.out GE291.out GE292.out GE299.out GE300.out GE301.out)); rintro e w141 ⟨rfl, hb⟩; replace BK291 := bb_ BK291 hb; replace BK292 := bb_ BK292 hb; replace BK299 := bb_ BK299 hb; replace BK300 := bb_ BK300 hb; replace BK301 := bb_ BK301 hb; replace HB := hb5_ HB hb GE291 GE292 GE299 GE300 GE301; (try clear hb); (try clear hb2); (try clear hk); (try clear hi)))
                  go_roundg k3
                  case measure => have := HJ7.out; have := HJ53.out; have := HK3.out; omega
                  case rel => exact ⟨(wrap64 (x8_3 + 1)), (by first | rfl | (simp; done) | (simp [*]; done)), H', ⟨by have := HJ7.out; have := HJ53.out; have := HK3.out; omega⟩, bk_ BK291, bk_ BK292, bk_ BK299, bk_ BK300, bk_ BK301, ⟨by repeat (first | (with_reducible first | exact HB.out | apply below_alloc | apply pw_below_drewN | apply below_drew1 | refine below_set ?_ GE291.out | refine below_set ?_ GE292.out | refine below_set ?_ GE299.out | refine below_set ?_ GE300.out | refine below_set ?_ GE301.out) | exact HB.out)⟩⟩
                 ·
                  replace c120 := Bool.eq_false_iff.mpr c120; subst c120; exact (no_ H hr_).elim
                ·
                 replace c117 := Bool.eq_false_iff.mpr c117; subst c117; exact (no_ H hr_).elim
               ·
                replace c115 := Bool.eq_false_iff.mpr c115; subst c115; have H1 : ((impl_RangeNeg.f k3 t287 t288).bind fun bt325 => ((impl_RangeHas.f bt325.1 bt325.2 (wrap64 (-(wrap64 (t287 + t314))))).bind fun t327 => (if t327 = true then (laws_FnRangeSums.l0 k3 l0 (wrap64 (x8_3 + 1)) t287 t288 t289 t290 t293 t294 t295 t296 t297 t298) else (some false)))) = some r := by rw [if_neg (show ¬ (false = true) by decide)] at H; exact H
                clear H; have H := H1; clear H1; replace H := Option.bind_eq_some_iff.mp H; obtain ⟨⟨t325, t326⟩, A1420, H⟩ := H; (try dsimp only at H); have A142 := Aside0.mk A1420; clear A1420; replace H := Option.bind_eq_some_iff.mp H; obtain ⟨t327, A1430, H⟩ := H; (try dsimp only at H); have A143 := Aside0.mk A1430; clear A1430
                by_cases c144 : t327 = true
                ·
                 subst c144; have H1 : (laws_FnRangeSums.l0 k3 l0 (wrap64 (x8_3 + 1)) t287 t288 t289 t290 t293 t294 t295 t296 t297 t298) = some r := by rw [if_pos rfl] at H; exact H
                 clear H; have H := H1; clear H1; have H' := Aside0.mk H; clear H
                 try go_wp2
                 replace BK291 := bd_ BK291; replace BK292 := bd_ BK292; replace BK299 := bd_ BK299; replace BK300 := bd_ BK300; replace BK301 := bd_ BK301; replace HB := hd_ HB; refine start_ (n := 13) (S := fun w' => w'.cell? ⟨gb291, 0, none⟩ = some (.int .i64 t287) ∧ w'.cell? ⟨gb291, 1, none⟩ = some (.int .i64 t288)) (ds := []) laws_FnRangeSums.b34_ (by kernel_rfl) rfl rfl ⟨cl_ BK291 0, cl_ BK291 1⟩ (fun hHeld => ?_); refine with_tabW laws_FnRangeSums.tab12 laws_FnRangeSums.bits12 (fun HT_ HW_ => ?_); generalize wr.drew = w145 at BK291 BK292 BK299 BK300 BK301 HB hHeld ⊢; refine pure_y 0 (some 79) laws_FnRangeSums.b36_ (any_of HT_.out (by kernel_rfl)) (h := ?_)
                 refine pure_y 2 (some 81) laws_FnRangeSums.b38_ (any_of HT_.out (by kernel_rfl)) (h := ?_)
                 refine pure_y 3 (some 82) laws_FnRangeSums.b40_ (any_of HT_.out (by kernel_rfl)) (h := ?_)
                 refine pure_y 4 (some 83) laws_FnRangeSums.b42_ (any_of HT_.out (by kernel_rfl)) (h := ?_)
                 refine pure_y 6 (some 85) laws_FnRangeSums.b44_ (any_of HT_.out (by kernel_rfl)) (h := ?_)
                 refine take_y 1 (some 80) laws_FnRangeSums.b46_ rfl (take_ofW HT_.out HW_.out (by kernel_rfl)) hHeld (Or.inl ⟨by rfl, (by rintro w' ⟨s0, s1⟩; go_simp; with_reducible rfl)⟩) (h := ?_)
                 refine take_y 5 (some 84) laws_FnRangeSums.b48_ rfl (take_ofW HT_.out HW_.out (by kernel_rfl)) hHeld (Or.inl ⟨by rfl, (by rintro w' ⟨s0, s1⟩; go_simp; with_reducible rfl)⟩) (h := ?_)
                 refine take_y 7 (some 86) laws_FnRangeSums.b50_ rfl (take_ofW HT_.out HW_.out (by kernel_rfl)) hHeld (Or.inl ⟨by rfl, (by rintro w' ⟨s0, s1⟩; go_simp; with_reducible rfl)⟩) (h := ?_)
                 refine pure_y 8 (some 87) laws_FnRangeSums.b51_ (any_of HT_.out (by kernel_rfl)) (h := ?_)
                 refine pure_y 9 (some 88) laws_FnRangeSums.b52_ (any_of HT_.out (by kernel_rfl)) (h := ?_)
                 refine one_ (i := 10) (N := some 89) laws_FnRangeSums.b53_ rfl rfl (one_of HT_.out (by kernel_rfl)) (by decide) (fun K hK => ?_); refine gs_ Tryd.func17 #[.slice A0 l0.length c0, .int .i64 x8_3, .int .i64 (wrap64 ((wrap64 (t288 - t287)) + 1))] (h := ?_); with_reducible refine (laws_pick.calls k3 _ _ l0 x8_3 (wrap64 ((wrap64 (t288 - t287)) + 1)) t314 _ ?side1 ?side2 A104.out).mono ?_
                 (case side1 => exact sq_c (Kd.C_below HR0.out HB.out))
                 (case side2 => exact HC0.out)
                 rintro e w' ⟨rfl, ⟨nd, rfl⟩⟩; refine ⟨_, rfl, ?_⟩; refine hK.out _ _ ⟨cl_ BK291 0, cl_ BK291 1⟩ (fun hHeld => ?_); clear hK K; refine norm_ (a' := ?_) ?_ ?_; rotate_left
                 ·
                  show Act.put _ (some 89) _ = _; simp only [Act.put, List.setIfInBounds_toArray, List.set_cons_zero, List.set_cons_succ, i64_w, i32_w]; rfl
                 refine pure_y 11 (some 90) laws_FnRangeSums.b54_ (any_of HT_.out (by kernel_rfl)) (h := ?_)
                 refine pure_y 12 (some 9) laws_FnRangeSums.b55_ (any_of HT_.out (by kernel_rfl)) (h := ?_)
                 refine done_ (done_of HT_.out (by kernel_rfl)) ?_
                 try go_wp2
                 (try (rw [drewN_self w145]; generalize hq_ : World.drewN w145 _ = w145; replace BK291 := bq_ hq_ BK291; replace BK292 := bq_ hq_ BK292; replace BK299 := bq_ hq_ BK299; replace BK300 := bq_ hq_ BK300; replace BK301 := bq_ hq_ BK301; replace HB := hq5_ hq_ HB GE291 GE292 GE299 GE300 GE301; clear hq_))
                 replace BK291 := bd_ BK291; replace BK292 := bd_ BK292; replace BK299 := bd_ BK299; replace BK300 := bd_ BK300; replace BK301 := bd_ BK301; replace HB := hd_ HB; refine start_ (n := 14) (S := fun w' => w'.cell? ⟨gb292, 0, none⟩ = some (.int .i64 t289) ∧ w'.cell? ⟨gb292, 1, none⟩ = some (.int .i64 t290)) (ds := []) laws_FnRangeSums.b27_ (by kernel_rfl) rfl rfl ⟨cl_ BK292 0, cl_ BK292 1⟩ (fun hHeld => ?_); refine with_tabW laws_FnRangeSums.tab13 laws_FnRangeSums.bits13 (fun HT_ HW_ => ?_); generalize w145.drew = w146 at BK291 BK292 BK299 BK300 BK301 HB hHeld ⊢; refine pure_y 0 (some 91) laws_FnRangeSums.b28_ (any_of HT_.out (by kernel_rfl)) (h := ?_)
                 refine pure_y 2 (some 93) laws_FnRangeSums.b29_ (any_of HT_.out (by kernel_rfl)) (h := ?_)
                 refine pure_y 3 (some 94) laws_FnRangeSums.b30_ (any_of HT_.out (by kernel_rfl)) (h := ?_)
                 refine pure_y 4 (some 95) laws_FnRangeSums.b31_ (any_of HT_.out (by kernel_rfl)) (h := ?_)
                 refine pure_y 5 (some 96) laws_FnRangeSums.b32_ (any_of HT_.out (by kernel_rfl)) (h := ?_)
                 refine pure_y 7 (some 98) laws_FnRangeSums.b33_ (any_of HT_.out (by kernel_rfl)) (h := ?_)
                 refine take_y 1 (some 92) laws_FnRangeSums.b35_ rfl (take_ofW HT_.out HW_.out (by kernel_rfl)) hHeld (Or.inl ⟨by rfl, (by rintro w' ⟨s0, s1⟩; go_simp; with_reducible rfl)⟩) (h := ?_)
                 refine take_y 6 (some 97) laws_FnRangeSums.b37_ rfl (take_ofW HT_.out HW_.out (by kernel_rfl)) hHeld (Or.inl ⟨by rfl, (by rintro w' ⟨s0, s1⟩; go_simp; with_reducible rfl)⟩) (h := ?_)
                 refine take_y 8 (some 99) laws_FnRangeSums.b39_ rfl (take_ofW HT_.out HW_.out (by kernel_rfl)) hHeld (Or.inl ⟨by rfl, (by rintro w' ⟨s0, s1⟩; go_simp; with_reducible rfl)⟩) (h := ?_)
                 refine pure_y 9 (some 100) laws_FnRangeSums.b41_ (any_of HT_.out (by kernel_rfl)) (h := ?_)
                 refine pure_y 10 (some 101) laws_FnRangeSums.b43_ (any_of HT_.out (by kernel_rfl)) (h := ?_)
                 refine one_ (i := 11) (N := some 102) laws_FnRangeSums.b45_ rfl rfl (one_of HT_.out (by kernel_rfl)) (by decide) (fun K hK => ?_); refine gs_ Tryd.func17 #[.slice A0 l0.length c0, .int .i64 (wrap64 (x8_3 + 9)), .int .i64 (wrap64 ((wrap64 (t290 - t289)) + 1))] (h := ?_); with_reducible refine (laws_pick.calls k3 _ _ l0 (wrap64 (x8_3 + 9)) (wrap64 ((wrap64 (t290 - t289)) + 1)) t315 _ ?side1 ?side2 A105.out).mono ?_
                 (case side1 => exact sq_c (Kd.C_below HR0.out HB.out))
                 (case side2 => exact HC0.out)
                 rintro e w' ⟨rfl, ⟨nd, rfl⟩⟩; refine ⟨_, rfl, ?_⟩; refine hK.out _ _ ⟨cl_ BK292 0, cl_ BK292 1⟩ (fun hHeld => ?_); clear hK K; refine norm_ (a' := ?_) ?_ ?_; rotate_left
                 ·
                  show Act.put _ (some 102) _ = _; simp only [Act.put, List.setIfInBounds_toArray, List.set_cons_zero, List.set_cons_succ, i64_w, i32_w]; rfl
                 refine pure_y 12 (some 103) laws_FnRangeSums.b47_ (any_of HT_.out (by kernel_rfl)) (h := ?_)
                 refine pure_y 13 (some 10) laws_FnRangeSums.b49_ (any_of HT_.out (by kernel_rfl)) (h := ?_)
                 refine done_ (done_of HT_.out (by kernel_rfl)) ?_
                 try go_wp2_with (first | ((with_reducible refine gate_callee (f := 18) rfl ?_); refine gl_ 107 Tryd.func18 #[.int .i64 (wrap64 ((wrap64 (t287 + t314)) + (wrap64 (t289 + t315))))] (h := ?_); (with_reducible refine (laws_within.calls (wrap64 ((wrap64 (t287 + t314)) + (wrap64 (t289 + t315)))) true _ A106.out).mono ?_); rintro e w' ⟨rfl, ⟨nd, rfl⟩⟩; refine ⟨_, rfl, ?_⟩; have hnb147 := NB299_291.out; have hnc147 := NB291_299.out; have hnb148 := NB299_292.out; have hnc148 := NB292_299.out; have hnb149 := NB299_300.out; have hnc149 := NB300_299.out; have hnb150 := NB299_301.out; have hnc150 := NB301_299.out; have hcz151_0 := cl_ (v := .int .i64 t293) BK299 0; have hcz151_1 := cl_ (v := .int .i64 t294) BK299 1; have hfz151_0 := blk_frozen BK299.out 0; have hfz151_1 := blk_frozen BK299.out 1) | (go_at_call 19; (with_reducible refine (impl_RangeHas.calls t293 t294 (wrap64 ((wrap64 (t287 + t314)) + (wrap64 (t289 + t315)))) true _ ?side1 A108.out).mono ?_); (case side1 => exact GL0.below HG0.out (sq_below5 HB.out GE291.out GE292.out GE299.out GE300.out GE301.out)); rintro e w152 ⟨rfl, hb⟩; replace BK291 := bb_ BK291 hb; replace BK292 := bb_ BK292 hb; replace BK299 := bb_ BK299 hb; replace BK300 := bb_ BK300 hb; replace BK301 := bb_ BK301 hb; replace HB := hb5_ HB hb GE291 GE292 GE299 GE300 GE301; (try clear hb); (try clear hb2); (try clear hk); (try clear hi)) | (go_at_call 18; (with_reducible refine (laws_within.calls (wrap64 ((wrap64 (t287 + t314)) - (wrap64 (t289 + t315)))) true _ A110.out).mono ?_); rintro e w' ⟨rfl, ⟨nd, rfl⟩⟩; have hnb153 := NB300_291.out; have hnc153 := NB291_300.out; have hnb154 := NB300_292.out; have hnc154 := NB292_300.out; have hnb155 := NB300_301.out; have hnc155 := NB301_300.out; have hcz156_0 := cl_ (v := .int .i64 t295) BK300 0; have hcz156_1 := cl_ (v := .int .i64 t296) BK300 1; have hfz156_0 := blk_frozen BK300.out 0; have hfz156_1 := blk_frozen BK300.out 1) | (go_at_call 19; (with_reducible refine (impl_RangeHas.calls t295 t296 (wrap64 ((wrap64 (t287 + t314)) - (wrap64 (t289 + t315)))) true _ ?side1 A112.out).mono ?_); (case side1 => exact GL0.below HG0.out (sq_below5 HB.out GE291.out GE292.out GE299.out GE300.out GE301.out)); rintro e w157 ⟨rfl, hb⟩; replace BK291 := bb_ BK291 hb; replace BK292 := bb_ BK292 hb; replace BK299 := bb_ BK299 hb; replace BK300 := bb_ BK300 hb; replace BK301 := bb_ BK301 hb; replace HB := hb5_ HB hb GE291 GE292 GE299 GE300 GE301; (try clear hb); (try clear hb2); (try clear hk); (try clear hi)) | (go_at_call 18; (with_reducible refine (laws_within.calls (wrap64 ((wrap64 (t287 + t314)) * (wrap64 (t289 + t315)))) false _ A114.out).mono ?_); rintro e w' ⟨rfl, ⟨nd, rfl⟩⟩; have hnb158 := NB291_292.out; have hnc158 := NB292_291.out; have hnb159 := NB291_301.out; have hnc159 := NB301_291.out; have hcz160_0 := cl_ (v := .int .i64 t287) BK291 0; have hcz160_1 := cl_ (v := .int .i64 t288) BK291 1; have hfz160_0 := blk_frozen BK291.out 0; have hfz160_1 := blk_frozen BK291.out 1) | (go_at_call 14; (with_reducible refine (impl_RangeNeg.calls k3 t287 t288 t325 t326 _ ?side1 A142.out).mono ?_); (case side1 => exact GL0.below HG0.out (sq_below5 HB.out GE291.out GE292.out GE299.out GE300.out GE301.out)); rintro e w161 ⟨rfl, hb⟩; replace BK291 := bb_ BK291 hb; replace BK292 := bb_ BK292 hb; replace BK299 := bb_ BK299 hb; replace BK300 := bb_ BK300 hb; replace BK301 := bb_ BK301 hb; replace HB := hb5_ HB hb GE291 GE292 GE299 GE300 GE301; (try clear hb); (try clear hb2); (try clear hk); (try clear hi)) | (go_at_call 19; (with_reducible refine (impl_RangeHas.calls t325 t326 (wrap64 (-(wrap64 (t287 + t314)))) true _ ?side1 A143.out).mono ?_); (case side1 => exact GL0.below HG0.out (sq_below5 HB.out GE291.out GE292.out GE299.out GE300.out GE301.out)); rintro e w162 ⟨rfl, hb⟩; replace BK291 := bb_ BK291 hb; replace BK292 := bb_ BK292 hb; replace BK299 := bb_ BK299 hb; replace BK300 := bb_ BK300 hb; replace BK301 := bb_ BK301 hb; replace HB := hb5_ HB hb GE291 GE292 GE299 GE300 GE301; (try clear hb); (try clear hb2); (try clear hk); (try clear hi)))
                 go_roundg k3
                 case measure => have := HJ7.out; have := HJ53.out; have := HK3.out; omega
                 case rel => exact ⟨(wrap64 (x8_3 + 1)), (by first | rfl | (simp; done) | (simp [*]; done)), H', ⟨by have := HJ7.out; have := HJ53.out; have := HK3.out; omega⟩, bk_ BK291, bk_ BK292, bk_ BK299, bk_ BK300, bk_ BK301, ⟨by repeat (first | (with_reducible first | exact HB.out | apply below_alloc | apply pw_below_drewN | apply below_drew1 | refine below_set ?_ GE291.out | refine below_set ?_ GE292.out | refine below_set ?_ GE299.out | refine below_set ?_ GE300.out | refine below_set ?_ GE301.out) | exact HB.out)⟩⟩
                ·
                 replace c144 := Bool.eq_false_iff.mpr c144; subst c144; exact (no_ H hr_).elim
              ·
               replace c113 := Bool.eq_false_iff.mpr c113; subst c113; exact (no_ H hr_).elim
             ·
              replace c111 := Bool.eq_false_iff.mpr c111; subst c111; have H1 : ((laws_within.f (wrap64 ((wrap64 (t287 + t314)) * (wrap64 (t289 + t315))))).bind fun t328 => (if t328 = true then ((impl_RangeHas.f t297 t298 (wrap64 ((wrap64 (t287 + t314)) * (wrap64 (t289 + t315))))).bind fun t329 => (if t329 = true then ((impl_RangeNeg.f k3 t287 t288).bind fun bt330 => ((impl_RangeHas.f bt330.1 bt330.2 (wrap64 (-(wrap64 (t287 + t314))))).bind fun t332 => (if t332 = true then (laws_FnRangeSums.l0 k3 l0 (wrap64 (x8_3 + 1)) t287 t288 t289 t290 t293 t294 t295 t296 t297 t298) else (some false)))) else (some false))) else ((impl_RangeNeg.f k3 t287 t288).bind fun bt333 => ((impl_RangeHas.f bt333.1 bt333.2 (wrap64 (-(wrap64 (t287 + t314))))).bind fun t335 => (if t335 = true then (laws_FnRangeSums.l0 k3 l0 (wrap64 (x8_3 + 1)) t287 t288 t289 t290 t293 t294 t295 t296 t297 t298) else (some false)))))) = some r := by rw [if_neg (show ¬ (false = true) by decide)] at H; exact H
              clear H; have H := H1; clear H1; replace H := Option.bind_eq_some_iff.mp H; obtain ⟨t328, A1630, H⟩ := H; (try dsimp only at H); have A163 := Aside0.mk A1630; clear A1630
              by_cases c164 : t328 = true
              ·
               subst c164; have H1 : ((impl_RangeHas.f t297 t298 (wrap64 ((wrap64 (t287 + t314)) * (wrap64 (t289 + t315))))).bind fun t329 => (if t329 = true then ((impl_RangeNeg.f k3 t287 t288).bind fun bt330 => ((impl_RangeHas.f bt330.1 bt330.2 (wrap64 (-(wrap64 (t287 + t314))))).bind fun t332 => (if t332 = true then (laws_FnRangeSums.l0 k3 l0 (wrap64 (x8_3 + 1)) t287 t288 t289 t290 t293 t294 t295 t296 t297 t298) else (some false)))) else (some false))) = some r := by rw [if_pos rfl] at H; exact H
               clear H; have H := H1; clear H1; replace H := Option.bind_eq_some_iff.mp H; obtain ⟨t329, A1650, H⟩ := H; (try dsimp only at H); have A165 := Aside0.mk A1650; clear A1650
               by_cases c166 : t329 = true
               ·
                subst c166; have H1 : ((impl_RangeNeg.f k3 t287 t288).bind fun bt330 => ((impl_RangeHas.f bt330.1 bt330.2 (wrap64 (-(wrap64 (t287 + t314))))).bind fun t332 => (if t332 = true then (laws_FnRangeSums.l0 k3 l0 (wrap64 (x8_3 + 1)) t287 t288 t289 t290 t293 t294 t295 t296 t297 t298) else (some false)))) = some r := by rw [if_pos rfl] at H; exact H
                clear H; have H := H1; clear H1; replace H := Option.bind_eq_some_iff.mp H; obtain ⟨⟨t330, t331⟩, A1670, H⟩ := H; (try dsimp only at H); have A167 := Aside0.mk A1670; clear A1670; replace H := Option.bind_eq_some_iff.mp H; obtain ⟨t332, A1680, H⟩ := H; (try dsimp only at H); have A168 := Aside0.mk A1680; clear A1680
                by_cases c169 : t332 = true
                ·
                 subst c169; have H1 : (laws_FnRangeSums.l0 k3 l0 (wrap64 (x8_3 + 1)) t287 t288 t289 t290 t293 t294 t295 t296 t297 t298) = some r := by rw [if_pos rfl] at H; exact H
                 clear H; have H := H1; clear H1; have H' := Aside0.mk H; clear H
                 try go_wp2
                 replace BK291 := bd_ BK291; replace BK292 := bd_ BK292; replace BK299 := bd_ BK299; replace BK300 := bd_ BK300; replace BK301 := bd_ BK301; replace HB := hd_ HB; refine start_ (n := 13) (S := fun w' => w'.cell? ⟨gb291, 0, none⟩ = some (.int .i64 t287) ∧ w'.cell? ⟨gb291, 1, none⟩ = some (.int .i64 t288)) (ds := []) laws_FnRangeSums.b34_ (by kernel_rfl) rfl rfl ⟨cl_ BK291 0, cl_ BK291 1⟩ (fun hHeld => ?_); refine with_tabW laws_FnRangeSums.tab12 laws_FnRangeSums.bits12 (fun HT_ HW_ => ?_); generalize wr.drew = w170 at BK291 BK292 BK299 BK300 BK301 HB hHeld ⊢; refine pure_y 0 (some 79) laws_FnRangeSums.b36_ (any_of HT_.out (by kernel_rfl)) (h := ?_)
                 refine pure_y 2 (some 81) laws_FnRangeSums.b38_ (any_of HT_.out (by kernel_rfl)) (h := ?_)
                 refine pure_y 3 (some 82) laws_FnRangeSums.b40_ (any_of HT_.out (by kernel_rfl)) (h := ?_)
                 refine pure_y 4 (some 83) laws_FnRangeSums.b42_ (any_of HT_.out (by kernel_rfl)) (h := ?_)
                 refine pure_y 6 (some 85) laws_FnRangeSums.b44_ (any_of HT_.out (by kernel_rfl)) (h := ?_)
                 refine take_y 1 (some 80) laws_FnRangeSums.b46_ rfl (take_ofW HT_.out HW_.out (by kernel_rfl)) hHeld (Or.inl ⟨by rfl, (by rintro w' ⟨s0, s1⟩; go_simp; with_reducible rfl)⟩) (h := ?_)
                 refine take_y 5 (some 84) laws_FnRangeSums.b48_ rfl (take_ofW HT_.out HW_.out (by kernel_rfl)) hHeld (Or.inl ⟨by rfl, (by rintro w' ⟨s0, s1⟩; go_simp; with_reducible rfl)⟩) (h := ?_)
                 refine take_y 7 (some 86) laws_FnRangeSums.b50_ rfl (take_ofW HT_.out HW_.out (by kernel_rfl)) hHeld (Or.inl ⟨by rfl, (by rintro w' ⟨s0, s1⟩; go_simp; with_reducible rfl)⟩) (h := ?_)
                 refine pure_y 8 (some 87) laws_FnRangeSums.b51_ (any_of HT_.out (by kernel_rfl)) (h := ?_)
                 refine pure_y 9 (some 88) laws_FnRangeSums.b52_ (any_of HT_.out (by kernel_rfl)) (h := ?_)
                 refine one_ (i := 10) (N := some 89) laws_FnRangeSums.b53_ rfl rfl (one_of HT_.out (by kernel_rfl)) (by decide) (fun K hK => ?_); refine gs_ Tryd.func17 #[.slice A0 l0.length c0, .int .i64 x8_3, .int .i64 (wrap64 ((wrap64 (t288 - t287)) + 1))] (h := ?_); with_reducible refine (laws_pick.calls k3 _ _ l0 x8_3 (wrap64 ((wrap64 (t288 - t287)) + 1)) t314 _ ?side1 ?side2 A104.out).mono ?_
                 (case side1 => exact sq_c (Kd.C_below HR0.out HB.out))
                 (case side2 => exact HC0.out)
                 rintro e w' ⟨rfl, ⟨nd, rfl⟩⟩; refine ⟨_, rfl, ?_⟩; refine hK.out _ _ ⟨cl_ BK291 0, cl_ BK291 1⟩ (fun hHeld => ?_); clear hK K; refine norm_ (a' := ?_) ?_ ?_; rotate_left
                 ·
                  show Act.put _ (some 89) _ = _; simp only [Act.put, List.setIfInBounds_toArray, List.set_cons_zero, List.set_cons_succ, i64_w, i32_w]; rfl
                 refine pure_y 11 (some 90) laws_FnRangeSums.b54_ (any_of HT_.out (by kernel_rfl)) (h := ?_)
                 refine pure_y 12 (some 9) laws_FnRangeSums.b55_ (any_of HT_.out (by kernel_rfl)) (h := ?_)
                 refine done_ (done_of HT_.out (by kernel_rfl)) ?_
                 try go_wp2
                 (try (rw [drewN_self w170]; generalize hq_ : World.drewN w170 _ = w170; replace BK291 := bq_ hq_ BK291; replace BK292 := bq_ hq_ BK292; replace BK299 := bq_ hq_ BK299; replace BK300 := bq_ hq_ BK300; replace BK301 := bq_ hq_ BK301; replace HB := hq5_ hq_ HB GE291 GE292 GE299 GE300 GE301; clear hq_))
                 replace BK291 := bd_ BK291; replace BK292 := bd_ BK292; replace BK299 := bd_ BK299; replace BK300 := bd_ BK300; replace BK301 := bd_ BK301; replace HB := hd_ HB; refine start_ (n := 14) (S := fun w' => w'.cell? ⟨gb292, 0, none⟩ = some (.int .i64 t289) ∧ w'.cell? ⟨gb292, 1, none⟩ = some (.int .i64 t290)) (ds := []) laws_FnRangeSums.b27_ (by kernel_rfl) rfl rfl ⟨cl_ BK292 0, cl_ BK292 1⟩ (fun hHeld => ?_); refine with_tabW laws_FnRangeSums.tab13 laws_FnRangeSums.bits13 (fun HT_ HW_ => ?_); generalize w170.drew = w171 at BK291 BK292 BK299 BK300 BK301 HB hHeld ⊢; refine pure_y 0 (some 91) laws_FnRangeSums.b28_ (any_of HT_.out (by kernel_rfl)) (h := ?_)
                 refine pure_y 2 (some 93) laws_FnRangeSums.b29_ (any_of HT_.out (by kernel_rfl)) (h := ?_)
                 refine pure_y 3 (some 94) laws_FnRangeSums.b30_ (any_of HT_.out (by kernel_rfl)) (h := ?_)
                 refine pure_y 4 (some 95) laws_FnRangeSums.b31_ (any_of HT_.out (by kernel_rfl)) (h := ?_)
                 refine pure_y 5 (some 96) laws_FnRangeSums.b32_ (any_of HT_.out (by kernel_rfl)) (h := ?_)
                 refine pure_y 7 (some 98) laws_FnRangeSums.b33_ (any_of HT_.out (by kernel_rfl)) (h := ?_)
                 refine take_y 1 (some 92) laws_FnRangeSums.b35_ rfl (take_ofW HT_.out HW_.out (by kernel_rfl)) hHeld (Or.inl ⟨by rfl, (by rintro w' ⟨s0, s1⟩; go_simp; with_reducible rfl)⟩) (h := ?_)
                 refine take_y 6 (some 97) laws_FnRangeSums.b37_ rfl (take_ofW HT_.out HW_.out (by kernel_rfl)) hHeld (Or.inl ⟨by rfl, (by rintro w' ⟨s0, s1⟩; go_simp; with_reducible rfl)⟩) (h := ?_)
                 refine take_y 8 (some 99) laws_FnRangeSums.b39_ rfl (take_ofW HT_.out HW_.out (by kernel_rfl)) hHeld (Or.inl ⟨by rfl, (by rintro w' ⟨s0, s1⟩; go_simp; with_reducible rfl)⟩) (h := ?_)
                 refine pure_y 9 (some 100) laws_FnRangeSums.b41_ (any_of HT_.out (by kernel_rfl)) (h := ?_)
                 refine pure_y 10 (some 101) laws_FnRangeSums.b43_ (any_of HT_.out (by kernel_rfl)) (h := ?_)
                 refine one_ (i := 11) (N := some 102) laws_FnRangeSums.b45_ rfl rfl (one_of HT_.out (by kernel_rfl)) (by decide) (fun K hK => ?_); refine gs_ Tryd.func17 #[.slice A0 l0.length c0, .int .i64 (wrap64 (x8_3 + 9)), .int .i64 (wrap64 ((wrap64 (t290 - t289)) + 1))] (h := ?_); with_reducible refine (laws_pick.calls k3 _ _ l0 (wrap64 (x8_3 + 9)) (wrap64 ((wrap64 (t290 - t289)) + 1)) t315 _ ?side1 ?side2 A105.out).mono ?_
                 (case side1 => exact sq_c (Kd.C_below HR0.out HB.out))
                 (case side2 => exact HC0.out)
                 rintro e w' ⟨rfl, ⟨nd, rfl⟩⟩; refine ⟨_, rfl, ?_⟩; refine hK.out _ _ ⟨cl_ BK292 0, cl_ BK292 1⟩ (fun hHeld => ?_); clear hK K; refine norm_ (a' := ?_) ?_ ?_; rotate_left
                 ·
                  show Act.put _ (some 102) _ = _; simp only [Act.put, List.setIfInBounds_toArray, List.set_cons_zero, List.set_cons_succ, i64_w, i32_w]; rfl
                 refine pure_y 12 (some 103) laws_FnRangeSums.b47_ (any_of HT_.out (by kernel_rfl)) (h := ?_)
                 refine pure_y 13 (some 10) laws_FnRangeSums.b49_ (any_of HT_.out (by kernel_rfl)) (h := ?_)
                 refine done_ (done_of HT_.out (by kernel_rfl)) ?_
                 try go_wp2_with (first | ((with_reducible refine gate_callee (f := 18) rfl ?_); refine gl_ 107 Tryd.func18 #[.int .i64 (wrap64 ((wrap64 (t287 + t314)) + (wrap64 (t289 + t315))))] (h := ?_); (with_reducible refine (laws_within.calls (wrap64 ((wrap64 (t287 + t314)) + (wrap64 (t289 + t315)))) true _ A106.out).mono ?_); rintro e w' ⟨rfl, ⟨nd, rfl⟩⟩; refine ⟨_, rfl, ?_⟩; have hnb172 := NB299_291.out; have hnc172 := NB291_299.out; have hnb173 := NB299_292.out; have hnc173 := NB292_299.out; have hnb174 := NB299_300.out; have hnc174 := NB300_299.out; have hnb175 := NB299_301.out; have hnc175 := NB301_299.out; have hcz176_0 := cl_ (v := .int .i64 t293) BK299 0; have hcz176_1 := cl_ (v := .int .i64 t294) BK299 1; have hfz176_0 := blk_frozen BK299.out 0; have hfz176_1 := blk_frozen BK299.out 1) | (go_at_call 19; (with_reducible refine (impl_RangeHas.calls t293 t294 (wrap64 ((wrap64 (t287 + t314)) + (wrap64 (t289 + t315)))) true _ ?side1 A108.out).mono ?_); (case side1 => exact GL0.below HG0.out (sq_below5 HB.out GE291.out GE292.out GE299.out GE300.out GE301.out)); rintro e w177 ⟨rfl, hb⟩; replace BK291 := bb_ BK291 hb; replace BK292 := bb_ BK292 hb; replace BK299 := bb_ BK299 hb; replace BK300 := bb_ BK300 hb; replace BK301 := bb_ BK301 hb; replace HB := hb5_ HB hb GE291 GE292 GE299 GE300 GE301; (try clear hb); (try clear hb2); (try clear hk); (try clear hi)) | (go_at_call 18; (with_reducible refine (laws_within.calls (wrap64 ((wrap64 (t287 + t314)) - (wrap64 (t289 + t315)))) false _ A110.out).mono ?_); rintro e w' ⟨rfl, ⟨nd, rfl⟩⟩) | (go_at_call 18; (with_reducible refine (laws_within.calls (wrap64 ((wrap64 (t287 + t314)) * (wrap64 (t289 + t315)))) true _ A163.out).mono ?_); rintro e w' ⟨rfl, ⟨nd, rfl⟩⟩; have hnb178 := NB301_291.out; have hnc178 := NB291_301.out; have hnb179 := NB301_292.out; have hnc179 := NB292_301.out; have hnb180 := NB301_300.out; have hnc180 := NB300_301.out; have hcz181_0 := cl_ (v := .int .i64 t297) BK301 0; have hcz181_1 := cl_ (v := .int .i64 t298) BK301 1; have hfz181_0 := blk_frozen BK301.out 0; have hfz181_1 := blk_frozen BK301.out 1) | (go_at_call 19; (with_reducible refine (impl_RangeHas.calls t297 t298 (wrap64 ((wrap64 (t287 + t314)) * (wrap64 (t289 + t315)))) true _ ?side1 A165.out).mono ?_); (case side1 => exact GL0.below HG0.out (sq_below5 HB.out GE291.out GE292.out GE299.out GE300.out GE301.out)); rintro e w182 ⟨rfl, hb⟩; replace BK291 := bb_ BK291 hb; replace BK292 := bb_ BK292 hb; replace BK299 := bb_ BK299 hb; replace BK300 := bb_ BK300 hb; replace BK301 := bb_ BK301 hb; replace HB := hb5_ HB hb GE291 GE292 GE299 GE300 GE301; (try clear hb); (try clear hb2); (try clear hk); (try clear hi); have hnb183 := NB291_292.out; have hnc183 := NB292_291.out; have hnb184 := NB291_300.out; have hnc184 := NB300_291.out; have hcz185_0 := cl_ (v := .int .i64 t287) BK291 0; have hcz185_1 := cl_ (v := .int .i64 t288) BK291 1; have hfz185_0 := blk_frozen BK291.out 0; have hfz185_1 := blk_frozen BK291.out 1) | (go_at_call 14; (with_reducible refine (impl_RangeNeg.calls k3 t287 t288 t330 t331 _ ?side1 A167.out).mono ?_); (case side1 => exact GL0.below HG0.out (sq_below5 HB.out GE291.out GE292.out GE299.out GE300.out GE301.out)); rintro e w186 ⟨rfl, hb⟩; replace BK291 := bb_ BK291 hb; replace BK292 := bb_ BK292 hb; replace BK299 := bb_ BK299 hb; replace BK300 := bb_ BK300 hb; replace BK301 := bb_ BK301 hb; replace HB := hb5_ HB hb GE291 GE292 GE299 GE300 GE301; (try clear hb); (try clear hb2); (try clear hk); (try clear hi)) | (go_at_call 19; (with_reducible refine (impl_RangeHas.calls t330 t331 (wrap64 (-(wrap64 (t287 + t314)))) true _ ?side1 A168.out).mono ?_); (case side1 => exact GL0.below HG0.out (sq_below5 HB.out GE291.out GE292.out GE299.out GE300.out GE301.out)); rintro e w187 ⟨rfl, hb⟩; replace BK291 := bb_ BK291 hb; replace BK292 := bb_ BK292 hb; replace BK299 := bb_ BK299 hb; replace BK300 := bb_ BK300 hb; replace BK301 := bb_ BK301 hb; replace HB := hb5_ HB hb GE291 GE292 GE299 GE300 GE301; (try clear hb); (try clear hb2); (try clear hk); (try clear hi)))
                 go_roundg k3
                 case measure => have := HJ7.out; have := HJ53.out; have := HK3.out; omega
                 case rel => exact ⟨(wrap64 (x8_3 + 1)), (by first | rfl | (simp; done) | (simp [*]; done)), H', ⟨by have := HJ7.out; have := HJ53.out; have := HK3.out; omega⟩, bk_ BK291, bk_ BK292, bk_ BK299, bk_ BK300, bk_ BK301, ⟨by repeat (first | (with_reducible first | exact HB.out | apply below_alloc | apply pw_below_drewN | apply below_drew1 | refine below_set ?_ GE291.out | refine below_set ?_ GE292.out | refine below_set ?_ GE299.out | refine below_set ?_ GE300.out | refine below_set ?_ GE301.out) | exact HB.out)⟩⟩
                ·
                 replace c169 := Bool.eq_false_iff.mpr c169; subst c169; exact (no_ H hr_).elim
               ·
                replace c166 := Bool.eq_false_iff.mpr c166; subst c166; exact (no_ H hr_).elim
              ·
               replace c164 := Bool.eq_false_iff.mpr c164; subst c164; have H1 : ((impl_RangeNeg.f k3 t287 t288).bind fun bt333 => ((impl_RangeHas.f bt333.1 bt333.2 (wrap64 (-(wrap64 (t287 + t314))))).bind fun t335 => (if t335 = true then (laws_FnRangeSums.l0 k3 l0 (wrap64 (x8_3 + 1)) t287 t288 t289 t290 t293 t294 t295 t296 t297 t298) else (some false)))) = some r := by rw [if_neg (show ¬ (false = true) by decide)] at H; exact H
               clear H; have H := H1; clear H1; replace H := Option.bind_eq_some_iff.mp H; obtain ⟨⟨t333, t334⟩, A1880, H⟩ := H; (try dsimp only at H); have A188 := Aside0.mk A1880; clear A1880; replace H := Option.bind_eq_some_iff.mp H; obtain ⟨t335, A1890, H⟩ := H; (try dsimp only at H); have A189 := Aside0.mk A1890; clear A1890
               by_cases c190 : t335 = true
               ·
                subst c190; have H1 : (laws_FnRangeSums.l0 k3 l0 (wrap64 (x8_3 + 1)) t287 t288 t289 t290 t293 t294 t295 t296 t297 t298) = some r := by rw [if_pos rfl] at H; exact H
                clear H; have H := H1; clear H1; have H' := Aside0.mk H; clear H
                try go_wp2
                replace BK291 := bd_ BK291; replace BK292 := bd_ BK292; replace BK299 := bd_ BK299; replace BK300 := bd_ BK300; replace BK301 := bd_ BK301; replace HB := hd_ HB; refine start_ (n := 13) (S := fun w' => w'.cell? ⟨gb291, 0, none⟩ = some (.int .i64 t287) ∧ w'.cell? ⟨gb291, 1, none⟩ = some (.int .i64 t288)) (ds := []) laws_FnRangeSums.b34_ (by kernel_rfl) rfl rfl ⟨cl_ BK291 0, cl_ BK291 1⟩ (fun hHeld => ?_); refine with_tabW laws_FnRangeSums.tab12 laws_FnRangeSums.bits12 (fun HT_ HW_ => ?_); generalize wr.drew = w191 at BK291 BK292 BK299 BK300 BK301 HB hHeld ⊢; refine pure_y 0 (some 79) laws_FnRangeSums.b36_ (any_of HT_.out (by kernel_rfl)) (h := ?_)
                refine pure_y 2 (some 81) laws_FnRangeSums.b38_ (any_of HT_.out (by kernel_rfl)) (h := ?_)
                refine pure_y 3 (some 82) laws_FnRangeSums.b40_ (any_of HT_.out (by kernel_rfl)) (h := ?_)
                refine pure_y 4 (some 83) laws_FnRangeSums.b42_ (any_of HT_.out (by kernel_rfl)) (h := ?_)
                refine pure_y 6 (some 85) laws_FnRangeSums.b44_ (any_of HT_.out (by kernel_rfl)) (h := ?_)
                refine take_y 1 (some 80) laws_FnRangeSums.b46_ rfl (take_ofW HT_.out HW_.out (by kernel_rfl)) hHeld (Or.inl ⟨by rfl, (by rintro w' ⟨s0, s1⟩; go_simp; with_reducible rfl)⟩) (h := ?_)
                refine take_y 5 (some 84) laws_FnRangeSums.b48_ rfl (take_ofW HT_.out HW_.out (by kernel_rfl)) hHeld (Or.inl ⟨by rfl, (by rintro w' ⟨s0, s1⟩; go_simp; with_reducible rfl)⟩) (h := ?_)
                refine take_y 7 (some 86) laws_FnRangeSums.b50_ rfl (take_ofW HT_.out HW_.out (by kernel_rfl)) hHeld (Or.inl ⟨by rfl, (by rintro w' ⟨s0, s1⟩; go_simp; with_reducible rfl)⟩) (h := ?_)
                refine pure_y 8 (some 87) laws_FnRangeSums.b51_ (any_of HT_.out (by kernel_rfl)) (h := ?_)
                refine pure_y 9 (some 88) laws_FnRangeSums.b52_ (any_of HT_.out (by kernel_rfl)) (h := ?_)
                refine one_ (i := 10) (N := some 89) laws_FnRangeSums.b53_ rfl rfl (one_of HT_.out (by kernel_rfl)) (by decide) (fun K hK => ?_); refine gs_ Tryd.func17 #[.slice A0 l0.length c0, .int .i64 x8_3, .int .i64 (wrap64 ((wrap64 (t288 - t287)) + 1))] (h := ?_); with_reducible refine (laws_pick.calls k3 _ _ l0 x8_3 (wrap64 ((wrap64 (t288 - t287)) + 1)) t314 _ ?side1 ?side2 A104.out).mono ?_
                (case side1 => exact sq_c (Kd.C_below HR0.out HB.out))
                (case side2 => exact HC0.out)
                rintro e w' ⟨rfl, ⟨nd, rfl⟩⟩; refine ⟨_, rfl, ?_⟩; refine hK.out _ _ ⟨cl_ BK291 0, cl_ BK291 1⟩ (fun hHeld => ?_); clear hK K; refine norm_ (a' := ?_) ?_ ?_; rotate_left
                ·
                 show Act.put _ (some 89) _ = _; simp only [Act.put, List.setIfInBounds_toArray, List.set_cons_zero, List.set_cons_succ, i64_w, i32_w]; rfl
                refine pure_y 11 (some 90) laws_FnRangeSums.b54_ (any_of HT_.out (by kernel_rfl)) (h := ?_)
                refine pure_y 12 (some 9) laws_FnRangeSums.b55_ (any_of HT_.out (by kernel_rfl)) (h := ?_)
                refine done_ (done_of HT_.out (by kernel_rfl)) ?_
                try go_wp2
                (try (rw [drewN_self w191]; generalize hq_ : World.drewN w191 _ = w191; replace BK291 := bq_ hq_ BK291; replace BK292 := bq_ hq_ BK292; replace BK299 := bq_ hq_ BK299; replace BK300 := bq_ hq_ BK300; replace BK301 := bq_ hq_ BK301; replace HB := hq5_ hq_ HB GE291 GE292 GE299 GE300 GE301; clear hq_))
                replace BK291 := bd_ BK291; replace BK292 := bd_ BK292; replace BK299 := bd_ BK299; replace BK300 := bd_ BK300; replace BK301 := bd_ BK301; replace HB := hd_ HB; refine start_ (n := 14) (S := fun w' => w'.cell? ⟨gb292, 0, none⟩ = some (.int .i64 t289) ∧ w'.cell? ⟨gb292, 1, none⟩ = some (.int .i64 t290)) (ds := []) laws_FnRangeSums.b27_ (by kernel_rfl) rfl rfl ⟨cl_ BK292 0, cl_ BK292 1⟩ (fun hHeld => ?_); refine with_tabW laws_FnRangeSums.tab13 laws_FnRangeSums.bits13 (fun HT_ HW_ => ?_); generalize w191.drew = w192 at BK291 BK292 BK299 BK300 BK301 HB hHeld ⊢; refine pure_y 0 (some 91) laws_FnRangeSums.b28_ (any_of HT_.out (by kernel_rfl)) (h := ?_)
                refine pure_y 2 (some 93) laws_FnRangeSums.b29_ (any_of HT_.out (by kernel_rfl)) (h := ?_)
                refine pure_y 3 (some 94) laws_FnRangeSums.b30_ (any_of HT_.out (by kernel_rfl)) (h := ?_)
                refine pure_y 4 (some 95) laws_FnRangeSums.b31_ (any_of HT_.out (by kernel_rfl)) (h := ?_)
                refine pure_y 5 (some 96) laws_FnRangeSums.b32_ (any_of HT_.out (by kernel_rfl)) (h := ?_)
                refine pure_y 7 (some 98) laws_FnRangeSums.b33_ (any_of HT_.out (by kernel_rfl)) (h := ?_)
                refine take_y 1 (some 92) laws_FnRangeSums.b35_ rfl (take_ofW HT_.out HW_.out (by kernel_rfl)) hHeld (Or.inl ⟨by rfl, (by rintro w' ⟨s0, s1⟩; go_simp; with_reducible rfl)⟩) (h := ?_)
                refine take_y 6 (some 97) laws_FnRangeSums.b37_ rfl (take_ofW HT_.out HW_.out (by kernel_rfl)) hHeld (Or.inl ⟨by rfl, (by rintro w' ⟨s0, s1⟩; go_simp; with_reducible rfl)⟩) (h := ?_)
                refine take_y 8 (some 99) laws_FnRangeSums.b39_ rfl (take_ofW HT_.out HW_.out (by kernel_rfl)) hHeld (Or.inl ⟨by rfl, (by rintro w' ⟨s0, s1⟩; go_simp; with_reducible rfl)⟩) (h := ?_)
                refine pure_y 9 (some 100) laws_FnRangeSums.b41_ (any_of HT_.out (by kernel_rfl)) (h := ?_)
                refine pure_y 10 (some 101) laws_FnRangeSums.b43_ (any_of HT_.out (by kernel_rfl)) (h := ?_)
                refine one_ (i := 11) (N := some 102) laws_FnRangeSums.b45_ rfl rfl (one_of HT_.out (by kernel_rfl)) (by decide) (fun K hK => ?_); refine gs_ Tryd.func17 #[.slice A0 l0.length c0, .int .i64 (wrap64 (x8_3 + 9)), .int .i64 (wrap64 ((wrap64 (t290 - t289)) + 1))] (h := ?_); with_reducible refine (laws_pick.calls k3 _ _ l0 (wrap64 (x8_3 + 9)) (wrap64 ((wrap64 (t290 - t289)) + 1)) t315 _ ?side1 ?side2 A105.out).mono ?_
                (case side1 => exact sq_c (Kd.C_below HR0.out HB.out))
                (case side2 => exact HC0.out)
                rintro e w' ⟨rfl, ⟨nd, rfl⟩⟩; refine ⟨_, rfl, ?_⟩; refine hK.out _ _ ⟨cl_ BK292 0, cl_ BK292 1⟩ (fun hHeld => ?_); clear hK K; refine norm_ (a' := ?_) ?_ ?_; rotate_left
                ·
                 show Act.put _ (some 102) _ = _; simp only [Act.put, List.setIfInBounds_toArray, List.set_cons_zero, List.set_cons_succ, i64_w, i32_w]; rfl
                refine pure_y 12 (some 103) laws_FnRangeSums.b47_ (any_of HT_.out (by kernel_rfl)) (h := ?_)
                refine pure_y 13 (some 10) laws_FnRangeSums.b49_ (any_of HT_.out (by kernel_rfl)) (h := ?_)
                refine done_ (done_of HT_.out (by kernel_rfl)) ?_
                try go_wp2_with (first | ((with_reducible refine gate_callee (f := 18) rfl ?_); refine gl_ 107 Tryd.func18 #[.int .i64 (wrap64 ((wrap64 (t287 + t314)) + (wrap64 (t289 + t315))))] (h := ?_); (with_reducible refine (laws_within.calls (wrap64 ((wrap64 (t287 + t314)) + (wrap64 (t289 + t315)))) true _ A106.out).mono ?_); rintro e w' ⟨rfl, ⟨nd, rfl⟩⟩; refine ⟨_, rfl, ?_⟩; have hnb193 := NB299_291.out; have hnc193 := NB291_299.out; have hnb194 := NB299_292.out; have hnc194 := NB292_299.out; have hnb195 := NB299_300.out; have hnc195 := NB300_299.out; have hnb196 := NB299_301.out; have hnc196 := NB301_299.out; have hcz197_0 := cl_ (v := .int .i64 t293) BK299 0; have hcz197_1 := cl_ (v := .int .i64 t294) BK299 1; have hfz197_0 := blk_frozen BK299.out 0; have hfz197_1 := blk_frozen BK299.out 1) | (go_at_call 19; (with_reducible refine (impl_RangeHas.calls t293 t294 (wrap64 ((wrap64 (t287 + t314)) + (wrap64 (t289 + t315)))) true _ ?side1 A108.out).mono ?_); (case side1 => exact GL0.below HG0.out (sq_below5 HB.out GE291.out GE292.out GE299.out GE300.out GE301.out)); rintro e w198 ⟨rfl, hb⟩; replace BK291 := bb_ BK291 hb; replace BK292 := bb_ BK292 hb; replace BK299 := bb_ BK299 hb; replace BK300 := bb_ BK300 hb; replace BK301 := bb_ BK301 hb; replace HB := hb5_ HB hb GE291 GE292 GE299 GE300 GE301; (try clear hb); (try clear hb2); (try clear hk); (try clear hi)) | (go_at_call 18; (with_reducible refine (laws_within.calls (wrap64 ((wrap64 (t287 + t314)) - (wrap64 (t289 + t315)))) false _ A110.out).mono ?_); rintro e w' ⟨rfl, ⟨nd, rfl⟩⟩) | (go_at_call 18; (with_reducible refine (laws_within.calls (wrap64 ((wrap64 (t287 + t314)) * (wrap64 (t289 + t315)))) false _ A163.out).mono ?_); rintro e w' ⟨rfl, ⟨nd, rfl⟩⟩; have hnb199 := NB291_292.out; have hnc199 := NB292_291.out; have hnb200 := NB291_300.out; have hnc200 := NB300_291.out; have hnb201 := NB291_301.out; have hnc201 := NB301_291.out; have hcz202_0 := cl_ (v := .int .i64 t287) BK291 0; have hcz202_1 := cl_ (v := .int .i64 t288) BK291 1; have hfz202_0 := blk_frozen BK291.out 0; have hfz202_1 := blk_frozen BK291.out 1) | (go_at_call 14; (with_reducible refine (impl_RangeNeg.calls k3 t287 t288 t333 t334 _ ?side1 A188.out).mono ?_); (case side1 => exact GL0.below HG0.out (sq_below5 HB.out GE291.out GE292.out GE299.out GE300.out GE301.out)); rintro e w203 ⟨rfl, hb⟩; replace BK291 := bb_ BK291 hb; replace BK292 := bb_ BK292 hb; replace BK299 := bb_ BK299 hb; replace BK300 := bb_ BK300 hb; replace BK301 := bb_ BK301 hb; replace HB := hb5_ HB hb GE291 GE292 GE299 GE300 GE301; (try clear hb); (try clear hb2); (try clear hk); (try clear hi)) | (go_at_call 19; (with_reducible refine (impl_RangeHas.calls t333 t334 (wrap64 (-(wrap64 (t287 + t314)))) true _ ?side1 A189.out).mono ?_); (case side1 => exact GL0.below HG0.out (sq_below5 HB.out GE291.out GE292.out GE299.out GE300.out GE301.out)); rintro e w204 ⟨rfl, hb⟩; replace BK291 := bb_ BK291 hb; replace BK292 := bb_ BK292 hb; replace BK299 := bb_ BK299 hb; replace BK300 := bb_ BK300 hb; replace BK301 := bb_ BK301 hb; replace HB := hb5_ HB hb GE291 GE292 GE299 GE300 GE301; (try clear hb); (try clear hb2); (try clear hk); (try clear hi)))
                go_roundg k3
                case measure => have := HJ7.out; have := HJ53.out; have := HK3.out; omega
                case rel => exact ⟨(wrap64 (x8_3 + 1)), (by first | rfl | (simp; done) | (simp [*]; done)), H', ⟨by have := HJ7.out; have := HJ53.out; have := HK3.out; omega⟩, bk_ BK291, bk_ BK292, bk_ BK299, bk_ BK300, bk_ BK301, ⟨by repeat (first | (with_reducible first | exact HB.out | apply below_alloc | apply pw_below_drewN | apply below_drew1 | refine below_set ?_ GE291.out | refine below_set ?_ GE292.out | refine below_set ?_ GE299.out | refine below_set ?_ GE300.out | refine below_set ?_ GE301.out) | exact HB.out)⟩⟩
               ·
                replace c190 := Bool.eq_false_iff.mpr c190; subst c190; exact (no_ H hr_).elim
            ·
             replace c109 := Bool.eq_false_iff.mpr c109; subst c109; exact (no_ H hr_).elim
           ·
            replace c107 := Bool.eq_false_iff.mpr c107; subst c107; have H1 : ((laws_within.f (wrap64 ((wrap64 (t287 + t314)) - (wrap64 (t289 + t315))))).bind fun t336 => (if t336 = true then ((impl_RangeHas.f t295 t296 (wrap64 ((wrap64 (t287 + t314)) - (wrap64 (t289 + t315))))).bind fun t337 => (if t337 = true then ((laws_within.f (wrap64 ((wrap64 (t287 + t314)) * (wrap64 (t289 + t315))))).bind fun t338 => (if t338 = true then ((impl_RangeHas.f t297 t298 (wrap64 ((wrap64 (t287 + t314)) * (wrap64 (t289 + t315))))).bind fun t339 => (if t339 = true then ((impl_RangeNeg.f k3 t287 t288).bind fun bt340 => ((impl_RangeHas.f bt340.1 bt340.2 (wrap64 (-(wrap64 (t287 + t314))))).bind fun t342 => (if t342 = true then (laws_FnRangeSums.l0 k3 l0 (wrap64 (x8_3 + 1)) t287 t288 t289 t290 t293 t294 t295 t296 t297 t298) else (some false)))) else (some false))) else ((impl_RangeNeg.f k3 t287 t288).bind fun bt343 => ((impl_RangeHas.f bt343.1 bt343.2 (wrap64 (-(wrap64 (t287 + t314))))).bind fun t345 => (if t345 = true then (laws_FnRangeSums.l0 k3 l0 (wrap64 (x8_3 + 1)) t287 t288 t289 t290 t293 t294 t295 t296 t297 t298) else (some false)))))) else (some false))) else ((laws_within.f (wrap64 ((wrap64 (t287 + t314)) * (wrap64 (t289 + t315))))).bind fun t346 => (if t346 = true then ((impl_RangeHas.f t297 t298 (wrap64 ((wrap64 (t287 + t314)) * (wrap64 (t289 + t315))))).bind fun t347 => (if t347 = true then ((impl_RangeNeg.f k3 t287 t288).bind fun bt348 => ((impl_RangeHas.f bt348.1 bt348.2 (wrap64 (-(wrap64 (t287 + t314))))).bind fun t350 => (if t350 = true then (laws_FnRangeSums.l0 k3 l0 (wrap64 (x8_3 + 1)) t287 t288 t289 t290 t293 t294 t295 t296 t297 t298) else (some false)))) else (some false))) else ((impl_RangeNeg.f k3 t287 t288).bind fun bt351 => ((impl_RangeHas.f bt351.1 bt351.2 (wrap64 (-(wrap64 (t287 + t314))))).bind fun t353 => (if t353 = true then (laws_FnRangeSums.l0 k3 l0 (wrap64 (x8_3 + 1)) t287 t288 t289 t290 t293 t294 t295 t296 t297 t298) else (some false)))))))) = some r := by rw [if_neg (show ¬ (false = true) by decide)] at H; exact H
            clear H; have H := H1; clear H1; replace H := Option.bind_eq_some_iff.mp H; obtain ⟨t336, A2050, H⟩ := H; (try dsimp only at H); have A205 := Aside0.mk A2050; clear A2050
            by_cases c206 : t336 = true
            ·
             subst c206; have H1 : ((impl_RangeHas.f t295 t296 (wrap64 ((wrap64 (t287 + t314)) - (wrap64 (t289 + t315))))).bind fun t337 => (if t337 = true then ((laws_within.f (wrap64 ((wrap64 (t287 + t314)) * (wrap64 (t289 + t315))))).bind fun t338 => (if t338 = true then ((impl_RangeHas.f t297 t298 (wrap64 ((wrap64 (t287 + t314)) * (wrap64 (t289 + t315))))).bind fun t339 => (if t339 = true then ((impl_RangeNeg.f k3 t287 t288).bind fun bt340 => ((impl_RangeHas.f bt340.1 bt340.2 (wrap64 (-(wrap64 (t287 + t314))))).bind fun t342 => (if t342 = true then (laws_FnRangeSums.l0 k3 l0 (wrap64 (x8_3 + 1)) t287 t288 t289 t290 t293 t294 t295 t296 t297 t298) else (some false)))) else (some false))) else ((impl_RangeNeg.f k3 t287 t288).bind fun bt343 => ((impl_RangeHas.f bt343.1 bt343.2 (wrap64 (-(wrap64 (t287 + t314))))).bind fun t345 => (if t345 = true then (laws_FnRangeSums.l0 k3 l0 (wrap64 (x8_3 + 1)) t287 t288 t289 t290 t293 t294 t295 t296 t297 t298) else (some false)))))) else (some false))) = some r := by rw [if_pos rfl] at H; exact H
             clear H; have H := H1; clear H1; replace H := Option.bind_eq_some_iff.mp H; obtain ⟨t337, A2070, H⟩ := H; (try dsimp only at H); have A207 := Aside0.mk A2070; clear A2070
             by_cases c208 : t337 = true
             ·
              subst c208; have H1 : ((laws_within.f (wrap64 ((wrap64 (t287 + t314)) * (wrap64 (t289 + t315))))).bind fun t338 => (if t338 = true then ((impl_RangeHas.f t297 t298 (wrap64 ((wrap64 (t287 + t314)) * (wrap64 (t289 + t315))))).bind fun t339 => (if t339 = true then ((impl_RangeNeg.f k3 t287 t288).bind fun bt340 => ((impl_RangeHas.f bt340.1 bt340.2 (wrap64 (-(wrap64 (t287 + t314))))).bind fun t342 => (if t342 = true then (laws_FnRangeSums.l0 k3 l0 (wrap64 (x8_3 + 1)) t287 t288 t289 t290 t293 t294 t295 t296 t297 t298) else (some false)))) else (some false))) else ((impl_RangeNeg.f k3 t287 t288).bind fun bt343 => ((impl_RangeHas.f bt343.1 bt343.2 (wrap64 (-(wrap64 (t287 + t314))))).bind fun t345 => (if t345 = true then (laws_FnRangeSums.l0 k3 l0 (wrap64 (x8_3 + 1)) t287 t288 t289 t290 t293 t294 t295 t296 t297 t298) else (some false)))))) = some r := by rw [if_pos rfl] at H; exact H
              clear H; have H := H1; clear H1; replace H := Option.bind_eq_some_iff.mp H; obtain ⟨t338, A2090, H⟩ := H; (try dsimp only at H); have A209 := Aside0.mk A2090; clear A2090
              by_cases c210 : t338 = true
              ·
               subst c210; have H1 : ((impl_RangeHas.f t297 t298 (wrap64 ((wrap64 (t287 + t314)) * (wrap64 (t289 + t315))))).bind fun t339 => (if t339 = true then ((impl_RangeNeg.f k3 t287 t288).bind fun bt340 => ((impl_RangeHas.f bt340.1 bt340.2 (wrap64 (-(wrap64 (t287 + t314))))).bind fun t342 => (if t342 = true then (laws_FnRangeSums.l0 k3 l0 (wrap64 (x8_3 + 1)) t287 t288 t289 t290 t293 t294 t295 t296 t297 t298) else (some false)))) else (some false))) = some r := by rw [if_pos rfl] at H; exact H
               clear H; have H := H1; clear H1; replace H := Option.bind_eq_some_iff.mp H; obtain ⟨t339, A2110, H⟩ := H; (try dsimp only at H); have A211 := Aside0.mk A2110; clear A2110
               by_cases c212 : t339 = true
               ·
                subst c212; have H1 : ((impl_RangeNeg.f k3 t287 t288).bind fun bt340 => ((impl_RangeHas.f bt340.1 bt340.2 (wrap64 (-(wrap64 (t287 + t314))))).bind fun t342 => (if t342 = true then (laws_FnRangeSums.l0 k3 l0 (wrap64 (x8_3 + 1)) t287 t288 t289 t290 t293 t294 t295 t296 t297 t298) else (some false)))) = some r := by rw [if_pos rfl] at H; exact H
                clear H; have H := H1; clear H1; replace H := Option.bind_eq_some_iff.mp H; obtain ⟨⟨t340, t341⟩, A2130, H⟩ := H; (try dsimp only at H); have A213 := Aside0.mk A2130; clear A2130; replace H := Option.bind_eq_some_iff.mp H; obtain ⟨t342, A2140, H⟩ := H; (try dsimp only at H); have A214 := Aside0.mk A2140; clear A2140
                by_cases c215 : t342 = true
                ·
                 subst c215; have H1 : (laws_FnRangeSums.l0 k3 l0 (wrap64 (x8_3 + 1)) t287 t288 t289 t290 t293 t294 t295 t296 t297 t298) = some r := by rw [if_pos rfl] at H; exact H
                 clear H; have H := H1; clear H1; have H' := Aside0.mk H; clear H
                 try go_wp2
                 replace BK291 := bd_ BK291; replace BK292 := bd_ BK292; replace BK299 := bd_ BK299; replace BK300 := bd_ BK300; replace BK301 := bd_ BK301; replace HB := hd_ HB; refine start_ (n := 13) (S := fun w' => w'.cell? ⟨gb291, 0, none⟩ = some (.int .i64 t287) ∧ w'.cell? ⟨gb291, 1, none⟩ = some (.int .i64 t288)) (ds := []) laws_FnRangeSums.b34_ (by kernel_rfl) rfl rfl ⟨cl_ BK291 0, cl_ BK291 1⟩ (fun hHeld => ?_); refine with_tabW laws_FnRangeSums.tab12 laws_FnRangeSums.bits12 (fun HT_ HW_ => ?_); generalize wr.drew = w216 at BK291 BK292 BK299 BK300 BK301 HB hHeld ⊢; refine pure_y 0 (some 79) laws_FnRangeSums.b36_ (any_of HT_.out (by kernel_rfl)) (h := ?_)
                 refine pure_y 2 (some 81) laws_FnRangeSums.b38_ (any_of HT_.out (by kernel_rfl)) (h := ?_)
                 refine pure_y 3 (some 82) laws_FnRangeSums.b40_ (any_of HT_.out (by kernel_rfl)) (h := ?_)
                 refine pure_y 4 (some 83) laws_FnRangeSums.b42_ (any_of HT_.out (by kernel_rfl)) (h := ?_)
                 refine pure_y 6 (some 85) laws_FnRangeSums.b44_ (any_of HT_.out (by kernel_rfl)) (h := ?_)
                 refine take_y 1 (some 80) laws_FnRangeSums.b46_ rfl (take_ofW HT_.out HW_.out (by kernel_rfl)) hHeld (Or.inl ⟨by rfl, (by rintro w' ⟨s0, s1⟩; go_simp; with_reducible rfl)⟩) (h := ?_)
                 refine take_y 5 (some 84) laws_FnRangeSums.b48_ rfl (take_ofW HT_.out HW_.out (by kernel_rfl)) hHeld (Or.inl ⟨by rfl, (by rintro w' ⟨s0, s1⟩; go_simp; with_reducible rfl)⟩) (h := ?_)
                 refine take_y 7 (some 86) laws_FnRangeSums.b50_ rfl (take_ofW HT_.out HW_.out (by kernel_rfl)) hHeld (Or.inl ⟨by rfl, (by rintro w' ⟨s0, s1⟩; go_simp; with_reducible rfl)⟩) (h := ?_)
                 refine pure_y 8 (some 87) laws_FnRangeSums.b51_ (any_of HT_.out (by kernel_rfl)) (h := ?_)
                 refine pure_y 9 (some 88) laws_FnRangeSums.b52_ (any_of HT_.out (by kernel_rfl)) (h := ?_)
                 refine one_ (i := 10) (N := some 89) laws_FnRangeSums.b53_ rfl rfl (one_of HT_.out (by kernel_rfl)) (by decide) (fun K hK => ?_); refine gs_ Tryd.func17 #[.slice A0 l0.length c0, .int .i64 x8_3, .int .i64 (wrap64 ((wrap64 (t288 - t287)) + 1))] (h := ?_); with_reducible refine (laws_pick.calls k3 _ _ l0 x8_3 (wrap64 ((wrap64 (t288 - t287)) + 1)) t314 _ ?side1 ?side2 A104.out).mono ?_
                 (case side1 => exact sq_c (Kd.C_below HR0.out HB.out))
                 (case side2 => exact HC0.out)
                 rintro e w' ⟨rfl, ⟨nd, rfl⟩⟩; refine ⟨_, rfl, ?_⟩; refine hK.out _ _ ⟨cl_ BK291 0, cl_ BK291 1⟩ (fun hHeld => ?_); clear hK K; refine norm_ (a' := ?_) ?_ ?_; rotate_left
                 ·
                  show Act.put _ (some 89) _ = _; simp only [Act.put, List.setIfInBounds_toArray, List.set_cons_zero, List.set_cons_succ, i64_w, i32_w]; rfl
                 refine pure_y 11 (some 90) laws_FnRangeSums.b54_ (any_of HT_.out (by kernel_rfl)) (h := ?_)
                 refine pure_y 12 (some 9) laws_FnRangeSums.b55_ (any_of HT_.out (by kernel_rfl)) (h := ?_)
                 refine done_ (done_of HT_.out (by kernel_rfl)) ?_
                 try go_wp2
                 (try (rw [drewN_self w216]; generalize hq_ : World.drewN w216 _ = w216; replace BK291 := bq_ hq_ BK291; replace BK292 := bq_ hq_ BK292; replace BK299 := bq_ hq_ BK299; replace BK300 := bq_ hq_ BK300; replace BK301 := bq_ hq_ BK301; replace HB := hq5_ hq_ HB GE291 GE292 GE299 GE300 GE301; clear hq_))
                 replace BK291 := bd_ BK291; replace BK292 := bd_ BK292; replace BK299 := bd_ BK299; replace BK300 := bd_ BK300; replace BK301 := bd_ BK301; replace HB := hd_ HB; refine start_ (n := 14) (S := fun w' => w'.cell? ⟨gb292, 0, none⟩ = some (.int .i64 t289) ∧ w'.cell? ⟨gb292, 1, none⟩ = some (.int .i64 t290)) (ds := []) laws_FnRangeSums.b27_ (by kernel_rfl) rfl rfl ⟨cl_ BK292 0, cl_ BK292 1⟩ (fun hHeld => ?_); refine with_tabW laws_FnRangeSums.tab13 laws_FnRangeSums.bits13 (fun HT_ HW_ => ?_); generalize w216.drew = w217 at BK291 BK292 BK299 BK300 BK301 HB hHeld ⊢; refine pure_y 0 (some 91) laws_FnRangeSums.b28_ (any_of HT_.out (by kernel_rfl)) (h := ?_)
                 refine pure_y 2 (some 93) laws_FnRangeSums.b29_ (any_of HT_.out (by kernel_rfl)) (h := ?_)
                 refine pure_y 3 (some 94) laws_FnRangeSums.b30_ (any_of HT_.out (by kernel_rfl)) (h := ?_)
                 refine pure_y 4 (some 95) laws_FnRangeSums.b31_ (any_of HT_.out (by kernel_rfl)) (h := ?_)
                 refine pure_y 5 (some 96) laws_FnRangeSums.b32_ (any_of HT_.out (by kernel_rfl)) (h := ?_)
                 refine pure_y 7 (some 98) laws_FnRangeSums.b33_ (any_of HT_.out (by kernel_rfl)) (h := ?_)
                 refine take_y 1 (some 92) laws_FnRangeSums.b35_ rfl (take_ofW HT_.out HW_.out (by kernel_rfl)) hHeld (Or.inl ⟨by rfl, (by rintro w' ⟨s0, s1⟩; go_simp; with_reducible rfl)⟩) (h := ?_)
                 refine take_y 6 (some 97) laws_FnRangeSums.b37_ rfl (take_ofW HT_.out HW_.out (by kernel_rfl)) hHeld (Or.inl ⟨by rfl, (by rintro w' ⟨s0, s1⟩; go_simp; with_reducible rfl)⟩) (h := ?_)
                 refine take_y 8 (some 99) laws_FnRangeSums.b39_ rfl (take_ofW HT_.out HW_.out (by kernel_rfl)) hHeld (Or.inl ⟨by rfl, (by rintro w' ⟨s0, s1⟩; go_simp; with_reducible rfl)⟩) (h := ?_)
                 refine pure_y 9 (some 100) laws_FnRangeSums.b41_ (any_of HT_.out (by kernel_rfl)) (h := ?_)
                 refine pure_y 10 (some 101) laws_FnRangeSums.b43_ (any_of HT_.out (by kernel_rfl)) (h := ?_)
                 refine one_ (i := 11) (N := some 102) laws_FnRangeSums.b45_ rfl rfl (one_of HT_.out (by kernel_rfl)) (by decide) (fun K hK => ?_); refine gs_ Tryd.func17 #[.slice A0 l0.length c0, .int .i64 (wrap64 (x8_3 + 9)), .int .i64 (wrap64 ((wrap64 (t290 - t289)) + 1))] (h := ?_); with_reducible refine (laws_pick.calls k3 _ _ l0 (wrap64 (x8_3 + 9)) (wrap64 ((wrap64 (t290 - t289)) + 1)) t315 _ ?side1 ?side2 A105.out).mono ?_
                 (case side1 => exact sq_c (Kd.C_below HR0.out HB.out))
                 (case side2 => exact HC0.out)
                 rintro e w' ⟨rfl, ⟨nd, rfl⟩⟩; refine ⟨_, rfl, ?_⟩; refine hK.out _ _ ⟨cl_ BK292 0, cl_ BK292 1⟩ (fun hHeld => ?_); clear hK K; refine norm_ (a' := ?_) ?_ ?_; rotate_left
                 ·
                  show Act.put _ (some 102) _ = _; simp only [Act.put, List.setIfInBounds_toArray, List.set_cons_zero, List.set_cons_succ, i64_w, i32_w]; rfl
                 refine pure_y 12 (some 103) laws_FnRangeSums.b47_ (any_of HT_.out (by kernel_rfl)) (h := ?_)
                 refine pure_y 13 (some 10) laws_FnRangeSums.b49_ (any_of HT_.out (by kernel_rfl)) (h := ?_)
                 refine done_ (done_of HT_.out (by kernel_rfl)) ?_
                 try go_wp2_with (first | ((with_reducible refine gate_callee (f := 18) rfl ?_); refine gl_ 107 Tryd.func18 #[.int .i64 (wrap64 ((wrap64 (t287 + t314)) + (wrap64 (t289 + t315))))] (h := ?_); (with_reducible refine (laws_within.calls (wrap64 ((wrap64 (t287 + t314)) + (wrap64 (t289 + t315)))) false _ A106.out).mono ?_); rintro e w' ⟨rfl, ⟨nd, rfl⟩⟩; refine ⟨_, rfl, ?_⟩) | (go_at_call 18; (with_reducible refine (laws_within.calls (wrap64 ((wrap64 (t287 + t314)) - (wrap64 (t289 + t315)))) true _ A205.out).mono ?_); rintro e w' ⟨rfl, ⟨nd, rfl⟩⟩; have hnb218 := NB300_291.out; have hnc218 := NB291_300.out; have hnb219 := NB300_292.out; have hnc219 := NB292_300.out; have hnb220 := NB300_299.out; have hnc220 := NB299_300.out; have hnb221 := NB300_301.out; have hnc221 := NB301_300.out; have hcz222_0 := cl_ (v := .int .i64 t295) BK300 0; have hcz222_1 := cl_ (v := .int .i64 t296) BK300 1; have hfz222_0 := blk_frozen BK300.out 0; have hfz222_1 := blk_frozen BK300.out 1) | (go_at_call 19; (with_reducible refine (impl_RangeHas.calls t295 t296 (wrap64 ((wrap64 (t287 + t314)) - (wrap64 (t289 + t315)))) true _ ?side1 A207.out).mono ?_); (case side1 => exact GL0.below HG0.out (sq_below5 HB.out GE291.out GE292.out GE299.out GE300.out GE301.out)); rintro e w223 ⟨rfl, hb⟩; replace BK291 := bb_ BK291 hb; replace BK292 := bb_ BK292 hb; replace BK299 := bb_ BK299 hb; replace BK300 := bb_ BK300 hb; replace BK301 := bb_ BK301 hb; replace HB := hb5_ HB hb GE291 GE292 GE299 GE300 GE301; (try clear hb); (try clear hb2); (try clear hk); (try clear hi)) | (go_at_call 18; (with_reducible refine (laws_within.calls (wrap64 ((wrap64 (t287 + t314)) * (wrap64 (t289 + t315)))) true _ A209.out).mono ?_); rintro e w' ⟨rfl, ⟨nd, rfl⟩⟩; have hnb224 := NB301_291.out; have hnc224 := NB291_301.out; have hnb225 := NB301_292.out; have hnc225 := NB292_301.out; have hnb226 := NB301_299.out; have hnc226 := NB299_301.out; have hcz227_0 := cl_ (v := .int .i64 t297) BK301 0; have hcz227_1 := cl_ (v := .int .i64 t298) BK301 1; have hfz227_0 := blk_frozen BK301.out 0; have hfz227_1 := blk_frozen BK301.out 1) | (go_at_call 19; (with_reducible refine (impl_RangeHas.calls t297 t298 (wrap64 ((wrap64 (t287 + t314)) * (wrap64 (t289 + t315)))) true _ ?side1 A211.out).mono ?_); (case side1 => exact GL0.below HG0.out (sq_below5 HB.out GE291.out GE292.out GE299.out GE300.out GE301.out)); rintro e w228 ⟨rfl, hb⟩; replace BK291 := bb_ BK291 hb; replace BK292 := bb_ BK292 hb; replace BK299 := bb_ BK299 hb; replace BK300 := bb_ BK300 hb; replace BK301 := bb_ BK301 hb; replace HB := hb5_ HB hb GE291 GE292 GE299 GE300 GE301; (try clear hb); (try clear hb2); (try clear hk); (try clear hi); have hnb229 := NB291_292.out; have hnc229 := NB292_291.out; have hnb230 := NB291_299.out; have hnc230 := NB299_291.out; have hcz231_0 := cl_ (v := .int .i64 t287) BK291 0; have hcz231_1 := cl_ (v := .int .i64 t288) BK291 1; have hfz231_0 := blk_frozen BK291.out 0; have hfz231_1 := blk_frozen BK291.out 1) | (go_at_call 14; (with_reducible refine (impl_RangeNeg.calls k3 t287 t288 t340 t341 _ ?side1 A213.out).mono ?_); (case side1 => exact GL0.below HG0.out (sq_below5 HB.out GE291.out GE292.out GE299.out GE300.out GE301.out)); rintro e w232 ⟨rfl, hb⟩; replace BK291 := bb_ BK291 hb; replace BK292 := bb_ BK292 hb; replace BK299 := bb_ BK299 hb; replace BK300 := bb_ BK300 hb; replace BK301 := bb_ BK301 hb; replace HB := hb5_ HB hb GE291 GE292 GE299 GE300 GE301; (try clear hb); (try clear hb2); (try clear hk); (try clear hi)) | (go_at_call 19; (with_reducible refine (impl_RangeHas.calls t340 t341 (wrap64 (-(wrap64 (t287 + t314)))) true _ ?side1 A214.out).mono ?_); (case side1 => exact GL0.below HG0.out (sq_below5 HB.out GE291.out GE292.out GE299.out GE300.out GE301.out)); rintro e w233 ⟨rfl, hb⟩; replace BK291 := bb_ BK291 hb; replace BK292 := bb_ BK292 hb; replace BK299 := bb_ BK299 hb; replace BK300 := bb_ BK300 hb; replace BK301 := bb_ BK301 hb; replace HB := hb5_ HB hb GE291 GE292 GE299 GE300 GE301; (try clear hb); (try clear hb2); (try clear hk); (try clear hi)))
                 go_roundg k3
                 case measure => have := HJ7.out; have := HJ53.out; have := HK3.out; omega
                 case rel => exact ⟨(wrap64 (x8_3 + 1)), (by first | rfl | (simp; done) | (simp [*]; done)), H', ⟨by have := HJ7.out; have := HJ53.out; have := HK3.out; omega⟩, bk_ BK291, bk_ BK292, bk_ BK299, bk_ BK300, bk_ BK301, ⟨by repeat (first | (with_reducible first | exact HB.out | apply below_alloc | apply pw_below_drewN | apply below_drew1 | refine below_set ?_ GE291.out | refine below_set ?_ GE292.out | refine below_set ?_ GE299.out | refine below_set ?_ GE300.out | refine below_set ?_ GE301.out) | exact HB.out)⟩⟩
                ·
                 replace c215 := Bool.eq_false_iff.mpr c215; subst c215; exact (no_ H hr_).elim
               ·
                replace c212 := Bool.eq_false_iff.mpr c212; subst c212; exact (no_ H hr_).elim
              ·
               replace c210 := Bool.eq_false_iff.mpr c210; subst c210; have H1 : ((impl_RangeNeg.f k3 t287 t288).bind fun bt343 => ((impl_RangeHas.f bt343.1 bt343.2 (wrap64 (-(wrap64 (t287 + t314))))).bind fun t345 => (if t345 = true then (laws_FnRangeSums.l0 k3 l0 (wrap64 (x8_3 + 1)) t287 t288 t289 t290 t293 t294 t295 t296 t297 t298) else (some false)))) = some r := by rw [if_neg (show ¬ (false = true) by decide)] at H; exact H
               clear H; have H := H1; clear H1; replace H := Option.bind_eq_some_iff.mp H; obtain ⟨⟨t343, t344⟩, A2340, H⟩ := H; (try dsimp only at H); have A234 := Aside0.mk A2340; clear A2340; replace H := Option.bind_eq_some_iff.mp H; obtain ⟨t345, A2350, H⟩ := H; (try dsimp only at H); have A235 := Aside0.mk A2350; clear A2350
               by_cases c236 : t345 = true
               ·
                subst c236; have H1 : (laws_FnRangeSums.l0 k3 l0 (wrap64 (x8_3 + 1)) t287 t288 t289 t290 t293 t294 t295 t296 t297 t298) = some r := by rw [if_pos rfl] at H; exact H
                clear H; have H := H1; clear H1; have H' := Aside0.mk H; clear H
                try go_wp2
                replace BK291 := bd_ BK291; replace BK292 := bd_ BK292; replace BK299 := bd_ BK299; replace BK300 := bd_ BK300; replace BK301 := bd_ BK301; replace HB := hd_ HB; refine start_ (n := 13) (S := fun w' => w'.cell? ⟨gb291, 0, none⟩ = some (.int .i64 t287) ∧ w'.cell? ⟨gb291, 1, none⟩ = some (.int .i64 t288)) (ds := []) laws_FnRangeSums.b34_ (by kernel_rfl) rfl rfl ⟨cl_ BK291 0, cl_ BK291 1⟩ (fun hHeld => ?_); refine with_tabW laws_FnRangeSums.tab12 laws_FnRangeSums.bits12 (fun HT_ HW_ => ?_); generalize wr.drew = w237 at BK291 BK292 BK299 BK300 BK301 HB hHeld ⊢; refine pure_y 0 (some 79) laws_FnRangeSums.b36_ (any_of HT_.out (by kernel_rfl)) (h := ?_)
                refine pure_y 2 (some 81) laws_FnRangeSums.b38_ (any_of HT_.out (by kernel_rfl)) (h := ?_)
                refine pure_y 3 (some 82) laws_FnRangeSums.b40_ (any_of HT_.out (by kernel_rfl)) (h := ?_)
                refine pure_y 4 (some 83) laws_FnRangeSums.b42_ (any_of HT_.out (by kernel_rfl)) (h := ?_)
                refine pure_y 6 (some 85) laws_FnRangeSums.b44_ (any_of HT_.out (by kernel_rfl)) (h := ?_)
                refine take_y 1 (some 80) laws_FnRangeSums.b46_ rfl (take_ofW HT_.out HW_.out (by kernel_rfl)) hHeld (Or.inl ⟨by rfl, (by rintro w' ⟨s0, s1⟩; go_simp; with_reducible rfl)⟩) (h := ?_)
                refine take_y 5 (some 84) laws_FnRangeSums.b48_ rfl (take_ofW HT_.out HW_.out (by kernel_rfl)) hHeld (Or.inl ⟨by rfl, (by rintro w' ⟨s0, s1⟩; go_simp; with_reducible rfl)⟩) (h := ?_)
                refine take_y 7 (some 86) laws_FnRangeSums.b50_ rfl (take_ofW HT_.out HW_.out (by kernel_rfl)) hHeld (Or.inl ⟨by rfl, (by rintro w' ⟨s0, s1⟩; go_simp; with_reducible rfl)⟩) (h := ?_)
                refine pure_y 8 (some 87) laws_FnRangeSums.b51_ (any_of HT_.out (by kernel_rfl)) (h := ?_)
                refine pure_y 9 (some 88) laws_FnRangeSums.b52_ (any_of HT_.out (by kernel_rfl)) (h := ?_)
                refine one_ (i := 10) (N := some 89) laws_FnRangeSums.b53_ rfl rfl (one_of HT_.out (by kernel_rfl)) (by decide) (fun K hK => ?_); refine gs_ Tryd.func17 #[.slice A0 l0.length c0, .int .i64 x8_3, .int .i64 (wrap64 ((wrap64 (t288 - t287)) + 1))] (h := ?_); with_reducible refine (laws_pick.calls k3 _ _ l0 x8_3 (wrap64 ((wrap64 (t288 - t287)) + 1)) t314 _ ?side1 ?side2 A104.out).mono ?_
                (case side1 => exact sq_c (Kd.C_below HR0.out HB.out))
                (case side2 => exact HC0.out)
                rintro e w' ⟨rfl, ⟨nd, rfl⟩⟩; refine ⟨_, rfl, ?_⟩; refine hK.out _ _ ⟨cl_ BK291 0, cl_ BK291 1⟩ (fun hHeld => ?_); clear hK K; refine norm_ (a' := ?_) ?_ ?_; rotate_left
                ·
                 show Act.put _ (some 89) _ = _; simp only [Act.put, List.setIfInBounds_toArray, List.set_cons_zero, List.set_cons_succ, i64_w, i32_w]; rfl
                refine pure_y 11 (some 90) laws_FnRangeSums.b54_ (any_of HT_.out (by kernel_rfl)) (h := ?_)
                refine pure_y 12 (some 9) laws_FnRangeSums.b55_ (any_of HT_.out (by kernel_rfl)) (h := ?_)
                refine done_ (done_of HT_.out (by kernel_rfl)) ?_
                try go_wp2
                (try (rw [drewN_self w237]; generalize hq_ : World.drewN w237 _ = w237; replace BK291 := bq_ hq_ BK291; replace BK292 := bq_ hq_ BK292; replace BK299 := bq_ hq_ BK299; replace BK300 := bq_ hq_ BK300; replace BK301 := bq_ hq_ BK301; replace HB := hq5_ hq_ HB GE291 GE292 GE299 GE300 GE301; clear hq_))
                replace BK291 := bd_ BK291; replace BK292 := bd_ BK292; replace BK299 := bd_ BK299; replace BK300 := bd_ BK300; replace BK301 := bd_ BK301; replace HB := hd_ HB; refine start_ (n := 14) (S := fun w' => w'.cell? ⟨gb292, 0, none⟩ = some (.int .i64 t289) ∧ w'.cell? ⟨gb292, 1, none⟩ = some (.int .i64 t290)) (ds := []) laws_FnRangeSums.b27_ (by kernel_rfl) rfl rfl ⟨cl_ BK292 0, cl_ BK292 1⟩ (fun hHeld => ?_); refine with_tabW laws_FnRangeSums.tab13 laws_FnRangeSums.bits13 (fun HT_ HW_ => ?_); generalize w237.drew = w238 at BK291 BK292 BK299 BK300 BK301 HB hHeld ⊢; refine pure_y 0 (some 91) laws_FnRangeSums.b28_ (any_of HT_.out (by kernel_rfl)) (h := ?_)
                refine pure_y 2 (some 93) laws_FnRangeSums.b29_ (any_of HT_.out (by kernel_rfl)) (h := ?_)
                refine pure_y 3 (some 94) laws_FnRangeSums.b30_ (any_of HT_.out (by kernel_rfl)) (h := ?_)
                refine pure_y 4 (some 95) laws_FnRangeSums.b31_ (any_of HT_.out (by kernel_rfl)) (h := ?_)
                refine pure_y 5 (some 96) laws_FnRangeSums.b32_ (any_of HT_.out (by kernel_rfl)) (h := ?_)
                refine pure_y 7 (some 98) laws_FnRangeSums.b33_ (any_of HT_.out (by kernel_rfl)) (h := ?_)
                refine take_y 1 (some 92) laws_FnRangeSums.b35_ rfl (take_ofW HT_.out HW_.out (by kernel_rfl)) hHeld (Or.inl ⟨by rfl, (by rintro w' ⟨s0, s1⟩; go_simp; with_reducible rfl)⟩) (h := ?_)
                refine take_y 6 (some 97) laws_FnRangeSums.b37_ rfl (take_ofW HT_.out HW_.out (by kernel_rfl)) hHeld (Or.inl ⟨by rfl, (by rintro w' ⟨s0, s1⟩; go_simp; with_reducible rfl)⟩) (h := ?_)
                refine take_y 8 (some 99) laws_FnRangeSums.b39_ rfl (take_ofW HT_.out HW_.out (by kernel_rfl)) hHeld (Or.inl ⟨by rfl, (by rintro w' ⟨s0, s1⟩; go_simp; with_reducible rfl)⟩) (h := ?_)
                refine pure_y 9 (some 100) laws_FnRangeSums.b41_ (any_of HT_.out (by kernel_rfl)) (h := ?_)
                refine pure_y 10 (some 101) laws_FnRangeSums.b43_ (any_of HT_.out (by kernel_rfl)) (h := ?_)
                refine one_ (i := 11) (N := some 102) laws_FnRangeSums.b45_ rfl rfl (one_of HT_.out (by kernel_rfl)) (by decide) (fun K hK => ?_); refine gs_ Tryd.func17 #[.slice A0 l0.length c0, .int .i64 (wrap64 (x8_3 + 9)), .int .i64 (wrap64 ((wrap64 (t290 - t289)) + 1))] (h := ?_); with_reducible refine (laws_pick.calls k3 _ _ l0 (wrap64 (x8_3 + 9)) (wrap64 ((wrap64 (t290 - t289)) + 1)) t315 _ ?side1 ?side2 A105.out).mono ?_
                (case side1 => exact sq_c (Kd.C_below HR0.out HB.out))
                (case side2 => exact HC0.out)
                rintro e w' ⟨rfl, ⟨nd, rfl⟩⟩; refine ⟨_, rfl, ?_⟩; refine hK.out _ _ ⟨cl_ BK292 0, cl_ BK292 1⟩ (fun hHeld => ?_); clear hK K; refine norm_ (a' := ?_) ?_ ?_; rotate_left
                ·
                 show Act.put _ (some 102) _ = _; simp only [Act.put, List.setIfInBounds_toArray, List.set_cons_zero, List.set_cons_succ, i64_w, i32_w]; rfl
                refine pure_y 12 (some 103) laws_FnRangeSums.b47_ (any_of HT_.out (by kernel_rfl)) (h := ?_)
                refine pure_y 13 (some 10) laws_FnRangeSums.b49_ (any_of HT_.out (by kernel_rfl)) (h := ?_)
                refine done_ (done_of HT_.out (by kernel_rfl)) ?_
                try go_wp2_with (first | ((with_reducible refine gate_callee (f := 18) rfl ?_); refine gl_ 107 Tryd.func18 #[.int .i64 (wrap64 ((wrap64 (t287 + t314)) + (wrap64 (t289 + t315))))] (h := ?_); (with_reducible refine (laws_within.calls (wrap64 ((wrap64 (t287 + t314)) + (wrap64 (t289 + t315)))) false _ A106.out).mono ?_); rintro e w' ⟨rfl, ⟨nd, rfl⟩⟩; refine ⟨_, rfl, ?_⟩) | (go_at_call 18; (with_reducible refine (laws_within.calls (wrap64 ((wrap64 (t287 + t314)) - (wrap64 (t289 + t315)))) true _ A205.out).mono ?_); rintro e w' ⟨rfl, ⟨nd, rfl⟩⟩; have hnb239 := NB300_291.out; have hnc239 := NB291_300.out; have hnb240 := NB300_292.out; have hnc240 := NB292_300.out; have hnb241 := NB300_299.out; have hnc241 := NB299_300.out; have hnb242 := NB300_301.out; have hnc242 := NB301_300.out; have hcz243_0 := cl_ (v := .int .i64 t295) BK300 0; have hcz243_1 := cl_ (v := .int .i64 t296) BK300 1; have hfz243_0 := blk_frozen BK300.out 0; have hfz243_1 := blk_frozen BK300.out 1) | (go_at_call 19; (with_reducible refine (impl_RangeHas.calls t295 t296 (wrap64 ((wrap64 (t287 + t314)) - (wrap64 (t289 + t315)))) true _ ?side1 A207.out).mono ?_); (case side1 => exact GL0.below HG0.out (sq_below5 HB.out GE291.out GE292.out GE299.out GE300.out GE301.out)); rintro e w244 ⟨rfl, hb⟩; replace BK291 := bb_ BK291 hb; replace BK292 := bb_ BK292 hb; replace BK299 := bb_ BK299 hb; replace BK300 := bb_ BK300 hb; replace BK301 := bb_ BK301 hb; replace HB := hb5_ HB hb GE291 GE292 GE299 GE300 GE301; (try clear hb); (try clear hb2); (try clear hk); (try clear hi)) | (go_at_call 18; (with_reducible refine (laws_within.calls (wrap64 ((wrap64 (t287 + t314)) * (wrap64 (t289 + t315)))) false _ A209.out).mono ?_); rintro e w' ⟨rfl, ⟨nd, rfl⟩⟩; have hnb245 := NB291_292.out; have hnc245 := NB292_291.out; have hnb246 := NB291_299.out; have hnc246 := NB299_291.out; have hnb247 := NB291_301.out; have hnc247 := NB301_291.out; have hcz248_0 := cl_ (v := .int .i64 t287) BK291 0; have hcz248_1 := cl_ (v := .int .i64 t288) BK291 1; have hfz248_0 := blk_frozen BK291.out 0; have hfz248_1 := blk_frozen BK291.out 1) | (go_at_call 14; (with_reducible refine (impl_RangeNeg.calls k3 t287 t288 t343 t344 _ ?side1 A234.out).mono ?_); (case side1 => exact GL0.below HG0.out (sq_below5 HB.out GE291.out GE292.out GE299.out GE300.out GE301.out)); rintro e w249 ⟨rfl, hb⟩; replace BK291 := bb_ BK291 hb; replace BK292 := bb_ BK292 hb; replace BK299 := bb_ BK299 hb; replace BK300 := bb_ BK300 hb; replace BK301 := bb_ BK301 hb; replace HB := hb5_ HB hb GE291 GE292 GE299 GE300 GE301; (try clear hb); (try clear hb2); (try clear hk); (try clear hi)) | (go_at_call 19; (with_reducible refine (impl_RangeHas.calls t343 t344 (wrap64 (-(wrap64 (t287 + t314)))) true _ ?side1 A235.out).mono ?_); (case side1 => exact GL0.below HG0.out (sq_below5 HB.out GE291.out GE292.out GE299.out GE300.out GE301.out)); rintro e w250 ⟨rfl, hb⟩; replace BK291 := bb_ BK291 hb; replace BK292 := bb_ BK292 hb; replace BK299 := bb_ BK299 hb; replace BK300 := bb_ BK300 hb; replace BK301 := bb_ BK301 hb; replace HB := hb5_ HB hb GE291 GE292 GE299 GE300 GE301; (try clear hb); (try clear hb2); (try clear hk); (try clear hi)))
                go_roundg k3
                case measure => have := HJ7.out; have := HJ53.out; have := HK3.out; omega
                case rel => exact ⟨(wrap64 (x8_3 + 1)), (by first | rfl | (simp; done) | (simp [*]; done)), H', ⟨by have := HJ7.out; have := HJ53.out; have := HK3.out; omega⟩, bk_ BK291, bk_ BK292, bk_ BK299, bk_ BK300, bk_ BK301, ⟨by repeat (first | (with_reducible first | exact HB.out | apply below_alloc | apply pw_below_drewN | apply below_drew1 | refine below_set ?_ GE291.out | refine below_set ?_ GE292.out | refine below_set ?_ GE299.out | refine below_set ?_ GE300.out | refine below_set ?_ GE301.out) | exact HB.out)⟩⟩
               ·
                replace c236 := Bool.eq_false_iff.mpr c236; subst c236; exact (no_ H hr_).elim
             ·
              replace c208 := Bool.eq_false_iff.mpr c208; subst c208; exact (no_ H hr_).elim
            ·
             replace c206 := Bool.eq_false_iff.mpr c206; subst c206; have H1 : ((laws_within.f (wrap64 ((wrap64 (t287 + t314)) * (wrap64 (t289 + t315))))).bind fun t346 => (if t346 = true then ((impl_RangeHas.f t297 t298 (wrap64 ((wrap64 (t287 + t314)) * (wrap64 (t289 + t315))))).bind fun t347 => (if t347 = true then ((impl_RangeNeg.f k3 t287 t288).bind fun bt348 => ((impl_RangeHas.f bt348.1 bt348.2 (wrap64 (-(wrap64 (t287 + t314))))).bind fun t350 => (if t350 = true then (laws_FnRangeSums.l0 k3 l0 (wrap64 (x8_3 + 1)) t287 t288 t289 t290 t293 t294 t295 t296 t297 t298) else (some false)))) else (some false))) else ((impl_RangeNeg.f k3 t287 t288).bind fun bt351 => ((impl_RangeHas.f bt351.1 bt351.2 (wrap64 (-(wrap64 (t287 + t314))))).bind fun t353 => (if t353 = true then (laws_FnRangeSums.l0 k3 l0 (wrap64 (x8_3 + 1)) t287 t288 t289 t290 t293 t294 t295 t296 t297 t298) else (some false)))))) = some r := by rw [if_neg (show ¬ (false = true) by decide)] at H; exact H
             clear H; have H := H1; clear H1; replace H := Option.bind_eq_some_iff.mp H; obtain ⟨t346, A2510, H⟩ := H; (try dsimp only at H); have A251 := Aside0.mk A2510; clear A2510
             by_cases c252 : t346 = true
             ·
              subst c252; have H1 : ((impl_RangeHas.f t297 t298 (wrap64 ((wrap64 (t287 + t314)) * (wrap64 (t289 + t315))))).bind fun t347 => (if t347 = true then ((impl_RangeNeg.f k3 t287 t288).bind fun bt348 => ((impl_RangeHas.f bt348.1 bt348.2 (wrap64 (-(wrap64 (t287 + t314))))).bind fun t350 => (if t350 = true then (laws_FnRangeSums.l0 k3 l0 (wrap64 (x8_3 + 1)) t287 t288 t289 t290 t293 t294 t295 t296 t297 t298) else (some false)))) else (some false))) = some r := by rw [if_pos rfl] at H; exact H
              clear H; have H := H1; clear H1; replace H := Option.bind_eq_some_iff.mp H; obtain ⟨t347, A2530, H⟩ := H; (try dsimp only at H); have A253 := Aside0.mk A2530; clear A2530
              by_cases c254 : t347 = true
              ·
               subst c254; have H1 : ((impl_RangeNeg.f k3 t287 t288).bind fun bt348 => ((impl_RangeHas.f bt348.1 bt348.2 (wrap64 (-(wrap64 (t287 + t314))))).bind fun t350 => (if t350 = true then (laws_FnRangeSums.l0 k3 l0 (wrap64 (x8_3 + 1)) t287 t288 t289 t290 t293 t294 t295 t296 t297 t298) else (some false)))) = some r := by rw [if_pos rfl] at H; exact H
               clear H; have H := H1; clear H1; replace H := Option.bind_eq_some_iff.mp H; obtain ⟨⟨t348, t349⟩, A2550, H⟩ := H; (try dsimp only at H); have A255 := Aside0.mk A2550; clear A2550; replace H := Option.bind_eq_some_iff.mp H; obtain ⟨t350, A2560, H⟩ := H; (try dsimp only at H); have A256 := Aside0.mk A2560; clear A2560
               by_cases c257 : t350 = true
               ·
                subst c257; have H1 : (laws_FnRangeSums.l0 k3 l0 (wrap64 (x8_3 + 1)) t287 t288 t289 t290 t293 t294 t295 t296 t297 t298) = some r := by rw [if_pos rfl] at H; exact H
                clear H; have H := H1; clear H1; have H' := Aside0.mk H; clear H
                try go_wp2
                replace BK291 := bd_ BK291; replace BK292 := bd_ BK292; replace BK299 := bd_ BK299; replace BK300 := bd_ BK300; replace BK301 := bd_ BK301; replace HB := hd_ HB; refine start_ (n := 13) (S := fun w' => w'.cell? ⟨gb291, 0, none⟩ = some (.int .i64 t287) ∧ w'.cell? ⟨gb291, 1, none⟩ = some (.int .i64 t288)) (ds := []) laws_FnRangeSums.b34_ (by kernel_rfl) rfl rfl ⟨cl_ BK291 0, cl_ BK291 1⟩ (fun hHeld => ?_); refine with_tabW laws_FnRangeSums.tab12 laws_FnRangeSums.bits12 (fun HT_ HW_ => ?_); generalize wr.drew = w258 at BK291 BK292 BK299 BK300 BK301 HB hHeld ⊢; refine pure_y 0 (some 79) laws_FnRangeSums.b36_ (any_of HT_.out (by kernel_rfl)) (h := ?_)
                refine pure_y 2 (some 81) laws_FnRangeSums.b38_ (any_of HT_.out (by kernel_rfl)) (h := ?_)
                refine pure_y 3 (some 82) laws_FnRangeSums.b40_ (any_of HT_.out (by kernel_rfl)) (h := ?_)
                refine pure_y 4 (some 83) laws_FnRangeSums.b42_ (any_of HT_.out (by kernel_rfl)) (h := ?_)
                refine pure_y 6 (some 85) laws_FnRangeSums.b44_ (any_of HT_.out (by kernel_rfl)) (h := ?_)
                refine take_y 1 (some 80) laws_FnRangeSums.b46_ rfl (take_ofW HT_.out HW_.out (by kernel_rfl)) hHeld (Or.inl ⟨by rfl, (by rintro w' ⟨s0, s1⟩; go_simp; with_reducible rfl)⟩) (h := ?_)
                refine take_y 5 (some 84) laws_FnRangeSums.b48_ rfl (take_ofW HT_.out HW_.out (by kernel_rfl)) hHeld (Or.inl ⟨by rfl, (by rintro w' ⟨s0, s1⟩; go_simp; with_reducible rfl)⟩) (h := ?_)
                refine take_y 7 (some 86) laws_FnRangeSums.b50_ rfl (take_ofW HT_.out HW_.out (by kernel_rfl)) hHeld (Or.inl ⟨by rfl, (by rintro w' ⟨s0, s1⟩; go_simp; with_reducible rfl)⟩) (h := ?_)
                refine pure_y 8 (some 87) laws_FnRangeSums.b51_ (any_of HT_.out (by kernel_rfl)) (h := ?_)
                refine pure_y 9 (some 88) laws_FnRangeSums.b52_ (any_of HT_.out (by kernel_rfl)) (h := ?_)
                refine one_ (i := 10) (N := some 89) laws_FnRangeSums.b53_ rfl rfl (one_of HT_.out (by kernel_rfl)) (by decide) (fun K hK => ?_); refine gs_ Tryd.func17 #[.slice A0 l0.length c0, .int .i64 x8_3, .int .i64 (wrap64 ((wrap64 (t288 - t287)) + 1))] (h := ?_); with_reducible refine (laws_pick.calls k3 _ _ l0 x8_3 (wrap64 ((wrap64 (t288 - t287)) + 1)) t314 _ ?side1 ?side2 A104.out).mono ?_
                (case side1 => exact sq_c (Kd.C_below HR0.out HB.out))
                (case side2 => exact HC0.out)
                rintro e w' ⟨rfl, ⟨nd, rfl⟩⟩; refine ⟨_, rfl, ?_⟩; refine hK.out _ _ ⟨cl_ BK291 0, cl_ BK291 1⟩ (fun hHeld => ?_); clear hK K; refine norm_ (a' := ?_) ?_ ?_; rotate_left
                ·
                 show Act.put _ (some 89) _ = _; simp only [Act.put, List.setIfInBounds_toArray, List.set_cons_zero, List.set_cons_succ, i64_w, i32_w]; rfl
                refine pure_y 11 (some 90) laws_FnRangeSums.b54_ (any_of HT_.out (by kernel_rfl)) (h := ?_)
                refine pure_y 12 (some 9) laws_FnRangeSums.b55_ (any_of HT_.out (by kernel_rfl)) (h := ?_)
                refine done_ (done_of HT_.out (by kernel_rfl)) ?_
                try go_wp2
                (try (rw [drewN_self w258]; generalize hq_ : World.drewN w258 _ = w258; replace BK291 := bq_ hq_ BK291; replace BK292 := bq_ hq_ BK292; replace BK299 := bq_ hq_ BK299; replace BK300 := bq_ hq_ BK300; replace BK301 := bq_ hq_ BK301; replace HB := hq5_ hq_ HB GE291 GE292 GE299 GE300 GE301; clear hq_))
                replace BK291 := bd_ BK291; replace BK292 := bd_ BK292; replace BK299 := bd_ BK299; replace BK300 := bd_ BK300; replace BK301 := bd_ BK301; replace HB := hd_ HB; refine start_ (n := 14) (S := fun w' => w'.cell? ⟨gb292, 0, none⟩ = some (.int .i64 t289) ∧ w'.cell? ⟨gb292, 1, none⟩ = some (.int .i64 t290)) (ds := []) laws_FnRangeSums.b27_ (by kernel_rfl) rfl rfl ⟨cl_ BK292 0, cl_ BK292 1⟩ (fun hHeld => ?_); refine with_tabW laws_FnRangeSums.tab13 laws_FnRangeSums.bits13 (fun HT_ HW_ => ?_); generalize w258.drew = w259 at BK291 BK292 BK299 BK300 BK301 HB hHeld ⊢; refine pure_y 0 (some 91) laws_FnRangeSums.b28_ (any_of HT_.out (by kernel_rfl)) (h := ?_)
                refine pure_y 2 (some 93) laws_FnRangeSums.b29_ (any_of HT_.out (by kernel_rfl)) (h := ?_)
                refine pure_y 3 (some 94) laws_FnRangeSums.b30_ (any_of HT_.out (by kernel_rfl)) (h := ?_)
                refine pure_y 4 (some 95) laws_FnRangeSums.b31_ (any_of HT_.out (by kernel_rfl)) (h := ?_)
                refine pure_y 5 (some 96) laws_FnRangeSums.b32_ (any_of HT_.out (by kernel_rfl)) (h := ?_)
                refine pure_y 7 (some 98) laws_FnRangeSums.b33_ (any_of HT_.out (by kernel_rfl)) (h := ?_)
                refine take_y 1 (some 92) laws_FnRangeSums.b35_ rfl (take_ofW HT_.out HW_.out (by kernel_rfl)) hHeld (Or.inl ⟨by rfl, (by rintro w' ⟨s0, s1⟩; go_simp; with_reducible rfl)⟩) (h := ?_)
                refine take_y 6 (some 97) laws_FnRangeSums.b37_ rfl (take_ofW HT_.out HW_.out (by kernel_rfl)) hHeld (Or.inl ⟨by rfl, (by rintro w' ⟨s0, s1⟩; go_simp; with_reducible rfl)⟩) (h := ?_)
                refine take_y 8 (some 99) laws_FnRangeSums.b39_ rfl (take_ofW HT_.out HW_.out (by kernel_rfl)) hHeld (Or.inl ⟨by rfl, (by rintro w' ⟨s0, s1⟩; go_simp; with_reducible rfl)⟩) (h := ?_)
                refine pure_y 9 (some 100) laws_FnRangeSums.b41_ (any_of HT_.out (by kernel_rfl)) (h := ?_)
                refine pure_y 10 (some 101) laws_FnRangeSums.b43_ (any_of HT_.out (by kernel_rfl)) (h := ?_)
                refine one_ (i := 11) (N := some 102) laws_FnRangeSums.b45_ rfl rfl (one_of HT_.out (by kernel_rfl)) (by decide) (fun K hK => ?_); refine gs_ Tryd.func17 #[.slice A0 l0.length c0, .int .i64 (wrap64 (x8_3 + 9)), .int .i64 (wrap64 ((wrap64 (t290 - t289)) + 1))] (h := ?_); with_reducible refine (laws_pick.calls k3 _ _ l0 (wrap64 (x8_3 + 9)) (wrap64 ((wrap64 (t290 - t289)) + 1)) t315 _ ?side1 ?side2 A105.out).mono ?_
                (case side1 => exact sq_c (Kd.C_below HR0.out HB.out))
                (case side2 => exact HC0.out)
                rintro e w' ⟨rfl, ⟨nd, rfl⟩⟩; refine ⟨_, rfl, ?_⟩; refine hK.out _ _ ⟨cl_ BK292 0, cl_ BK292 1⟩ (fun hHeld => ?_); clear hK K; refine norm_ (a' := ?_) ?_ ?_; rotate_left
                ·
                 show Act.put _ (some 102) _ = _; simp only [Act.put, List.setIfInBounds_toArray, List.set_cons_zero, List.set_cons_succ, i64_w, i32_w]; rfl
                refine pure_y 12 (some 103) laws_FnRangeSums.b47_ (any_of HT_.out (by kernel_rfl)) (h := ?_)
                refine pure_y 13 (some 10) laws_FnRangeSums.b49_ (any_of HT_.out (by kernel_rfl)) (h := ?_)
                refine done_ (done_of HT_.out (by kernel_rfl)) ?_
                try go_wp2_with (first | ((with_reducible refine gate_callee (f := 18) rfl ?_); refine gl_ 107 Tryd.func18 #[.int .i64 (wrap64 ((wrap64 (t287 + t314)) + (wrap64 (t289 + t315))))] (h := ?_); (with_reducible refine (laws_within.calls (wrap64 ((wrap64 (t287 + t314)) + (wrap64 (t289 + t315)))) false _ A106.out).mono ?_); rintro e w' ⟨rfl, ⟨nd, rfl⟩⟩; refine ⟨_, rfl, ?_⟩) | (go_at_call 18; (with_reducible refine (laws_within.calls (wrap64 ((wrap64 (t287 + t314)) - (wrap64 (t289 + t315)))) false _ A205.out).mono ?_); rintro e w' ⟨rfl, ⟨nd, rfl⟩⟩) | (go_at_call 18; (with_reducible refine (laws_within.calls (wrap64 ((wrap64 (t287 + t314)) * (wrap64 (t289 + t315)))) true _ A251.out).mono ?_); rintro e w' ⟨rfl, ⟨nd, rfl⟩⟩; have hnb260 := NB301_291.out; have hnc260 := NB291_301.out; have hnb261 := NB301_292.out; have hnc261 := NB292_301.out; have hnb262 := NB301_299.out; have hnc262 := NB299_301.out; have hnb263 := NB301_300.out; have hnc263 := NB300_301.out; have hcz264_0 := cl_ (v := .int .i64 t297) BK301 0; have hcz264_1 := cl_ (v := .int .i64 t298) BK301 1; have hfz264_0 := blk_frozen BK301.out 0; have hfz264_1 := blk_frozen BK301.out 1) | (go_at_call 19; (with_reducible refine (impl_RangeHas.calls t297 t298 (wrap64 ((wrap64 (t287 + t314)) * (wrap64 (t289 + t315)))) true _ ?side1 A253.out).mono ?_); (case side1 => exact GL0.below HG0.out (sq_below5 HB.out GE291.out GE292.out GE299.out GE300.out GE301.out)); rintro e w265 ⟨rfl, hb⟩; replace BK291 := bb_ BK291 hb; replace BK292 := bb_ BK292 hb; replace BK299 := bb_ BK299 hb; replace BK300 := bb_ BK300 hb; replace BK301 := bb_ BK301 hb; replace HB := hb5_ HB hb GE291 GE292 GE299 GE300 GE301; (try clear hb); (try clear hb2); (try clear hk); (try clear hi); have hnb266 := NB291_292.out; have hnc266 := NB292_291.out; have hnb267 := NB291_299.out; have hnc267 := NB299_291.out; have hnb268 := NB291_300.out; have hnc268 := NB300_291.out; have hcz269_0 := cl_ (v := .int .i64 t287) BK291 0; have hcz269_1 := cl_ (v := .int .i64 t288) BK291 1; have hfz269_0 := blk_frozen BK291.out 0; have hfz269_1 := blk_frozen BK291.out 1) | (go_at_call 14; (with_reducible refine (impl_RangeNeg.calls k3 t287 t288 t348 t349 _ ?side1 A255.out).mono ?_); (case side1 => exact GL0.below HG0.out (sq_below5 HB.out GE291.out GE292.out GE299.out GE300.out GE301.out)); rintro e w270 ⟨rfl, hb⟩; replace BK291 := bb_ BK291 hb; replace BK292 := bb_ BK292 hb; replace BK299 := bb_ BK299 hb; replace BK300 := bb_ BK300 hb; replace BK301 := bb_ BK301 hb; replace HB := hb5_ HB hb GE291 GE292 GE299 GE300 GE301; (try clear hb); (try clear hb2); (try clear hk); (try clear hi)) | (go_at_call 19; (with_reducible refine (impl_RangeHas.calls t348 t349 (wrap64 (-(wrap64 (t287 + t314)))) true _ ?side1 A256.out).mono ?_); (case side1 => exact GL0.below HG0.out (sq_below5 HB.out GE291.out GE292.out GE299.out GE300.out GE301.out)); rintro e w271 ⟨rfl, hb⟩; replace BK291 := bb_ BK291 hb; replace BK292 := bb_ BK292 hb; replace BK299 := bb_ BK299 hb; replace BK300 := bb_ BK300 hb; replace BK301 := bb_ BK301 hb; replace HB := hb5_ HB hb GE291 GE292 GE299 GE300 GE301; (try clear hb); (try clear hb2); (try clear hk); (try clear hi)))
                go_roundg k3
                case measure => have := HJ7.out; have := HJ53.out; have := HK3.out; omega
                case rel => exact ⟨(wrap64 (x8_3 + 1)), (by first | rfl | (simp; done) | (simp [*]; done)), H', ⟨by have := HJ7.out; have := HJ53.out; have := HK3.out; omega⟩, bk_ BK291, bk_ BK292, bk_ BK299, bk_ BK300, bk_ BK301, ⟨by repeat (first | (with_reducible first | exact HB.out | apply below_alloc | apply pw_below_drewN | apply below_drew1 | refine below_set ?_ GE291.out | refine below_set ?_ GE292.out | refine below_set ?_ GE299.out | refine below_set ?_ GE300.out | refine below_set ?_ GE301.out) | exact HB.out)⟩⟩
               ·
                replace c257 := Bool.eq_false_iff.mpr c257; subst c257; exact (no_ H hr_).elim
              ·
               replace c254 := Bool.eq_false_iff.mpr c254; subst c254; exact (no_ H hr_).elim
             ·
              replace c252 := Bool.eq_false_iff.mpr c252; subst c252; have H1 : ((impl_RangeNeg.f k3 t287 t288).bind fun bt351 => ((impl_RangeHas.f bt351.1 bt351.2 (wrap64 (-(wrap64 (t287 + t314))))).bind fun t353 => (if t353 = true then (laws_FnRangeSums.l0 k3 l0 (wrap64 (x8_3 + 1)) t287 t288 t289 t290 t293 t294 t295 t296 t297 t298) else (some false)))) = some r := by rw [if_neg (show ¬ (false = true) by decide)] at H; exact H
              clear H; have H := H1; clear H1; replace H := Option.bind_eq_some_iff.mp H; obtain ⟨⟨t351, t352⟩, A2720, H⟩ := H; (try dsimp only at H); have A272 := Aside0.mk A2720; clear A2720; replace H := Option.bind_eq_some_iff.mp H; obtain ⟨t353, A2730, H⟩ := H; (try dsimp only at H); have A273 := Aside0.mk A2730; clear A2730
              by_cases c274 : t353 = true
              ·
               subst c274; have H1 : (laws_FnRangeSums.l0 k3 l0 (wrap64 (x8_3 + 1)) t287 t288 t289 t290 t293 t294 t295 t296 t297 t298) = some r := by rw [if_pos rfl] at H; exact H
               clear H; have H := H1; clear H1; have H' := Aside0.mk H; clear H
               try go_wp2
               replace BK291 := bd_ BK291; replace BK292 := bd_ BK292; replace BK299 := bd_ BK299; replace BK300 := bd_ BK300; replace BK301 := bd_ BK301; replace HB := hd_ HB; refine start_ (n := 13) (S := fun w' => w'.cell? ⟨gb291, 0, none⟩ = some (.int .i64 t287) ∧ w'.cell? ⟨gb291, 1, none⟩ = some (.int .i64 t288)) (ds := []) laws_FnRangeSums.b34_ (by kernel_rfl) rfl rfl ⟨cl_ BK291 0, cl_ BK291 1⟩ (fun hHeld => ?_); refine with_tabW laws_FnRangeSums.tab12 laws_FnRangeSums.bits12 (fun HT_ HW_ => ?_); generalize wr.drew = w275 at BK291 BK292 BK299 BK300 BK301 HB hHeld ⊢; refine pure_y 0 (some 79) laws_FnRangeSums.b36_ (any_of HT_.out (by kernel_rfl)) (h := ?_)
               refine pure_y 2 (some 81) laws_FnRangeSums.b38_ (any_of HT_.out (by kernel_rfl)) (h := ?_)
               refine pure_y 3 (some 82) laws_FnRangeSums.b40_ (any_of HT_.out (by kernel_rfl)) (h := ?_)
               refine pure_y 4 (some 83) laws_FnRangeSums.b42_ (any_of HT_.out (by kernel_rfl)) (h := ?_)
               refine pure_y 6 (some 85) laws_FnRangeSums.b44_ (any_of HT_.out (by kernel_rfl)) (h := ?_)
               refine take_y 1 (some 80) laws_FnRangeSums.b46_ rfl (take_ofW HT_.out HW_.out (by kernel_rfl)) hHeld (Or.inl ⟨by rfl, (by rintro w' ⟨s0, s1⟩; go_simp; with_reducible rfl)⟩) (h := ?_)
               refine take_y 5 (some 84) laws_FnRangeSums.b48_ rfl (take_ofW HT_.out HW_.out (by kernel_rfl)) hHeld (Or.inl ⟨by rfl, (by rintro w' ⟨s0, s1⟩; go_simp; with_reducible rfl)⟩) (h := ?_)
               refine take_y 7 (some 86) laws_FnRangeSums.b50_ rfl (take_ofW HT_.out HW_.out (by kernel_rfl)) hHeld (Or.inl ⟨by rfl, (by rintro w' ⟨s0, s1⟩; go_simp; with_reducible rfl)⟩) (h := ?_)
               refine pure_y 8 (some 87) laws_FnRangeSums.b51_ (any_of HT_.out (by kernel_rfl)) (h := ?_)
               refine pure_y 9 (some 88) laws_FnRangeSums.b52_ (any_of HT_.out (by kernel_rfl)) (h := ?_)
               refine one_ (i := 10) (N := some 89) laws_FnRangeSums.b53_ rfl rfl (one_of HT_.out (by kernel_rfl)) (by decide) (fun K hK => ?_); refine gs_ Tryd.func17 #[.slice A0 l0.length c0, .int .i64 x8_3, .int .i64 (wrap64 ((wrap64 (t288 - t287)) + 1))] (h := ?_); with_reducible refine (laws_pick.calls k3 _ _ l0 x8_3 (wrap64 ((wrap64 (t288 - t287)) + 1)) t314 _ ?side1 ?side2 A104.out).mono ?_
               (case side1 => exact sq_c (Kd.C_below HR0.out HB.out))
               (case side2 => exact HC0.out)
               rintro e w' ⟨rfl, ⟨nd, rfl⟩⟩; refine ⟨_, rfl, ?_⟩; refine hK.out _ _ ⟨cl_ BK291 0, cl_ BK291 1⟩ (fun hHeld => ?_); clear hK K; refine norm_ (a' := ?_) ?_ ?_; rotate_left
               ·
                show Act.put _ (some 89) _ = _; simp only [Act.put, List.setIfInBounds_toArray, List.set_cons_zero, List.set_cons_succ, i64_w, i32_w]; rfl
               refine pure_y 11 (some 90) laws_FnRangeSums.b54_ (any_of HT_.out (by kernel_rfl)) (h := ?_)
               refine pure_y 12 (some 9) laws_FnRangeSums.b55_ (any_of HT_.out (by kernel_rfl)) (h := ?_)
               refine done_ (done_of HT_.out (by kernel_rfl)) ?_
               try go_wp2
               (try (rw [drewN_self w275]; generalize hq_ : World.drewN w275 _ = w275; replace BK291 := bq_ hq_ BK291; replace BK292 := bq_ hq_ BK292; replace BK299 := bq_ hq_ BK299; replace BK300 := bq_ hq_ BK300; replace BK301 := bq_ hq_ BK301; replace HB := hq5_ hq_ HB GE291 GE292 GE299 GE300 GE301; clear hq_))
               replace BK291 := bd_ BK291; replace BK292 := bd_ BK292; replace BK299 := bd_ BK299; replace BK300 := bd_ BK300; replace BK301 := bd_ BK301; replace HB := hd_ HB; refine start_ (n := 14) (S := fun w' => w'.cell? ⟨gb292, 0, none⟩ = some (.int .i64 t289) ∧ w'.cell? ⟨gb292, 1, none⟩ = some (.int .i64 t290)) (ds := []) laws_FnRangeSums.b27_ (by kernel_rfl) rfl rfl ⟨cl_ BK292 0, cl_ BK292 1⟩ (fun hHeld => ?_); refine with_tabW laws_FnRangeSums.tab13 laws_FnRangeSums.bits13 (fun HT_ HW_ => ?_); generalize w275.drew = w276 at BK291 BK292 BK299 BK300 BK301 HB hHeld ⊢; refine pure_y 0 (some 91) laws_FnRangeSums.b28_ (any_of HT_.out (by kernel_rfl)) (h := ?_)
               refine pure_y 2 (some 93) laws_FnRangeSums.b29_ (any_of HT_.out (by kernel_rfl)) (h := ?_)
               refine pure_y 3 (some 94) laws_FnRangeSums.b30_ (any_of HT_.out (by kernel_rfl)) (h := ?_)
               refine pure_y 4 (some 95) laws_FnRangeSums.b31_ (any_of HT_.out (by kernel_rfl)) (h := ?_)
               refine pure_y 5 (some 96) laws_FnRangeSums.b32_ (any_of HT_.out (by kernel_rfl)) (h := ?_)
               refine pure_y 7 (some 98) laws_FnRangeSums.b33_ (any_of HT_.out (by kernel_rfl)) (h := ?_)
               refine take_y 1 (some 92) laws_FnRangeSums.b35_ rfl (take_ofW HT_.out HW_.out (by kernel_rfl)) hHeld (Or.inl ⟨by rfl, (by rintro w' ⟨s0, s1⟩; go_simp; with_reducible rfl)⟩) (h := ?_)
               refine take_y 6 (some 97) laws_FnRangeSums.b37_ rfl (take_ofW HT_.out HW_.out (by kernel_rfl)) hHeld (Or.inl ⟨by rfl, (by rintro w' ⟨s0, s1⟩; go_simp; with_reducible rfl)⟩) (h := ?_)
               refine take_y 8 (some 99) laws_FnRangeSums.b39_ rfl (take_ofW HT_.out HW_.out (by kernel_rfl)) hHeld (Or.inl ⟨by rfl, (by rintro w' ⟨s0, s1⟩; go_simp; with_reducible rfl)⟩) (h := ?_)
               refine pure_y 9 (some 100) laws_FnRangeSums.b41_ (any_of HT_.out (by kernel_rfl)) (h := ?_)
               refine pure_y 10 (some 101) laws_FnRangeSums.b43_ (any_of HT_.out (by kernel_rfl)) (h := ?_)
               refine one_ (i := 11) (N := some 102) laws_FnRangeSums.b45_ rfl rfl (one_of HT_.out (by kernel_rfl)) (by decide) (fun K hK => ?_); refine gs_ Tryd.func17 #[.slice A0 l0.length c0, .int .i64 (wrap64 (x8_3 + 9)), .int .i64 (wrap64 ((wrap64 (t290 - t289)) + 1))] (h := ?_); with_reducible refine (laws_pick.calls k3 _ _ l0 (wrap64 (x8_3 + 9)) (wrap64 ((wrap64 (t290 - t289)) + 1)) t315 _ ?side1 ?side2 A105.out).mono ?_
               (case side1 => exact sq_c (Kd.C_below HR0.out HB.out))
               (case side2 => exact HC0.out)
               rintro e w' ⟨rfl, ⟨nd, rfl⟩⟩; refine ⟨_, rfl, ?_⟩; refine hK.out _ _ ⟨cl_ BK292 0, cl_ BK292 1⟩ (fun hHeld => ?_); clear hK K; refine norm_ (a' := ?_) ?_ ?_; rotate_left
               ·
                show Act.put _ (some 102) _ = _; simp only [Act.put, List.setIfInBounds_toArray, List.set_cons_zero, List.set_cons_succ, i64_w, i32_w]; rfl
               refine pure_y 12 (some 103) laws_FnRangeSums.b47_ (any_of HT_.out (by kernel_rfl)) (h := ?_)
               refine pure_y 13 (some 10) laws_FnRangeSums.b49_ (any_of HT_.out (by kernel_rfl)) (h := ?_)
               refine done_ (done_of HT_.out (by kernel_rfl)) ?_
               try go_wp2_with (first | ((with_reducible refine gate_callee (f := 18) rfl ?_); refine gl_ 107 Tryd.func18 #[.int .i64 (wrap64 ((wrap64 (t287 + t314)) + (wrap64 (t289 + t315))))] (h := ?_); (with_reducible refine (laws_within.calls (wrap64 ((wrap64 (t287 + t314)) + (wrap64 (t289 + t315)))) false _ A106.out).mono ?_); rintro e w' ⟨rfl, ⟨nd, rfl⟩⟩; refine ⟨_, rfl, ?_⟩) | (go_at_call 18; (with_reducible refine (laws_within.calls (wrap64 ((wrap64 (t287 + t314)) - (wrap64 (t289 + t315)))) false _ A205.out).mono ?_); rintro e w' ⟨rfl, ⟨nd, rfl⟩⟩) | (go_at_call 18; (with_reducible refine (laws_within.calls (wrap64 ((wrap64 (t287 + t314)) * (wrap64 (t289 + t315)))) false _ A251.out).mono ?_); rintro e w' ⟨rfl, ⟨nd, rfl⟩⟩; have hnb277 := NB291_292.out; have hnc277 := NB292_291.out; have hnb278 := NB291_299.out; have hnc278 := NB299_291.out; have hnb279 := NB291_300.out; have hnc279 := NB300_291.out; have hnb280 := NB291_301.out; have hnc280 := NB301_291.out; have hcz281_0 := cl_ (v := .int .i64 t287) BK291 0; have hcz281_1 := cl_ (v := .int .i64 t288) BK291 1; have hfz281_0 := blk_frozen BK291.out 0; have hfz281_1 := blk_frozen BK291.out 1) | (go_at_call 14; (with_reducible refine (impl_RangeNeg.calls k3 t287 t288 t351 t352 _ ?side1 A272.out).mono ?_); (case side1 => exact GL0.below HG0.out (sq_below5 HB.out GE291.out GE292.out GE299.out GE300.out GE301.out)); rintro e w282 ⟨rfl, hb⟩; replace BK291 := bb_ BK291 hb; replace BK292 := bb_ BK292 hb; replace BK299 := bb_ BK299 hb; replace BK300 := bb_ BK300 hb; replace BK301 := bb_ BK301 hb; replace HB := hb5_ HB hb GE291 GE292 GE299 GE300 GE301; (try clear hb); (try clear hb2); (try clear hk); (try clear hi)) | (go_at_call 19; (with_reducible refine (impl_RangeHas.calls t351 t352 (wrap64 (-(wrap64 (t287 + t314)))) true _ ?side1 A273.out).mono ?_); (case side1 => exact GL0.below HG0.out (sq_below5 HB.out GE291.out GE292.out GE299.out GE300.out GE301.out)); rintro e w283 ⟨rfl, hb⟩; replace BK291 := bb_ BK291 hb; replace BK292 := bb_ BK292 hb; replace BK299 := bb_ BK299 hb; replace BK300 := bb_ BK300 hb; replace BK301 := bb_ BK301 hb; replace HB := hb5_ HB hb GE291 GE292 GE299 GE300 GE301; (try clear hb); (try clear hb2); (try clear hk); (try clear hi)))
               go_roundg k3
               case measure => have := HJ7.out; have := HJ53.out; have := HK3.out; omega
               case rel => exact ⟨(wrap64 (x8_3 + 1)), (by first | rfl | (simp; done) | (simp [*]; done)), H', ⟨by have := HJ7.out; have := HJ53.out; have := HK3.out; omega⟩, bk_ BK291, bk_ BK292, bk_ BK299, bk_ BK300, bk_ BK301, ⟨by repeat (first | (with_reducible first | exact HB.out | apply below_alloc | apply pw_below_drewN | apply below_drew1 | refine below_set ?_ GE291.out | refine below_set ?_ GE292.out | refine below_set ?_ GE299.out | refine below_set ?_ GE300.out | refine below_set ?_ GE301.out) | exact HB.out)⟩⟩
              ·
               replace c274 := Bool.eq_false_iff.mpr c274; subst c274; exact (no_ H hr_).elim
          ·
           rw [if_neg c103] at H; have c103b0 : decide (x8_3 < 6) = false := decide_eq_false c103; clear c103; obtain rfl := Option.some.inj H
           go_wp2
           go_ret
           exact ⟨by first | rfl | (simp [errW_none, errW_some] <;> rfl) | (simp [*, errW_none, errW_some] <;> rfl), by repeat (first | (with_reducible first | exact HB.out | apply below_alloc | apply pw_below_drewN | apply below_drew1 | refine below_set ?_ GE291.out | refine below_set ?_ GE292.out | refine below_set ?_ GE299.out | refine below_set ?_ GE300.out | refine below_set ?_ GE301.out) | exact HB.out)⟩

end Go.Proofs.YtmibaaicadgchaaDoor.Q
