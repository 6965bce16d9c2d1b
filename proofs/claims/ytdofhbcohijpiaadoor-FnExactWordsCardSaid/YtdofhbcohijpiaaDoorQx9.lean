/- Functions of the translation as Lean functions, each with a proof that a call answers so; out of the seat, by this claim's own program prt.py. -/
import Derived.Test.YtdofhbcohijpiaaDoorQx0
namespace Go.Proofs.YtdofhbcohijpiaaDoor.Q
open Go.RowKit Go.Proofs.YtdofhbcohijpiaaDoorW.PrintWords Go.Proofs.YtdofhbcohijpiaaDoorW.PrintLast Go.Proofs.YtdofhbcohijpiaaDoorW.PrintMore
attribute [local go_sem] max2_int min2_int max_two min_two max_three min_three max_four min_four   -- for this text's walks alone
set_option linter.unusedVariables false
set_option linter.unusedSimpArgs false

/-! ### strconv_Itoa: function 47 -/
def strconv_Itoa.f (a0 : Int) : Option ByteArray := if -9223372036854775808 ≤ a0 ∧ a0 ≤ 9223372036854775807 then some ⟨(Lib.itoa a0).toArray⟩ else none
theorem strconv_Itoa.calls (a0 : Int) (r : ByteArray) (w : World) (hG2 : GL2 w) (h : strconv_Itoa.f a0 = some r) :
  Calls Tryd.prog 47 #[.int .i64 a0] w fun e w' => e = .returned (.string r) ∧ Below w.heap.size w w' := by
 unfold strconv_Itoa.f at h
 split at h
 ·
  rename_i hr
  injection h with h
  subst h; refine (Tryd.strconv_Itoa a0 hr.1 hr.2 w hG2).mono ?_; rintro e w' ⟨rfl, k, os, rfl⟩; exact ⟨rfl, Lib.below_grow _ w (Nat.le_refl _) k os⟩
 ·
  cases h

end Go.Proofs.YtdofhbcohijpiaaDoor.Q
