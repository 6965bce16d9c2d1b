/- Functions of the translation as Lean functions, each with a proof that a call answers so; out of the seat, by this claim's own program prt.py. -/
import Derived.Test.YtcdeojfeebmonaaDoorWEqStruct
import Derived.Test.YtcdeojfeebmonaaDoorQx0
namespace Go.Proofs.YtcdeojfeebmonaaDoor.Q
open Go.RowKit Go.Proofs.YtcdeojfeebmonaaDoorW.PrintWords Go.Proofs.YtcdeojfeebmonaaDoorW.PrintLast Go.Proofs.YtcdeojfeebmonaaDoorW.PrintMore
attribute [local go_sem] max2_int min2_int max_two min_two max_three min_three max_four min_four
set_option linter.unusedVariables false
set_option linter.unusedSimpArgs false
theorem eqA58(d:Nat)(w:World)(x0 y0:Int)(x1 y1:Int) :
  (Op.equalIn (d+2) 58 (.agg #[.int .i64 x0,.int .i64 x1]) (.agg #[.int .i64 y0,.int .i64 y1])).run Tryd.prog w=.ok (x0 == y0&&(x1 == y1)) w:=by
 refine eqA_of Tryd.underlying58 (by kernel_rfl) ?_;refine eqf_cons (by rfl) (by go_simp;rfl) (by go_simp;rfl) (by go_simp) ?_;exact eqf_last (by rfl) (by go_simp;rfl) (by go_simp;rfl) (by go_simp)
end Go.Proofs.YtcdeojfeebmonaaDoor.Q
