/- A key word begins with a letter. -/
import Derived.Test.YtmkppdeoepfpoaaDoorQKind
import Derived.Test.YtmkppdeoepfpoaaDoorQOpen
namespace Go.Proofs.YtmkppdeoepfpoaaDoor.Q
open Go.RowKit Go.Proofs.YtmkppdeoepfpoaaDoorW.PrintWords Go.Proofs.YtmkppdeoepfpoaaDoorW.PrintLast Go.Proofs.YtmkppdeoepfpoaaDoorW.PrintMore
open Go.Proofs.YtmkppdeoepfpoaaDoor.Open
set_option linter.unusedSimpArgs false
set_option linter.unusedVariables false
theorem key_head {c : UInt8} {r : List UInt8} (h : hasL keys (c :: r) = true) : letB c = true := by
  simp only [hasL, keys, List.any_cons, List.any_nil, Bool.or_eq_true, beq_iff_eq, List.cons.injEq, Bool.or_false] at h
  rcases h with h | h | h | h | h | h | h | h | h | h | h | h | h <;> (rw [← h.1]; decide)
end Go.Proofs.YtmkppdeoepfpoaaDoor.Q
