/- The law FnExactSegTop holds: the program's SegTop and the reference's answer alike, at all arguments, and the answer owns its memory, behind another call too. No conditions. -/
import Derived.Test.YtkmeihmfppcpaaaDoorQPureFnExactSegTop
import Derived.Test.YtkmeihmfppcpaaaDoorQSegQ
import Derived.Test.YtkmeihmfppcpaaaDoorQVal
import Derived.Test.YtkmeihmfppcpaaaDoorQOpen
import Derived.Test.YtkmeihmfppcpaaaDoorQx10
import Derived.Test.YtkmeihmfppcpaaaDoorQx11
import Derived.Test.YtkmeihmfppcpaaaDoorQx12
import Derived.Test.YtkmeihmfppcpaaaDoorQx2
namespace Go.Proofs.YtkmeihmfppcpaaaDoor.Q
open Go.RowKit Go.Proofs.YtkmeihmfppcpaaaDoorW.PrintWords Go.Proofs.YtkmeihmfppcpaaaDoorW.PrintLast Go.Proofs.YtkmeihmfppcpaaaDoorW.PrintMore
open Go.Proofs.YtkmeihmfppcpaaaDoor.Open
set_option linter.unusedSimpArgs false
set_option linter.unusedVariables false
def shapeT (size l : Int) : Bool := (decide (2 ≤ size) && decide (size ≤ 13)) && (decide (1 ≤ l) && decide (l ≤ wrap64 (size - 1)))
theorem s_shapeT (size l : Int) : spec_l10Size.f size l = some (shapeT size l) := by
  unfold spec_l10Size.f shapeT
  rw [btw, Option.bind_some, btw]
  cases (decide (2 ≤ size) && decide (size ≤ 13)) <;> rfl
theorem i_shapeT (size l : Int) : impl_isShape.f size l = some (shapeT size l) := by
  unfold impl_isShape.f shapeT
  rw [inR, Option.bind_some, inR]
  cases (decide (2 ≤ size) && decide (size ≤ 13)) <;> rfl
theorem held9 : laws_heldSeg.f 300 [[⟨1, 2⟩], [⟨3, 4⟩]] [⟨⟨5, 6⟩, false⟩] [false] 1 = some 9 := by decide +kernel
theorem held1 : laws_heldSeg.f 300 [] [] [] 1 = some 1 := by decide +kernel
theorem yoursFnExactSegTop : laws_FnExactSegTop.Pure := by
  intro size l lo hi su _ _ _ _
  refine ⟨300, ?_⟩
  unfold laws_FnExactSegTop.f spec_SegTop.f
  rw [s_shapeT, i_shapeT, s_vok, i_vok]
  have bad := eq_segQ [] [] [] (by simp) (by simp) (by simp) (by simp) 300 (by omega)
  cases shapeT size l with
  | false =>
    simp only [Option.bind_some, Bool.false_eq_true, if_false, Bool.false_and]
    rw [if_pos ⟨bad, held1⟩]
  | true =>
    cases okR lo hi with
    | false =>
      simp only [Option.bind_some, Bool.false_eq_true, if_false, if_true, Bool.and_false]
      rw [if_pos ⟨bad, held1⟩]
    | true =>
      simp only [Option.bind_some, if_true, Bool.and_self]
      rw [if_pos ⟨eq_segQ [[⟨0, 0⟩], [⟨l, 0⟩]] [⟨⟨lo, hi⟩, su⟩] [true] (by simp) (by simp) (by simp) (by simp) 300 (by omega), held9⟩]
end Go.Proofs.YtkmeihmfppcpaaaDoor.Q
