/- The text of a range, as a plain function. -/
import Derived.Test.YtdofhbcohijpiaaDoorQNum
import Derived.Test.YtdofhbcohijpiaaDoorQRng
import Derived.Test.YtdofhbcohijpiaaDoorQOpen
import Derived.Test.YtdofhbcohijpiaaDoorQx10
import Derived.Test.YtdofhbcohijpiaaDoorQx6
namespace Go.Proofs.YtdofhbcohijpiaaDoor.Q
open Go.RowKit Go.Proofs.YtdofhbcohijpiaaDoorW.PrintWords Go.Proofs.YtdofhbcohijpiaaDoorW.PrintLast Go.Proofs.YtdofhbcohijpiaaDoorW.PrintMore
open Go.Proofs.YtdofhbcohijpiaaDoor.Open
set_option linter.unusedSimpArgs false
set_option linter.unusedVariables false
def rtext (a b : Int) : ByteArray := if okR a b = true then (if (a == 1 && b == 0) = true then ⟨#[110, 111, 110, 101]⟩ else (⟨(Lib.itoa a).toArray⟩ ++ (⟨#[46, 46]⟩ : ByteArray)) ++ ⟨(Lib.itoa b).toArray⟩) else ⟨#[]⟩
theorem two_dots : (⟨#[46, 46]⟩ : ByteArray) = ⟨([46, 46] : List UInt8).toArray⟩ := rfl
theorem rtext_len (a b : Int) : (rtext a b).size ≤ 2000010 := by
  unfold rtext
  split
  · rename_i h
    split
    · decide
    · rename_i h2
      rcases (okR_iff a b).1 h with ⟨rfl, rfl⟩ | ⟨p1, p2, p3⟩
      · simp at h2
      · have l1 := itoa_len a (by omega) (by omega)
        have l2 := itoa_len b (by omega) (by omega)
        rw [two_dots, app_mk, app_mk, size_mk]; simp; omega
  · decide
theorem i_rtext (a b : Int) : impl_RangeText.f a b = some (rtext a b) := by
  unfold impl_RangeText.f rtext
  simp only [i_ok, Option.bind_some]
  by_cases h : okR a b = true
  · rw [if_pos h, if_pos h]
    by_cases h2 : (a == 1 && b == 0) = true
    · rw [if_pos h2, if_pos h2]
    · rw [if_neg h2, if_neg h2]
      rcases (okR_iff a b).1 h with ⟨rfl, rfl⟩ | ⟨p1, p2, p3⟩
      · simp at h2
      · have l1 := itoa_len a (by omega) (by omega)
        have l2 := itoa_len b (by omega) (by omega)
        rw [itoa_i a (by omega) (by omega), itoa_i b (by omega) (by omega)]
        simp only [Option.bind_some]
        rw [if_pos (by rw [size_mk]; omega), if_pos (by rw [size_mk, size_mk]; omega)]
  · rw [if_neg h, if_neg h]
theorem s_rtext (a b : Int) (k : Nat) (hk : 1000010 ≤ k) : spec_RangeText.f k a b = some (rtext a b) := by
  unfold spec_RangeText.f rtext
  simp only [s_ok, s_is, Option.bind_some]
  by_cases h : okR a b = true
  · rw [if_pos h, if_pos h]
    rcases (okR_iff a b).1 h with ⟨rfl, rfl⟩ | ⟨p1, p2, p3⟩
    · simp
    · have q1 : decide (a ≤ b) = true := by simpa using p3
      have q2 : (a == 1 && b == 0) = false := by simp; omega
      have l1 := itoa_len a (by omega) (by omega)
      have l2 := itoa_len b (by omega) (by omega)
      rw [q1, q2, digits a (by omega) (by omega) k (by omega), digits b (by omega) (by omega) k (by omega)]
      simp only [Option.bind_some, if_true, Bool.false_eq_true, if_false]
      rw [if_pos (by rw [size_mk]; omega), if_pos (by rw [size_mk, size_mk]; omega)]
  · rw [if_neg h, if_neg h]
end Go.Proofs.YtdofhbcohijpiaaDoor.Q
