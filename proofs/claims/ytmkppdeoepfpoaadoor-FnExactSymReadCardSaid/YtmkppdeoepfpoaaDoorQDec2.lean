/- More of numerals. -/
import Derived.Test.YtmkppdeoepfpoaaDoorQDec
import Derived.Test.YtmkppdeoepfpoaaDoorQTxt
import Derived.Test.YtmkppdeoepfpoaaDoorQOpen
import Derived.Test.YtmkppdeoepfpoaaDoorQx6
namespace Go.Proofs.YtmkppdeoepfpoaaDoor.Q
open Go.RowKit Go.Proofs.YtmkppdeoepfpoaaDoorW.PrintWords Go.Proofs.YtmkppdeoepfpoaaDoorW.PrintLast Go.Proofs.YtmkppdeoepfpoaaDoorW.PrintMore
open Go.Proofs.YtmkppdeoepfpoaaDoor.Open
set_option linter.unusedSimpArgs false
set_option linter.unusedVariables false
theorem itoa_len8 (n : Int) (h1 : -2000000 ≤ n) (h2 : n ≤ 2000000) : (Lib.itoa n).length ≤ 8 := by
  rcases int_cases n with ⟨u, rfl⟩ | ⟨u, hu, rfl⟩
  · rw [itoa_pos]; have := dec_len10 6 u (by omega); omega
  · rw [itoa_neg' u hu]; have := dec_len10 6 u (by omega); simp; omega
theorem itoa_ne (n : Int) : Lib.itoa n ≠ [] := by
  rcases int_cases n with ⟨u, rfl⟩ | ⟨u, hu, rfl⟩
  · rw [itoa_pos]; exact dec_ne u
  · rw [itoa_neg' u hu]; simp
theorem itoa_chars (n : Int) : ∀ c ∈ Lib.itoa n, c = 45 ∨ isDig c := by
  rcases int_cases n with ⟨u, rfl⟩ | ⟨u, hu, rfl⟩
  · rw [itoa_pos]; exact fun c hc => .inr (dec_digs u c hc)
  · rw [itoa_neg' u hu]
    intro c hc
    rcases List.mem_cons.1 hc with h | h
    · exact .inl h
    · exact .inr (dec_digs u c h)
theorem itoa_dot (n : Int) : (46 : UInt8) ∉ Lib.itoa n := by
  intro h
  rcases itoa_chars n 46 h with h | h
  · cases h
  · unfold isDig at h; simp at h
/-- What the text of a number is read as (impl_readNum.f). -/
theorem numOf_itoa (n : Int) (h1 : -1000000 ≤ n) (h2 : n ≤ 1000000) : numOf (Lib.itoa n) = (n, true) := by
  unfold numOf; rw [atoi_itoa n h1 h2]; simp
theorem numOf_true {l : List UInt8} (h : (numOf l).2 = true) : l = Lib.itoa (numOf l).1 := by
  unfold numOf at h ⊢
  cases e : Lib.atoiAll l with
  | ok v => rw [e] at h; simpa using (beq_iff_eq.1 h).symm
  | «syntax» => rw [e] at h; simp at h
  | range => rw [e] at h; simp at h
end Go.Proofs.YtmkppdeoepfpoaaDoor.Q
