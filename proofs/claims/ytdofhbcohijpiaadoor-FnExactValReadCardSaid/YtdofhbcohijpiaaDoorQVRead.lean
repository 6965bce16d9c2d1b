/- What is said of cells, read from its text: both read alike. -/
import Derived.Test.YtdofhbcohijpiaaDoorQRRead
import Derived.Test.YtdofhbcohijpiaaDoorQOpen
import Derived.Test.YtdofhbcohijpiaaDoorQx19
import Derived.Test.YtdofhbcohijpiaaDoorQx20
import Derived.Test.YtdofhbcohijpiaaDoorQx21
namespace Go.Proofs.YtdofhbcohijpiaaDoor.Q
open Go.RowKit Go.Proofs.YtdofhbcohijpiaaDoorW.PrintWords Go.Proofs.YtdofhbcohijpiaaDoorW.PrintLast Go.Proofs.YtdofhbcohijpiaaDoorW.PrintMore
open Go.Proofs.YtdofhbcohijpiaaDoor.Open
set_option linter.unusedSimpArgs false
set_option linter.unusedVariables false
abbrev sfx : List UInt8 := [32, 111, 114, 32, 117, 110, 119, 114, 105, 116, 116, 101, 110]
theorem RT_dot {l : List UInt8} {a b : Int} (h : RT l a b) : (46 : UInt8) ∈ l := by rw [h.2.2.2]; simp
theorem rread_dotless {l : List UInt8} (hn : l ≠ noneL) (h : (46 : UInt8) ∉ l) : rread l = (0, 0, false) := rread_no hn fun _ _ q => h (RT_dot q)
noncomputable def vread (l : List UInt8) : Int × Int × Bool × Bool :=
  if 13 ≤ l.length ∧ l.drop (l.length - 13) = sfx then (if (rread (l.take (l.length - 13))).2.2 = true then ((rread (l.take (l.length - 13))).1, (rread (l.take (l.length - 13))).2.1, false, true) else (0, 0, false, false))
  else (if (rread l).2.2 = true then ((rread l).1, (rread l).2.1, true, true) else (0, 0, false, false))
theorem i_hassuf (s p : ByteArray) (hs : s.size ≤ 1048576) (hp : p.size ≤ 1048576) : stringslite_HasSuffix.f s p = some (decide (p.size ≤ s.size) && (s.data.toList.drop (s.size - p.size) == p.data.toList)) := by
  unfold stringslite_HasSuffix.f
  by_cases h : p.size ≤ s.size
  · rw [if_pos (by omega), w64 (by omega) (by omega), if_pos (by omega), if_pos (by omega), toL, toL, ext_all, show ((s.size : Int) - (p.size : Int)).toNat = s.size - p.size by omega]
    simp [h]
  · rw [if_neg (by omega)]; simp [h]
theorem i_cutsuf (s p : ByteArray) (hs : s.size ≤ 1048576) (hp : p.size ≤ 1048576) : strings_CutSuffix.f s p = some (if p.size ≤ s.size ∧ s.data.toList.drop (s.size - p.size) = p.data.toList then (s.extract 0 (s.size - p.size), true) else (s, false)) := by
  unfold strings_CutSuffix.f stringslite_CutSuffix.f
  rw [i_hassuf s p hs hp]
  simp only [Option.bind_some]
  by_cases h : p.size ≤ s.size ∧ s.data.toList.drop (s.size - p.size) = p.data.toList
  · rw [if_pos (by simp [h.1, h.2]), if_pos h, w64 (by omega) (by omega), if_pos (by omega), if_pos (by omega), show ((s.size : Int) - (p.size : Int)).toNat = s.size - p.size by omega]; rfl
  · rw [if_neg (by simpa using h), if_neg h]; rfl
theorem i_cutsfx (s : ByteArray) (hs : s.size ≤ 1048576) : strings_CutSuffix.f s (⟨#[32, 111, 114, 32, 117, 110, 119, 114, 105, 116, 116, 101, 110]⟩ : ByteArray) = some (if 13 ≤ s.size ∧ s.data.toList.drop (s.size - 13) = sfx then (s.extract 0 (s.size - 13), true) else (s, false)) :=
  i_cutsuf s _ hs (by decide)
theorem i_vread (s : ByteArray) (hs : s.size ≤ 1048576) : impl_ValRead.f s = some (vread s.data.toList) := by
  have hz := sizeL s
  unfold impl_ValRead.f
  rw [i_cutsfx s hs]
  simp only [Option.bind_some]
  unfold vread
  rw [← hz]
  by_cases h : 13 ≤ s.size ∧ s.data.toList.drop (s.size - 13) = sfx
  · rw [if_pos h, if_pos h, i_rread _ (by rw [sizeL, ext_head, List.length_take]; omega), ext_head]
    simp only [Option.bind_some]
    split <;> rfl
  · rw [if_neg h, if_neg h, i_rread _ hs]
    simp only [Option.bind_some]
    split <;> rfl
theorem s_vread (s : ByteArray) (hs : s.size ≤ 1048576) (k : Nat) (hk : 70 ≤ k) : spec_ValRead.f k s = some (vread s.data.toList) := by
  have hz := sizeL s
  have plain : ∀ n : Int, ∀ m, 60 ≤ m → spec_ValRead.j0 (m + 1) s n false 0 0 true = some (if (rread s.data.toList).2.2 = true then ((rread s.data.toList).1, (rread s.data.toList).2.1, true, true) else (0, 0, false, false)) := by
    intro n m hm
    rw [spec_ValRead.j0, if_neg (by simp), s_rread s hs m hm]
    simp only [Option.bind_some]
    split <;> rfl
  obtain ⟨k, rfl⟩ : ∃ m, k = m + 1 := ⟨k - 1, by omega⟩
  unfold spec_ValRead.f
  rw [w64 (by omega) (by omega)]
  unfold vread
  rw [← hz]
  by_cases h13 : 13 < s.size
  · rw [if_pos (by omega), if_pos (by omega), if_pos (by omega), toL, ext_all, show ((s.size : Int) - 13).toNat = s.size - 13 by omega]
    by_cases h : s.data.toList.drop (s.size - 13) = sfx
    · rw [show (s.data.toList.drop (s.size - 13) == ([32, 111, 114, 32, 117, 110, 119, 114, 105, 116, 116, 101, 110] : List UInt8)) = true by rw [h]; rfl, if_pos ⟨by omega, h⟩]
      rw [spec_ValRead.j0, if_pos rfl, if_pos (by omega), if_pos (by omega), show ((s.size : Int) - 13).toNat = s.size - 13 by omega, s_rread _ (by rw [sizeL, ext_head, List.length_take]; omega) k (by omega), ext_head]
      simp only [Option.bind_some]
      split <;> rfl
    · rw [show (s.data.toList.drop (s.size - 13) == ([32, 111, 114, 32, 117, 110, 119, 114, 105, 116, 116, 101, 110] : List UInt8)) = false from by simpa using h, if_neg (fun q => h q.2)]
      exact plain _ _ (by omega)
  · rw [if_neg (by omega), plain _ _ (by omega)]
    by_cases h : 13 ≤ s.size ∧ s.data.toList.drop (s.size - 13) = sfx
    · rw [if_pos h]
      have e : s.data.toList = sfx := by have := h.2; rw [show s.size - 13 = 0 by omega] at this; exact this
      rw [e, rread_dotless (l := sfx) (by decide) (by decide), show s.size - 13 = 0 by omega, List.take_zero, rread_dotless (l := []) (by decide) (by simp)]
      rfl
    · rw [if_neg h]
end Go.Proofs.YtdofhbcohijpiaaDoor.Q
