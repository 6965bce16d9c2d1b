/- The text of a symbol and a number: both write the same. -/
import Derived.Test.YtmkppdeoepfpoaaDoorQLabels
import Derived.Test.YtmkppdeoepfpoaaDoorQNum
import Derived.Test.YtmkppdeoepfpoaaDoorQOpen
import Derived.Test.YtmkppdeoepfpoaaDoorQx13
import Derived.Test.YtmkppdeoepfpoaaDoorQx3
import Derived.Test.YtmkppdeoepfpoaaDoorQx8
namespace Go.Proofs.YtmkppdeoepfpoaaDoor.Q
open Go.RowKit Go.Proofs.YtmkppdeoepfpoaaDoorW.PrintWords Go.Proofs.YtmkppdeoepfpoaaDoorW.PrintLast Go.Proofs.YtmkppdeoepfpoaaDoorW.PrintMore
open Go.Proofs.YtmkppdeoepfpoaaDoor.Open
set_option linter.unusedSimpArgs false
set_option linter.unusedVariables false
def okSy (n a b : Int) : Bool := decide (1 ≤ n) && decide (n ≤ 13) && (decide (0 ≤ a) && decide (a ≤ n - 1)) && (decide (-1000 ≤ b) && decide (b ≤ 1000))
theorem okSy_iff (n a b : Int) : okSy n a b = true ↔ (1 ≤ n ∧ n ≤ 13) ∧ (0 ≤ a ∧ a ≤ n - 1) ∧ (-1000 ≤ b ∧ b ≤ 1000) := by
  unfold okSy; simp [and_assoc]
theorem i_symOk (n a b : Int) (hn : 0 ≤ n) (hn2 : n ≤ 10000000) : impl_SymOk.f n a b = some (okSy n a b) := by
  unfold impl_SymOk.f impl_isPlace.f impl_inRange.f okSy
  rw [w64 (by omega) (by omega)]
  by_cases h1 : 1 ≤ n
  · rw [if_pos h1, Option.bind_some, decide_eq_true h1, Bool.true_and]
    by_cases h2 : n ≤ 13
    · rw [decide_eq_true h2, if_pos rfl, Bool.true_and]
      by_cases h3 : 0 ≤ a
      · rw [if_pos h3, Option.bind_some, Option.bind_some, decide_eq_true h3, Bool.true_and]
        by_cases h4 : a ≤ n - 1
        · rw [decide_eq_true h4, if_pos rfl, Bool.true_and]
          by_cases h5 : -1000 ≤ b
          · rw [if_pos h5, Option.bind_some, decide_eq_true h5, Bool.true_and]
          · rw [if_neg h5, Option.bind_some, decide_eq_false h5, Bool.false_and]
        · rw [decide_eq_false h4, if_neg (by simp), Bool.false_and]
      · rw [if_neg h3, Option.bind_some, Option.bind_some, decide_eq_false h3, if_neg (by simp), Bool.false_and, Bool.false_and]
    · rw [decide_eq_false h2, if_neg (by simp), Bool.false_and, Bool.false_and]
  · rw [if_neg h1, Option.bind_some, decide_eq_false h1, if_neg (by simp), Bool.false_and, Bool.false_and, Bool.false_and]
def nm (l : List ByteArray) (a : Int) : ByteArray := rdOf ByteArray.empty l (a - 1)
def symT (a b : Int) (l : List ByteArray) : ByteArray :=
  if a = 0 then ⟨(Lib.itoa b).toArray⟩
  else if b > 0 then (nm l a ++ (⟨#[32, 43, 32]⟩ : ByteArray)) ++ ⟨(Lib.itoa b).toArray⟩
  else if b < 0 then (nm l a ++ (⟨#[32, 45, 32]⟩ : ByteArray)) ++ ⟨(Lib.itoa (-b)).toArray⟩
  else nm l a
theorem nm_size (l : List ByteArray) (a : Int) (hs : ∀ x ∈ l, x.size ≤ 1048576) : (nm l a).size ≤ 1048576 := by
  unfold nm rdOf
  rw [List.getD_eq_getElem?_getD]
  cases e : l[(a - 1).toNat]? with
  | none => exact Nat.zero_le _
  | some x => exact hs x (List.mem_of_getElem? e)
theorem itoa_small (b : Int) (h1 : -1000 ≤ b) (h2 : b ≤ 1000) : (⟨(Lib.itoa b).toArray⟩ : ByteArray).size ≤ 1000003 := by
  rw [sizeL]; exact itoa_len b (by omega) (by omega)
theorem i_symT (a b : Int) (l : List ByteArray) (hl : l.length ≤ 1048576) (hs : ∀ x ∈ l, x.size ≤ 1048576) (h0 : 0 ≤ a) (h1 : a ≤ l.length) (h2 : -1000 ≤ b) (h3 : b ≤ 1000) : impl_symText.f a b l = some (symT a b l) := by
  have hn := nm_size l a hs
  unfold nm at hn
  unfold impl_symText.f symT nm
  by_cases e0 : a = 0
  · rw [if_pos e0, if_pos e0, itoa_i b (by omega) (by omega), Option.bind_some]
  · rw [if_neg e0, if_neg e0, w64 (n := a - 1) (by omega) (by omega)]
    have hi1 := itoa_small b h2 h3
    have hi2 := itoa_small (-b) (by omega) (by omega)
    by_cases hneg : b < 0
    · rw [if_pos hneg, if_pos (by omega), if_pos (by omega), if_pos (by omega), w64 (by omega) (by omega), itoa_i (-b) (by omega) (by omega), Option.bind_some, if_pos (by omega), if_neg (by omega), if_pos hneg]
    · rw [if_neg hneg]
      by_cases hpos : b > 0
      · rw [if_pos hpos, if_pos (by omega), if_pos (by omega), if_pos (by omega), itoa_i b (by omega) (by omega), Option.bind_some, if_pos (by omega), if_pos hpos]
      · rw [if_neg hpos, if_pos (by omega), if_pos (by omega), if_neg hpos, if_neg hneg]
def symtext (a b : Int) (l : List ByteArray) : ByteArray := if labels l = true ∧ okSy (l.length + 1) a b = true then symT a b l else ⟨#[]⟩
theorem i_symtext (a b : Int) (l : List ByteArray) (hl : l.length ≤ 1048576) (hs : ∀ x ∈ l, x.size ≤ 1048576) (k : Nat) (hk : 1100000 + l.length < k) : impl_SymText.f k a b l = some (symtext a b l) := by
  unfold impl_SymText.f symtext
  rw [i_labels l hl hs _ k hk, Option.bind_some, decide_eq_true rfl, Bool.true_and]
  by_cases h : labels l = true
  · rw [if_pos h, w64 (by omega) (by omega), i_symOk _ _ _ (by omega) (by omega), Option.bind_some]
    by_cases h2 : okSy (l.length + 1) a b = true
    · obtain ⟨q1, q2, q3⟩ := (okSy_iff _ _ _).1 h2
      rw [if_pos h2, if_pos ⟨h, h2⟩, i_symT a b l hl hs (by omega) (by omega) (by omega) (by omega), Option.bind_some]
    · rw [if_neg h2, if_neg (fun q => h2 q.2)]
  · rw [if_neg h, if_neg (fun q => h q.1)]
end Go.Proofs.YtmkppdeoepfpoaaDoor.Q
