/- Texts that are joined: lengths. -/
import Derived.Lib.Join
import Derived.Test.YtbfbncpbbnpdgaaDoorQTxt
import Derived.Test.YtbfbncpbbnpdgaaDoorQOpen
import Derived.Test.YtbfbncpbbnpdgaaDoorQx10
namespace Go.Proofs.YtbfbncpbbnpdgaaDoor.Q
open Go.RowKit Go.Proofs.YtbfbncpbbnpdgaaDoorW.PrintWords Go.Proofs.YtbfbncpbbnpdgaaDoorW.PrintLast Go.Proofs.YtbfbncpbbnpdgaaDoorW.PrintMore
open Go.Proofs.YtbfbncpbbnpdgaaDoor.Open
set_option linter.unusedSimpArgs false
set_option linter.unusedVariables false
def jl (xs : List ByteArray) (sep : List UInt8) : List UInt8 := Lib.join (xs.map (·.data.toList)) sep
theorem jl_nil (sep : List UInt8) : jl [] sep = [] := rfl
theorem jl_one (x : ByteArray) (sep : List UInt8) : jl [x] sep = x.data.toList := Lib.join_one _ _
theorem tail_app (sep : List UInt8) : ∀ (xs ys : List (List UInt8)), Lib.joinTail sep (xs ++ ys) = Lib.joinTail sep xs ++ Lib.joinTail sep ys
  | [], ys => by simp [Lib.joinTail]
  | x :: xs, ys => by
    have e : ∀ (z : List UInt8) (zs : List (List UInt8)), Lib.joinTail sep (z :: zs) = sep ++ z ++ Lib.joinTail sep zs := fun _ _ => rfl
    rw [List.cons_append, e, e, tail_app sep xs ys]; simp
theorem jl_snoc (xs : List ByteArray) (x : ByteArray) (sep : List UInt8) (h : xs ≠ []) : jl (xs ++ [x]) sep = jl xs sep ++ sep ++ x.data.toList := by
  cases xs with
  | nil => exact absurd rfl h
  | cons y ys =>
    unfold jl
    rw [List.cons_append, List.map_cons, List.map_cons, Lib.join_cons, Lib.join_cons, List.map_append, tail_app]
    have e : Lib.joinTail sep (List.map (·.data.toList) [x]) = sep ++ x.data.toList := by
      show sep ++ x.data.toList ++ [] = _
      rw [List.append_nil]
    rw [e]; simp
theorem jl_le (B : Nat) (sep : List UInt8) : ∀ xs : List ByteArray, (∀ x ∈ xs, x.size ≤ B) → (jl xs sep).length ≤ xs.length * (B + sep.length)
  | [], _ => by simp [jl_nil]
  | y :: ys, h => by
    have tl : ∀ zs : List ByteArray, (∀ x ∈ zs, x.size ≤ B) → (Lib.joinTail sep (zs.map (·.data.toList))).length ≤ zs.length * (B + sep.length) := by
      intro zs
      induction zs with
      | nil => intro _; simp [Lib.joinTail]
      | cons z zs ih =>
        intro hz
        have e : Lib.joinTail sep ((z :: zs).map (·.data.toList)) = sep ++ z.data.toList ++ Lib.joinTail sep (zs.map (·.data.toList)) := rfl
        have h1 := ih (fun x hx => hz x (by simp [hx]))
        have h2 := hz z (by simp)
        rw [e, List.length_append, List.length_append, ← sizeL, List.length_cons, Nat.add_mul]
        omega
    unfold jl
    rw [List.map_cons, Lib.join_cons, List.length_append, ← sizeL, List.length_cons, Nat.add_mul]
    have h1 := tl ys (fun x hx => h x (by simp [hx]))
    have h2 := h y (by simp)
    omega
theorem jl_le2 (xs : List ByteArray) (h : ∀ x ∈ xs, x.size ≤ 3000000) (hn : xs.length ≤ 169) : (jl xs [44, 32]).length ≤ 600000000 := by
  have h1 := jl_le 3000000 [44, 32] xs h
  have h2 : [44, 32].length = 2 := rfl
  generalize xs.length = n at h1 hn
  generalize (jl xs [44, 32]).length = y at h1 ⊢
  simp only [List.length_cons, List.length_nil] at h1
  omega
theorem jl_ne {xs : List ByteArray} {sep : List UInt8} (h : xs ≠ []) (hx : ∀ x ∈ xs, x.data.toList ≠ []) : jl xs sep ≠ [] := by
  cases xs with
  | nil => exact absurd rfl h
  | cons y ys =>
    unfold jl
    rw [List.map_cons, Lib.join_cons]
    intro e
    exact hx y (by simp) (List.append_eq_nil_iff.1 e).1
theorem i_join (xs : List ByteArray) (sep : ByteArray) (h1 : xs.length ≤ 140737488355328) (h2 : (jl xs sep.data.toList).length ≤ 140737488355328) : strings_Join.f xs sep = some ⟨(jl xs sep.data.toList).toArray⟩ := by
  unfold strings_Join.f
  rw [if_pos ⟨h1, h2⟩]; rfl
end Go.Proofs.YtbfbncpbbnpdgaaDoor.Q
