/- Loops over rows: what a loop that copies, and one that only looks, comes to. -/
import Derived.Test.YtmdebfbkehnocaaQLists
import Derived.Test.YtmdebfbkehnocaaQOpen
namespace Go.Proofs.Ytmdebfbkehnocaa.Q
open Go.RowKit Go.Proofs.YtmdebfbkehnocaaW.PrintWords Go.Proofs.YtmdebfbkehnocaaW.PrintLast Go.Proofs.YtmdebfbkehnocaaW.PrintMore
open Go.Proofs.Ytmdebfbkehnocaa.Open
set_option linter.unusedSimpArgs false
set_option linter.unusedVariables false
theorem copy_loop {α β : Type} (l : List α) (c : α → β) (K0 : Nat) (F : Nat → List β → Int → Option (List β))
    (hs : ∀ (k : Nat) (x3 : List β) (i : Nat) (x : α), l[i]? = some x → x3.length = l.length → K0 ≤ k → F (k + 1) x3 (i : Int) = F k (x3.set i (c x)) ((i + 1 : Nat) : Int))
    (he : ∀ (k : Nat) (x3 : List β), F (k + 1) x3 (l.length : Int) = some x3) :
    ∀ (d i : Nat) (x3 : List β) (k : Nat), i + d = l.length → x3.length = l.length → K0 + d < k → F k x3 (i : Int) = some (x3.take i ++ (l.drop i).map c)
  | 0, i, x3, k, h, hx, hk => by
    obtain ⟨k, rfl⟩ : ∃ m, k = m + 1 := ⟨k - 1, by omega⟩
    obtain rfl : i = l.length := by omega
    rw [he, List.take_of_length_le (by omega), List.drop_of_length_le (by omega)]
    simp
  | d + 1, i, x3, k, h, hx, hk => by
    obtain ⟨k, rfl⟩ : ∃ m, k = m + 1 := ⟨k - 1, by omega⟩
    have hi : i < l.length := by omega
    rw [hs k x3 i l[i] (List.getElem?_eq_getElem hi) hx (by omega), copy_loop l c K0 F hs he d (i + 1) _ k (by omega) (by rw [List.length_set]; exact hx) (by omega)]
    rw [List.take_add_one, List.take_set_of_le (Nat.le_refl i), List.getElem?_set_self (by omega), List.drop_eq_getElem_cons hi, List.append_assoc]
    rfl
theorem copy_all {α β : Type} (l : List α) (c : α → β) (K0 : Nat) (F : Nat → List β → Int → Option (List β))
    (hs : ∀ (k : Nat) (x3 : List β) (i : Nat) (x : α), l[i]? = some x → x3.length = l.length → K0 ≤ k → F (k + 1) x3 (i : Int) = F k (x3.set i (c x)) ((i + 1 : Nat) : Int))
    (he : ∀ (k : Nat) (x3 : List β), F (k + 1) x3 (l.length : Int) = some x3) (x3 : List β) (hx : x3.length = l.length) (k : Nat) (hk : K0 + l.length < k) : F k x3 0 = some (l.map c) := by
  have := copy_loop l c K0 F hs he l.length 0 x3 k (by omega) hx hk
  simpa using this
theorem true_loop (n K0 : Nat) (F : Nat → Int → Option Bool) (hs : ∀ (k i : Nat), i < n → K0 ≤ k → F (k + 1) (i : Int) = F k ((i + 1 : Nat) : Int)) (he : ∀ k, F (k + 1) (n : Int) = some true) :
    ∀ (d i k : Nat), i + d = n → K0 + d < k → F k (i : Int) = some true
  | 0, i, k, h, hk => by
    obtain ⟨k, rfl⟩ : ∃ m, k = m + 1 := ⟨k - 1, by omega⟩
    obtain rfl : i = n := by omega
    exact he k
  | d + 1, i, k, h, hk => by
    obtain ⟨k, rfl⟩ : ∃ m, k = m + 1 := ⟨k - 1, by omega⟩
    rw [hs k i (by omega) (by omega)]
    exact true_loop n K0 F hs he d (i + 1) k (by omega) (by omega)
theorem true_all (n K0 : Nat) (F : Nat → Int → Option Bool) (hs : ∀ (k i : Nat), i < n → K0 ≤ k → F (k + 1) (i : Int) = F k ((i + 1 : Nat) : Int)) (he : ∀ k, F (k + 1) (n : Int) = some true) (k : Nat) (hk : K0 + n < k) : F k 0 = some true :=
  true_loop n K0 F hs he n 0 k (by omega) hk
end Go.Proofs.Ytmdebfbkehnocaa.Q
