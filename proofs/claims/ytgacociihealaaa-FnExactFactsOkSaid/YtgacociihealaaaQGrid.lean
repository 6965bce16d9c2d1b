/- A condition at each place from one on, so many times. -/
import Derived.Test.YtgacociihealaaaQLists
import Derived.Test.YtgacociihealaaaQOpen
namespace Go.Proofs.Ytgacociihealaaa.Q
open Go.RowKit Go.Proofs.YtgacociihealaaaW.PrintWords Go.Proofs.YtgacociihealaaaW.PrintLast Go.Proofs.YtgacociihealaaaW.PrintMore
open Go.Proofs.Ytgacociihealaaa.Open
set_option linter.unusedSimpArgs false
set_option linter.unusedVariables false
def allP (P : Nat → Bool) (a : Nat) : Nat → Bool
  | 0 => true
  | m + 1 => P a && allP P (a + 1) m
theorem allP_add (P : Nat → Bool) : ∀ m n a, allP P a (m + n) = (allP P a m && allP P (a + m) n)
  | 0, n, a => by simp [allP]
  | m + 1, n, a => by
    rw [show m + 1 + n = (m + n) + 1 by omega]
    simp only [allP, allP_add P m n (a + 1), Bool.and_assoc, show a + 1 + m = a + (m + 1) by omega]
theorem allP_congr {P Q : Nat → Bool} : ∀ m a, (∀ b, a ≤ b → b < a + m → P b = Q b) → allP P a m = allP Q a m
  | 0, _, _ => rfl
  | m + 1, a, h => by
    simp only [allP]
    rw [h a (Nat.le_refl _) (by omega), allP_congr m (a + 1) (fun b h1 h2 => h b (by omega) (by omega))]
theorem at_div {i j n : Nat} (h : j < n) : (i * n + j) / n = i := by
  rw [Nat.mul_comm, Nat.mul_add_div (by omega), Nat.div_eq_of_lt h, Nat.add_zero]
theorem at_mod {i j n : Nat} (h : j < n) : (i * n + j) % n = j := by
  rw [Nat.mul_comm, Nat.mul_add_mod, Nat.mod_eq_of_lt h]
end Go.Proofs.Ytgacociihealaaa.Q
