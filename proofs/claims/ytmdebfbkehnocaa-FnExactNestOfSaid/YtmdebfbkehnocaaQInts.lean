/- The law's copies of rows of whole numbers, and its comparing of two rows. -/
import Derived.Test.YtmdebfbkehnocaaQLists
import Derived.Test.YtmdebfbkehnocaaQOpen
import Derived.Test.YtmdebfbkehnocaaQx12
namespace Go.Proofs.Ytmdebfbkehnocaa.Q
open Go.RowKit Go.Proofs.YtmdebfbkehnocaaW.PrintWords Go.Proofs.YtmdebfbkehnocaaW.PrintLast Go.Proofs.YtmdebfbkehnocaaW.PrintMore
open Go.Proofs.Ytmdebfbkehnocaa.Open
set_option linter.unusedSimpArgs false
set_option linter.unusedVariables false
theorem eqInts_l (x : List Int) (hn : x.length < 9223372036854775807) : ∀ n k i, x.length - i = n → n < k → i ≤ x.length → laws_eqIntS.l0 k x x (i : Int) = some true
  | 0, k + 1, i, h1, h2, h3 => by
    unfold laws_eqIntS.l0
    rw [if_neg (by omega)]
  | n + 1, k + 1, i, h1, h2, h3 => by
    unfold laws_eqIntS.l0
    rw [if_pos (by omega), if_pos (by omega), if_pos (by omega), if_pos rfl, w64s i (by omega)]
    exact eqInts_l x hn n k (i + 1) (by omega) (by omega) (by omega)
theorem eqInts (k : Nat) (l : List Int) (h : l.length < k) (hn : l.length ≤ 1048576) : laws_eqIntS.f k l l = some true := by
  unfold laws_eqIntS.f
  rw [if_pos rfl]
  exact eqInts_l l (by omega) l.length k 0 (by omega) h (by omega)
end Go.Proofs.Ytmdebfbkehnocaa.Q
