/- The law's comparing of small rows of segments. -/
import Derived.Test.YtkmeihmfppcpaaaDoorQLoops
import Derived.Test.YtkmeihmfppcpaaaDoorQOpen
import Derived.Test.YtkmeihmfppcpaaaDoorQx3
import Derived.Test.YtkmeihmfppcpaaaDoorQx4
import Derived.Test.YtkmeihmfppcpaaaDoorQx5
import Derived.Test.YtkmeihmfppcpaaaDoorQx6
import Derived.Test.YtkmeihmfppcpaaaDoorQx7
import Derived.Test.YtkmeihmfppcpaaaDoorQx8
namespace Go.Proofs.YtkmeihmfppcpaaaDoor.Q
open Go.RowKit Go.Proofs.YtkmeihmfppcpaaaDoorW.PrintWords Go.Proofs.YtkmeihmfppcpaaaDoorW.PrintLast Go.Proofs.YtkmeihmfppcpaaaDoorW.PrintMore
open Go.Proofs.YtkmeihmfppcpaaaDoor.Open
set_option linter.unusedSimpArgs false
set_option linter.unusedVariables false
abbrev ISym := S42
abbrev IVal := S34
theorem rd_isym {l : List ISym} {i : Nat} {x : ISym} (h : l[i]? = some x) : rd_T42 l (i : Int) = x := by
  unfold rd_T42; simp [List.getD, h]
theorem rd_ival {l : List IVal} {i : Nat} {x : IVal} (h : l[i]? = some x) : rd_T34 l (i : Int) = x := by
  unfold rd_T34; simp [List.getD, h]
theorem rd_irow {l : List (List ISym)} {i : Nat} {x : List ISym} (h : l[i]? = some x) : rd_L2 l (i : Int) = x := by
  unfold rd_L2; simp [List.getD, h]
theorem rd_flag {l : List Bool} {i : Nat} {x : Bool} (h : l[i]? = some x) : rdOf false l (i : Int) = x := by
  unfold rdOf; simp [List.getD, h]
theorem lt_of_get {α : Type} {l : List α} {i : Nat} {x : α} (h : l[i]? = some x) : i < l.length := (List.getElem?_eq_some_iff.1 h).1
theorem eq_symS (l : List ISym) (hn : l.length ≤ 100) (k : Nat) (hk : l.length < k) : laws_eqSymS.f k l l = some true := by
  rw [laws_eqSymS.f, if_pos rfl]
  refine true_all l.length 0 (fun k i => laws_eqSymS.l0 k l l i) (fun k i hi _ => ?_) (fun k => ?_) k (by omega)
  · show laws_eqSymS.l0 (k + 1) l l (i : Int) = _
    rw [laws_eqSymS.l0, if_pos (by omega), if_pos (by omega), if_pos (by omega), laws_eqSym.f, if_pos rfl, if_pos rfl, Option.bind_some, if_pos rfl, w64s i (by omega)]
  · show laws_eqSymS.l0 (k + 1) l l (l.length : Int) = _
    rw [laws_eqSymS.l0, if_neg (by omega)]
theorem eq_symSS (l : List (List ISym)) (hn : l.length ≤ 100) (hr : ∀ r ∈ l, r.length ≤ 100) (k : Nat) (hk : 101 + l.length < k) : laws_eqSymSS.f k l l = some true := by
  rw [laws_eqSymSS.f, if_pos rfl]
  refine true_all l.length 101 (fun k i => laws_eqSymSS.l0 k l l i) (fun k i hi hk => ?_) (fun k => ?_) k (by omega)
  · show laws_eqSymSS.l0 (k + 1) l l (i : Int) = _
    have h : l[i]? = some l[i] := List.getElem?_eq_getElem hi
    have hm := hr l[i] (List.getElem_mem hi)
    rw [laws_eqSymSS.l0, if_pos (by omega), if_pos (by omega), if_pos (by omega), rd_irow h, eq_symS _ hm k (by omega), Option.bind_some, if_pos rfl, w64s i (by omega)]
  · show laws_eqSymSS.l0 (k + 1) l l (l.length : Int) = _
    rw [laws_eqSymSS.l0, if_neg (by omega)]
theorem eq_valS (l : List IVal) (hn : l.length ≤ 100) (k : Nat) (hk : l.length < k) : laws_eqValS.f k l l = some true := by
  rw [laws_eqValS.f, if_pos rfl]
  refine true_all l.length 0 (fun k i => laws_eqValS.l0 k l l i) (fun k i hi _ => ?_) (fun k => ?_) k (by omega)
  · show laws_eqValS.l0 (k + 1) l l (i : Int) = _
    rw [laws_eqValS.l0, if_pos (by omega), if_pos (by omega), if_pos (by omega), laws_eqVal.f, laws_eqRange.f, if_pos rfl, if_pos rfl, Option.bind_some, if_pos rfl, if_neg (by simp), Option.bind_some, if_pos rfl, w64s i (by omega)]
  · show laws_eqValS.l0 (k + 1) l l (l.length : Int) = _
    rw [laws_eqValS.l0, if_neg (by omega)]
theorem eq_boolS (l : List Bool) (hn : l.length ≤ 100) (k : Nat) (hk : l.length < k) : laws_eqBoolS.f k l l = some true := by
  rw [laws_eqBoolS.f, if_pos rfl]
  refine true_all l.length 0 (fun k i => laws_eqBoolS.l0 k l l i) (fun k i hi _ => ?_) (fun k => ?_) k (by omega)
  · show laws_eqBoolS.l0 (k + 1) l l (i : Int) = _
    rw [laws_eqBoolS.l0, if_pos (by omega), if_pos (by omega), if_pos (by omega), if_neg (by simp), w64s i (by omega)]
  · show laws_eqBoolS.l0 (k + 1) l l (l.length : Int) = _
    rw [laws_eqBoolS.l0, if_neg (by omega)]
theorem eq_segQ (b : List (List ISym)) (v : List IVal) (m : List Bool) (h1 : b.length ≤ 100) (h2 : ∀ r ∈ b, r.length ≤ 100) (h3 : v.length ≤ 100) (h4 : m.length ≤ 100) (k : Nat) (hk : 250 < k) : laws_eqSeg.f k b v m b v m = some true := by
  rw [laws_eqSeg.f, eq_symSS b h1 h2 k (by omega), Option.bind_some, if_pos rfl, eq_valS v h3 k (by omega), Option.bind_some, if_pos rfl, eq_boolS m h4 k (by omega), Option.bind_some, if_pos rfl]
end Go.Proofs.YtkmeihmfppcpaaaDoor.Q
