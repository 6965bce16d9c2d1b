/- The law FnExactSegHas holds: the program's SegHas and the reference's answer alike, at all arguments, and the program leaves them as they were. No conditions. -/
import Derived.Test.YtfeloencepgdlaaDoorQPureFnExactSegHas
import Derived.Test.YtfeloencepgdlaaDoorQTFnExactSegHas
import Derived.Test.YtfeloencepgdlaaDoorQOpen
import Derived.Test.YtfeloencepgdlaaDoorQx28
import Derived.Test.YtfeloencepgdlaaDoorQx31
import Derived.Test.YtfeloencepgdlaaDoorQXFnExactSegHas
namespace Go.Proofs.YtfeloencepgdlaaDoor.Q
open Go.RowKit Go.Proofs.YtfeloencepgdlaaDoorW.PrintWords Go.Proofs.YtfeloencepgdlaaDoorW.PrintLast Go.Proofs.YtfeloencepgdlaaDoorW.PrintMore
open Go.Proofs.YtfeloencepgdlaaDoor.Open
set_option linter.unusedSimpArgs false
set_option linter.unusedVariables false
def cCell (x : LCell) : ICell := ⟨x.f0, x.f1⟩
theorem to_cellS (l : List LCell) (hn : l.length ≤ 1048576) (k : Nat) (hk : l.length < k) : laws_toCellS.f k l = some (l.map cCell) := by
  rw [laws_toCellS.f, if_pos (by omega), if_pos (by omega)]
  refine copy_all l cCell 0 (fun k x3 i => laws_toCellS.l0 k l x3 i) (fun k x3 i x h hx _ => ?_) (fun k x3 => ?_) _ (by simp) k (by omega)
  · have hi := lt_of_get h
    show laws_toCellS.l0 (k + 1) l x3 (i : Int) = _
    rw [laws_toCellS.l0, if_pos (by omega), if_pos (by omega), rd_lcell h, laws_toCell.f, Option.bind_some, if_pos (by omega), w64s i (by omega), Int.toNat_natCast]; rfl
  · show laws_toCellS.l0 (k + 1) l x3 (l.length : Int) = _
    rw [laws_toCellS.l0, if_neg (by omega)]
theorem eq_cellS (l : List ICell) (hn : l.length ≤ 1048576) (k : Nat) (hk : l.length < k) : laws_eqCellS.f k l l = some true := by
  rw [laws_eqCellS.f, if_pos rfl]
  refine true_all l.length 0 (fun k i => laws_eqCellS.l0 k l l i) (fun k i hi _ => ?_) (fun k => ?_) k (by omega)
  · show laws_eqCellS.l0 (k + 1) l l (i : Int) = _
    rw [laws_eqCellS.l0, if_pos (by omega), if_pos (by omega), if_pos (by omega), laws_eqCell.f, if_neg (by simp), if_pos rfl, Option.bind_some, if_pos rfl, w64s i (by omega)]
  · show laws_eqCellS.l0 (k + 1) l l (l.length : Int) = _
    rw [laws_eqCellS.l0, if_neg (by omega)]
theorem yoursFnExactSegHas : laws_FnExactSegHas.Pure := by
  intro size l b v m vals cells _ _ hb hv hm hvals hcells
  obtain ⟨r, q1, q3, q2⟩ := size_seg b v m hb.1 (fun x hx => (hb.2 x hx).1) hv.1 hm.1
  have hcl := hcells.1
  simp only [maxLen] at hcl
  by_cases hvl : (vals.length : Int) > 1048576
  · refine ⟨0, ?_⟩
    unfold laws_FnExactSegHas.f
    rw [if_pos hvl]
  · by_cases hr : r < 0
    · refine ⟨1048578, ?_⟩
      unfold laws_FnExactSegHas.f
      rw [if_neg hvl, q1 _ (by omega), Option.bind_some, if_pos hr]
    · obtain ⟨h1, h2, h3, h4⟩ := q2 (by omega)
      have e : wrap64 (r - (cells.length : Int)) = r - (cells.length : Int) := w64 (by omega) (by omega)
      by_cases hc : r - (cells.length : Int) < 0
      · refine ⟨1048578, ?_⟩
        unfold laws_FnExactSegHas.f
        rw [if_neg hvl, q1 _ (by omega), Option.bind_some, if_neg hr, laws_szCellS.f, e, if_pos hc, Option.bind_some, if_pos (by decide)]
      · have hs := smallS b v m h1 h2 h3 h4
        have hcn : cells.length ≤ 1048576 := by omega
        have hcm : (cells.map cCell).length ≤ 1048576 := by rw [List.length_map]; exact hcn
        obtain ⟨K, c, h⟩ := segHas size l _ _ _ vals (cells.map cCell) hs (by omega) hcm
        obtain ⟨e1, e2⟩ := h (K + 2097200) (by omega)
        have t1 := toInts (K + 2097200) vals (by omega) (by omega)
        have t2 := to_cellS cells hcn (K + 2097200) (by omega)
        have t3 := to_seg b v m h1 h2 h3 h4 (K + 2097200) (by omega)
        refine ⟨K + 2097200, ?_⟩
        unfold laws_FnExactSegHas.f
        rw [if_neg hvl, q1 _ (by omega), Option.bind_some, if_neg hr, laws_szCellS.f, e, if_neg hc, Option.bind_some, if_neg hc, t3, Option.bind_some, t1, Option.bind_some, t2, Option.bind_some]
        simp only
        rw [e1, Option.bind_some, Option.bind_some]
        simp only [Option.bind_some]
        rw [e2, Option.bind_some, if_neg (by simp), eq_seg hs _ (by omega), Option.bind_some, if_pos rfl, eqInts (K + 2097200) vals (by omega) (by omega), Option.bind_some, if_pos rfl, eq_cellS _ hcm _ (by rw [List.length_map]; omega), Option.bind_some, if_pos rfl]
end Go.Proofs.YtfeloencepgdlaaDoor.Q
