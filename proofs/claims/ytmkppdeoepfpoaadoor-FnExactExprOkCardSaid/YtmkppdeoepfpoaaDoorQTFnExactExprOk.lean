/- Plain laws over numbers, lists and texts, for the law FnExactExprOk: no program in sight. -/
import Derived.Test.YtmkppdeoepfpoaaDoorWLast
import Derived.Test.YtmkppdeoepfpoaaDoorWMore
import Derived.Test.YtmkppdeoepfpoaaDoorWWords
import Derived.Test.YtmkppdeoepfpoaaDoorQOpen
import Derived.Test.YtmkppdeoepfpoaaDoorQKinds
import Derived.Lib.Strings
import Derived.Lib.AtoiAll
import Derived.Lib.ItoaNum
import Derived.Test.YtmkppdeoepfpoaaDoorQx17
import Derived.Test.YtmkppdeoepfpoaaDoorQx18
import Derived.Test.YtmkppdeoepfpoaaDoorQx19
import Derived.Test.YtmkppdeoepfpoaaDoorQx20
import Derived.Test.YtmkppdeoepfpoaaDoorQx21
import Derived.Test.YtmkppdeoepfpoaaDoorQx22
import Derived.Test.YtmkppdeoepfpoaaDoorQx23
import Derived.Test.YtmkppdeoepfpoaaDoorQx24
import Derived.Test.YtmkppdeoepfpoaaDoorQx25
import Derived.Test.YtmkppdeoepfpoaaDoorQx26
import Derived.Test.YtmkppdeoepfpoaaDoorQx5
import Derived.Test.YtmkppdeoepfpoaaDoorQx6
import Derived.Test.YtmkppdeoepfpoaaDoorQx7
import Derived.Test.YtmkppdeoepfpoaaDoorQx8
namespace Go.Proofs.YtmkppdeoepfpoaaDoor.Q
open Go.RowKit Go.Proofs.YtmkppdeoepfpoaaDoorW.PrintWords Go.Proofs.YtmkppdeoepfpoaaDoorW.PrintLast Go.Proofs.YtmkppdeoepfpoaaDoorW.PrintMore
open Go.Proofs.YtmkppdeoepfpoaaDoor.Open
set_option linter.unusedSimpArgs false
set_option linter.unusedVariables false
theorem drop_cons {α : Type} {l : List α} {i : Nat} {x : α} {t : List α} (h : l.drop i = x :: t) : i < l.length ∧ l[i]? = some x ∧ l.drop (i + 1) = t := by
  have h1 : i < l.length := by
    rcases Nat.lt_or_ge i l.length with h1 | h1
    · exact h1
    · rw [List.drop_eq_nil_of_le h1] at h; simp at h
  refine ⟨h1, ?_, ?_⟩
  · have := congrArg (fun z => z[0]?) h
    simpa using this
  · have := congrArg List.tail h
    simpa using this
theorem drop_nil {α : Type} {l : List α} {i : Nat} (h : l.drop i = []) : l.length ≤ i := by simpa using h
theorem w64 {n : Int} (h1 : -9223372036854775808 ≤ n) (h2 : n ≤ 9223372036854775807) : wrap64 n = n := by unfold wrap64; omega
theorem w64s (i : Nat) (h : i < 9223372036854775807) : wrap64 ((i : Int) + 1) = ((i + 1 : Nat) : Int) := by
  rw [w64 (by omega) (by omega)]; omega
end Go.Proofs.YtmkppdeoepfpoaaDoor.Q
namespace Go.Proofs.YtmkppdeoepfpoaaDoor.Q
open Go.RowKit Go.Proofs.YtmkppdeoepfpoaaDoorW.PrintWords Go.Proofs.YtmkppdeoepfpoaaDoorW.PrintLast Go.Proofs.YtmkppdeoepfpoaaDoorW.PrintMore
open Go.Proofs.YtmkppdeoepfpoaaDoor.Open
set_option linter.unusedSimpArgs false
set_option linter.unusedVariables false
abbrev LNode := S34
abbrev INode := S39
theorem rd_ln {l : List LNode} {i : Nat} {x : LNode} (h : l[i]? = some x) : rd_T34 l (i : Int) = x := by
  unfold rd_T34; simp [List.getD, h]
theorem rd_in {l : List INode} {i : Nat} {x : INode} (h : l[i]? = some x) : rd_T39 l (i : Int) = x := by
  unfold rd_T39; simp [List.getD, h]
/-- A tree whose rows and names are not too long. -/
inductive Small : INode → Prop
  | mk (x : INode) (h : x.f3.length ≤ 1048576) (hz : x.f1.size ≤ 1048576) (g : ∀ y, y ∈ x.f3 → Small y) : Small x
/-- The copying gives a tree that is small. -/
def Copied (x : LNode) : Prop := ∃ z : INode, Small z ∧ ∃ K, ∀ k, K ≤ k → laws_toNode.f k x.f0 x.f1 x.f2 x.f3 = some (z.f0, z.f1, z.f2, z.f3)
theorem drop_consL {l : List LNode} {i : Nat} {x : LNode} {t : List LNode} (h : l.drop i = x :: t) : i < l.length ∧ l[i]? = some x ∧ l.drop (i + 1) = t :=
  haveI : Inhabited LNode := ⟨x⟩; drop_cons h
theorem drop_consI {l : List INode} {i : Nat} {x : INode} {t : List INode} (h : l.drop i = x :: t) : i < l.length ∧ l[i]? = some x ∧ l.drop (i + 1) = t :=
  haveI : Inhabited INode := ⟨x⟩; drop_cons h
theorem copy_l (l : List LNode) (hn : l.length ≤ 1048576) : ∀ t i (x3 : List INode), l.drop i = t → x3.length = l.length → (∀ y ∈ t, Copied y) → (∀ z ∈ x3.take i, Small z) →
    ∃ K zs, zs.length = l.length ∧ (∀ z ∈ zs, Small z) ∧ ∀ k, K ≤ k → laws_toNodeS.l0 k l x3 (i : Int) = some zs
  | [], i, x3, h, hx, _, hp => by
    have h1 := drop_nil h
    refine ⟨1, x3, hx, fun z hz => hp z (by rw [List.take_of_length_le (by omega)]; exact hz), fun k hk => ?_⟩
    obtain ⟨k, rfl⟩ : ∃ m, k = m + 1 := ⟨k - 1, by omega⟩
    rw [laws_toNodeS.l0, if_neg (by omega)]
  | x :: t, i, x3, h, hx, hc, hp => by
    obtain ⟨h1, h2, h3⟩ := drop_consL h
    obtain ⟨z, hz, K1, hK1⟩ := hc x (by simp)
    obtain ⟨K2, zs, q1, q2, q3⟩ := copy_l l hn t (i + 1) (x3.set i ⟨z.f0, z.f1, z.f2, z.f3⟩) h3 (by simpa using hx) (fun y hy => hc y (by simp [hy])) (by
      intro u hu
      rw [List.take_add_one, List.take_set_of_le (Nat.le_refl i), List.getElem?_set_self (by omega)] at hu
      rcases List.mem_append.1 hu with hu | hu
      · exact hp u hu
      · simp at hu; subst hu; cases z; exact hz)
    refine ⟨K1 + K2 + 1, zs, q1, q2, fun k hk => ?_⟩
    obtain ⟨k, rfl⟩ : ∃ m, k = m + 1 := ⟨k - 1, by omega⟩
    rw [laws_toNodeS.l0, if_pos (by omega), if_pos (by omega), rd_ln h2, hK1 k (by omega)]
    simp only [Option.bind_some]
    rw [if_pos (by omega), w64s i (by omega), Int.toNat_natCast]
    exact q3 k (by omega)
theorem copy_s (l : List LNode) (hn : l.length ≤ 1048576) (hc : ∀ y ∈ l, Copied y) : ∃ K zs, zs.length = l.length ∧ (∀ z ∈ zs, Small z) ∧ ∀ k, K ≤ k → laws_toNodeS.f k l = some zs := by
  obtain ⟨K, zs, q1, q2, q3⟩ := copy_l l hn l 0 (List.replicate ((l.length : Int) : Int).toNat z39) rfl (by simp) hc (by simp)
  refine ⟨K + 1, zs, q1, q2, fun k hk => ?_⟩
  obtain ⟨k, rfl⟩ : ∃ m, k = m + 1 := ⟨k - 1, by omega⟩
  rw [laws_toNodeS.f, if_pos (by omega), if_pos (by omega)]
  exact q3 k (by omega)
/-- The measuring never fails, and what is not too big is copied. -/
def Sized (x : LNode) : Prop := ∀ left : Int, 0 ≤ left → left ≤ 1048576 → ∃ K v, (∀ k, K ≤ k → laws_szNode.f k x.f0 x.f1 x.f2 x.f3 left = some v) ∧ v ≤ left ∧ (0 ≤ v → Copied x)
theorem size_l (l : List LNode) (hn : l.length ≤ 1048576) : ∀ t i, l.drop i = t → (∀ y ∈ t, Sized y) → ∀ left : Int, 0 ≤ left → left ≤ 1048576 →
    ∃ K v, (∀ k, K ≤ k → laws_szNodeS.l0 k l left (i : Int) = some v) ∧ v ≤ left ∧ (0 ≤ v → ∀ y ∈ t, Copied y)
  | [], i, h, _, left, h0, h1 => by
    have h2 := drop_nil h
    refine ⟨1, left, fun k hk => ?_, Int.le_refl _, fun _ y hy => by simp at hy⟩
    obtain ⟨k, rfl⟩ : ∃ m, k = m + 1 := ⟨k - 1, by omega⟩
    rw [laws_szNodeS.l0, if_neg (by omega)]
  | x :: t, i, h, hs, left, h0, h1 => by
    obtain ⟨h2, h3, h4⟩ := drop_consL h
    obtain ⟨K1, v, q1, q2, q3⟩ := hs x (by simp) left h0 h1
    by_cases hv : v < 0
    · refine ⟨K1 + 1, -1, fun k hk => ?_, by omega, fun h => by omega⟩
      obtain ⟨k, rfl⟩ : ∃ m, k = m + 1 := ⟨k - 1, by omega⟩
      rw [laws_szNodeS.l0, if_pos (by omega), if_pos (by omega), rd_ln h3, q1 k (by omega)]
      simp only [Option.bind_some]
      rw [if_pos hv]
    · obtain ⟨K2, u, r1, r2, r3⟩ := size_l l hn t (i + 1) h4 (fun y hy => hs y (by simp [hy])) v (by omega) (by omega)
      refine ⟨K1 + K2 + 1, u, fun k hk => ?_, by omega, fun h y hy => ?_⟩
      · obtain ⟨k, rfl⟩ : ∃ m, k = m + 1 := ⟨k - 1, by omega⟩
        rw [laws_szNodeS.l0, if_pos (by omega), if_pos (by omega), rd_ln h3, q1 k (by omega)]
        simp only [Option.bind_some]
        rw [if_neg hv, w64s i (by omega)]
        exact r1 k (by omega)
      · rcases List.mem_cons.1 hy with rfl | hy
        · exact q3 (by omega)
        · exact r3 h y hy
theorem size_s (l : List LNode) (hm : l.length ≤ maxLen) (hs : ∀ y ∈ l, Sized y) (left : Int) (h0 : 0 ≤ left) (h1 : left ≤ 1048576) :
    ∃ K v, (∀ k, K ≤ k → laws_szNodeS.f k l left = some v) ∧ v ≤ left ∧ (0 ≤ v → l.length ≤ 1048576 ∧ ∀ y ∈ l, Copied y) := by
  simp only [maxLen] at hm
  have e : wrap64 (left - (l.length : Int)) = left - (l.length : Int) := w64 (by omega) (by omega)
  by_cases hl : left - (l.length : Int) < 0
  · refine ⟨1, -1, fun k hk => ?_, by omega, fun h => by omega⟩
    obtain ⟨k, rfl⟩ : ∃ m, k = m + 1 := ⟨k - 1, by omega⟩
    rw [laws_szNodeS.f, e, if_pos hl]
  · obtain ⟨K, v, q1, q2, q3⟩ := size_l l (by omega) l 0 rfl hs (left - (l.length : Int)) (by omega) (by omega)
    refine ⟨K + 1, v, fun k hk => ?_, by omega, fun h => ⟨by omega, q3 h⟩⟩
    obtain ⟨k, rfl⟩ : ∃ m, k = m + 1 := ⟨k - 1, by omega⟩
    rw [laws_szNodeS.f, e, if_neg hl]
    exact q1 k (by omega)
theorem size_one (a : Int) (s : ByteArray) (n : Int) (l : List LNode) (hm : s.size ≤ maxLen) (hl : l.length ≤ maxLen) (hs : ∀ y ∈ l, Sized y) : Sized ⟨a, s, n, l⟩ := by
  intro left h0 h1
  simp only [maxLen] at hm
  have e : wrap64 (left - (s.size : Int)) = left - (s.size : Int) := w64 (by omega) (by omega)
  by_cases hl2 : left - (s.size : Int) < 0
  · refine ⟨1, -1, fun k hk => ?_, by omega, fun h => by omega⟩
    obtain ⟨k, rfl⟩ : ∃ m, k = m + 1 := ⟨k - 1, by omega⟩
    rw [laws_szNode.f, e, if_pos hl2]
  · obtain ⟨K, v, q1, q2, q3⟩ := size_s l hl hs (left - (s.size : Int)) (by omega) (by omega)
    refine ⟨K + 1, if v < 0 then -1 else v, fun k hk => ?_, by split <;> omega, fun h => ?_⟩
    · obtain ⟨k, rfl⟩ : ∃ m, k = m + 1 := ⟨k - 1, by omega⟩
      rw [laws_szNode.f, e, if_neg hl2, q1 k (by omega)]
      simp only [Option.bind_some]
      split <;> rfl
    · have hv : 0 ≤ v := by split at h <;> omega
      obtain ⟨r1, r2⟩ := q3 hv
      obtain ⟨K2, zs, s1, s2, s3⟩ := copy_s l r1 r2
      refine ⟨⟨a, s, n, zs⟩, Small.mk _ (by simpa [s1] using r1) (by show s.size ≤ 1048576; omega) s2, K2 + 1, fun k hk => ?_⟩
      obtain ⟨k, rfl⟩ : ∃ m, k = m + 1 := ⟨k - 1, by omega⟩
      rw [laws_toNode.f, s3 k (by omega)]; rfl
theorem sized (x : LNode) (h : Fit34 x) : Sized x := by
  induction h with
  | mk x h0 h1 h2 h3 g3 ih => exact size_one x.f0 x.f1 x.f2 x.f3 h1 h3 ih
/-- A small tree is itself. -/
theorem eq_l (l : List INode) (hn : l.length ≤ 1048576) (hs : ∀ y ∈ l, ∃ K, ∀ k, K ≤ k → laws_eqNode.f k y.f0 y.f1 y.f2 y.f3 y.f0 y.f1 y.f2 y.f3 = some true) : ∀ t i, l.drop i = t → (∀ y ∈ t, y ∈ l) →
    ∃ K, ∀ k, K ≤ k → laws_eqNodeS.l0 k l l (i : Int) = some true
  | [], i, h, _ => by
    have h2 := drop_nil h
    refine ⟨1, fun k hk => ?_⟩
    obtain ⟨k, rfl⟩ : ∃ m, k = m + 1 := ⟨k - 1, by omega⟩
    rw [laws_eqNodeS.l0, if_neg (by omega)]
  | x :: t, i, h, hm => by
    obtain ⟨h2, h3, h4⟩ := drop_consI h
    obtain ⟨K1, q1⟩ := hs x (hm x (by simp))
    obtain ⟨K2, q2⟩ := eq_l l hn hs t (i + 1) h4 (fun y hy => hm y (by simp [hy]))
    refine ⟨K1 + K2 + 1, fun k hk => ?_⟩
    obtain ⟨k, rfl⟩ : ∃ m, k = m + 1 := ⟨k - 1, by omega⟩
    rw [laws_eqNodeS.l0, if_pos (by omega), if_pos (by omega), if_pos (by omega), rd_in h3, q1 k (by omega)]
    simp only [Option.bind_some, if_true]
    rw [w64s i (by omega)]
    exact q2 k (by omega)
theorem eq_small (y : INode) (h : Small y) : ∃ K, ∀ k, K ≤ k → laws_eqNode.f k y.f0 y.f1 y.f2 y.f3 y.f0 y.f1 y.f2 y.f3 = some true := by
  induction h with
  | mk y hl hz g ih =>
    obtain ⟨K, q⟩ := eq_l y.f3 hl ih y.f3 0 rfl (fun _ h => h)
    refine ⟨K + 2, fun k hk => ?_⟩
    obtain ⟨k, rfl⟩ : ∃ m, k = m + 2 := ⟨k - 2, by omega⟩
    have e : laws_eqNodeS.f (k + 1) y.f3 y.f3 = some true := by
      rw [laws_eqNodeS.f, if_pos rfl]; exact q k (by omega)
    rw [laws_eqNode.f, if_pos rfl, if_pos rfl, if_pos rfl, e]; rfl
end Go.Proofs.YtmkppdeoepfpoaaDoor.Q
namespace Go.Proofs.YtmkppdeoepfpoaaDoor.Q
open Go.RowKit Go.Proofs.YtmkppdeoepfpoaaDoorW.PrintWords Go.Proofs.YtmkppdeoepfpoaaDoorW.PrintLast Go.Proofs.YtmkppdeoepfpoaaDoorW.PrintMore
open Go.Proofs.YtmkppdeoepfpoaaDoor.Open
set_option linter.unusedSimpArgs false
set_option linter.unusedVariables false
def SameCountNodes (y : INode) : Prop := ∃ K v, ∀ k, K ≤ k → spec_CountNodes.f k y.f0 y.f1 y.f2 y.f3 = some v ∧ impl_CountNodes.f k y.f0 y.f1 y.f2 y.f3 = some v
theorem same_l_CountNodes (a : Int) (s : ByteArray) (n : Int) (l : List INode) (hn : l.length ≤ 1048576) : ∀ t i, l.drop i = t → (∀ y ∈ t, SameCountNodes y) → ∀ acc : Int,
    ∃ K v, ∀ k, K ≤ k → spec_CountNodes.l0 k acc (i : Int) a s n l = some v ∧ impl_CountNodes.l0 k acc l (l.length : Int) (i : Int) = some v
  | [], i, h, _, acc => by
    have h2 := drop_nil h
    refine ⟨1, acc, fun k hk => ?_⟩
    obtain ⟨k, rfl⟩ : ∃ m, k = m + 1 := ⟨k - 1, by omega⟩
    rw [spec_CountNodes.l0, impl_CountNodes.l0, if_neg (by omega), if_neg (by omega)]
    exact ⟨rfl, rfl⟩
  | x :: t, i, h, hs, acc => by
    obtain ⟨h2, h3, h4⟩ := drop_consI h
    obtain ⟨K1, v, q1⟩ := hs x (by simp)
    obtain ⟨K2, u, q2⟩ := same_l_CountNodes a s n l hn t (i + 1) h4 (fun y hy => hs y (by simp [hy])) (wrap64 (acc + v))
    refine ⟨K1 + K2 + 1, u, fun k hk => ?_⟩
    obtain ⟨k, rfl⟩ : ∃ m, k = m + 1 := ⟨k - 1, by omega⟩
    obtain ⟨p1, p2⟩ := q1 k (by omega)
    have r := q2 k (by omega)
    rw [spec_CountNodes.l0, impl_CountNodes.l0, if_pos (by omega), if_pos (by omega), if_pos (by omega), if_pos (by omega), if_pos (by omega), rd_in h3, p1, p2]
    simp only [Option.bind_some]
    rw [w64s i (by omega)]
    exact r
theorem same_CountNodes (y : INode) (h : Small y) : SameCountNodes y := by
  induction h with
  | mk y hl hz g ih =>
    obtain ⟨K, v, q⟩ := same_l_CountNodes y.f0 y.f1 y.f2 y.f3 hl y.f3 0 rfl ih 1
    refine ⟨K + 1, v, fun k hk => ?_⟩
    obtain ⟨k, rfl⟩ : ∃ m, k = m + 1 := ⟨k - 1, by omega⟩
    rw [spec_CountNodes.f, impl_CountNodes.f]
    exact q k (by omega)
def SameDepthOf (y : INode) : Prop := ∃ K v, ∀ k, K ≤ k → spec_DepthOf.f k y.f0 y.f1 y.f2 y.f3 = some v ∧ impl_DepthOf.f k y.f0 y.f1 y.f2 y.f3 = some v
theorem same_l_DepthOf (a : Int) (s : ByteArray) (n : Int) (l : List INode) (hn : l.length ≤ 1048576) : ∀ t i, l.drop i = t → (∀ y ∈ t, SameDepthOf y) → ∀ acc : Int,
    ∃ K v, ∀ k, K ≤ k → spec_DepthOf.l0 k acc (i : Int) a s n l = some v ∧ impl_DepthOf.l0 k acc l (l.length : Int) (i : Int) = some v
  | [], i, h, _, acc => by
    have h2 := drop_nil h
    refine ⟨1, wrap64 (acc + 1), fun k hk => ?_⟩
    obtain ⟨k, rfl⟩ : ∃ m, k = m + 1 := ⟨k - 1, by omega⟩
    rw [spec_DepthOf.l0, impl_DepthOf.l0, if_neg (by omega), if_neg (by omega)]
    exact ⟨rfl, rfl⟩
  | x :: t, i, h, hs, acc => by
    obtain ⟨h2, h3, h4⟩ := drop_consI h
    obtain ⟨K1, v, q1⟩ := hs x (by simp)
    obtain ⟨K2, u, q2⟩ := same_l_DepthOf a s n l hn t (i + 1) h4 (fun y hy => hs y (by simp [hy])) (mx acc v)
    refine ⟨K1 + K2 + 1, u, fun k hk => ?_⟩
    obtain ⟨k, rfl⟩ : ∃ m, k = m + 1 := ⟨k - 1, by omega⟩
    obtain ⟨p1, p2⟩ := q1 k (by omega)
    have r := q2 k (by omega)
    rw [spec_DepthOf.l0, impl_DepthOf.l0, if_pos (by omega), if_pos (by omega), if_pos (by omega), if_pos (by omega), if_pos (by omega), rd_in h3, p1, p2]
    simp only [Option.bind_some]
    rw [w64s i (by omega)]
    have em : (if v > acc then v else acc) = mx acc v := rfl
    by_cases hva : v > acc
    · rw [if_pos hva]; rw [← em, if_pos hva] at r ⊢; exact r
    · rw [if_neg hva]; rw [← em, if_neg hva] at r ⊢; exact r
theorem same_DepthOf (y : INode) (h : Small y) : SameDepthOf y := by
  induction h with
  | mk y hl hz g ih =>
    obtain ⟨K, v, q⟩ := same_l_DepthOf y.f0 y.f1 y.f2 y.f3 hl y.f3 0 rfl ih 0
    refine ⟨K + 1, v, fun k hk => ?_⟩
    obtain ⟨k, rfl⟩ : ∃ m, k = m + 1 := ⟨k - 1, by omega⟩
    rw [spec_DepthOf.f, impl_DepthOf.f]
    exact q k (by omega)
end Go.Proofs.YtmkppdeoepfpoaaDoor.Q
namespace Go.Proofs.YtmkppdeoepfpoaaDoor.Q
open Go.RowKit Go.Proofs.YtmkppdeoepfpoaaDoorW.PrintWords Go.Proofs.YtmkppdeoepfpoaaDoorW.PrintLast Go.Proofs.YtmkppdeoepfpoaaDoorW.PrintMore
open Go.Proofs.YtmkppdeoepfpoaaDoor.Open
set_option linter.unusedSimpArgs false
set_option linter.unusedVariables false
theorem toL (s : ByteArray) : s.toList = s.data.toList := Lib.toList_data s
theorem sizeL (s : ByteArray) : s.size = s.data.toList.length := Lib.size_eq s
theorem bt_at_ {s : ByteArray} {i : Nat} {c : UInt8} (h : s.data.toList[i]? = some c) : bt s (i : Int) = (c.toNat : Int) := by
  obtain ⟨hi, e⟩ := List.getElem?_eq_some_iff.1 h
  have hs : i < s.size := by rw [sizeL]; exact hi
  unfold bt
  rw [dif_pos (by simpa using hs)]
  have : s[i] = c := by rw [← e]; simp [ByteArray.getElem_eq_getElem_data]
  simp only [Int.toNat_natCast, this]
theorem bt_zero {s : ByteArray} {c : UInt8} {r : List UInt8} (h : s.data.toList = c :: r) : bt s 0 = (c.toNat : Int) := bt_at_ (i := 0) (by rw [h]; rfl)
theorem u8_lt (c : UInt8) : c.toNat < 256 := UInt8.toNat_lt c
theorem u8_eq {c d : UInt8} (h : c.toNat = d.toNat) : c = d := UInt8.toNat_inj.1 h
end Go.Proofs.YtmkppdeoepfpoaaDoor.Q
namespace Go.Proofs.YtmkppdeoepfpoaaDoor.Q
open Go.RowKit Go.Proofs.YtmkppdeoepfpoaaDoorW.PrintWords Go.Proofs.YtmkppdeoepfpoaaDoorW.PrintLast Go.Proofs.YtmkppdeoepfpoaaDoorW.PrintMore
open Go.Proofs.YtmkppdeoepfpoaaDoor.Open
set_option linter.unusedSimpArgs false
set_option linter.unusedVariables false
def isDig (c : UInt8) : Prop := 48 ≤ c.toNat ∧ c.toNat ≤ 57
def dval (acc : Nat) (l : List UInt8) : Nat := l.foldl (fun a c => a * 10 + (c.toNat - 48)) acc
theorem dval_nil (acc : Nat) : dval acc [] = acc := by unfold dval; rw [List.foldl_nil]
theorem dval_cons (acc : Nat) (c : UInt8) (r : List UInt8) : dval acc (c :: r) = dval (acc * 10 + (c.toNat - 48)) r := by
  unfold dval
  rw [List.foldl_cons]
theorem dval_snoc (c : UInt8) (l : List UInt8) (acc : Nat) : dval acc (l ++ [c]) = dval acc l * 10 + (c.toNat - 48) := by
  unfold dval
  rw [List.foldl_append, List.foldl_cons, List.foldl_nil]
theorem dval_ge : ∀ (l : List UInt8) (acc : Nat), acc ≤ dval acc l
  | [], acc => Nat.le_refl _
  | c :: l, acc => by simp only [dval_cons, dval_nil]; have := dval_ge l (acc * 10 + (c.toNat - 48)); omega
theorem ofNat_dig (d : Nat) (h : d < 10) : (UInt8.ofNat (48 + d)).toNat = 48 + d := by simp; omega
theorem isDig_ofNat (d : Nat) (h : d < 10) : isDig (UInt8.ofNat (48 + d)) := by unfold isDig; rw [ofNat_dig d h]; omega
theorem dig_ofNat {c : UInt8} (h : isDig c) : UInt8.ofNat (48 + (c.toNat - 48)) = c := by
  unfold isDig at h
  rw [show 48 + (c.toNat - 48) = c.toNat by omega]
  simp
theorem dec_digs (u : Nat) : ∀ c ∈ Lib.decDigits u, isDig c := by
  induction u using Nat.strongRecOn with
  | _ u ih =>
    rw [Lib.decDigits]
    split
    · rename_i h; intro c hc; simp only [List.mem_singleton] at hc; subst hc; exact isDig_ofNat u h
    · intro c hc
      rcases List.mem_append.1 hc with h | h
      · exact ih (u / 10) (by omega) c h
      · simp only [List.mem_singleton] at h; subst h; exact isDig_ofNat _ (by omega)
theorem dval_dec (u : Nat) : dval 0 (Lib.decDigits u) = u := by
  induction u using Nat.strongRecOn with
  | _ u ih =>
    rw [Lib.decDigits]
    split
    · rename_i h; simp only [dval_cons, dval_nil, ofNat_dig u h]; omega
    · rw [dval_snoc, ih (u / 10) (by omega), ofNat_dig _ (by omega)]; omega
theorem dec_ne (u : Nat) : Lib.decDigits u ≠ [] := by rw [Lib.decDigits]; split <;> simp
theorem dec_head (u : Nat) (hu : 1 ≤ u) : ∃ c r, Lib.decDigits u = c :: r ∧ isDig c ∧ c.toNat ≠ 48 := by
  induction u using Nat.strongRecOn with
  | _ u ih =>
    rw [Lib.decDigits]
    split
    · rename_i h; exact ⟨_, [], rfl, isDig_ofNat u h, by rw [ofNat_dig u h]; omega⟩
    · obtain ⟨c, r, e, h1, h2⟩ := ih (u / 10) (by omega) (by omega)
      exact ⟨c, r ++ [_], by rw [e]; rfl, h1, h2⟩
theorem dec_of_dval (l : List UInt8) : l ≠ [] → (∀ c ∈ l, isDig c) → (1 < l.length → ∀ c, l.head? = some c → c.toNat ≠ 48) → Lib.decDigits (dval 0 l) = l := by
  induction h : l.length using Nat.strongRecOn generalizing l with
  | _ n ih =>
    intro h0 hd hz
    have e : l = l.dropLast ++ [l.getLast h0] := (List.dropLast_concat_getLast h0).symm
    have hcd := hd (l.getLast h0) (List.getLast_mem h0)
    generalize l.getLast h0 = c at e hcd
    generalize l.dropLast = p at e
    subst e
    rw [dval_snoc]
    have hcd' := hcd
    unfold isDig at hcd'
    by_cases hp : p = []
    · subst hp
      rw [Lib.decDigits, dif_pos (by simp only [dval_cons, dval_nil]; omega)]
      simp only [dval_cons, dval_nil, Nat.zero_mul, Nat.zero_add, List.nil_append, dig_ofNat hcd]
    · have hpl : 0 < p.length := List.length_pos_iff.2 hp
      have hhead : ∀ x, p.head? = some x → x.toNat ≠ 48 := fun x hx => hz (by simp at h ⊢; omega) x (by rw [List.head?_append, hx]; rfl)
      have i1 := ih p.length (by simp at h; omega) p rfl hp (fun x hx => hd x (by simp [hx])) (fun _ => hhead)
      have pos : 1 ≤ dval 0 p := by
        cases p with
        | nil => exact absurd rfl hp
        | cons x r =>
          have a := hhead x rfl
          have b := hd x (by simp)
          unfold isDig at b
          have := dval_ge r (0 * 10 + (x.toNat - 48))
          simp only [dval_cons, dval_nil]; omega
      rw [Lib.decDigits, dif_neg (by omega), show (dval 0 p * 10 + (c.toNat - 48)) / 10 = dval 0 p by omega, show (dval 0 p * 10 + (c.toNat - 48)) % 10 = c.toNat - 48 by omega, i1, dig_ofNat hcd]
theorem dec_len10 (k : Nat) : ∀ u, u < 10 ^ (k + 1) → (Lib.decDigits u).length ≤ k + 1 := by
  induction k with
  | zero => intro u hu; rw [Lib.decDigits, dif_pos (by simpa using hu)]; simp
  | succ k ih =>
    intro u hu
    rw [Lib.decDigits]
    split
    · simp
    · have := ih (u / 10) (by rw [Nat.pow_succ] at hu; omega)
      simp; omega
theorem parse_digs : ∀ (l : List UInt8) (acc : Nat), (∀ c ∈ l, isDig c) → dval acc l < 1000000000 → Lib.parseUint10 acc l = .ok (dval acc l)
  | [], acc, _, _ => rfl
  | c :: l, acc, hd, hv => by
    have hc := hd c (by simp)
    unfold isDig at hc
    rw [dval_cons] at hv ⊢
    have hge := dval_ge l (acc * 10 + (c.toNat - 48))
    rw [Lib.parseUint10, if_pos hc, if_neg (by omega), if_neg (by omega)]
    exact parse_digs l _ (fun x hx => hd x (by simp [hx])) hv
theorem atoi_dec (u : Nat) (hu : u < 1000000000) : Lib.atoiAll (Lib.decDigits u) = .ok (u : Int) := by
  have hp := parse_digs (Lib.decDigits u) 0 (dec_digs u) (by rw [dval_dec]; omega)
  rw [dval_dec] at hp
  have hd := dec_digs u
  have hne := dec_ne u
  cases e : Lib.decDigits u with
  | nil => exact absurd e hne
  | cons c r =>
    rw [e] at hp hd
    have hc := hd c (by simp)
    unfold isDig at hc
    unfold Lib.atoiAll
    simp only
    rw [if_neg (by omega)]
    unfold Lib.parseMag
    rw [if_neg (by simp), hp]
    simp only
    rw [if_neg (by omega), if_neg (by omega), if_neg (by omega)]
theorem atoi_neg_dec (u : Nat) (h1 : 1 ≤ u) (hu : u < 1000000000) : Lib.atoiAll (45 :: Lib.decDigits u) = .ok (-(u : Int)) := by
  have hp := parse_digs (Lib.decDigits u) 0 (dec_digs u) (by rw [dval_dec]; omega)
  rw [dval_dec] at hp
  unfold Lib.atoiAll
  simp only
  rw [if_pos (by decide)]
  unfold Lib.parseMag
  rw [if_neg (dec_ne u), hp]
  simp only
  rw [if_neg (by simp), if_neg (by omega), if_pos (by decide)]
theorem itoa_pos (u : Nat) : Lib.itoa (u : Int) = Lib.decDigits u := by unfold Lib.itoa; rw [if_neg (by omega)]; simp
theorem itoa_neg' (u : Nat) (h : 1 ≤ u) : Lib.itoa (-(u : Int)) = 45 :: Lib.decDigits u := by unfold Lib.itoa; rw [if_pos (by omega)]; simp
theorem int_cases (n : Int) : (∃ u : Nat, n = (u : Int)) ∨ ∃ u : Nat, 1 ≤ u ∧ n = -(u : Int) := by
  by_cases h : 0 ≤ n
  · exact .inl ⟨n.toNat, by omega⟩
  · exact .inr ⟨n.natAbs, by omega, by omega⟩
theorem atoi_itoa (n : Int) (h1 : -1000000 ≤ n) (h2 : n ≤ 1000000) : Lib.atoiAll (Lib.itoa n) = .ok n := by
  rcases int_cases n with ⟨u, rfl⟩ | ⟨u, hu, rfl⟩
  · rw [itoa_pos]; exact atoi_dec u (by omega)
  · rw [itoa_neg' u hu]; exact atoi_neg_dec u hu (by omega)
end Go.Proofs.YtmkppdeoepfpoaaDoor.Q
namespace Go.Proofs.YtmkppdeoepfpoaaDoor.Q
open Go.RowKit Go.Proofs.YtmkppdeoepfpoaaDoorW.PrintWords Go.Proofs.YtmkppdeoepfpoaaDoorW.PrintLast Go.Proofs.YtmkppdeoepfpoaaDoorW.PrintMore
open Go.Proofs.YtmkppdeoepfpoaaDoor.Open
set_option linter.unusedSimpArgs false
set_option linter.unusedVariables false
def digB (c : UInt8) : Bool := decide (48 ≤ c.toNat) && decide (c.toNat ≤ 57)
theorem digB_iff (c : UInt8) : digB c = true ↔ isDig c := by unfold digB isDig; simp
theorem all_digs (l : List UInt8) : l.all digB = true ↔ ∀ c ∈ l, isDig c := by simp [List.all_eq_true, digB_iff]
theorem s_digit (c : UInt8) : spec_l01Digit.f (c.toNat : Int) = some (digB c) := by
  unfold spec_l01Digit.f digB
  by_cases h : 48 ≤ c.toNat
  · rw [if_pos (by omega)]; simp [h]; omega
  · rw [if_neg (by omega)]; simp [h]
end Go.Proofs.YtmkppdeoepfpoaaDoor.Q
namespace Go.Proofs.YtmkppdeoepfpoaaDoor.Q
open Go.RowKit Go.Proofs.YtmkppdeoepfpoaaDoorW.PrintWords Go.Proofs.YtmkppdeoepfpoaaDoorW.PrintLast Go.Proofs.YtmkppdeoepfpoaaDoorW.PrintMore
open Go.Proofs.YtmkppdeoepfpoaaDoor.Open
set_option linter.unusedSimpArgs false
set_option linter.unusedVariables false
/-- What the text of a number is read as (impl_readNum.f). -/
theorem numOf_itoa (n : Int) (h1 : -1000000 ≤ n) (h2 : n ≤ 1000000) : numOf (Lib.itoa n) = (n, true) := by
  unfold numOf; rw [atoi_itoa n h1 h2]; simp
theorem numOf_true {l : List UInt8} (h : (numOf l).2 = true) : l = Lib.itoa (numOf l).1 := by
  unfold numOf at h ⊢
  cases e : Lib.atoiAll l with
  | ok v => rw [e] at h; simpa using (beq_iff_eq.1 h).symm
  | «syntax» => rw [e] at h; simp at h
  | range => rw [e] at h; simp at h
end Go.Proofs.YtmkppdeoepfpoaaDoor.Q
namespace Go.Proofs.YtmkppdeoepfpoaaDoor.Q
open Go.RowKit Go.Proofs.YtmkppdeoepfpoaaDoorW.PrintWords Go.Proofs.YtmkppdeoepfpoaaDoorW.PrintLast Go.Proofs.YtmkppdeoepfpoaaDoorW.PrintMore
open Go.Proofs.YtmkppdeoepfpoaaDoor.Open
set_option linter.unusedSimpArgs false
set_option linter.unusedVariables false
def hasL (l : List ByteArray) (s : List UInt8) : Bool := l.any fun x => x.data.toList == s
theorem hasL_cons (x : ByteArray) (t : List ByteArray) (s : List UInt8) : hasL (x :: t) s = (x.data.toList == s || hasL t s) := by unfold hasL; rw [List.any_cons]
theorem rdOf_at {α : Type} {d : α} {l : List α} {i : Nat} {x : α} (h : l[i]? = some x) : rdOf d l (i : Int) = x := by
  unfold rdOf; simp [List.getD, h]
theorem s_has_loop (l : List ByteArray) (s : ByteArray) (hl : l.length ≤ 1000) : ∀ (t : List ByteArray) (i k : Nat), l.drop i = t → t.length < k → spec_l01Has.l0 k l s (i : Int) = some (hasL t s.data.toList) := by
  intro t
  induction t with
  | nil =>
    intro i k hd hk
    obtain ⟨k, rfl⟩ : ∃ m, k = m + 1 := ⟨k - 1, by omega⟩
    have := drop_nil hd
    rw [spec_l01Has.l0, if_neg (by omega)]; rfl
  | cons x t ih =>
    intro i k hd hk
    obtain ⟨k, rfl⟩ : ∃ m, k = m + 1 := ⟨k - 1, by omega⟩
    obtain ⟨h1, h2, h3⟩ := drop_cons hd
    rw [spec_l01Has.l0, if_pos (by omega), if_pos (by omega), rdOf_at h2, toL, toL, w64s i (by omega), ih (i + 1) k h3 (by simp at hk; omega)]
    rw [hasL_cons]
    by_cases h : x.data.toList = s.data.toList
    · rw [if_pos h, beq_iff_eq.2 h]; rfl
    · rw [if_neg h, beq_eq_false_iff_ne.2 h]; rfl
theorem s_has (l : List ByteArray) (s : ByteArray) (hl : l.length ≤ 1000) (k : Nat) (hk : l.length < k) : spec_l01Has.f k l s = some (hasL l s.data.toList) :=
  s_has_loop l s hl l 0 k rfl hk
theorem i_index_loop (l : List ByteArray) (s : ByteArray) (hl : l.length ≤ 1000) : ∀ (t : List ByteArray) (i k : Nat), l.drop i = t → t.length < k → ∃ r, slices_Index_string_string.l0 k l s (l.length : Int) (i : Int) = some r ∧ decide (r ≥ 0) = hasL t s.data.toList := by
  intro t
  induction t with
  | nil =>
    intro i k hd hk
    obtain ⟨k, rfl⟩ : ∃ m, k = m + 1 := ⟨k - 1, by omega⟩
    have := drop_nil hd
    rw [slices_Index_string_string.l0, if_neg (by omega)]; exact ⟨_, rfl, rfl⟩
  | cons x t ih =>
    intro i k hd hk
    obtain ⟨k, rfl⟩ : ∃ m, k = m + 1 := ⟨k - 1, by omega⟩
    obtain ⟨h1, h2, h3⟩ := drop_cons hd
    rw [slices_Index_string_string.l0, if_pos (by omega), if_pos (by omega), if_pos (by omega), rdOf_at h2, toL, toL, w64s i (by omega)]
    by_cases h : s.data.toList = x.data.toList
    · rw [if_pos h]; refine ⟨_, rfl, ?_⟩; rw [hasL_cons, beq_iff_eq.2 h.symm]; simp
    · rw [if_neg h]
      obtain ⟨r, e1, e2⟩ := ih (i + 1) k h3 (by simp at hk; omega)
      refine ⟨r, e1, e2.trans ?_⟩
      have h' : ¬ x.data.toList = s.data.toList := fun e => h e.symm
      rw [hasL_cons, beq_eq_false_iff_ne.2 h']; rfl
theorem i_has (l : List ByteArray) (s : ByteArray) (hl : l.length ≤ 1000) (k : Nat) (hk : l.length < k) : slices_Contains_string_string.f k l s = some (hasL l s.data.toList) := by
  obtain ⟨r, e1, e2⟩ := i_index_loop l s hl l 0 k rfl hk
  unfold slices_Contains_string_string.f slices_Index_string_string.f
  rw [show (0 : Int) = ((0 : Nat) : Int) from rfl, e1]
  simp only [Option.bind_some]
  exact congrArg some e2
def letB (c : UInt8) : Bool := decide (97 ≤ c.toNat) && decide (c.toNat ≤ 122)
theorem s_letter (c : UInt8) : spec_l01Letter.f (c.toNat : Int) = some (letB c) := by
  unfold spec_l01Letter.f letB
  by_cases h : 97 ≤ c.toNat
  · rw [if_pos (by omega)]; simp [h]; omega
  · rw [if_neg (by omega)]; simp [h]
theorem i_letter (c : UInt8) : impl_isLetter.f (c.toNat : Int) = some (letB c) := by
  unfold impl_isLetter.f letB
  by_cases h : 97 ≤ c.toNat
  · rw [if_pos (by omega)]; simp [h]; omega
  · rw [if_neg (by omega)]; simp [h]
theorem i_digit (c : UInt8) : impl_isDigit.f (c.toNat : Int) = some (digB c) := by
  unfold impl_isDigit.f digB
  by_cases h : 48 ≤ c.toNat
  · rw [if_pos (by omega)]; simp [h]; omega
  · rw [if_neg (by omega)]; simp [h]
def keys : List ByteArray := [(⟨#[97, 114, 114, 97, 121]⟩ : ByteArray), (⟨#[99, 104, 101, 99, 107]⟩ : ByteArray), (⟨#[101, 108, 115, 101]⟩ : ByteArray), (⟨#[102, 111, 114]⟩ : ByteArray), (⟨#[102, 114, 111, 109]⟩ : ByteArray), (⟨#[105, 102]⟩ : ByteArray), (⟨#[108, 101, 110]⟩ : ByteArray), (⟨#[114, 101, 97, 100]⟩ : ByteArray), (⟨#[115, 107, 105, 112]⟩ : ByteArray), (⟨#[115, 116, 111, 112]⟩ : ByteArray), (⟨#[116, 111]⟩ : ByteArray), (⟨#[118, 97, 114]⟩ : ByteArray), (⟨#[119, 104, 105, 108, 101]⟩ : ByteArray)]
def ones : List ByteArray := [(⟨#[43]⟩ : ByteArray), (⟨#[45]⟩ : ByteArray), (⟨#[42]⟩ : ByteArray), (⟨#[40]⟩ : ByteArray), (⟨#[41]⟩ : ByteArray), (⟨#[91]⟩ : ByteArray), (⟨#[93]⟩ : ByteArray), (⟨#[123]⟩ : ByteArray), (⟨#[125]⟩ : ByteArray), (⟨#[59]⟩ : ByteArray), (⟨#[61]⟩ : ByteArray), (⟨#[60]⟩ : ByteArray), (⟨#[62]⟩ : ByteArray), (⟨#[63]⟩ : ByteArray)]
def twos : List ByteArray := [(⟨#[61, 61]⟩ : ByteArray), (⟨#[33, 61]⟩ : ByteArray), (⟨#[60, 61]⟩ : ByteArray), (⟨#[62, 61]⟩ : ByteArray)]
def wordB (c : UInt8) : Bool := letB c || digB c
def nameB (l : List UInt8) : Bool := decide (l.length ≤ 8) && (l.head?.any letB) && l.all wordB
def numB (l : List UInt8) : Bool := !(l.isEmpty || decide (7 < l.length) || (decide (1 < l.length) && l.head? == some 48)) && (l.all digB && decide (dval 0 l ≤ 1000000))
def kindL (l : List UInt8) : Int := if hasL keys l = true then 4 else if nameB l = true then 1 else if numB l = true then 2 else if hasL (ones ++ twos) l = true then 3 else 0
theorem s_key (s : ByteArray) (k : Nat) (hk : 40 ≤ k) : spec_l01Key.f k s = some (hasL keys s.data.toList) := by
  unfold spec_l01Key.f
  rw [s_has _ _ (by simp) k (by simp; omega)]; rfl
theorem i_key (s : ByteArray) (k : Nat) (hk : 40 ≤ k) : impl_isKey.f k s = some (hasL keys s.data.toList) := by
  unfold impl_isKey.f
  rw [i_has _ _ (by simp) k (by simp; omega)]; rfl
theorem s_name_loop (s : ByteArray) (hl : s.size ≤ 1048576) : ∀ (t : List UInt8) (i k : Nat), s.data.toList.drop i = t → t.length < k → spec_l01Name.l0 k s (i : Int) = some (t.all wordB) := by
  intro t
  induction t with
  | nil =>
    intro i k hd hk
    obtain ⟨k, rfl⟩ : ∃ m, k = m + 1 := ⟨k - 1, by omega⟩
    have := drop_nil hd
    rw [← sizeL] at this
    rw [spec_l01Name.l0, if_neg (by omega)]; rfl
  | cons c t ih =>
    intro i k hd hk
    obtain ⟨k, rfl⟩ : ∃ m, k = m + 1 := ⟨k - 1, by omega⟩
    obtain ⟨h1, h2, h3⟩ := drop_cons hd
    rw [← sizeL] at h1
    rw [spec_l01Name.l0, if_pos (by omega), if_pos (by omega), bt_at_ h2, s_letter, s_digit, w64s i (by omega), ih (i + 1) k h3 (by simp at hk; omega)]
    rw [List.all_cons, wordB]
    simp only [Option.bind_some]
    cases letB c <;> cases digB c <;> simp
theorem s_name (s : ByteArray) (hl : s.size ≤ 1048576) (k : Nat) (hk : s.size + 40 ≤ k) (hkey : hasL keys s.data.toList = false) : spec_l01Name.f k s = some (nameB s.data.toList) := by
  have stop : spec_l01Name.j0 k s true = some false := by
    obtain ⟨k, rfl⟩ : ∃ m, k = m + 1 := ⟨k - 1, by omega⟩
    rw [spec_l01Name.j0, if_pos rfl]
  have go : spec_l01Name.j0 k s false = some (s.data.toList.all wordB) := by
    obtain ⟨k, rfl⟩ : ∃ m, k = m + 1 := ⟨k - 1, by omega⟩
    rw [spec_l01Name.j0, if_neg (by simp)]
    exact s_name_loop s hl _ 0 k rfl (by rw [← sizeL]; omega)
  have hz := sizeL s
  unfold spec_l01Name.f nameB
  rcases e : s.data.toList with _ | ⟨c, r⟩
  · rw [e] at hz
    have hz0 : s.size = 0 := hz
    rw [if_pos (by omega), stop]; rfl
  · rw [e] at hz
    simp only [List.length_cons] at hz
    rw [if_neg (by omega)]
    by_cases h8 : (s.size : Int) > 8
    · rw [if_pos h8, stop]; simp; omega
    · rw [if_neg h8, if_pos (by omega), bt_zero e, s_letter, s_key s k (by omega), hkey]
      simp only [Option.bind_some]
      cases hb : letB c with
      | true =>
        rw [if_pos rfl, go, e]
        have h7 : r.length + 1 ≤ 8 := by omega
        simp [hb, h7]
      | false => rw [if_neg (by simp), stop]; simp [hb]
theorem num_itoa (l : List UInt8) : numB l = true ↔ ∃ u : Nat, u ≤ 1000000 ∧ l = Lib.decDigits u := by
  unfold numB
  simp only [Bool.and_eq_true, Bool.not_eq_true', Bool.or_eq_false_iff, decide_eq_true_eq, decide_eq_false_iff_not, Bool.and_eq_false_iff, beq_eq_false_iff_ne, ne_eq, List.isEmpty_eq_false_iff]
  constructor
  · rintro ⟨⟨⟨h1, h2⟩, h3⟩, h4, h5⟩
    refine ⟨dval 0 l, h5, (dec_of_dval l h1 ((all_digs l).1 h4) ?_).symm⟩
    intro hl c hc e
    rcases h3 with h3 | h3
    · exact h3 hl
    · exact h3 (by rw [hc, show c = 48 from u8_eq e])
  · rintro ⟨u, hu, rfl⟩
    refine ⟨⟨⟨dec_ne u, ?_⟩, ?_⟩, (all_digs _).2 (dec_digs u), by rw [dval_dec]; exact hu⟩
    · have := dec_len10 6 u (by omega); omega
    · rcases Nat.eq_zero_or_pos u with rfl | h
      · left; rw [Lib.decDigits, dif_pos (by omega)]; simp
      · right
        obtain ⟨c, r, e1, _, e2⟩ := dec_head u h
        rw [e1]
        intro h'
        simp only [List.head?_cons, Option.some.injEq] at h'
        rw [h'] at e2; exact e2 rfl
theorem sign_head {c : UInt8} {r : List UInt8} (h : hasL (ones ++ twos) (c :: r) = true) : letB c = false ∧ digB c = false := by
  simp only [hasL, ones, twos, List.cons_append, List.nil_append, List.any_cons, List.any_nil, Bool.or_eq_true, beq_iff_eq, List.cons.injEq, Bool.or_false] at h
  rcases h with h | h | h | h | h | h | h | h | h | h | h | h | h | h | h | h | h | h <;> (rw [← h.1]; decide)
theorem one_fin : ∀ n : Fin 256, Lib.contains [43, 45, 42, 40, 41, 91, 93, 123, 125, 59, 61, 60, 62, 63] [UInt8.ofNat n.val] = hasL ones [UInt8.ofNat n.val] := by decide +kernel
theorem one_sign (c : UInt8) : Lib.contains [43, 45, 42, 40, 41, 91, 93, 123, 125, 59, 61, 60, 62, 63] [c] = hasL ones [c] := by
  have := one_fin ⟨c.toNat, u8_lt c⟩
  simpa using this
theorem ones_len {l : List UInt8} (h : l.length ≠ 1) : hasL ones l = false := by
  cases e : hasL ones l with
  | false => rfl
  | true =>
    simp only [hasL, ones, List.any_cons, List.any_nil, Bool.or_eq_true, beq_iff_eq, Bool.or_false] at e
    rcases e with e | e | e | e | e | e | e | e | e | e | e | e | e | e <;> exact absurd (by rw [← e]; rfl) h
theorem i_kind_loop (s : ByteArray) (hl : s.size ≤ 1048576) : ∀ (t : List UInt8) (i k : Nat), s.data.toList.drop i = t → t.length < k →
    impl_kindOf.l0 k s (s.size : Int) (i : Int) = some (if t.all wordB = true then (if s.size ≤ 8 then 1 else 0) else 0) := by
  intro t
  induction t with
  | nil =>
    intro i k hd hk
    obtain ⟨k, rfl⟩ : ∃ m, k = m + 1 := ⟨k - 1, by omega⟩
    have := drop_nil hd
    rw [← sizeL] at this
    rw [impl_kindOf.l0, if_neg (by omega)]
    simp only [List.all_nil, if_true]
    by_cases h : s.size ≤ 8
    · rw [if_pos (by omega), if_pos h]
    · rw [if_neg (by omega), if_neg h]
  | cons c t ih =>
    intro i k hd hk
    obtain ⟨k, rfl⟩ : ∃ m, k = m + 1 := ⟨k - 1, by omega⟩
    obtain ⟨h1, h2, h3⟩ := drop_cons hd
    rw [← sizeL] at h1
    rw [impl_kindOf.l0, if_pos (by omega), if_pos (by omega), if_pos (by omega), bt_at_ h2, i_letter, i_digit, w64s i (by omega), ih (i + 1) k h3 (by simp at hk; omega)]
    rw [List.all_cons, wordB]
    simp only [Option.bind_some]
    cases letB c <;> cases digB c <;> simp
theorem let_dig {c : UInt8} (h : letB c = true) : digB c = false := by
  unfold letB at h; unfold digB
  simp only [Bool.and_eq_true, decide_eq_true_eq] at h
  simp; omega
theorem i_kind (s : ByteArray) (hl : s.size ≤ 1048576) (k : Nat) (hk : s.size + 40 ≤ k) : impl_kindOf.f k s = some (kindL s.data.toList) := by
  have hz := sizeL s
  unfold impl_kindOf.f
  rw [toL]
  rcases e : s.data.toList with _ | ⟨c, r⟩
  · rw [if_pos rfl]; rfl
  · rw [e] at hz
    simp only [List.length_cons] at hz
    rw [if_neg (List.cons_ne_nil c r), i_key s k (by omega), e]
    simp only [Option.bind_some]
    unfold kindL
    cases hkey : hasL keys (c :: r) with
    | true => simp
    | false =>
      simp only [Bool.false_eq_true, if_false]
      rw [if_pos (by omega), bt_zero e, i_letter, i_digit]
      simp only [Option.bind_some]
      cases hlet : letB c with
      | true =>
        rw [if_pos rfl, show (0 : Int) = ((0 : Nat) : Int) from rfl, i_kind_loop s hl _ 0 k rfl (by simp only [List.drop_zero, ← sizeL]; omega), List.drop_zero, e]
        have hnum : numB (c :: r) = false := by
          unfold numB; simp [let_dig hlet]
        have hsig : hasL (ones ++ twos) (c :: r) = false := by
          cases q : hasL (ones ++ twos) (c :: r) with
          | false => rfl
          | true => rw [(sign_head q).1] at hlet; cases hlet
        rw [hnum, hsig]
        unfold nameB
        by_cases h8 : s.size ≤ 8
        · have : r.length + 1 ≤ 8 := by omega
          rw [if_pos h8]
          simp [this, hlet, wordB]
        · have : ¬ r.length + 1 ≤ 8 := by omega
          rw [if_neg h8]
          simp [this]
      | false =>
        have hname : nameB (c :: r) = false := by unfold nameB; simp [hlet]
        rw [hname]
        simp only [Bool.false_eq_true, if_false]
        cases hdig : digB c with
        | true =>
          have hsig : hasL (ones ++ twos) (c :: r) = false := by
            cases q : hasL (ones ++ twos) (c :: r) with
            | false => rfl
            | true => rw [(sign_head q).2] at hdig; cases hdig
          rw [if_pos rfl, hsig]
          unfold impl_readNum.f
          rw [if_pos (by omega), e]
          simp only [Option.bind_some]
          have key : ((numOf (c :: r)).2 = true ∧ (numOf (c :: r)).1 ≤ 1000000) ↔ numB (c :: r) = true := by
            rw [num_itoa]
            constructor
            · rintro ⟨h1, h2⟩
              have h3 := numOf_true h1
              rcases int_cases (numOf (c :: r)).1 with ⟨u, hu⟩ | ⟨u, hu1, hu⟩
              · rw [hu, itoa_pos] at h3
                exact ⟨u, by omega, h3⟩
              · rw [hu, itoa_neg' u hu1] at h3
                rw [(List.cons.inj h3).1] at hdig
                exact absurd hdig (by decide)
            · rintro ⟨u, hu, h⟩
              rw [h, ← itoa_pos, numOf_itoa _ (by omega) (by omega)]
              exact ⟨rfl, by simp; omega⟩
          by_cases hn : numB (c :: r) = true
          · obtain ⟨k1, k2⟩ := key.2 hn
            rw [if_pos k1, if_pos k2, if_pos hn]
          · have hn' : ¬ ((numOf (c :: r)).2 = true ∧ (numOf (c :: r)).1 ≤ 1000000) := fun h => hn (key.1 h)
            rw [if_neg hn]
            simp only [Bool.false_eq_true, if_false]
            by_cases q : (numOf (c :: r)).2 = true
            · rw [if_pos q, if_neg (fun h => hn' ⟨q, h⟩)]
            · rw [if_neg q]
        | false =>
          have hnum : numB (c :: r) = false := by unfold numB; simp [hdig]
          rw [hnum, i_has _ _ (by simp) k (by simp; omega), e]
          simp only [Option.bind_some, Bool.false_eq_true, if_false]
          have app : hasL (ones ++ twos) (c :: r) = (hasL ones (c :: r) || hasL twos (c :: r)) := by unfold hasL; rw [List.any_append]
          rw [app]
          change (if hasL twos (c :: r) = true then _ else _) = _
          cases htw : hasL twos (c :: r) with
          | true => simp
          | false =>
            rw [Bool.or_false]
            simp only [Bool.false_eq_true, if_false]
            by_cases h1 : (s.size : Int) = 1
            · have hr : r = [] := List.eq_nil_of_length_eq_zero (by omega)
              subst hr
              rw [if_pos h1]
              unfold strings_Contains.f
              rw [if_pos (by decide), e]
              simp only [Option.bind_some]
              rw [one_sign]
              split <;> rfl
            · rw [if_neg h1, ones_len (by simp only [List.length_cons]; omega)]; simp
end Go.Proofs.YtmkppdeoepfpoaaDoor.Q
namespace Go.Proofs.YtmkppdeoepfpoaaDoor.Q
open Go.RowKit Go.Proofs.YtmkppdeoepfpoaaDoorW.PrintWords Go.Proofs.YtmkppdeoepfpoaaDoorW.PrintLast Go.Proofs.YtmkppdeoepfpoaaDoorW.PrintMore
open Go.Proofs.YtmkppdeoepfpoaaDoor.Open
set_option linter.unusedSimpArgs false
set_option linter.unusedVariables false
theorem key_head {c : UInt8} {r : List UInt8} (h : hasL keys (c :: r) = true) : letB c = true := by
  simp only [hasL, keys, List.any_cons, List.any_nil, Bool.or_eq_true, beq_iff_eq, List.cons.injEq, Bool.or_false] at h
  rcases h with h | h | h | h | h | h | h | h | h | h | h | h | h <;> (rw [← h.1]; decide)
end Go.Proofs.YtmkppdeoepfpoaaDoor.Q
namespace Go.Proofs.YtmkppdeoepfpoaaDoor.Q
open Go.RowKit Go.Proofs.YtmkppdeoepfpoaaDoorW.PrintWords Go.Proofs.YtmkppdeoepfpoaaDoorW.PrintLast Go.Proofs.YtmkppdeoepfpoaaDoorW.PrintMore
open Go.Proofs.YtmkppdeoepfpoaaDoor.Open
set_option linter.unusedSimpArgs false
set_option linter.unusedVariables false
def isName (l : List UInt8) : Bool := !hasL keys l && nameB l
theorem kind_name (l : List UInt8) : (kindL l != 1) = !isName l := by
  unfold kindL isName
  cases hasL keys l <;> cases nameB l <;> simp
  repeat' split
  all_goals simp
theorem s_isName (s : ByteArray) (hl : s.size ≤ 1048576) (k : Nat) (hk : s.size + 40 ≤ k) : spec_l01Name.f k s = some (isName s.data.toList) := by
  unfold isName
  cases hkey : hasL keys s.data.toList with
  | false => rw [s_name s hl k hk hkey]; rfl
  | true =>
    have stop : spec_l01Name.j0 k s true = some false := by
      obtain ⟨k, rfl⟩ : ∃ m, k = m + 1 := ⟨k - 1, by omega⟩
      rw [spec_l01Name.j0, if_pos rfl]
    have hz := sizeL s
    unfold spec_l01Name.f
    rcases e : s.data.toList with _ | ⟨c, r⟩
    · rw [e] at hkey; exact absurd hkey (by decide)
    · rw [e] at hz hkey
      simp only [List.length_cons] at hz
      rw [if_neg (by omega)]
      by_cases h8 : (s.size : Int) > 8
      · rw [if_pos h8, stop]; rfl
      · rw [if_neg h8, if_pos (by omega), bt_zero e, s_letter, key_head hkey, Option.bind_some, if_pos rfl, s_key s k (by omega), e, hkey, Option.bind_some, stop]; rfl
end Go.Proofs.YtmkppdeoepfpoaaDoor.Q
namespace Go.Proofs.YtmkppdeoepfpoaaDoor.Q
open Go.RowKit Go.Proofs.YtmkppdeoepfpoaaDoorW.PrintWords Go.Proofs.YtmkppdeoepfpoaaDoorW.PrintLast Go.Proofs.YtmkppdeoepfpoaaDoorW.PrintMore
open Go.Proofs.YtmkppdeoepfpoaaDoor.Open
set_option linter.unusedSimpArgs false
set_option linter.unusedVariables false
def isK (a : Int) : Bool := decide (1 ≤ a) && decide (a ≤ 8)
theorem isK_iff (a : Int) : isK a = true ↔ 1 ≤ a ∧ a ≤ 8 := by unfold isK; simp
theorem between (a b c : Int) : spec_l01Between.f a b c = some (decide (b ≤ a) && decide (a ≤ c)) := by
  unfold spec_l01Between.f
  by_cases h : a ≥ b
  · rw [if_pos h, decide_eq_true h, Bool.true_and]
  · rw [if_neg h, decide_eq_false h, Bool.false_and]
theorem s_isK (a : Int) : spec_l02IsExpr.f a = some (isK a) := by
  unfold spec_l02IsExpr.f isK
  rw [between]; rfl
theorem s_isCond (a : Int) : spec_l02IsCond.f a = some (decide (11 ≤ a) && decide (a ≤ 16)) := by
  unfold spec_l02IsCond.f
  rw [between]; rfl
theorem s_isStmt (a : Int) : ∃ b, spec_l02IsStmt.f a = some b := by
  unfold spec_l02IsStmt.f
  rw [between]; exact ⟨_, rfl⟩
theorem up_ {α : Type} {g : Nat → Option α} (hm : ∀ k, LeO (g k) (g (k + 1))) {k0 : Nat} {r : α} (h : g k0 = some r) : ∀ k, k0 ≤ k → g k = some r := by
  intro k hk
  obtain ⟨d, rfl⟩ : ∃ d, k = k0 + d := ⟨k - k0, by omega⟩
  clear hk
  induction d with
  | zero => exact h
  | succ d ih => exact hm _ _ ih
theorem sh4 (k : Nat) (a : Int) (b : Bool) : ∃ r, spec_l02Shape.j4 (k + 1) a b = some r := by
  rw [spec_l02Shape.j4]; repeat' split
  all_goals exact ⟨_, rfl⟩
theorem sh3 (k : Nat) (a : Int) (b : Bool) : ∃ r, spec_l02Shape.j3 (k + 2) a b = some r := by
  rw [spec_l02Shape.j3]; repeat' split
  all_goals first | exact sh4 k _ _ | exact ⟨_, rfl⟩
theorem sh2 (k : Nat) (a : Int) (b : Bool) : ∃ r, spec_l02Shape.j2 (k + 3) a b = some r := by
  rw [spec_l02Shape.j2]; repeat' split
  all_goals first | exact sh3 k _ _ | exact ⟨_, rfl⟩
theorem sh1 (k : Nat) (a : Int) (b : Bool) : ∃ r, spec_l02Shape.j1 (k + 4) a b = some r := by
  rw [spec_l02Shape.j1]; repeat' split
  all_goals first | exact sh2 k _ _ | exact ⟨_, rfl⟩
theorem sh0 (k : Nat) (a : Int) (b : Bool) : ∃ r, spec_l02Shape.j0 (k + 5) a b = some r := by
  rw [spec_l02Shape.j0]; repeat' split
  all_goals first | exact sh1 k _ _ | exact ⟨_, rfl⟩
theorem shape_tot (a : Int) : ∃ r, ∀ k, 5 ≤ k → spec_l02Shape.f k a = some r := by
  have : ∃ r, spec_l02Shape.f 5 a = some r := by
    unfold spec_l02Shape.f; repeat' split
    all_goals exact sh0 0 _ _
  obtain ⟨r, h⟩ := this
  exact ⟨r, up_ (g := fun k => spec_l02Shape.f k a) (spec_l02Shape.mono a) h⟩
theorem shape_of {a : Int} {r : Int × Bool × Bool} (h : spec_l02Shape.f 5 a = some r) : ∀ k, 5 ≤ k → spec_l02Shape.f k a = some r := up_ (g := fun k => spec_l02Shape.f k a) (spec_l02Shape.mono a) h
theorem kid_tot (a : Int) (s : ByteArray) (n : Int) (l : List INode) (i q : Int) : ∃ b, ∀ k, 1 ≤ k → spec_l02Kid.f k a s n l i q = some b := by
  have : ∃ b, spec_l02Kid.f 1 a s n l i q = some b := by
    have h0 : ∀ b, ∃ r, spec_l02Kid.j0 1 i q a b a s n l = some r := by
      intro b
      obtain ⟨c, hc⟩ := s_isStmt q
      rw [spec_l02Kid.j0, s_isCond, s_isK, hc]
      simp only [Option.bind_some]
      repeat' split
      all_goals exact ⟨_, rfl⟩
    unfold spec_l02Kid.f; repeat' split
    all_goals exact h0 _
  obtain ⟨b, h⟩ := this
  exact ⟨b, up_ (g := fun k => spec_l02Kid.f k a s n l i q) (spec_l02Kid.mono a s n l i q) h⟩
/-- The kids of such a node are to be expressions. -/
def KidsE (a : Int) (s : ByteArray) (n : Int) (l : List INode) : Prop := ∀ k i q, 1 ≤ k → spec_l02Kid.f k a s n l i q = some (isK q)
theorem kids_e {a : Int} (h : a ≤ 16) (s : ByteArray) (n : Int) (l : List INode) : KidsE a s n l := by
  intro k i q hk
  obtain ⟨k, rfl⟩ : ∃ m, k = m + 1 := ⟨k - 1, by omega⟩
  unfold spec_l02Kid.f
  rw [if_neg (by omega), if_neg (by omega), spec_l02Kid.j0, show (a == 27) = false from beq_eq_false_iff_ne.2 (by omega), if_neg (by decide), if_neg (by omega), if_neg (by omega), if_neg (by omega), s_isK]
  rfl
def hd (kids : Int) (named : Bool) (a : Int) (s : ByteArray) (n : Int) (l : List INode) : Bool :=
  decide ((l.length : Int) = kids) && (if named = true then isName s.data.toList else decide (s.data.toList = [])) && (if a = 1 then decide (0 ≤ n) && decide (n ≤ 1000000) else decide (n = 0))
theorem formed_head {a : Int} {kids : Int} {named : Bool} (hsh : spec_l02Shape.f 5 a = some (kids, named, true)) (hk0 : 0 ≤ kids) (h40 : a ≠ 40) (h32 : a ≠ 32) (s : ByteArray) (hs : s.size ≤ 1048576) (n : Int) (l : List INode) (k : Nat) (hk : 1048700 ≤ k) :
    spec_l02Formed.f (k + 3) a s n l = if hd kids named a s n l = true then spec_l02Formed.l0 k 0 a s n l else some false := by
  have bad : spec_l02Formed.j0 (k + 2) true a s n l = some false := by rw [spec_l02Formed.j0, if_pos rfl]
  have good : spec_l02Formed.j0 (k + 2) false a s n l = if (if a = 1 then decide (0 ≤ n) && decide (n ≤ 1000000) else decide (n = 0)) = true then spec_l02Formed.l0 k 0 a s n l else some false := by
    rw [spec_l02Formed.j0, if_neg (by decide), spec_l02Formed.j1, between, if_neg h32]
    by_cases h1 : a = 1
    · rw [if_pos h1, if_pos h1, Option.bind_some]
    · rw [if_neg h1, if_neg h1]
      by_cases h2 : n = 0
      · rw [if_pos h2, decide_eq_true h2, if_pos rfl]
      · rw [if_neg h2, decide_eq_false h2, if_neg (by decide)]
  have tl : s.toList = s.data.toList := Lib.toList_data s
  rw [spec_l02Formed.f, shape_of hsh (k + 2) (by omega), Option.bind_some]
  simp only
  rw [if_pos trivial, if_pos (show kids ≥ 0 from hk0), tl]
  unfold hd
  by_cases hl : (l.length : Int) = kids
  · rw [if_pos hl, decide_eq_true hl, Bool.true_and]
    by_cases h0 : s.data.toList = []
    · rw [if_pos h0]
      cases named with
      | true => rw [if_pos rfl, bad, if_pos rfl, h0, show isName [] = false by decide, Bool.false_and, if_neg (by decide)]
      | false => rw [if_neg (show ¬ (false = true) by decide), if_neg h40, good, if_neg (show ¬ (false = true) by decide), decide_eq_true h0, Bool.true_and]
    · rw [if_neg h0]
      cases named with
      | true =>
        rw [if_pos rfl, s_isName s hs (k + 2) (by omega), Option.bind_some, if_pos rfl]
        cases isName s.data.toList with
        | true => rw [if_pos rfl, if_neg h40, good, Bool.true_and]
        | false => rw [if_neg (by decide), bad, Bool.false_and, if_neg (by decide)]
      | false => rw [if_neg (show ¬ (false = true) by decide), bad, if_neg (show ¬ (false = true) by decide), decide_eq_false h0, Bool.false_and, if_neg (show ¬ (false = true) by decide)]
  · rw [if_neg hl, bad, decide_eq_false hl, Bool.false_and, Bool.false_and, if_neg (by decide)]
theorem formed_tot (a : Int) (s : ByteArray) (hs : s.size ≤ 1048576) (n : Int) (l : List INode) (K : Nat) (c : Bool) (hl : ∀ k, K ≤ k → spec_l02Formed.l0 k 0 a s n l = some c) : ∃ K c, ∀ k, K ≤ k → spec_l02Formed.f k a s n l = some c := by
  obtain ⟨r, hr⟩ := shape_tot a
  have j1 : spec_l02Formed.j1 (K + 1048701) a s n l = some c := by rw [spec_l02Formed.j1, hl _ (by omega)]
  have j0 : ∀ b, ∃ c, spec_l02Formed.j0 (K + 1048702) b a s n l = some c := by
    intro b
    rw [spec_l02Formed.j0, j1, between, between]
    simp only [Option.bind_some]
    repeat' split
    all_goals exact ⟨_, rfl⟩
  have : ∃ c, spec_l02Formed.f (K + 1048703) a s n l = some c := by
    rw [spec_l02Formed.f, hr _ (by omega), s_isName s hs _ (by omega)]
    simp only [Option.bind_some]
    repeat' split
    all_goals exact j0 _
  obtain ⟨c, h⟩ := this
  exact ⟨_, c, up_ (g := fun k => spec_l02Formed.f k a s n l) (spec_l02Formed.mono a s n l) h⟩
theorem i_hasOnly (a : Int) (s : ByteArray) (hs : s.size ≤ 1048576) (n : Int) (l : List INode) (nm num : Bool) (kids : Int) (k : Nat) (hk : 1048700 ≤ k) :
    impl_Node_hasOnly.f k a s n l nm num kids = some ((if nm = true then isName s.data.toList else decide (s.data.toList = [])) && (num || decide (n = 0)) && decide ((l.length : Int) = kids)) := by
  have tl : s.toList = s.data.toList := Lib.toList_data s
  have hq : ((l.length : Int) == kids) = decide ((l.length : Int) = kids) := by rw [Bool.eq_iff_iff]; simp
  have hh : (if num = true then some ((l.length : Int) == kids) else if n = 0 then some ((l.length : Int) == kids) else some false) = some ((num || decide (n = 0)) && decide ((l.length : Int) = kids)) := by
    rw [hq]
    cases num with
    | true => rw [if_pos rfl, Bool.true_or, Bool.true_and]
    | false =>
      rw [if_neg (by decide), Bool.false_or]
      by_cases h : n = 0
      · rw [if_pos h, decide_eq_true h, Bool.true_and]
      · rw [if_neg h, decide_eq_false h, Bool.false_and]
  unfold impl_Node_hasOnly.f
  cases nm with
  | true =>
    rw [if_pos rfl, i_kind s hs k (by omega), Option.bind_some, if_pos rfl]
    have hn := kind_name s.data.toList
    cases h : isName s.data.toList with
    | true =>
      rw [h] at hn
      rw [if_pos (by simpa using hn), hh, Bool.true_and]
    | false =>
      rw [h] at hn
      rw [if_neg (by simpa using hn), Bool.false_and, Bool.false_and]
  | false =>
    rw [if_neg (show ¬ (false = true) by decide), if_neg (show ¬ (false = true) by decide), tl]
    by_cases h : s.data.toList = []
    · rw [if_pos h, hh, decide_eq_true h, Bool.true_and]
    · rw [if_neg h, decide_eq_false h, Bool.false_and, Bool.false_and]
theorem i_inRange (a b c : Int) : impl_inRange.f a b c = some (decide (b ≤ a) && decide (a ≤ c)) := by
  unfold impl_inRange.f
  by_cases h : b ≤ a
  · rw [if_pos h, decide_eq_true h, Bool.true_and]
  · rw [if_neg h, decide_eq_false h, Bool.false_and]
theorem i_ok {a : Int} {kids : Int} {named : Bool} (h : (a = 1 ∧ kids = 0 ∧ named = false) ∨ ((a = 2 ∨ a = 4) ∧ kids = 0 ∧ named = true) ∨ (a = 3 ∧ kids = 1 ∧ named = true) ∨ (a = 5 ∧ kids = 1 ∧ named = false) ∨ ((a = 6 ∨ a = 7 ∨ a = 8) ∧ kids = 2 ∧ named = false))
    (s : ByteArray) (hs : s.size ≤ 1048576) (n : Int) (l : List INode) (k : Nat) (hk : 1048700 ≤ k) : impl_isExpr.ok k a s n l = some (hd kids named a s n l) := by
  have comm : ∀ x y z : Bool, (x && y && z) = (z && x && y) := by decide
  unfold impl_isExpr.ok hd
  rcases h with ⟨ha, rfl, rfl⟩ | ⟨ha, rfl, rfl⟩ | ⟨ha, rfl, rfl⟩ | ⟨ha, rfl, rfl⟩ | ⟨ha, rfl, rfl⟩
  · rw [if_pos ha, i_hasOnly a s hs n l _ _ _ k hk, i_inRange, Option.bind_some, if_pos ha]
    simp only [Bool.false_eq_true, if_false, Bool.true_or, Bool.and_true]
    cases decide ((l.length : Int) = 0) <;> cases decide (s.data.toList = []) <;> rfl
  · rw [if_neg (show ¬ (a = 1) by omega), if_pos ha, i_hasOnly a s hs n l _ _ _ k hk, comm, Bool.false_or, if_neg (show ¬ (a = 1) by omega)]
  · rw [if_neg (show ¬ (a = 1) by omega), if_neg (show ¬ (a = 2 ∨ a = 4) by omega), if_pos ha, i_hasOnly a s hs n l _ _ _ k hk, comm, Bool.false_or, if_neg (show ¬ (a = 1) by omega)]
  · rw [if_neg (show ¬ (a = 1) by omega), if_neg (show ¬ (a = 2 ∨ a = 4) by omega), if_neg (show ¬ (a = 3) by omega), if_pos ha, i_hasOnly a s hs n l _ _ _ k hk, comm, Bool.false_or, if_neg (show ¬ (a = 1) by omega)]
  · rw [if_neg (show ¬ (a = 1) by omega), if_neg (show ¬ (a = 2 ∨ a = 4) by omega), if_neg (show ¬ (a = 3) by omega), if_neg (show ¬ (a = 5) by omega), if_pos ha, i_hasOnly a s hs n l _ _ _ k hk, comm, Bool.false_or, if_neg (show ¬ (a = 1) by omega)]
def Fm (y : INode) (c : Bool) : Prop := ∃ K, ∀ k, K ≤ k → spec_l02Formed.f k y.f0 y.f1 y.f2 y.f3 = some c
def Ex (y : INode) (c : Bool) : Prop := ∃ K, ∀ k, K ≤ k → impl_isExpr.f k y.f0 y.f1 y.f2 y.f3 = some c
theorem kids_l (a : Int) (s : ByteArray) (n : Int) (l : List INode) (hn : l.length ≤ 1048576) : ∀ t i, l.drop i = t → (∀ z ∈ t, ∃ c, Fm z c ∧ Ex z (isK z.f0 && c)) →
    ∃ K c, (∀ k, K ≤ k → spec_l02Formed.l0 k (i : Int) a s n l = some c) ∧ (KidsE a s n l → ∀ k, K ≤ k → allO (fun z => impl_isExpr.f k z.f0 z.f1 z.f2 z.f3) t = some c)
  | [], i, h, _ => by
    have h2 := drop_nil h
    refine ⟨1, true, fun k hk => ?_, fun _ k _ => rfl⟩
    obtain ⟨k, rfl⟩ : ∃ m, k = m + 1 := ⟨k - 1, by omega⟩
    rw [spec_l02Formed.l0, if_neg (by omega)]
  | x :: t, i, h, hs => by
    obtain ⟨h2, h3, h4⟩ := drop_consI h
    obtain ⟨cx, ⟨K1, q1⟩, ⟨K3, q3⟩⟩ := hs x (by simp)
    obtain ⟨K2, c2, r1, r2⟩ := kids_l a s n l hn t (i + 1) h4 (fun y hy => hs y (by simp [hy]))
    obtain ⟨b, hb⟩ := kid_tot a s n l (i : Int) x.f0
    refine ⟨K1 + K2 + K3 + 2, b && cx && c2, fun k hk => ?_, fun hE k hk => ?_⟩
    · obtain ⟨k, rfl⟩ : ∃ m, k = m + 1 := ⟨k - 1, by omega⟩
      rw [spec_l02Formed.l0, if_pos (by omega), if_pos (by omega), rd_in h3, hb k (by omega), Option.bind_some, q1 k (by omega), Option.bind_some, w64s i (by omega), r1 k (by omega)]
      cases b <;> cases cx <;> rfl
    · have e : b = isK x.f0 := by
        have := (hb 1 (Nat.le_refl _)).symm.trans (hE 1 (i : Int) x.f0 (Nat.le_refl _))
        exact Option.some.inj this
      rw [allO, q3 k (by omega), Option.bind_some, r2 hE k (by omega), Option.bind_some, e]
theorem expr_small (y : INode) (h : Small y) : ∃ c, Fm y c ∧ Ex y (isK y.f0 && c) := by
  induction h with
  | mk y hl hz g ih =>
    obtain ⟨K, c2, q0, q2⟩ := kids_l y.f0 y.f1 y.f2 y.f3 hl y.f3 0 rfl ih
    have q1 : ∀ k, K ≤ k → spec_l02Formed.l0 k 0 y.f0 y.f1 y.f2 y.f3 = some c2 := q0
    clear q0
    have fin : ∀ (kids : Int) (named : Bool), spec_l02Shape.f 5 y.f0 = some (kids, named, true) → 0 ≤ kids → ((y.f0 = 1 ∧ kids = 0 ∧ named = false) ∨ ((y.f0 = 2 ∨ y.f0 = 4) ∧ kids = 0 ∧ named = true) ∨ (y.f0 = 3 ∧ kids = 1 ∧ named = true) ∨ (y.f0 = 5 ∧ kids = 1 ∧ named = false) ∨ ((y.f0 = 6 ∨ y.f0 = 7 ∨ y.f0 = 8) ∧ kids = 2 ∧ named = false)) →
        ∃ c, Fm y c ∧ Ex y (isK y.f0 && c) := by
      intro kids named hsh hk0 hc
      have hK : isK y.f0 = true := (isK_iff _).2 (by omega)
      refine ⟨hd kids named y.f0 y.f1 y.f2 y.f3 && c2, ⟨K + 1048710, fun k hk => ?_⟩, ⟨K + 1048710, fun k hk => ?_⟩⟩
      · obtain ⟨k, rfl⟩ : ∃ m, k = m + 3 := ⟨k - 3, by omega⟩
        rw [formed_head hsh hk0 (by omega) (by omega) y.f1 hz y.f2 y.f3 k (by omega), q1 k (by omega)]
        cases hd kids named y.f0 y.f1 y.f2 y.f3 <;> rfl
      · obtain ⟨k, rfl⟩ : ∃ m, k = m + 1 := ⟨k - 1, by omega⟩
        rw [impl_isExpr.f, i_ok hc y.f1 hz y.f2 y.f3 k (by omega), Option.bind_some, hK, Bool.true_and]
        cases hd kids named y.f0 y.f1 y.f2 y.f3 with
        | true => rw [if_pos rfl, if_pos (by omega), q2 (kids_e (by omega) _ _ _) k (by omega)]; rfl
        | false => rw [if_neg (by decide)]; rfl
    by_cases hK : isK y.f0 = true
    · have := (isK_iff _).1 hK
      rcases (show y.f0 = 1 ∨ y.f0 = 2 ∨ y.f0 = 3 ∨ y.f0 = 4 ∨ y.f0 = 5 ∨ y.f0 = 6 ∨ y.f0 = 7 ∨ y.f0 = 8 by omega) with e | e | e | e | e | e | e | e
      · exact fin 0 false (by rw [e]; rfl) (by omega) (by simp [e])
      · exact fin 0 true (by rw [e]; rfl) (by omega) (by simp [e])
      · exact fin 1 true (by rw [e]; rfl) (by omega) (by simp [e])
      · exact fin 0 true (by rw [e]; rfl) (by omega) (by simp [e])
      · exact fin 1 false (by rw [e]; rfl) (by omega) (by simp [e])
      · exact fin 2 false (by rw [e]; rfl) (by omega) (by simp [e])
      · exact fin 2 false (by rw [e]; rfl) (by omega) (by simp [e])
      · exact fin 2 false (by rw [e]; rfl) (by omega) (by simp [e])
    · obtain ⟨K', c, hc⟩ := formed_tot y.f0 y.f1 hz y.f2 y.f3 K c2 q1
      have hK' : isK y.f0 = false := by simpa using hK
      refine ⟨c, ⟨K', hc⟩, ⟨2, fun k hk => ?_⟩⟩
      obtain ⟨k, rfl⟩ : ∃ m, k = m + 1 := ⟨k - 1, by omega⟩
      have hn : ¬ (1 ≤ y.f0 ∧ y.f0 ≤ 8) := fun h => hK ((isK_iff _).2 h)
      rw [impl_isExpr.f, impl_isExpr.ok, if_neg (by omega), if_neg (by omega), if_neg (by omega), if_neg (by omega), if_neg (by omega), Option.bind_some, if_neg (by decide), hK', Bool.false_and]
end Go.Proofs.YtmkppdeoepfpoaaDoor.Q
