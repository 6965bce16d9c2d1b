/- The law's measuring, copying and comparing of trees: they never fail on trees that are not too big. -/
import Derived.Test.YtmdebfbkehnocaaQLists
import Derived.Test.YtmdebfbkehnocaaQKinds
import Derived.Test.YtmdebfbkehnocaaQOpen
import Derived.Test.YtmdebfbkehnocaaQx1
import Derived.Test.YtmdebfbkehnocaaQx13
import Derived.Test.YtmdebfbkehnocaaQx7
namespace Go.Proofs.Ytmdebfbkehnocaa.Q
open Go.RowKit Go.Proofs.YtmdebfbkehnocaaW.PrintWords Go.Proofs.YtmdebfbkehnocaaW.PrintLast Go.Proofs.YtmdebfbkehnocaaW.PrintMore
open Go.Proofs.Ytmdebfbkehnocaa.Open
set_option linter.unusedSimpArgs false
set_option linter.unusedVariables false
abbrev LNode := S50
abbrev INode := S56
theorem rd_ln {l : List LNode} {i : Nat} {x : LNode} (h : l[i]? = some x) : rd_T50 l (i : Int) = x := by
  unfold rd_T50; simp [List.getD, h]
theorem rd_in {l : List INode} {i : Nat} {x : INode} (h : l[i]? = some x) : rd_T56 l (i : Int) = x := by
  unfold rd_T56; simp [List.getD, h]
/-- A tree whose rows and names are not too long. -/
inductive Small : INode → Prop
  | mk (x : INode) (h : x.f3.length ≤ 1048576) (hz : x.f1.size ≤ 1048576) (g : ∀ y, y ∈ x.f3 → Small y) : Small x
/-- The copying gives a tree that is small. -/
def Copied (x : LNode) : Prop := ∃ z : INode, Small z ∧ ∃ K, ∀ k, K ≤ k → laws_toNode.f k x.f0 x.f1 x.f2 x.f3 = some (z.f0, z.f1, z.f2, z.f3)
theorem drop_consL {l : List LNode} {i : Nat} {x : LNode} {t : List LNode} (h : l.drop i = x :: t) : i < l.length ∧ l[i]? = some x ∧ l.drop (i + 1) = t :=
  haveI : Inhabited LNode := ⟨x⟩; drop_cons h
theorem drop_consI {l : List INode} {i : Nat} {x : INode} {t : List INode} (h : l.drop i = x :: t) : i < l.length ∧ l[i]? = some x ∧ l.drop (i + 1) = t :=
  haveI : Inhabited INode := ⟨x⟩; drop_cons h
theorem copy_l (l : List LNode) (hn : l.length ≤ 1048576) : ∀ t i (x3 : List INode), l.drop i = t → x3.length = l.length → (∀ y ∈ t, Copied y) → (∀ z ∈ x3.take i, Small z) →
    ∃ K zs, zs.length = l.length ∧ (∀ z ∈ zs, Small z) ∧ ∀ k, K ≤ k → laws_toNodeS.l0 k l x3 (i : Int) = some zs
  | [], i, x3, h, hx, _, hp => by
    have h1 := drop_nil h
    refine ⟨1, x3, hx, fun z hz => hp z (by rw [List.take_of_length_le (by omega)]; exact hz), fun k hk => ?_⟩
    obtain ⟨k, rfl⟩ : ∃ m, k = m + 1 := ⟨k - 1, by omega⟩
    rw [laws_toNodeS.l0, if_neg (by omega)]
  | x :: t, i, x3, h, hx, hc, hp => by
    obtain ⟨h1, h2, h3⟩ := drop_consL h
    obtain ⟨z, hz, K1, hK1⟩ := hc x (by simp)
    obtain ⟨K2, zs, q1, q2, q3⟩ := copy_l l hn t (i + 1) (x3.set i ⟨z.f0, z.f1, z.f2, z.f3⟩) h3 (by simpa using hx) (fun y hy => hc y (by simp [hy])) (by
      intro u hu
      rw [List.take_add_one, List.take_set_of_le (Nat.le_refl i), List.getElem?_set_self (by omega)] at hu
      rcases List.mem_append.1 hu with hu | hu
      · exact hp u hu
      · simp at hu; subst hu; cases z; exact hz)
    refine ⟨K1 + K2 + 1, zs, q1, q2, fun k hk => ?_⟩
    obtain ⟨k, rfl⟩ : ∃ m, k = m + 1 := ⟨k - 1, by omega⟩
    rw [laws_toNodeS.l0, if_pos (by omega), if_pos (by omega), rd_ln h2, hK1 k (by omega)]
    simp only [Option.bind_some]
    rw [if_pos (by omega), w64s i (by omega), Int.toNat_natCast]
    exact q3 k (by omega)
theorem copy_s (l : List LNode) (hn : l.length ≤ 1048576) (hc : ∀ y ∈ l, Copied y) : ∃ K zs, zs.length = l.length ∧ (∀ z ∈ zs, Small z) ∧ ∀ k, K ≤ k → laws_toNodeS.f k l = some zs := by
  obtain ⟨K, zs, q1, q2, q3⟩ := copy_l l hn l 0 (List.replicate ((l.length : Int) : Int).toNat z56) rfl (by simp) hc (by simp)
  refine ⟨K + 1, zs, q1, q2, fun k hk => ?_⟩
  obtain ⟨k, rfl⟩ : ∃ m, k = m + 1 := ⟨k - 1, by omega⟩
  rw [laws_toNodeS.f, if_pos (by omega), if_pos (by omega)]
  exact q3 k (by omega)
/-- The measuring never fails, and what is not too big is copied. -/
def Sized (x : LNode) : Prop := ∀ left : Int, 0 ≤ left → left ≤ 1048576 → ∃ K v, (∀ k, K ≤ k → laws_szNode.f k x.f0 x.f1 x.f2 x.f3 left = some v) ∧ v ≤ left ∧ (0 ≤ v → Copied x)
theorem size_l (l : List LNode) (hn : l.length ≤ 1048576) : ∀ t i, l.drop i = t → (∀ y ∈ t, Sized y) → ∀ left : Int, 0 ≤ left → left ≤ 1048576 →
    ∃ K v, (∀ k, K ≤ k → laws_szNodeS.l0 k l left (i : Int) = some v) ∧ v ≤ left ∧ (0 ≤ v → ∀ y ∈ t, Copied y)
  | [], i, h, _, left, h0, h1 => by
    have h2 := drop_nil h
    refine ⟨1, left, fun k hk => ?_, Int.le_refl _, fun _ y hy => by simp at hy⟩
    obtain ⟨k, rfl⟩ : ∃ m, k = m + 1 := ⟨k - 1, by omega⟩
    rw [laws_szNodeS.l0, if_neg (by omega)]
  | x :: t, i, h, hs, left, h0, h1 => by
    obtain ⟨h2, h3, h4⟩ := drop_consL h
    obtain ⟨K1, v, q1, q2, q3⟩ := hs x (by simp) left h0 h1
    by_cases hv : v < 0
    · refine ⟨K1 + 1, -1, fun k hk => ?_, by omega, fun h => by omega⟩
      obtain ⟨k, rfl⟩ : ∃ m, k = m + 1 := ⟨k - 1, by omega⟩
      rw [laws_szNodeS.l0, if_pos (by omega), if_pos (by omega), rd_ln h3, q1 k (by omega)]
      simp only [Option.bind_some]
      rw [if_pos hv]
    · obtain ⟨K2, u, r1, r2, r3⟩ := size_l l hn t (i + 1) h4 (fun y hy => hs y (by simp [hy])) v (by omega) (by omega)
      refine ⟨K1 + K2 + 1, u, fun k hk => ?_, by omega, fun h y hy => ?_⟩
      · obtain ⟨k, rfl⟩ : ∃ m, k = m + 1 := ⟨k - 1, by omega⟩
        rw [laws_szNodeS.l0, if_pos (by omega), if_pos (by omega), rd_ln h3, q1 k (by omega)]
        simp only [Option.bind_some]
        rw [if_neg hv, w64s i (by omega)]
        exact r1 k (by omega)
      · rcases List.mem_cons.1 hy with rfl | hy
        · exact q3 (by omega)
        · exact r3 h y hy
theorem size_s (l : List LNode) (hm : l.length ≤ maxLen) (hs : ∀ y ∈ l, Sized y) (left : Int) (h0 : 0 ≤ left) (h1 : left ≤ 1048576) :
    ∃ K v, (∀ k, K ≤ k → laws_szNodeS.f k l left = some v) ∧ v ≤ left ∧ (0 ≤ v → l.length ≤ 1048576 ∧ ∀ y ∈ l, Copied y) := by
  simp only [maxLen] at hm
  have e : wrap64 (left - (l.length : Int)) = left - (l.length : Int) := w64 (by omega) (by omega)
  by_cases hl : left - (l.length : Int) < 0
  · refine ⟨1, -1, fun k hk => ?_, by omega, fun h => by omega⟩
    obtain ⟨k, rfl⟩ : ∃ m, k = m + 1 := ⟨k - 1, by omega⟩
    rw [laws_szNodeS.f, e, if_pos hl]
  · obtain ⟨K, v, q1, q2, q3⟩ := size_l l (by omega) l 0 rfl hs (left - (l.length : Int)) (by omega) (by omega)
    refine ⟨K + 1, v, fun k hk => ?_, by omega, fun h => ⟨by omega, q3 h⟩⟩
    obtain ⟨k, rfl⟩ : ∃ m, k = m + 1 := ⟨k - 1, by omega⟩
    rw [laws_szNodeS.f, e, if_neg hl]
    exact q1 k (by omega)
theorem size_one (a : Int) (s : ByteArray) (n : Int) (l : List LNode) (hm : s.size ≤ maxLen) (hl : l.length ≤ maxLen) (hs : ∀ y ∈ l, Sized y) : Sized ⟨a, s, n, l⟩ := by
  intro left h0 h1
  simp only [maxLen] at hm
  have e : wrap64 (left - (s.size : Int)) = left - (s.size : Int) := w64 (by omega) (by omega)
  by_cases hl2 : left - (s.size : Int) < 0
  · refine ⟨1, -1, fun k hk => ?_, by omega, fun h => by omega⟩
    obtain ⟨k, rfl⟩ : ∃ m, k = m + 1 := ⟨k - 1, by omega⟩
    rw [laws_szNode.f, e, if_pos hl2]
  · obtain ⟨K, v, q1, q2, q3⟩ := size_s l hl hs (left - (s.size : Int)) (by omega) (by omega)
    refine ⟨K + 1, if v < 0 then -1 else v, fun k hk => ?_, by split <;> omega, fun h => ?_⟩
    · obtain ⟨k, rfl⟩ : ∃ m, k = m + 1 := ⟨k - 1, by omega⟩
      rw [laws_szNode.f, e, if_neg hl2, q1 k (by omega)]
      simp only [Option.bind_some]
      split <;> rfl
    · have hv : 0 ≤ v := by split at h <;> omega
      obtain ⟨r1, r2⟩ := q3 hv
      obtain ⟨K2, zs, s1, s2, s3⟩ := copy_s l r1 r2
      refine ⟨⟨a, s, n, zs⟩, Small.mk _ (by simpa [s1] using r1) (by show s.size ≤ 1048576; omega) s2, K2 + 1, fun k hk => ?_⟩
      obtain ⟨k, rfl⟩ : ∃ m, k = m + 1 := ⟨k - 1, by omega⟩
      rw [laws_toNode.f, s3 k (by omega)]; rfl
theorem sized (x : LNode) (h : Fit50 x) : Sized x := by
  induction h with
  | mk x h0 h1 h2 h3 g3 ih => exact size_one x.f0 x.f1 x.f2 x.f3 h1 h3 ih
/-- A small tree is itself. -/
theorem eq_l (l : List INode) (hn : l.length ≤ 1048576) (hs : ∀ y ∈ l, ∃ K, ∀ k, K ≤ k → laws_eqNode.f k y.f0 y.f1 y.f2 y.f3 y.f0 y.f1 y.f2 y.f3 = some true) : ∀ t i, l.drop i = t → (∀ y ∈ t, y ∈ l) →
    ∃ K, ∀ k, K ≤ k → laws_eqNodeS.l0 k l l (i : Int) = some true
  | [], i, h, _ => by
    have h2 := drop_nil h
    refine ⟨1, fun k hk => ?_⟩
    obtain ⟨k, rfl⟩ : ∃ m, k = m + 1 := ⟨k - 1, by omega⟩
    rw [laws_eqNodeS.l0, if_neg (by omega)]
  | x :: t, i, h, hm => by
    obtain ⟨h2, h3, h4⟩ := drop_consI h
    obtain ⟨K1, q1⟩ := hs x (hm x (by simp))
    obtain ⟨K2, q2⟩ := eq_l l hn hs t (i + 1) h4 (fun y hy => hm y (by simp [hy]))
    refine ⟨K1 + K2 + 1, fun k hk => ?_⟩
    obtain ⟨k, rfl⟩ : ∃ m, k = m + 1 := ⟨k - 1, by omega⟩
    rw [laws_eqNodeS.l0, if_pos (by omega), if_pos (by omega), if_pos (by omega), rd_in h3, q1 k (by omega)]
    simp only [Option.bind_some, if_true]
    rw [w64s i (by omega)]
    exact q2 k (by omega)
theorem eq_small (y : INode) (h : Small y) : ∃ K, ∀ k, K ≤ k → laws_eqNode.f k y.f0 y.f1 y.f2 y.f3 y.f0 y.f1 y.f2 y.f3 = some true := by
  induction h with
  | mk y hl hz g ih =>
    obtain ⟨K, q⟩ := eq_l y.f3 hl ih y.f3 0 rfl (fun _ h => h)
    refine ⟨K + 2, fun k hk => ?_⟩
    obtain ⟨k, rfl⟩ : ∃ m, k = m + 2 := ⟨k - 2, by omega⟩
    have e : laws_eqNodeS.f (k + 1) y.f3 y.f3 = some true := by
      rw [laws_eqNodeS.f, if_pos rfl]; exact q k (by omega)
    rw [laws_eqNode.f, if_pos rfl, if_pos rfl, if_pos rfl, e]; rfl
end Go.Proofs.Ytmdebfbkehnocaa.Q
