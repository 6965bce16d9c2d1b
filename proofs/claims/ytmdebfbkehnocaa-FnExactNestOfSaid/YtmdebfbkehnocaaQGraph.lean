/- The law's measuring, copying and comparing of graphs: they never fail on graphs that are not too big. -/
import Derived.Test.YtmdebfbkehnocaaQNode
import Derived.Test.YtmdebfbkehnocaaQOpen
import Derived.Test.YtmdebfbkehnocaaQx1
import Derived.Test.YtmdebfbkehnocaaQx14
import Derived.Test.YtmdebfbkehnocaaQx15
import Derived.Test.YtmdebfbkehnocaaQx16
import Derived.Test.YtmdebfbkehnocaaQx2
import Derived.Test.YtmdebfbkehnocaaQx7
import Derived.Test.YtmdebfbkehnocaaQx8
namespace Go.Proofs.Ytmdebfbkehnocaa.Q
open Go.RowKit Go.Proofs.YtmdebfbkehnocaaW.PrintWords Go.Proofs.YtmdebfbkehnocaaW.PrintLast Go.Proofs.YtmdebfbkehnocaaW.PrintMore
open Go.Proofs.Ytmdebfbkehnocaa.Open
set_option linter.unusedSimpArgs false
set_option linter.unusedVariables false
abbrev LEdge := S52
abbrev IEdge := S58
theorem rd_le {l : List LEdge} {i : Nat} {x : LEdge} (h : l[i]? = some x) : rd_T52 l (i : Int) = x := by
  unfold rd_T52; simp [List.getD, h]
theorem rd_ie {l : List IEdge} {i : Nat} {x : IEdge} (h : l[i]? = some x) : rd_T58 l (i : Int) = x := by
  unfold rd_T58; simp [List.getD, h]
theorem drop_consLE {l : List LEdge} {i : Nat} {x : LEdge} {t : List LEdge} (h : l.drop i = x :: t) : i < l.length ∧ l[i]? = some x ∧ l.drop (i + 1) = t :=
  haveI : Inhabited LEdge := ⟨x⟩; drop_cons h
theorem drop_consIE {l : List IEdge} {i : Nat} {x : IEdge} {t : List IEdge} (h : l.drop i = x :: t) : i < l.length ∧ l[i]? = some x ∧ l.drop (i + 1) = t :=
  haveI : Inhabited IEdge := ⟨x⟩; drop_cons h
def SmallE (z : IEdge) : Prop := Small z.f4
def CopiedE (x : LEdge) : Prop := ∃ z : IEdge, SmallE z ∧ ∃ K, ∀ k, K ≤ k → laws_toEdge.f k x.f0 x.f1 x.f2 x.f3 x.f4.f0 x.f4.f1 x.f4.f2 x.f4.f3 = some (z.f0, z.f1, z.f2, z.f3, z.f4.f0, z.f4.f1, z.f4.f2, z.f4.f3)
def SizedE (x : LEdge) : Prop := ∀ left : Int, 0 ≤ left → left ≤ 1048576 → ∃ K v, (∀ k, K ≤ k → laws_szEdge.f k x.f0 x.f1 x.f2 x.f3 x.f4.f0 x.f4.f1 x.f4.f2 x.f4.f3 left = some v) ∧ v ≤ left ∧ (0 ≤ v → CopiedE x)
theorem copyE (x : LEdge) (h : Copied x.f4) : CopiedE x := by
  obtain ⟨z, hz, K, q⟩ := h
  refine ⟨⟨x.f0, x.f1, x.f2, x.f3, z⟩, hz, K, fun k hk => ?_⟩
  rw [laws_toEdge.f, q k hk, Option.bind_some]
theorem sizeE (x : LEdge) (h : Sized x.f4) : SizedE x := by
  intro left h0 h1
  obtain ⟨K, v, q1, q2, q3⟩ := h left h0 h1
  refine ⟨K, if v < 0 then -1 else v, fun k hk => ?_, by split <;> omega, fun hv => copyE x (q3 (by split at hv <;> omega))⟩
  rw [laws_szEdge.f, q1 k hk, Option.bind_some]
  split <;> rfl
theorem copy_lE (l : List LEdge) (hn : l.length ≤ 1048576) : ∀ t i (x3 : List IEdge), l.drop i = t → x3.length = l.length → (∀ y ∈ t, CopiedE y) → (∀ z ∈ x3.take i, SmallE z) →
    ∃ K zs, zs.length = l.length ∧ (∀ z ∈ zs, SmallE z) ∧ ∀ k, K ≤ k → laws_toEdgeS.l0 k l x3 (i : Int) = some zs
  | [], i, x3, h, hx, _, hp => by
    have h1 := drop_nil h
    refine ⟨1, x3, hx, fun z hz => hp z (by rw [List.take_of_length_le (by omega)]; exact hz), fun k hk => ?_⟩
    obtain ⟨k, rfl⟩ : ∃ m, k = m + 1 := ⟨k - 1, by omega⟩
    rw [laws_toEdgeS.l0, if_neg (by omega)]
  | x :: t, i, x3, h, hx, hc, hp => by
    obtain ⟨h1, h2, h3⟩ := drop_consLE h
    obtain ⟨z, hz, K1, hK1⟩ := hc x (by simp)
    obtain ⟨K2, zs, q1, q2, q3⟩ := copy_lE l hn t (i + 1) (x3.set i ⟨z.f0, z.f1, z.f2, z.f3, ⟨z.f4.f0, z.f4.f1, z.f4.f2, z.f4.f3⟩⟩) h3 (by simpa using hx) (fun y hy => hc y (by simp [hy])) (by
      intro u hu
      rw [List.take_add_one, List.take_set_of_le (Nat.le_refl i), List.getElem?_set_self (by omega)] at hu
      rcases List.mem_append.1 hu with hu | hu
      · exact hp u hu
      · simp at hu; subst hu; rcases z with ⟨a0, a1, a2, a3, ⟨b0, b1, b2, b3⟩⟩; exact hz)
    refine ⟨K1 + K2 + 1, zs, q1, q2, fun k hk => ?_⟩
    obtain ⟨k, rfl⟩ : ∃ m, k = m + 1 := ⟨k - 1, by omega⟩
    rw [laws_toEdgeS.l0, if_pos (by omega), if_pos (by omega), rd_le h2, hK1 k (by omega)]
    simp only [Option.bind_some]
    rw [if_pos (by omega), w64s i (by omega), Int.toNat_natCast]
    exact q3 k (by omega)
theorem copy_sE (l : List LEdge) (hn : l.length ≤ 1048576) (hc : ∀ y ∈ l, CopiedE y) : ∃ K zs, zs.length = l.length ∧ (∀ z ∈ zs, SmallE z) ∧ ∀ k, K ≤ k → laws_toEdgeS.f k l = some zs := by
  obtain ⟨K, zs, q1, q2, q3⟩ := copy_lE l hn l 0 (List.replicate ((l.length : Int) : Int).toNat z58) rfl (by simp) hc (by simp)
  refine ⟨K, zs, q1, q2, fun k hk => ?_⟩
  rw [laws_toEdgeS.f, if_pos (by omega), if_pos (by omega)]
  exact q3 k (by omega)
theorem size_lE (l : List LEdge) (hn : l.length ≤ 1048576) : ∀ t i, l.drop i = t → (∀ y ∈ t, SizedE y) → ∀ left : Int, 0 ≤ left → left ≤ 1048576 →
    ∃ K v, (∀ k, K ≤ k → laws_szEdgeS.l0 k l left (i : Int) = some v) ∧ v ≤ left ∧ (0 ≤ v → ∀ y ∈ t, CopiedE y)
  | [], i, h, _, left, h0, h1 => by
    have h2 := drop_nil h
    refine ⟨1, left, fun k hk => ?_, Int.le_refl _, fun _ y hy => by simp at hy⟩
    obtain ⟨k, rfl⟩ : ∃ m, k = m + 1 := ⟨k - 1, by omega⟩
    rw [laws_szEdgeS.l0, if_neg (by omega)]
  | x :: t, i, h, hs, left, h0, h1 => by
    obtain ⟨h2, h3, h4⟩ := drop_consLE h
    obtain ⟨K1, v, q1, q2, q3⟩ := hs x (by simp) left h0 h1
    by_cases hv : v < 0
    · refine ⟨K1 + 1, -1, fun k hk => ?_, by omega, fun h => by omega⟩
      obtain ⟨k, rfl⟩ : ∃ m, k = m + 1 := ⟨k - 1, by omega⟩
      rw [laws_szEdgeS.l0, if_pos (by omega), if_pos (by omega), rd_le h3, q1 k (by omega)]
      simp only [Option.bind_some]
      rw [if_pos hv]
    · obtain ⟨K2, u, r1, r2, r3⟩ := size_lE l hn t (i + 1) h4 (fun y hy => hs y (by simp [hy])) v (by omega) (by omega)
      refine ⟨K1 + K2 + 1, u, fun k hk => ?_, by omega, fun h y hy => ?_⟩
      · obtain ⟨k, rfl⟩ : ∃ m, k = m + 1 := ⟨k - 1, by omega⟩
        rw [laws_szEdgeS.l0, if_pos (by omega), if_pos (by omega), rd_le h3, q1 k (by omega)]
        simp only [Option.bind_some]
        rw [if_neg hv, w64s i (by omega)]
        exact r1 k (by omega)
      · rcases List.mem_cons.1 hy with rfl | hy
        · exact q3 (by omega)
        · exact r3 h y hy
theorem size_sE (l : List LEdge) (hm : l.length ≤ maxLen) (hs : ∀ y ∈ l, SizedE y) (left : Int) (h0 : 0 ≤ left) (h1 : left ≤ 1048576) :
    ∃ K v, (∀ k, K ≤ k → laws_szEdgeS.f k l left = some v) ∧ v ≤ left ∧ (0 ≤ v → l.length ≤ 1048576 ∧ ∀ y ∈ l, CopiedE y) := by
  simp only [maxLen] at hm
  have e : wrap64 (left - (l.length : Int)) = left - (l.length : Int) := w64 (by omega) (by omega)
  by_cases hl : left - (l.length : Int) < 0
  · refine ⟨1, -1, fun k hk => ?_, by omega, fun h => by omega⟩
    rw [laws_szEdgeS.f, e, if_pos hl]
  · obtain ⟨K, v, q1, q2, q3⟩ := size_lE l (by omega) l 0 rfl hs (left - (l.length : Int)) (by omega) (by omega)
    refine ⟨K, v, fun k hk => ?_, by omega, fun h => ⟨by omega, q3 h⟩⟩
    rw [laws_szEdgeS.f, e, if_neg hl]
    exact q1 k (by omega)
theorem size_graph (a : Int) (l : List LEdge) (hm : l.length ≤ maxLen) (hs : ∀ y ∈ l, SizedE y) : ∃ K v, (∀ k, K ≤ k → laws_szGraph.f k a l 1048576 = some v) ∧
    (0 ≤ v → ∃ zs : List IEdge, zs.length ≤ 1048576 ∧ (∀ z ∈ zs, SmallE z) ∧ ∃ K2, ∀ k, K2 ≤ k → laws_toGraph.f k a l = some (a, zs)) := by
  obtain ⟨K, v, q1, q2, q3⟩ := size_sE l hm hs 1048576 (by omega) (by omega)
  refine ⟨K, if v < 0 then -1 else v, fun k hk => ?_, fun hv => ?_⟩
  · rw [laws_szGraph.f, q1 k hk, Option.bind_some]
    split <;> rfl
  · have hv' : 0 ≤ v := by split at hv <;> omega
    obtain ⟨r1, r2⟩ := q3 hv'
    obtain ⟨K2, zs, s1, s2, s3⟩ := copy_sE l r1 r2
    refine ⟨zs, by omega, s2, K2, fun k hk => ?_⟩
    rw [laws_toGraph.f, s3 k hk]; rfl
theorem eqE (y : IEdge) (h : SmallE y) : ∃ K, ∀ k, K ≤ k → laws_eqEdge.f k y.f0 y.f1 y.f2 y.f3 y.f4.f0 y.f4.f1 y.f4.f2 y.f4.f3 y.f0 y.f1 y.f2 y.f3 y.f4.f0 y.f4.f1 y.f4.f2 y.f4.f3 = some true := by
  obtain ⟨K, q⟩ := eq_small y.f4 h
  refine ⟨K, fun k hk => ?_⟩
  rw [laws_eqEdge.f, if_pos rfl, if_pos rfl, if_pos rfl, if_neg (by simp), q k hk]; rfl
theorem eq_lE (l : List IEdge) (hn : l.length ≤ 1048576) (hs : ∀ y ∈ l, SmallE y) : ∀ t i, l.drop i = t → (∀ y ∈ t, y ∈ l) →
    ∃ K, ∀ k, K ≤ k → laws_eqEdgeS.l0 k l l (i : Int) = some true
  | [], i, h, _ => by
    have h2 := drop_nil h
    refine ⟨1, fun k hk => ?_⟩
    obtain ⟨k, rfl⟩ : ∃ m, k = m + 1 := ⟨k - 1, by omega⟩
    rw [laws_eqEdgeS.l0, if_neg (by omega)]
  | x :: t, i, h, hm => by
    obtain ⟨h2, h3, h4⟩ := drop_consIE h
    obtain ⟨K1, q1⟩ := eqE x (hs x (hm x (by simp)))
    obtain ⟨K2, q2⟩ := eq_lE l hn hs t (i + 1) h4 (fun y hy => hm y (by simp [hy]))
    refine ⟨K1 + K2 + 1, fun k hk => ?_⟩
    obtain ⟨k, rfl⟩ : ∃ m, k = m + 1 := ⟨k - 1, by omega⟩
    rw [laws_eqEdgeS.l0, if_pos (by omega), if_pos (by omega), if_pos (by omega), rd_ie h3, q1 k (by omega)]
    simp only [Option.bind_some, if_true]
    rw [w64s i (by omega)]
    exact q2 k (by omega)
theorem eq_graph (a : Int) (l : List IEdge) (hn : l.length ≤ 1048576) (hs : ∀ y ∈ l, SmallE y) : ∃ K, ∀ k, K ≤ k → laws_eqGraph.f k a l a l = some true := by
  obtain ⟨K, q⟩ := eq_lE l hn hs l 0 rfl (fun _ h => h)
  refine ⟨K, fun k hk => ?_⟩
  have e : laws_eqEdgeS.f k l l = some true := by rw [laws_eqEdgeS.f, if_pos rfl]; exact q k hk
  rw [laws_eqGraph.f, if_pos rfl, e]; rfl
end Go.Proofs.Ytmdebfbkehnocaa.Q
