/- The law's copies of graphs that are not too big: they have not too many marks (laws_markGraph.f counts them). -/
import Derived.Test.YtmdebfbkehnocaaQGraph
import Derived.Test.YtmdebfbkehnocaaQOpen
import Derived.Test.YtmdebfbkehnocaaQx1
import Derived.Test.YtmdebfbkehnocaaQx17
import Derived.Test.YtmdebfbkehnocaaQx2
import Derived.Test.YtmdebfbkehnocaaQx7
import Derived.Test.YtmdebfbkehnocaaQx8
namespace Go.Proofs.Ytmdebfbkehnocaa.Q
open Go.RowKit Go.Proofs.YtmdebfbkehnocaaW.PrintWords Go.Proofs.YtmdebfbkehnocaaW.PrintLast Go.Proofs.YtmdebfbkehnocaaW.PrintMore
open Go.Proofs.Ytmdebfbkehnocaa.Open
set_option linter.unusedSimpArgs false
set_option linter.unusedVariables false
def Copied2 (x : LNode) (n : Nat) : Prop := ∃ z : INode, Small z ∧ cntN z ≤ 3 * n ∧ ∃ K, ∀ k, K ≤ k → laws_toNode.f k x.f0 x.f1 x.f2 x.f3 = some (z.f0, z.f1, z.f2, z.f3)
def CopiedL : List LNode → Nat → Prop
  | [], _ => True
  | x :: t, m => ∃ n m', n + m' ≤ m ∧ Copied2 x n ∧ CopiedL t m'
theorem copy_l2 (l : List LNode) (hn : l.length ≤ 1048576) : ∀ t i m (x3 : List INode), l.drop i = t → x3.length = l.length → CopiedL t m → (∀ z ∈ x3.take i, Small z) →
    ∃ K zs, zs.length = l.length ∧ (∀ z ∈ zs, Small z) ∧ cntL zs ≤ cntL (x3.take i) + 3 * t.length + 3 * m ∧ ∀ k, K ≤ k → laws_toNodeS.l0 k l x3 (i : Int) = some zs
  | [], i, m, x3, h, hx, _, hp => by
    have h1 := drop_nil h
    have e : x3.take i = x3 := List.take_of_length_le (by omega)
    refine ⟨1, x3, hx, fun z hz => hp z (by rw [e]; exact hz), by rw [e]; omega, fun k hk => ?_⟩
    obtain ⟨k, rfl⟩ : ∃ m, k = m + 1 := ⟨k - 1, by omega⟩
    rw [laws_toNodeS.l0, if_neg (by omega)]
  | x :: t, i, m, x3, h, hx, hc, hp => by
    obtain ⟨h1, h2, h3⟩ := drop_consL h
    obtain ⟨n, m', hm, ⟨z, hz, hzn, K1, hK1⟩, hc'⟩ := hc
    have ez : (⟨z.f0, z.f1, z.f2, z.f3⟩ : INode) = z := by cases z; rfl
    have et : (x3.set i ⟨z.f0, z.f1, z.f2, z.f3⟩).take (i + 1) = x3.take i ++ [z] := by
      rw [List.take_add_one, List.take_set_of_le (Nat.le_refl i), List.getElem?_set_self (by omega), ez]; rfl
    obtain ⟨K2, zs, q1, q2, q4, q3⟩ := copy_l2 l hn t (i + 1) m' (x3.set i ⟨z.f0, z.f1, z.f2, z.f3⟩) h3 (by simpa using hx) hc' (by
      intro u hu
      rw [et] at hu
      rcases List.mem_append.1 hu with hu | hu
      · exact hp u hu
      · simp at hu; subst hu; exact hz)
    rw [et, cntL_snoc] at q4
    refine ⟨K1 + K2 + 1, zs, q1, q2, by rw [List.length_cons]; omega, fun k hk => ?_⟩
    obtain ⟨k, rfl⟩ : ∃ m, k = m + 1 := ⟨k - 1, by omega⟩
    rw [laws_toNodeS.l0, if_pos (by omega), if_pos (by omega), rd_ln h2, hK1 k (by omega)]
    simp only [Option.bind_some]
    rw [if_pos (by omega), w64s i (by omega), Int.toNat_natCast]
    exact q3 k (by omega)
theorem copy_s2 (l : List LNode) (m : Nat) (hn : l.length ≤ 1048576) (hc : CopiedL l m) : ∃ K zs, zs.length = l.length ∧ (∀ z ∈ zs, Small z) ∧ cntL zs ≤ 3 * l.length + 3 * m ∧ ∀ k, K ≤ k → laws_toNodeS.f k l = some zs := by
  obtain ⟨K, zs, q1, q2, q4, q3⟩ := copy_l2 l hn l 0 m (List.replicate ((l.length : Int) : Int).toNat z56) rfl (by simp) hc (by simp)
  rw [List.take_zero, cntL] at q4
  refine ⟨K + 1, zs, q1, q2, by omega, fun k hk => ?_⟩
  obtain ⟨k, rfl⟩ : ∃ m, k = m + 1 := ⟨k - 1, by omega⟩
  rw [laws_toNodeS.f, if_pos (by omega), if_pos (by omega)]
  exact q3 k (by omega)
def Sized2 (x : LNode) : Prop := ∀ left : Int, 0 ≤ left → left ≤ 1048576 → ∃ K v, (∀ k, K ≤ k → laws_szNode.f k x.f0 x.f1 x.f2 x.f3 left = some v) ∧ v ≤ left ∧ (0 ≤ v → ∃ n : Nat, (n : Int) ≤ left - v ∧ Copied2 x n)
theorem size_l2 (l : List LNode) (hn : l.length ≤ 1048576) : ∀ t i, l.drop i = t → (∀ y ∈ t, Sized2 y) → ∀ left : Int, 0 ≤ left → left ≤ 1048576 →
    ∃ K v, (∀ k, K ≤ k → laws_szNodeS.l0 k l left (i : Int) = some v) ∧ v ≤ left ∧ (0 ≤ v → ∃ m : Nat, (m : Int) ≤ left - v ∧ CopiedL t m)
  | [], i, h, _, left, h0, h1 => by
    have h2 := drop_nil h
    refine ⟨1, left, fun k hk => ?_, Int.le_refl _, fun _ => ⟨0, by omega, trivial⟩⟩
    obtain ⟨k, rfl⟩ : ∃ m, k = m + 1 := ⟨k - 1, by omega⟩
    rw [laws_szNodeS.l0, if_neg (by omega)]
  | x :: t, i, h, hs, left, h0, h1 => by
    obtain ⟨h2, h3, h4⟩ := drop_consL h
    obtain ⟨K1, v, q1, q2, q3⟩ := hs x (by simp) left h0 h1
    by_cases hv : v < 0
    · refine ⟨K1 + 1, -1, fun k hk => ?_, by omega, fun h => by omega⟩
      obtain ⟨k, rfl⟩ : ∃ m, k = m + 1 := ⟨k - 1, by omega⟩
      rw [laws_szNodeS.l0, if_pos (by omega), if_pos (by omega), rd_ln h3, q1 k (by omega)]
      simp only [Option.bind_some]
      rw [if_pos hv]
    · obtain ⟨K2, u, r1, r2, r3⟩ := size_l2 l hn t (i + 1) h4 (fun y hy => hs y (by simp [hy])) v (by omega) (by omega)
      refine ⟨K1 + K2 + 1, u, fun k hk => ?_, by omega, fun h => ?_⟩
      · obtain ⟨k, rfl⟩ : ∃ m, k = m + 1 := ⟨k - 1, by omega⟩
        rw [laws_szNodeS.l0, if_pos (by omega), if_pos (by omega), rd_ln h3, q1 k (by omega)]
        simp only [Option.bind_some]
        rw [if_neg hv, w64s i (by omega)]
        exact r1 k (by omega)
      · obtain ⟨n, hn1, hn2⟩ := q3 (by omega)
        obtain ⟨m, hm1, hm2⟩ := r3 h
        exact ⟨n + m, by omega, n, m, Nat.le_refl _, hn2, hm2⟩
theorem size_s2 (l : List LNode) (hm : l.length ≤ maxLen) (hs : ∀ y ∈ l, Sized2 y) (left : Int) (h0 : 0 ≤ left) (h1 : left ≤ 1048576) :
    ∃ K v, (∀ k, K ≤ k → laws_szNodeS.f k l left = some v) ∧ v ≤ left ∧ (0 ≤ v → l.length ≤ 1048576 ∧ ∃ m : Nat, ((l.length + m : Nat) : Int) ≤ left - v ∧ CopiedL l m) := by
  simp only [maxLen] at hm
  have e : wrap64 (left - (l.length : Int)) = left - (l.length : Int) := w64 (by omega) (by omega)
  by_cases hl : left - (l.length : Int) < 0
  · refine ⟨1, -1, fun k hk => ?_, by omega, fun h => by omega⟩
    obtain ⟨k, rfl⟩ : ∃ m, k = m + 1 := ⟨k - 1, by omega⟩
    rw [laws_szNodeS.f, e, if_pos hl]
  · obtain ⟨K, v, q1, q2, q3⟩ := size_l2 l (by omega) l 0 rfl hs (left - (l.length : Int)) (by omega) (by omega)
    refine ⟨K + 1, v, fun k hk => ?_, by omega, fun h => ⟨by omega, ?_⟩⟩
    · obtain ⟨k, rfl⟩ : ∃ m, k = m + 1 := ⟨k - 1, by omega⟩
      rw [laws_szNodeS.f, e, if_neg hl]
      exact q1 k (by omega)
    · obtain ⟨m, hm1, hm2⟩ := q3 h
      exact ⟨m, by omega, hm2⟩
theorem size_one2 (a : Int) (s : ByteArray) (n : Int) (l : List LNode) (hm : s.size ≤ maxLen) (hl : l.length ≤ maxLen) (hs : ∀ y ∈ l, Sized2 y) : Sized2 ⟨a, s, n, l⟩ := by
  intro left h0 h1
  simp only [maxLen] at hm
  have e : wrap64 (left - (s.size : Int)) = left - (s.size : Int) := w64 (by omega) (by omega)
  by_cases hl2 : left - (s.size : Int) < 0
  · refine ⟨1, -1, fun k hk => ?_, by omega, fun h => by omega⟩
    obtain ⟨k, rfl⟩ : ∃ m, k = m + 1 := ⟨k - 1, by omega⟩
    rw [laws_szNode.f, e, if_pos hl2]
  · obtain ⟨K, v, q1, q2, q3⟩ := size_s2 l hl hs (left - (s.size : Int)) (by omega) (by omega)
    refine ⟨K + 1, if v < 0 then -1 else v, fun k hk => ?_, by split <;> omega, fun h => ?_⟩
    · obtain ⟨k, rfl⟩ : ∃ m, k = m + 1 := ⟨k - 1, by omega⟩
      rw [laws_szNode.f, e, if_neg hl2, q1 k (by omega)]
      simp only [Option.bind_some]
      split <;> rfl
    · have hv : 0 ≤ v := by split at h <;> omega
      obtain ⟨r1, m, r2, r3⟩ := q3 hv
      obtain ⟨K2, zs, s1, s2, s4, s3⟩ := copy_s2 l m r1 r3
      refine ⟨l.length + m, by rw [if_neg (by omega)]; omega, ⟨a, s, n, zs⟩, Small.mk _ (by simpa [s1] using r1) (by show s.size ≤ 1048576; omega) s2, by rw [cntN_eq]; show cntL zs ≤ _; omega, K2 + 1, fun k hk => ?_⟩
      obtain ⟨k, rfl⟩ : ∃ m, k = m + 1 := ⟨k - 1, by omega⟩
      rw [laws_toNode.f, s3 k (by omega)]; rfl
theorem sized2 (x : LNode) (h : Fit50 x) : Sized2 x := by
  induction h with
  | mk x h0 h1 h2 h3 g3 ih => exact size_one2 x.f0 x.f1 x.f2 x.f3 h1 h3 ih
def CopiedE2 (x : LEdge) (n : Nat) : Prop := ∃ z : IEdge, SmallE z ∧ cntN z.f4 ≤ 3 * n ∧ ∃ K, ∀ k, K ≤ k → laws_toEdge.f k x.f0 x.f1 x.f2 x.f3 x.f4.f0 x.f4.f1 x.f4.f2 x.f4.f3 = some (z.f0, z.f1, z.f2, z.f3, z.f4.f0, z.f4.f1, z.f4.f2, z.f4.f3)
def CopiedLE : List LEdge → Nat → Prop
  | [], _ => True
  | x :: t, m => ∃ n m', n + m' ≤ m ∧ CopiedE2 x n ∧ CopiedLE t m'
def SizedE2 (x : LEdge) : Prop := ∀ left : Int, 0 ≤ left → left ≤ 1048576 → ∃ K v, (∀ k, K ≤ k → laws_szEdge.f k x.f0 x.f1 x.f2 x.f3 x.f4.f0 x.f4.f1 x.f4.f2 x.f4.f3 left = some v) ∧ v ≤ left ∧ (0 ≤ v → ∃ n : Nat, (n : Int) ≤ left - v ∧ CopiedE2 x n)
theorem copyE2 (x : LEdge) (n : Nat) (h : Copied2 x.f4 n) : CopiedE2 x n := by
  obtain ⟨z, hz, hn, K, q⟩ := h
  refine ⟨⟨x.f0, x.f1, x.f2, x.f3, z⟩, hz, hn, K, fun k hk => ?_⟩
  rw [laws_toEdge.f, q k hk, Option.bind_some]
theorem sizeE2 (x : LEdge) (h : Sized2 x.f4) : SizedE2 x := by
  intro left h0 h1
  obtain ⟨K, v, q1, q2, q3⟩ := h left h0 h1
  refine ⟨K, if v < 0 then -1 else v, fun k hk => ?_, by split <;> omega, fun hv => ?_⟩
  · rw [laws_szEdge.f, q1 k hk, Option.bind_some]
    split <;> rfl
  · have hv' : 0 ≤ v := by split at hv <;> omega
    obtain ⟨n, n1, n2⟩ := q3 hv'
    exact ⟨n, by rw [if_neg (by omega)]; omega, copyE2 x n n2⟩
theorem copy_lE2 (l : List LEdge) (hn : l.length ≤ 1048576) : ∀ t i m (x3 : List IEdge), l.drop i = t → x3.length = l.length → CopiedLE t m → (∀ z ∈ x3.take i, SmallE z) →
    ∃ K zs, zs.length = l.length ∧ (∀ z ∈ zs, SmallE z) ∧ cntE zs ≤ cntE (x3.take i) + 7 * t.length + 3 * m ∧ ∀ k, K ≤ k → laws_toEdgeS.l0 k l x3 (i : Int) = some zs
  | [], i, m, x3, h, hx, _, hp => by
    have h1 := drop_nil h
    have e : x3.take i = x3 := List.take_of_length_le (by omega)
    refine ⟨1, x3, hx, fun z hz => hp z (by rw [e]; exact hz), by rw [e]; omega, fun k hk => ?_⟩
    obtain ⟨k, rfl⟩ : ∃ m, k = m + 1 := ⟨k - 1, by omega⟩
    rw [laws_toEdgeS.l0, if_neg (by omega)]
  | x :: t, i, m, x3, h, hx, hc, hp => by
    obtain ⟨h1, h2, h3⟩ := drop_consLE h
    obtain ⟨n, m', hm, ⟨z, hz, hzn, K1, hK1⟩, hc'⟩ := hc
    have ez : (⟨z.f0, z.f1, z.f2, z.f3, ⟨z.f4.f0, z.f4.f1, z.f4.f2, z.f4.f3⟩⟩ : IEdge) = z := by rcases z with ⟨a0, a1, a2, a3, ⟨b0, b1, b2, b3⟩⟩; rfl
    have et : (x3.set i ⟨z.f0, z.f1, z.f2, z.f3, ⟨z.f4.f0, z.f4.f1, z.f4.f2, z.f4.f3⟩⟩).take (i + 1) = x3.take i ++ [z] := by
      rw [List.take_add_one, List.take_set_of_le (Nat.le_refl i), List.getElem?_set_self (by omega), ez]; rfl
    obtain ⟨K2, zs, q1, q2, q4, q3⟩ := copy_lE2 l hn t (i + 1) m' (x3.set i ⟨z.f0, z.f1, z.f2, z.f3, ⟨z.f4.f0, z.f4.f1, z.f4.f2, z.f4.f3⟩⟩) h3 (by simpa using hx) hc' (by
      intro u hu
      rw [et] at hu
      rcases List.mem_append.1 hu with hu | hu
      · exact hp u hu
      · simp at hu; subst hu; exact hz)
    rw [et, cntE_snoc] at q4
    refine ⟨K1 + K2 + 1, zs, q1, q2, by rw [List.length_cons]; omega, fun k hk => ?_⟩
    obtain ⟨k, rfl⟩ : ∃ m, k = m + 1 := ⟨k - 1, by omega⟩
    rw [laws_toEdgeS.l0, if_pos (by omega), if_pos (by omega), rd_le h2, hK1 k (by omega)]
    simp only [Option.bind_some]
    rw [if_pos (by omega), w64s i (by omega), Int.toNat_natCast]
    exact q3 k (by omega)
theorem size_lE2 (l : List LEdge) (hn : l.length ≤ 1048576) : ∀ t i, l.drop i = t → (∀ y ∈ t, SizedE2 y) → ∀ left : Int, 0 ≤ left → left ≤ 1048576 →
    ∃ K v, (∀ k, K ≤ k → laws_szEdgeS.l0 k l left (i : Int) = some v) ∧ v ≤ left ∧ (0 ≤ v → ∃ m : Nat, (m : Int) ≤ left - v ∧ CopiedLE t m)
  | [], i, h, _, left, h0, h1 => by
    have h2 := drop_nil h
    refine ⟨1, left, fun k hk => ?_, Int.le_refl _, fun _ => ⟨0, by omega, trivial⟩⟩
    obtain ⟨k, rfl⟩ : ∃ m, k = m + 1 := ⟨k - 1, by omega⟩
    rw [laws_szEdgeS.l0, if_neg (by omega)]
  | x :: t, i, h, hs, left, h0, h1 => by
    obtain ⟨h2, h3, h4⟩ := drop_consLE h
    obtain ⟨K1, v, q1, q2, q3⟩ := hs x (by simp) left h0 h1
    by_cases hv : v < 0
    · refine ⟨K1 + 1, -1, fun k hk => ?_, by omega, fun h => by omega⟩
      obtain ⟨k, rfl⟩ : ∃ m, k = m + 1 := ⟨k - 1, by omega⟩
      rw [laws_szEdgeS.l0, if_pos (by omega), if_pos (by omega), rd_le h3, q1 k (by omega)]
      simp only [Option.bind_some]
      rw [if_pos hv]
    · obtain ⟨K2, u, r1, r2, r3⟩ := size_lE2 l hn t (i + 1) h4 (fun y hy => hs y (by simp [hy])) v (by omega) (by omega)
      refine ⟨K1 + K2 + 1, u, fun k hk => ?_, by omega, fun h => ?_⟩
      · obtain ⟨k, rfl⟩ : ∃ m, k = m + 1 := ⟨k - 1, by omega⟩
        rw [laws_szEdgeS.l0, if_pos (by omega), if_pos (by omega), rd_le h3, q1 k (by omega)]
        simp only [Option.bind_some]
        rw [if_neg hv, w64s i (by omega)]
        exact r1 k (by omega)
      · obtain ⟨n, hn1, hn2⟩ := q3 (by omega)
        obtain ⟨m, hm1, hm2⟩ := r3 h
        exact ⟨n + m, by omega, n, m, Nat.le_refl _, hn2, hm2⟩
/-- A graph that isn't too big is copied, and its copy has not too many marks. -/
theorem size_graph2 (a : Int) (l : List LEdge) (hm : l.length ≤ maxLen) (hs : ∀ y ∈ l, SizedE2 y) : ∃ K v, (∀ k, K ≤ k → laws_szGraph.f k a l 1048576 = some v) ∧
    (0 ≤ v → ∃ zs : List IEdge, zs.length ≤ 1048576 ∧ (∀ z ∈ zs, SmallE z) ∧ cntE zs ≤ 100000000 ∧ ∃ K2, ∀ k, K2 ≤ k → laws_toGraph.f k a l = some (a, zs)) := by
  simp only [maxLen] at hm
  have e : wrap64 ((1048576 : Int) - (l.length : Int)) = 1048576 - (l.length : Int) := w64 (by omega) (by omega)
  by_cases hl : (1048576 : Int) - (l.length : Int) < 0
  · refine ⟨1, -1, fun k hk => ?_, fun h => by omega⟩
    rw [laws_szGraph.f, laws_szEdgeS.f, e, if_pos hl]; rfl
  · obtain ⟨K, v, q1, q2, q3⟩ := size_lE2 l (by omega) l 0 rfl hs (1048576 - (l.length : Int)) (by omega) (by omega)
    refine ⟨K, if v < 0 then -1 else v, fun k hk => ?_, fun hv => ?_⟩
    · have q := q1 k hk
      rw [laws_szGraph.f, laws_szEdgeS.f, e, if_neg hl]
      rw [show (0 : Int) = ((0 : Nat) : Int) from rfl, q, Option.bind_some]
      split <;> rfl
    · have hv' : 0 ≤ v := by split at hv <;> omega
      obtain ⟨m, r1, r2⟩ := q3 hv'
      obtain ⟨K2, zs, s1, s2, s4, s3⟩ := copy_lE2 l (by omega) l 0 m (List.replicate ((l.length : Int) : Int).toNat z58) rfl (by simp) r2 (by simp)
      rw [List.take_zero, cntE] at s4
      refine ⟨zs, by omega, s2, by omega, K2, fun k hk => ?_⟩
      have e2 : laws_toEdgeS.f k l = some zs := by
        rw [laws_toEdgeS.f, if_pos (by omega), if_pos (by omega)]
        exact s3 k hk
      rw [laws_toGraph.f, e2]; rfl
end Go.Proofs.Ytmdebfbkehnocaa.Q
