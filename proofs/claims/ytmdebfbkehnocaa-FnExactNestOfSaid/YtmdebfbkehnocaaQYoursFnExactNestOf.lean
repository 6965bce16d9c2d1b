/- The law FnExactNestOf holds: the program's NestOf and the reference's answer alike, at all arguments; the program leaves the graph as it was and keeps nothing of it; its rows own their memory. No conditions. -/
import Derived.Test.YtmdebfbkehnocaaQPureFnExactNestOf
import Derived.Test.YtmdebfbkehnocaaQLasts
import Derived.Test.YtmdebfbkehnocaaQMarkN
import Derived.Test.YtmdebfbkehnocaaQInts
import Derived.Test.YtmdebfbkehnocaaQLoops
import Derived.Test.YtmdebfbkehnocaaQOpen
import Derived.Test.YtmdebfbkehnocaaQx11
import Derived.Test.YtmdebfbkehnocaaQx12
import Derived.Test.YtmdebfbkehnocaaQx19
import Derived.Test.YtmdebfbkehnocaaQx5
import Derived.Test.YtmdebfbkehnocaaQx6
namespace Go.Proofs.Ytmdebfbkehnocaa.Q
open Go.RowKit Go.Proofs.YtmdebfbkehnocaaW.PrintWords Go.Proofs.YtmdebfbkehnocaaW.PrintLast Go.Proofs.YtmdebfbkehnocaaW.PrintMore
open Go.Proofs.Ytmdebfbkehnocaa.Open
set_option linter.unusedSimpArgs false
set_option linter.unusedVariables false
/-- The places of what isn't less than 0. -/
def headsL : List Int → Nat → List Int
  | [], _ => []
  | v :: t, i => if v ≥ 0 then (i : Int) :: headsL t (i + 1) else headsL t (i + 1)
theorem headsL_len : ∀ (t : List Int) (i : Nat), (headsL t i).length ≤ t.length
  | [], _ => Nat.le_refl _
  | v :: t, i => by
    have := headsL_len t (i + 1)
    rw [headsL]
    split <;> simp only [List.length_cons] <;> omega
theorem s_heads (x : List Int) (hn : x.length ≤ 3000) (l : List IEdge) : ∀ (t : List Int) (i : Nat) (acc : List Int) (k : Nat), x.drop i = t → acc.length ≤ i → t.length < k → spec_HeadsOf.l0 k acc x (i : Int) (x.length : Int) l = some (acc ++ headsL t i)
  | [], i, acc, k, h, ha, hk => by
    have h1 := drop_nil h
    obtain ⟨k, rfl⟩ : ∃ m, k = m + 1 := ⟨k - 1, by omega⟩
    rw [spec_HeadsOf.l0, if_neg (by omega), headsL, List.append_nil]
  | v :: t, i, acc, k, h, ha, hk => by
    obtain ⟨h1, h2, h3⟩ := drop_cons h
    obtain ⟨k, rfl⟩ : ∃ m, k = m + 1 := ⟨k - 1, by omega⟩
    have hk' : t.length < k := by simp at hk; omega
    rw [spec_HeadsOf.l0, if_pos (by omega), if_pos (by omega), if_pos (by omega), rd_at h2, w64s i (by omega), headsL]
    by_cases hv : v ≥ 0
    · rw [if_pos hv, if_pos hv, if_pos (by omega), s_heads x hn l t (i + 1) _ k h3 (by simp; omega) hk', List.append_assoc]; rfl
    · rw [if_neg hv, if_neg hv, s_heads x hn l t (i + 1) _ k h3 (by omega) hk']
/-- The first n heads in whose loops a point is. -/
def nr (x : List Int) (p : Nat) : Nat → List Int
  | 0 => []
  | n + 1 => nr x p n ++ (if n ≤ p ∧ (p : Int) ≤ rd x (n : Int) then [(n : Int)] else [])
theorem nr_len (x : List Int) (p : Nat) : ∀ n, (nr x p n).length ≤ n
  | 0 => Nat.le_refl _
  | n + 1 => by
    have := nr_len x p n
    rw [nr, List.length_append]
    split <;> simp <;> omega
/-- The same, from a place on. -/
def nrFrom : List Int → Nat → Nat → List Int
  | [], _, _ => []
  | v :: t, i, p => (if i ≤ p ∧ (p : Int) ≤ v then [(i : Int)] else []) ++ nrFrom t (i + 1) p
theorem nrFrom_gt : ∀ (t : List Int) (i p : Nat), p < i → nrFrom t i p = []
  | [], _, _, _ => rfl
  | v :: t, i, p, h => by rw [nrFrom, if_neg (by omega), nrFrom_gt t (i + 1) p (by omega)]; rfl
theorem nr_from (x : List Int) (p : Nat) : ∀ (t : List Int) (i : Nat), x.drop i = t → i ≤ x.length → nr x p i ++ nrFrom t i p = nr x p x.length
  | [], i, h, hi => by
    have h1 := drop_nil h
    rw [nrFrom, List.append_nil, show i = x.length by omega]
  | v :: t, i, h, hi => by
    obtain ⟨h1, h2, h3⟩ := drop_cons h
    rw [nrFrom, ← List.append_assoc]
    have e : nr x p i ++ (if i ≤ p ∧ (p : Int) ≤ v then [(i : Int)] else []) = nr x p (i + 1) := by rw [nr, rd_at h2]
    rw [e]
    exact nr_from x p t (i + 1) h3 h1
/-- The rows that a function tells, for the first P points. -/
def st (P : Nat) (f : Nat → List Int) : List (List Int) := (List.range P).map f
theorem st_len (P : Nat) (f : Nat → List Int) : (st P f).length = P := by simp [st]
theorem rd_st {P : Nat} (f : Nat → List Int) {c : Nat} (h : c < P) : rd_L7 (st P f) (c : Int) = f c := by
  unfold rd_L7 st
  simp [List.getD, h]
theorem set_st (P : Nat) (f : Nat → List Int) (c : Nat) (v : List Int) : (st P f).set c v = st P (fun p => if p = c then v else f p) := by
  apply List.ext_getElem (by simp [st])
  intro i h1 h2
  simp only [st, List.getElem_set, List.getElem_map, List.getElem_range]
  by_cases h : c = i
  · subst h; rw [if_pos rfl]
  · rw [if_neg h, if_neg (fun e => h e.symm)]
theorem st_congr {P : Nat} {f g : Nat → List Int} (h : ∀ p, p < P → f p = g p) : st P f = st P g := by
  unfold st
  apply List.map_congr_left
  intro p hp
  exact h p (List.mem_range.1 hp)
theorem st_snoc (P : Nat) (f : Nat → List Int) : st (P + 1) f = st P f ++ [f P] := by simp [st, List.range_succ]
theorem i_inner (P : Nat) (hP : P ≤ 3000) (x : List Int) (i : Nat) (hiP : i < P) (last : Int) (hl : last < P) (hr : rd x (i : Int) = last) : ∀ (d c k : Nat), i ≤ c → ((c : Int) + d = last + 1 ∨ (d = 0 ∧ c = i ∧ last < i)) → d < k →
    impl_NestOf.l1 k (st P (fun p => nr x p i ++ (if i ≤ p ∧ p < c then [(i : Int)] else []))) (i : Int) last (c : Int) x (P : Int) (i : Int) = impl_NestOf.l0 (k - d - 1) (st P (fun p => nr x p (i + 1))) x (P : Int) ((i + 1 : Nat) : Int)
  | 0, c, k, hic, h, hk => by
    obtain ⟨k, rfl⟩ : ∃ m, k = m + 1 := ⟨k - 1, by omega⟩
    have hi : i < 9223372036854775807 := by omega
    rw [impl_NestOf.l1, if_neg (by omega), w64s i hi]
    congr 1
    apply st_congr
    intro p hp
    rw [nr, hr]
    congr 1
    by_cases h1 : i ≤ p ∧ p < c
    · rw [if_pos h1, if_pos (by omega)]
    · rw [if_neg h1, if_neg (by omega)]
  | d + 1, c, k, hic, h, hk => by
    obtain ⟨k, rfl⟩ : ∃ m, k = m + 1 := ⟨k - 1, by omega⟩
    have hc : (c : Int) ≤ last := by omega
    have hcP : c < P := by omega
    have hn := nr_len x c i
    rw [impl_NestOf.l1, if_pos hc, if_pos (by omega), st_len, if_pos (by omega), rd_st _ hcP, if_neg (show ¬ (i ≤ c ∧ c < c) by omega), List.append_nil, if_pos (by omega), w64s c (by omega), Int.toNat_natCast, set_st]
    rw [show k + 1 - (d + 1) - 1 = k - d - 1 by omega, ← i_inner P hP x i hiP last hl hr d (c + 1) k (by omega) (by omega) (by omega)]
    · congr 1
      apply st_congr
      intro p hp
      by_cases h1 : p = c
      · subst h1
        rw [if_pos rfl, if_pos (by omega)]
      · rw [if_neg h1]
        congr 1
        by_cases h2 : i ≤ p ∧ p < c
        · rw [if_pos h2, if_pos (by omega)]
        · rw [if_neg h2, if_neg (by omega)]
theorem i_outer (P : Nat) (hP : P ≤ 3000) (x : List Int) (hx : InB P x) (B : Nat) (hB : P + 5 ≤ B) : ∀ (t i k : Nat), i + t = P → t * B + 1 ≤ k → impl_NestOf.l0 k (st P (fun p => nr x p i)) x (P : Int) (i : Int) = some (st P (fun p => nr x p P))
  | 0, i, k, h, hk => by
    obtain ⟨k, rfl⟩ : ∃ m, k = m + 1 := ⟨k - 1, by omega⟩
    obtain rfl : i = P := by omega
    rw [impl_NestOf.l0, if_neg (by omega)]
  | t + 1, i, k, h, hk => by
    rw [Nat.add_mul, Nat.one_mul] at hk
    obtain ⟨k, rfl⟩ : ∃ m, k = m + 1 := ⟨k - 1, by omega⟩
    have hl := hx.1
    have hb := rd_inB hx (i := (i : Int)) (by omega) (by omega)
    have e0 : st P (fun p => nr x p i) = st P (fun p => nr x p i ++ (if i ≤ p ∧ p < i then [(i : Int)] else [])) := st_congr fun p _ => by rw [if_neg (by omega), List.append_nil]
    rw [impl_NestOf.l0, if_pos (by omega), if_pos (by omega), if_pos (by omega), e0]
    by_cases hv : (i : Int) ≤ rd x (i : Int)
    · have := i_inner P hP x i (by omega) (rd x (i : Int)) hb.2 rfl ((rd x (i : Int)).toNat + 1 - i) i k (Nat.le_refl _) (.inl (by omega)) (by omega)
      rw [this]
      exact i_outer P hP x hx B hB t (i + 1) _ (by omega) (by omega)
    · have := i_inner P hP x i (by omega) (rd x (i : Int)) hb.2 rfl 0 i k (Nat.le_refl _) (.inr ⟨rfl, rfl, by omega⟩) (by omega)
      rw [this]
      exact i_outer P hP x hx B hB t (i + 1) _ (by omega) (by omega)
theorem s_row (P : Nat) (hP : P ≤ 3000) (x : List Int) (hx : InB P x) (l : List IEdge) (p : Nat) (hp : p < P) (acc : List (List Int)) (hacc : acc.length ≤ 3000) : ∀ (t : List Int) (i j : Nat) (row : List Int) (k K2 : Nat), x.drop i = t → (headsL x 0).drop j = headsL t i → row.length ≤ j → j ≤ i → i + t.length = P → K2 + 2 * t.length + 2 ≤ k →
    ∃ k', K2 ≤ k' ∧ spec_NestOf.l1 k acc x (headsL x 0) (p : Int) row (j : Int) (P : Int) l = spec_NestOf.l0 k' (acc ++ [row ++ nrFrom t i p]) x (headsL x 0) ((p + 1 : Nat) : Int) (P : Int) l
  | [], i, j, row, k, K2, h, hh, hrow, hji, hit, hk => by
    rw [headsL] at hh
    have h1 := drop_nil hh
    obtain ⟨k, rfl⟩ : ∃ m, k = m + 2 := ⟨k - 2, by omega⟩
    refine ⟨k, by omega, ?_⟩
    rw [spec_NestOf.l1, if_neg (by omega), spec_NestOf.j2, if_neg (by decide), if_pos (by omega), nrFrom, List.append_nil, w64s p (by omega)]
  | v :: t, i, j, row, k, K2, h, hh, hrow, hji, hit, hk => by
    obtain ⟨h1, h2, h3⟩ := drop_cons h
    rw [List.length_cons] at hit hk
    by_cases hv : v ≥ 0
    · rw [headsL, if_pos hv] at hh
      obtain ⟨g1, g2, g3⟩ := drop_cons hh
      obtain ⟨k, rfl⟩ : ∃ m, k = m + 2 := ⟨k - 2, by omega⟩
      have hxl := hx.1
      rw [spec_NestOf.l1, if_pos (by omega), if_pos (by omega), rd_at g2, spec_NestOf.j2]
      by_cases hip : i ≤ p
      · rw [if_pos (decide_eq_true (by omega)), if_pos (by omega), if_pos (by omega), rd_at g2, if_pos (by omega), if_pos (by omega), rd_at h2, w64s j (by omega)]
        by_cases hvp : v ≥ (p : Int)
        · obtain ⟨k', q1, q2⟩ := s_row P hP x hx l p hp acc hacc t (i + 1) (j + 1) (row ++ [(i : Int)]) k K2 h3 g3 (by simp; omega) (by omega) (by omega) (by omega)
          refine ⟨k', q1, ?_⟩
          rw [if_pos hvp, if_pos (by omega), q2, nrFrom, if_pos ⟨hip, hvp⟩, List.append_assoc]
        · obtain ⟨k', q1, q2⟩ := s_row P hP x hx l p hp acc hacc t (i + 1) (j + 1) row k K2 h3 g3 (by omega) (by omega) (by omega) (by omega)
          refine ⟨k', q1, ?_⟩
          rw [if_neg hvp, q2, nrFrom, if_neg (by omega), List.nil_append]
      · refine ⟨k, by omega, ?_⟩
        rw [if_neg (by rw [decide_eq_false (by omega)]; decide), if_pos (by omega), nrFrom_gt _ _ _ (by omega), List.append_nil, w64s p (by omega)]
    · rw [headsL, if_neg hv] at hh
      obtain ⟨k', q1, q2⟩ := s_row P hP x hx l p hp acc hacc t (i + 1) j row k K2 h3 hh hrow (by omega) (by omega) (by omega)
      refine ⟨k', q1, ?_⟩
      rw [q2, nrFrom, if_neg (by omega), List.nil_append]
theorem s_outer (P : Nat) (hP : P ≤ 3000) (x : List Int) (hx : InB P x) (l : List IEdge) (B : Nat) (hB : 2 * P + 5 ≤ B) : ∀ (t p k : Nat), p + t = P → t * B + 1 ≤ k → spec_NestOf.l0 k (st p (fun q => nrFrom x 0 q)) x (headsL x 0) (p : Int) (P : Int) l = some (st P (fun q => nrFrom x 0 q))
  | 0, p, k, h, hk => by
    obtain ⟨k, rfl⟩ : ∃ m, k = m + 1 := ⟨k - 1, by omega⟩
    obtain rfl : p = P := by omega
    rw [spec_NestOf.l0, if_neg (by omega)]
  | t + 1, p, k, h, hk => by
    rw [Nat.add_mul, Nat.one_mul] at hk
    obtain ⟨k, rfl⟩ : ∃ m, k = m + 1 := ⟨k - 1, by omega⟩
    have hxl := hx.1
    obtain ⟨k', q1, q2⟩ := s_row P hP x hx l p (by omega) (st p (fun q => nrFrom x 0 q)) (by rw [st_len]; omega) x 0 0 [] k (t * B + 1) rfl rfl (Nat.le_refl _) (Nat.le_refl _) (by omega) (by omega)
    rw [spec_NestOf.l0, if_pos (by omega)]
    refine Eq.trans q2 ?_
    rw [List.nil_append, ← st_snoc]
    exact s_outer P hP x hx l B hB t (p + 1) k' (by omega) q1
theorem nestOf (a : Int) (l : List IEdge) (hn : l.length ≤ 1048576) : ∃ K r, r.length ≤ 3000 ∧ (∀ y ∈ r, y.length ≤ 3000) ∧ ∀ k, K ≤ k → spec_NestOf.f k a l = some r ∧ impl_NestOf.f k a l = some r := by
  cases hg : graphB a l with
  | false =>
    refine ⟨l.length + 2, [], by simp, by simp, fun k hk => ?_⟩
    rw [spec_NestOf.f, impl_NestOf.f, Option.bind_some, s_graph a l hn k hk, i_graph, hg, Option.bind_some, Option.bind_some, if_neg (by decide), if_neg (by decide)]
    exact ⟨rfl, rfl⟩
  | true =>
    obtain ⟨p, rfl, h1, h2, he⟩ := graph_of hg
    have hx := lastsL_in p l he
    have hl := hx.1
    have e0 : st p (fun q => nrFrom (lastsL p l) 0 q) = st p (fun q => nr (lastsL p l) q p) := st_congr fun q _ => by
      have := nr_from (lastsL p l) q (lastsL p l) 0 rfl (Nat.zero_le _)
      rw [hl] at this
      exact this
    obtain ⟨a1, ha1⟩ : ∃ z, z = p * 6010 := ⟨_, rfl⟩
    obtain ⟨a2, ha2⟩ : ∃ z, z = p * 3010 := ⟨_, rfl⟩
    refine ⟨a1 + a2 + p + p + l.length + 4010, st p (fun q => nr (lastsL p l) q p), by rw [st_len]; exact h2, fun y hy => ?_, fun k hk => ?_⟩
    · obtain ⟨q, _, rfl⟩ := List.mem_map.1 hy
      exact Nat.le_trans (nr_len _ q p) h2
    · have hH : spec_HeadsOf.f k (p : Int) l = some (headsL (lastsL p l) 0) := by
        rw [spec_HeadsOf.f, Option.bind_some, s_graph _ l hn k (by omega), hg, Option.bind_some, if_pos rfl, s_lasts p h2 l hn he k (by omega), Option.bind_some]
        have e1 := s_heads (lastsL p l) (by omega) l (lastsL p l) 0 [] k rfl (by simp) (by omega)
        rw [hl] at e1
        exact e1
      rw [spec_NestOf.f, impl_NestOf.f, Option.bind_some, s_graph _ l hn k (by omega), i_graph, hg, Option.bind_some, Option.bind_some, if_pos rfl, if_pos rfl, s_lasts p h2 l hn he k (by omega), Option.bind_some, hH, Option.bind_some, if_pos (by omega), Int.toNat_natCast, if_pos (by omega), i_lasts p h1 h2 l hn he k (by omega), Option.bind_some]
      have hk1 : p * 6010 + 1 ≤ k := by rw [← ha1]; clear ha1 ha2 e0; omega
      have hk2 : p * 3010 + 1 ≤ k := by rw [← ha2]; clear ha1 ha2 e0; omega
      have e1 := s_outer p h2 (lastsL p l) hx l 6010 (by omega) p 0 k (by omega) hk1
      have e2 := i_outer p h2 (lastsL p l) hx 3010 (by omega) p 0 k (by omega) hk2
      rw [e0] at e1
      refine ⟨e1, ?_⟩
      have e3 : (List.replicate p ([] : List Int)) = st p (fun q => nr (lastsL p l) q 0) := by
        unfold st
        apply List.ext_getElem (by simp)
        intro i q1 q2
        simp [nr]
      rw [e3, hl]
      exact e2
theorem rd_row {l : List (List Int)} {i : Nat} {x : List Int} (h : l[i]? = some x) : rd_L7 l (i : Int) = x := by
  unfold rd_L7; simp [List.getD, h]
theorem eq_rows (l : List (List Int)) (hn : l.length ≤ 3000) (hr : ∀ r ∈ l, r.length ≤ 3000) (k : Nat) (hk : 3001 + l.length < k) : laws_eqIntSS.f k l l = some true := by
  rw [laws_eqIntSS.f, if_pos rfl]
  refine true_all l.length 3001 (fun k i => laws_eqIntSS.l0 k l l i) (fun k i hi hk => ?_) (fun k => ?_) k (by omega)
  · show laws_eqIntSS.l0 (k + 1) l l (i : Int) = _
    have h : l[i]? = some l[i] := List.getElem?_eq_getElem hi
    have hm := hr l[i] (List.getElem_mem hi)
    rw [laws_eqIntSS.l0, if_pos (by omega), if_pos (by omega), if_pos (by omega), rd_row h, eqInts k _ (by omega) (by omega), Option.bind_some, if_pos rfl, w64s i (by omega)]
  · show laws_eqIntSS.l0 (k + 1) l l (l.length : Int) = _
    rw [laws_eqIntSS.l0, if_neg (by omega)]
theorem tot_le (l : List (List Int)) (hr : ∀ r ∈ l, r.length ≤ 3000) : ∀ n, totR (rowsOf l) n ≤ n * 3000
  | 0 => Nat.le_refl _
  | n + 1 => by
    have := tot_le l hr n
    have h : (rowsOf l n).length ≤ 3000 := by
      unfold rowsOf
      by_cases hn : n < l.length
      · rw [show l.getD n [] = l[n] by simp [List.getD, hn]]
        exact hr _ (List.getElem_mem hn)
      · rw [show l.getD n [] = [] by simp [List.getD, List.getElem?_eq_none (show l.length ≤ n by omega)]]
        exact Nat.zero_le _
    rw [totR]; omega
theorem yoursFnExactNestOf : laws_FnExactNestOf.Pure := by
  intro a l ha hl
  obtain ⟨K1, v, q1, q3⟩ := size_graph2 a l hl.1 (fun y hy => sizeE2 y (sized2 y.f4 (hl.2 y hy).2.2.2.2))
  by_cases hv : v < 0
  · refine ⟨K1, ?_⟩
    unfold laws_FnExactNestOf.f
    rw [q1 K1 (Nat.le_refl _), Option.bind_some, if_pos hv]
  · obtain ⟨zs, hz, hs, hc, K2, r1⟩ := q3 (by omega)
    obtain ⟨K3, r2⟩ := eq_graph a zs hz hs
    obtain ⟨K4, r, hr, hy, r3⟩ := nestOf a zs hz
    obtain ⟨p1, p2⟩ := r3 (K1 + K2 + K3 + K4 + 7000) (by omega)
    have ht := tot_le r hy r.length
    refine ⟨K1 + K2 + K3 + K4 + 7000, ?_⟩
    unfold laws_FnExactNestOf.f
    rw [q1 _ (by omega), Option.bind_some, if_neg hv, r1 _ (by omega), Option.bind_some]
    simp only
    rw [p1, Option.bind_some, p2, Option.bind_some]
    rw [if_pos ⟨trivial, eq_rows r hr hy _ (by omega), r2 _ (by omega), hc, by omega, by omega⟩]
end Go.Proofs.Ytmdebfbkehnocaa.Q
