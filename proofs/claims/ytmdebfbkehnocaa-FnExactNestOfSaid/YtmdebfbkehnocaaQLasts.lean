/- The last point of each head of a graph: both find the same. -/
import Derived.Test.YtmdebfbkehnocaaQGOk
import Derived.Test.YtmdebfbkehnocaaQOpen
import Derived.Test.YtmdebfbkehnocaaQx10
import Derived.Test.YtmdebfbkehnocaaQx4
import Derived.Test.YtmdebfbkehnocaaQx9
namespace Go.Proofs.Ytmdebfbkehnocaa.Q
open Go.RowKit Go.Proofs.YtmdebfbkehnocaaW.PrintWords Go.Proofs.YtmdebfbkehnocaaW.PrintLast Go.Proofs.YtmdebfbkehnocaaW.PrintMore
open Go.Proofs.Ytmdebfbkehnocaa.Open
set_option linter.unusedSimpArgs false
set_option linter.unusedVariables false
theorem rd_mem {x : List Int} {i : Nat} (h : i < x.length) : rd x (i : Int) = x[i] := by
  unfold rd; simp [List.getD, List.getElem?_eq_getElem h]
theorem rd_self {x : List Int} {i : Int} (h0 : 0 ≤ i) (h : i < x.length) : x.set i.toNat (rd x i) = x := by
  obtain ⟨n, rfl⟩ := Int.eq_ofNat_of_zero_le h0
  rw [Int.toNat_natCast, rd_mem (by omega : n < x.length)]
  exact List.set_getElem_self (by omega)
theorem edge_of {p : Nat} (h1 : 1 ≤ p) (h2 : p ≤ 3000) {e : IEdge} (h : edgeB (p : Int) e = true) : (0 ≤ e.f0 ∧ e.f0 < p) ∧ (0 ≤ e.f1 ∧ e.f1 < p) := by
  unfold edgeB at h
  rw [w64 (by omega) (by omega)] at h
  simp only [Bool.and_eq_true, decide_eq_true_eq] at h
  omega
def stepL (x : List Int) (e : IEdge) : List Int := if e.f0 ≥ e.f1 then x.set e.f1.toNat (mx (rd x e.f1) e.f0) else x
def lastsL (p : Nat) (l : List IEdge) : List Int := l.foldl stepL (List.replicate p (-1))
def InB (p : Nat) (x : List Int) : Prop := x.length = p ∧ ∀ v ∈ x, -1 ≤ v ∧ v < p
theorem rd_inB {p : Nat} {x : List Int} (h : InB p x) {i : Int} (h0 : 0 ≤ i) (h1 : i < p) : -1 ≤ rd x i ∧ rd x i < p := by
  obtain ⟨n, rfl⟩ := Int.eq_ofNat_of_zero_le h0
  have hl := h.1
  have hn : n < x.length := by omega
  rw [rd_mem hn]
  exact h.2 _ (List.getElem_mem hn)
theorem stepL_in {p : Nat} {x : List Int} {e : IEdge} (h : InB p x) (he : (0 ≤ e.f0 ∧ e.f0 < p) ∧ (0 ≤ e.f1 ∧ e.f1 < p)) : InB p (stepL x e) := by
  unfold stepL
  split
  · refine ⟨by rw [List.length_set]; exact h.1, fun v hv => ?_⟩
    rcases List.mem_or_eq_of_mem_set hv with hv | rfl
    · exact h.2 v hv
    · have := rd_inB h he.2.1 he.2.2
      unfold mx; split <;> omega
  · exact h
theorem lasts_in (p : Nat) : ∀ (t : List IEdge) (x : List Int), InB p x → (∀ e ∈ t, (0 ≤ e.f0 ∧ e.f0 < p) ∧ (0 ≤ e.f1 ∧ e.f1 < p)) → InB p (t.foldl stepL x)
  | [], _, h, _ => h
  | e :: t, x, h, he => lasts_in p t (stepL x e) (stepL_in h (he e (by simp))) (fun y hy => he y (by simp [hy]))
theorem lastsL_in (p : Nat) (l : List IEdge) (he : ∀ e ∈ l, (0 ≤ e.f0 ∧ e.f0 < p) ∧ (0 ≤ e.f1 ∧ e.f1 < p)) : InB p (lastsL p l) := by
  refine lasts_in p l _ ⟨by simp, fun v hv => ?_⟩ he
  rw [List.eq_of_mem_replicate hv]; omega
theorem s_lasts_l1 (p : Nat) (l : List IEdge) (hn : l.length ≤ 1048576) : ∀ (t : List IEdge) (i : Nat) (x : List Int) (k : Nat), l.drop i = t → InB p x → (∀ e ∈ t, (0 ≤ e.f0 ∧ e.f0 < p) ∧ (0 ≤ e.f1 ∧ e.f1 < p)) → t.length < k →
    spec_l04Lasts.l1 k x (i : Int) (p : Int) l = some (t.foldl stepL x)
  | [], i, x, k, h, _, _, hk => by
    have h2 := drop_nil h
    obtain ⟨k, rfl⟩ : ∃ m, k = m + 1 := ⟨k - 1, by simp at hk; omega⟩
    rw [spec_l04Lasts.l1, if_neg (by omega)]; rfl
  | e :: t, i, x, k, h, hx, he, hk => by
    obtain ⟨h2, h3, h4⟩ := drop_consIE h
    obtain ⟨k, rfl⟩ : ∃ m, k = m + 1 := ⟨k - 1, by simp at hk; omega⟩
    have hk' : t.length < k := by simp at hk; omega
    have hb := he e (by simp)
    have hl := hx.1
    have ih := fun y hy => s_lasts_l1 p l hn t (i + 1) y k h4 hy (fun z hz => he z (by simp [hz])) hk'
    rw [spec_l04Lasts.l1, if_pos (by omega), if_pos (by omega), rd_ie h3, w64s i (by omega), List.foldl_cons]
    have hst := stepL_in hx hb
    unfold stepL at hst ⊢
    by_cases hg : e.f0 ≥ e.f1
    · rw [if_pos hg] at hst ⊢
      rw [if_pos hg, if_pos hb.2.1, if_pos (by omega)]
      by_cases hm : e.f0 > rd x e.f1
      · have em : mx (rd x e.f1) e.f0 = e.f0 := by unfold mx; rw [if_pos (by omega)]
        rw [if_pos hm]
        rw [em] at hst ⊢
        exact ih _ hst
      · have em : mx (rd x e.f1) e.f0 = rd x e.f1 := by unfold mx; rw [if_neg (by omega)]
        rw [if_neg hm, em, rd_self hb.2.1 (by omega)]
        exact ih _ hx
    · rw [if_neg hg] at hst ⊢
      rw [if_neg hg]
      exact ih _ hx
theorem s_lasts_l0 (p : Nat) (hp : p ≤ 3000) (l : List IEdge) : ∀ (d i : Nat) (x : List Int) (k : Nat), i + d = p → x.length = p → x.take i = List.replicate i (-1) → d < k →
    spec_l04Lasts.l0 k x (i : Int) (p : Int) l = spec_l04Lasts.l1 (k - d - 1) (List.replicate p (-1)) 0 (p : Int) l
  | 0, i, x, k, h, hx, ht, hk => by
    obtain ⟨k, rfl⟩ : ∃ m, k = m + 1 := ⟨k - 1, by omega⟩
    rw [spec_l04Lasts.l0, if_neg (by omega)]
    obtain rfl : i = p := by omega
    rw [List.take_of_length_le (by omega)] at ht
    rw [ht]; rfl
  | d + 1, i, x, k, h, hx, ht, hk => by
    obtain ⟨k, rfl⟩ : ∃ m, k = m + 1 := ⟨k - 1, by omega⟩
    rw [spec_l04Lasts.l0, if_pos (by omega), if_pos (by omega), if_pos (by omega), w64s i (by omega), Int.toNat_natCast]
    rw [s_lasts_l0 p hp l d (i + 1) _ k (by omega) (by rw [List.length_set]; exact hx) ?_ (by omega)]
    · congr 1; omega
    · rw [List.take_add_one, List.take_set_of_le (Nat.le_refl i), ht, List.getElem?_set_self (by omega), List.replicate_succ']
      rfl
theorem s_lasts (p : Nat) (hp : p ≤ 3000) (l : List IEdge) (hn : l.length ≤ 1048576) (he : ∀ e ∈ l, (0 ≤ e.f0 ∧ e.f0 < p) ∧ (0 ≤ e.f1 ∧ e.f1 < p)) (k : Nat) (hk : p + l.length + 2 ≤ k) : spec_l04Lasts.f k (p : Int) l = some (lastsL p l) := by
  rw [spec_l04Lasts.f, if_pos (by omega), Int.toNat_natCast, if_pos (by omega)]
  have e := s_lasts_l0 p hp l p 0 (List.replicate p 0) k (by omega) (by simp) (by simp) (by omega)
  refine e.trans ?_
  exact s_lasts_l1 p l hn l 0 _ _ rfl ⟨by simp, fun v hv => by rw [List.eq_of_mem_replicate hv]; omega⟩ he (by omega)
theorem i_lasts_l0 (p : Nat) (l : List IEdge) (hn : l.length ≤ 1048576) : ∀ (t : List IEdge) (i : Nat) (x : List Int) (k : Nat), l.drop i = t → InB p x → (∀ e ∈ t, (0 ≤ e.f0 ∧ e.f0 < p) ∧ (0 ≤ e.f1 ∧ e.f1 < p)) → t.length < k →
    impl_Graph_lasts.l0 k x l (l.length : Int) (i : Int) = some (t.foldl stepL x)
  | [], i, x, k, h, _, _, hk => by
    have h2 := drop_nil h
    obtain ⟨k, rfl⟩ : ∃ m, k = m + 1 := ⟨k - 1, by simp at hk; omega⟩
    rw [impl_Graph_lasts.l0, if_neg (by omega)]; rfl
  | e :: t, i, x, k, h, hx, he, hk => by
    obtain ⟨h2, h3, h4⟩ := drop_consIE h
    obtain ⟨k, rfl⟩ : ∃ m, k = m + 1 := ⟨k - 1, by simp at hk; omega⟩
    have hk' : t.length < k := by simp at hk; omega
    have hb := he e (by simp)
    have hl := hx.1
    have ih := fun y hy => i_lasts_l0 p l hn t (i + 1) y k h4 hy (fun z hz => he z (by simp [hz])) hk'
    rw [impl_Graph_lasts.l0, if_pos (by omega), if_pos (by omega), if_pos (by omega), rd_ie h3, w64s i (by omega), List.foldl_cons]
    have hst := stepL_in hx hb
    unfold stepL at hst ⊢
    by_cases hg : e.f0 ≥ e.f1
    · rw [if_pos hg] at hst ⊢
      rw [if_pos hg, if_pos hb.2.1, if_pos (by omega)]
      exact ih _ hst
    · rw [if_neg hg] at hst ⊢
      rw [if_neg hg]
      exact ih _ hx
theorem i_lasts (p : Nat) (h1 : 1 ≤ p) (hp : p ≤ 3000) (l : List IEdge) (hn : l.length ≤ 1048576) (he : ∀ e ∈ l, (0 ≤ e.f0 ∧ e.f0 < p) ∧ (0 ≤ e.f1 ∧ e.f1 < p)) (k : Nat) (hk : l.length + 2 ≤ k) : impl_Graph_lasts.f k (p : Int) l = some (lastsL p l) := by
  have e : slices_Repeat_int_int.f [(-1)] (p : Int) = some (List.replicate p (-1)) := by
    unfold slices_Repeat_int_int.f
    rw [if_pos ⟨rfl, by omega, by omega⟩]; rfl
  rw [impl_Graph_lasts.f, e, Option.bind_some]
  exact i_lasts_l0 p l hn l 0 _ _ rfl ⟨by simp, fun v hv => by rw [List.eq_of_mem_replicate hv]; omega⟩ he (by omega)
theorem graph_of {a : Int} {l : List IEdge} (h : graphB a l = true) : ∃ p : Nat, a = (p : Int) ∧ 1 ≤ p ∧ p ≤ 3000 ∧ ∀ e ∈ l, (0 ≤ e.f0 ∧ e.f0 < p) ∧ (0 ≤ e.f1 ∧ e.f1 < p) := by
  unfold graphB at h
  simp only [Bool.and_eq_true, decide_eq_true_eq] at h
  obtain ⟨⟨⟨h1, h2⟩, h3⟩, h4⟩ := h
  refine ⟨a.toNat, by omega, by omega, by omega, fun e he => ?_⟩
  have := List.all_eq_true.1 h4 e he
  rw [show a = ((a.toNat : Nat) : Int) by omega] at this
  exact edge_of (by omega) (by omega) this
end Go.Proofs.Ytmdebfbkehnocaa.Q
