/- The law FnExactSegDrop holds: the program's SegDrop and the reference's answer alike, at all arguments; the program leaves them as they were, and its answer owns its memory. No conditions. -/
import Derived.Test.YtdmdalapckcobaaDoorQPureFnExactSegDrop
import Derived.Test.YtdmdalapckcobaaDoorQTFnExactSegDrop
import Derived.Test.YtdmdalapckcobaaDoorQOpen
import Derived.Test.YtdmdalapckcobaaDoorQXFnExactSegDrop
import Derived.Test.YtdmdalapckcobaaDoorQx4
namespace Go.Proofs.YtdmdalapckcobaaDoor.Q
open Go.RowKit Go.Proofs.YtdmdalapckcobaaDoorW.PrintWords Go.Proofs.YtdmdalapckcobaaDoorW.PrintLast Go.Proofs.YtdmdalapckcobaaDoorW.PrintMore
open Go.Proofs.YtdmdalapckcobaaDoor.Open
set_option linter.unusedSimpArgs false
set_option linter.unusedVariables false
theorem tot_le {rows : Nat → List ISym} {c : Nat} : ∀ n, (∀ j, j < n → (rows j).length ≤ c) → df_tot rows n ≤ c * n
  | 0, _ => Nat.zero_le _
  | n + 1, h => by
    have h1 := tot_le n (fun j hj => h j (by omega))
    have h2 := h n (Nat.lt_succ_self n)
    rw [df_tot, Nat.mul_add]
    omega
theorem tot_sum (b : List (List LSym)) : ∀ n, df_tot (fun j => (b.map (·.map cSym)).getD j []) n = ((b.take n).map List.length).sum
  | 0 => rfl
  | n + 1 => by
    rw [df_tot, tot_sum b n]
    by_cases h : n < b.length
    · have e : (b.map (·.map cSym)).getD n [] = b[n].map cSym := by simp [List.getD, h]
      rw [e, List.length_map, List.take_succ_eq_append_getElem h, List.map_append, List.sum_append]
      simp
    · have e : (b.map (·.map cSym)).getD n [] = [] := by simp [List.getD, h]
      rw [e, List.take_of_length_le (by omega), List.take_of_length_le (by omega)]
      simp
theorem sz_tot (l : List (List LSym)) (hn : l.length ≤ 1048576) (hr : ∀ r ∈ l, r.length ≤ 9223372036854775807) : ∀ (t : List (List LSym)) (i k : Nat) (left r : Int), l.drop i = t → 0 ≤ left → left ≤ 1048576 → laws_szSymSS.l0 k l left (i : Int) = some r → 0 ≤ r → (((t.map List.length).sum : Nat) : Int) ≤ left - r
  | t, i, 0, left, r, _, _, _, h, _ => by cases h
  | [], i, k + 1, left, r, hd, h0, h1, h, hr0 => by
    have := drop_nil hd
    rw [laws_szSymSS.l0, if_neg (by omega)] at h
    obtain rfl := Option.some.inj h
    simp
  | x :: t, i, k + 1, left, r, hd, h0, h1, h, hr0 => by
    obtain ⟨q1, q2, q3⟩ := drop_cons hd
    have hm := hr x (List.mem_of_getElem? q2)
    have e : wrap64 (left - (x.length : Int)) = left - (x.length : Int) := w64 (by omega) (by omega)
    rw [laws_szSymSS.l0, if_pos (by omega), if_pos (by omega), rd_lrow q2, laws_szSymS.f, e] at h
    by_cases hl : left - (x.length : Int) < 0
    · rw [if_pos hl, Option.bind_some, if_pos (by decide)] at h
      obtain rfl := Option.some.inj h
      omega
    · rw [if_neg hl, Option.bind_some, if_neg hl, w64s i (by omega)] at h
      have := sz_tot l hn hr t (i + 1) k (left - (x.length : Int)) r q3 (by omega) (by omega) h hr0
      rw [List.map_cons, List.sum_cons]
      omega
theorem sz_total (b : List (List LSym)) (v : List LVal) (m : List Bool) (hn : b.length ≤ 1048576) (hr : ∀ r ∈ b, r.length ≤ 9223372036854775807) (hv : v.length ≤ 1048576) (hm : m.length ≤ 1048576) (k : Nat) (r : Int) (h : laws_szSeg.f k b v m 1048576 = some r) (hr0 : 0 ≤ r) : (b.map List.length).sum ≤ 1048576 := by
  have e0 : wrap64 ((1048576 : Int) - (b.length : Int)) = 1048576 - (b.length : Int) := w64 (by omega) (by omega)
  rw [laws_szSeg.f, laws_szSymSS.f, e0] at h
  rw [if_neg (by omega)] at h
  obtain ⟨t, h1, h2⟩ := Option.bind_eq_some_iff.mp h
  by_cases ht : t < 0
  · rw [if_pos ht] at h2
    obtain rfl := Option.some.inj h2
    omega
  · have := sz_tot b hn hr b 0 k (1048576 - (b.length : Int)) t rfl (by omega) (by omega) h1 (by omega)
    omega
theorem yoursFnExactSegDrop : laws_FnExactSegDrop.Pure := by
  intro size l b v m ts _ _ hb hv hm hts
  have hrl : ∀ r ∈ b, r.length ≤ 9223372036854775807 := fun x hx => by have := (hb.2 x hx).1; simp only [maxLen] at this; omega
  obtain ⟨r, q1, q3, q2⟩ := size_seg b v m hb.1 (fun x hx => (hb.2 x hx).1) hv.1 hm.1
  have htl := hts.1
  simp only [maxLen] at htl
  by_cases hr : r < 0
  · refine ⟨1048578, ?_⟩
    unfold laws_FnExactSegDrop.f
    rw [q1 _ (by omega), Option.bind_some, if_pos hr]
  · obtain ⟨h1, h2, h3, h4⟩ := q2 (by omega)
    have htot := sz_total b v m h1 hrl h3 h4 1048578 r (q1 _ (by omega)) (by omega)
    have e : wrap64 (r - (ts.length : Int)) = r - (ts.length : Int) := w64 (by omega) (by omega)
    by_cases hc : r - (ts.length : Int) < 0
    · refine ⟨1048578, ?_⟩
      unfold laws_FnExactSegDrop.f
      rw [q1 _ (by omega), Option.bind_some, if_neg hr, laws_szSymS.f, e, if_pos hc, Option.bind_some, if_pos (by decide)]
    · have hs := smallS b v m h1 h2 h3 h4
      have htn : ts.length ≤ 1048576 := by omega
      have htm : (ts.map cSym).length ≤ 1048576 := by rw [List.length_map]; exact htn
      obtain ⟨K, rb, rv, rm, hsm, h⟩ := segDrop size l _ _ _ (ts.map cSym) hs htm
      obtain ⟨e1, e2⟩ := h (K + 2097200) (by omega)
      have t1 := to_symS ts htn (K + 2097200) (by omega)
      have t2 := to_seg b v m h1 h2 h3 h4 (K + 2097200) (by omega)
      have hx : 2 * df_tot (fun j => (b.map (·.map cSym)).getD j []) (b.map (·.map cSym)).length + 3 * (v.map cVal).length + m.length ≤ 100000000 := by
        rw [tot_sum, List.length_map, List.take_length, List.length_map]
        omega
      have hrb : df_tot (fun j => rb.getD j []) rb.length ≤ 40 * rb.length := tot_le rb.length (fun j hj => by
        have : rb.getD j [] = rb[j] := by simp [List.getD, hj]
        simp only [this]
        exact hsm.2.1 _ (List.getElem_mem hj))
      refine ⟨K + 2097200, ?_⟩
      unfold laws_FnExactSegDrop.f
      rw [q1 _ (by omega), Option.bind_some, if_neg hr, laws_szSymS.f, e, if_neg hc, Option.bind_some, if_neg hc, t2, Option.bind_some, t1, Option.bind_some]
      simp only
      rw [e1, Option.bind_some, e2, Option.bind_some]
      simp only
      have hg : SmallS rb rv rm := ⟨by omega, fun x hx => by have := hsm.2.1 x hx; omega, by omega, by omega⟩
      rw [if_pos ⟨⟨eq_seg hg _ (by omega), eq_seg hs _ (by omega), eq_symS _ htm _ (by omega)⟩, ⟨hx, by rw [List.length_map]; omega, by omega⟩, ⟨by omega, by omega⟩, by omega⟩]
end Go.Proofs.YtdmdalapckcobaaDoor.Q
