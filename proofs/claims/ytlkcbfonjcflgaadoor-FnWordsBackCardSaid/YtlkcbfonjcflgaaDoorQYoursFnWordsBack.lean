/- The law FnWordsBack holds: words that are written into a text are read back from it, one by one, each where it was written. No conditions. -/
import Derived.Test.YtlkcbfonjcflgaaDoorQPureFnWordsBack
import Derived.Test.YtlkcbfonjcflgaaDoorQTFnWordsBack
import Derived.Test.YtlkcbfonjcflgaaDoorQOpen
import Derived.Test.YtlkcbfonjcflgaaDoorQx44
import Derived.Test.YtlkcbfonjcflgaaDoorQx50
import Derived.Test.YtlkcbfonjcflgaaDoorQx52
import Derived.Test.YtlkcbfonjcflgaaDoorQx59
namespace Go.Proofs.YtlkcbfonjcflgaaDoor.Q
open Go.RowKit Go.Proofs.YtlkcbfonjcflgaaDoorW.PrintWords Go.Proofs.YtlkcbfonjcflgaaDoorW.PrintLast Go.Proofs.YtlkcbfonjcflgaaDoorW.PrintMore
open Go.Proofs.YtlkcbfonjcflgaaDoor.Open
set_option linter.unusedSimpArgs false
set_option linter.unusedVariables false
theorem rel_at : ∀ (l : List Wo) (a i : Nat) (x : Wo), l[i]? = some x → ∃ b, (rel a l)[i]? = some ⟨x.f0, x.f1, b⟩
  | y :: t, a, 0, x, h => by
    simp only [List.getElem?_cons_zero, Option.some.injEq] at h
    subst h
    exact ⟨_, rfl⟩
  | y :: t, a, i + 1, x, h => by
    rw [List.getElem?_cons_succ] at h
    rw [rel, List.getElem?_cons_succ]
    exact rel_at t _ i x h
theorem back_l1 (l : List Wo) (hl : l.length ≤ 10000) : ∀ (d i k : Nat), l.length - i = d → d < k → laws_FnWordsBack.l1 k l (rel 0 l) (i : Int) = some true := by
  intro d
  induction d with
  | zero =>
    intro i k hd hk
    obtain ⟨k, rfl⟩ : ∃ m, k = m + 1 := ⟨k - 1, by omega⟩
    rw [laws_FnWordsBack.l1, if_neg (by omega)]
  | succ d ih =>
    intro i k hd hk
    obtain ⟨k, rfl⟩ : ∃ m, k = m + 1 := ⟨k - 1, by omega⟩
    have hi : i < l.length := by omega
    obtain ⟨b, hb⟩ := rel_at l 0 i l[i] (List.getElem?_eq_getElem hi)
    have hrl := rel_len l 0
    have e1 := rdWw_at (List.getElem?_eq_getElem hi)
    have e2 := rdWw_at hb
    rw [laws_FnWordsBack.l1, if_pos (by omega), if_pos (by omega), if_pos (by omega), e1, e2, if_pos rfl, if_pos rfl, w64s i (by omega)]
    exact ih (i + 1) k (by omega) (by omega)
theorem back_l0 (code : List Int) (l : List Wo) (hl : l.length ≤ 10000) (hs : ∀ x ∈ l, x.f1.size ≤ 1048576) : ∀ (t : List Wo) (i a K : Nat), l.drop i = t → (rel 0 l).drop i = rel a t → a + t.length * 1048577 ≤ 100000000000 →
    laws_FnWordsBack.l0 (K + t.length + 1) code l (rel 0 l) (a : Int) (i : Int) = laws_FnWordsBack.j3 K code := by
  intro t
  induction t with
  | nil =>
    intro i a K hd hr ha
    have := drop_nil hd
    rw [List.length_nil, Nat.add_zero, laws_FnWordsBack.l0, if_neg (by omega)]
  | cons x t ih =>
    intro i a K hd hr ha
    obtain ⟨h1, h2, h3⟩ := drop_cons hd
    rw [rel] at hr
    obtain ⟨g1, g2, g3⟩ := drop_cons hr
    have hx := hs x (List.mem_of_getElem? h2)
    simp only [List.length_cons] at ha ⊢
    have ha' : a + 1048577 + t.length * 1048577 ≤ 100000000000 := by rw [Nat.add_mul] at ha; omega
    have hb : a ≤ 100000000000 := by omega
    have e1 := rdWw_at h2
    have e2 := rdWw_at g2
    rw [show K + (t.length + 1) + 1 = (K + t.length + 1) + 1 by omega, laws_FnWordsBack.l0, if_pos (by omega), if_pos (by omega), if_pos (by omega), e1, e2, if_pos rfl, if_pos rfl, if_pos rfl]
    rw [w64 (n := (a : Int) + (x.f1.size : Int)) (by omega) (by omega), w64 (by omega) (by omega), w64s i (by omega), show ((a : Int) + (x.f1.size : Int) + 1) = ((a + x.f1.size + 1 : Nat) : Int) by omega]
    exact ih (i + 1) (a + x.f1.size + 1) K h3 g3 (by omega)
theorem join_le (l : List Wo) (B : Nat) (hs : ∀ x ∈ l, x.f1.size ≤ B) : (Lib.join (texts l) [32]).length ≤ l.length * (B + 1) := by
  have tl : ∀ t : List Wo, (∀ x ∈ t, x.f1.size ≤ B) → (Lib.joinTail [32] (texts t)).length ≤ t.length * (B + 1) := by
    intro t
    induction t with
    | nil => intro _; exact Nat.zero_le _
    | cons y t ih =>
      intro h
      have e2 : Lib.joinTail [32] (texts (y :: t)) = [32] ++ y.f1.data.toList ++ Lib.joinTail [32] (texts t) := rfl
      have h1 := ih (fun x hx => h x (by simp [hx]))
      have h2 := h y (by simp)
      rw [e2]
      simp only [List.length_append, List.length_cons, List.length_nil]
      rw [← sizeL, Nat.add_mul]
      omega
  cases l with
  | nil => exact Nat.zero_le _
  | cons x t =>
    have ej : Lib.join (texts (x :: t)) [32] = x.f1.data.toList ++ Lib.joinTail [32] (texts t) := Lib.join_cons _ _ _
    have h1 := tl t (fun x hx => hs x (by simp [hx]))
    have h2 := hs x (by simp)
    rw [ej, List.length_append, ← sizeL, List.length_cons, Nat.add_mul]
    omega
theorem texts_both (l : List Wo) (hl : l.length ≤ 1501) (hs : ∀ x ∈ l, x.f1.size ≤ 5000) (k : Nat) (hk : 4000000 ≤ k) : ∃ a b, impl_WordsText.f k l = some a ∧ spec_WordsText.f k l = some b ∧ a.data.toList = wtext l ∧ b.data.toList = wtext l := by
  have hs' : ∀ x ∈ l, x.f1.size ≤ 1048576 := fun x hx => by have := hs x hx; omega
  have hj := join_le l 5000 hs
  have hj2 : l.length * (5000 + 1) ≤ 1501 * (5000 + 1) := Nat.mul_le_mul_right _ hl
  obtain ⟨b, b1, b2⟩ := s_wtext l hs' k (by omega)
  obtain ⟨a, a1, a2⟩ := i_wtext l (by omega) hs' (by omega) k (by omega)
  exact ⟨a, b, a1, b1, a2, b2⟩
theorem lexW_sz (B : Nat) : ∀ (n : Nat) (l : List UInt8) (a : Nat) (out : List Wo), l.length ≤ B → (∀ x ∈ out, x.f1.size ≤ B) → ∀ x ∈ (lexW n l a out).1, x.f1.size ≤ B
  | 0, _, _, _, _, h => h
  | n + 1, l, a, out, hl, h => by
    rw [lexW]
    split
    · exact h
    · split
      · intro x hx; simp at hx
      · split
        · intro x hx; simp at hx
        · refine lexW_sz B n _ _ _ (by simp only [List.length_drop]; omega) ?_
          intro x hx
          rcases List.mem_append.1 hx with q | q
          · exact h x q
          · rw [List.mem_singleton.1 q]
            show (⟨(l.take (wlen l)).toArray⟩ : ByteArray).size ≤ B
            rw [sizeL]
            simp only [mkL, List.length_take]
            omega
theorem wordsL_sz (l : List UInt8) : ∀ x ∈ (wordsL l).1, x.f1.size ≤ l.length := by
  unfold wordsL
  split
  · intro x hx; simp at hx
  · exact lexW_sz l.length _ _ _ _ (by simp only [List.length_drop]; omega) (by simp)
theorem j3_ok {code : List Int} (hb : Bytes code) (hl : code.length ≤ 1048576) (k : Nat) (hk : 5000000 ≤ k) : laws_FnWordsBack.j3 k code = some true := by
  obtain ⟨k, rfl⟩ : ∃ m, k = m + 4 := ⟨k - 4, by omega⟩
  rw [laws_FnWordsBack.j3]
  obtain ⟨t, t1, t2⟩ := drawW_ok hb hl (k + 3) (by omega)
  have hz := sizeL t
  rw [t1, Option.bind_some, i_words t _ (by omega), Option.bind_some, s_words t _ (by omega), Option.bind_some]
  have hn := wordsL_len t.data.toList
  have hsz := wordsL_sz t.data.toList
  generalize wordsL t.data.toList = x at hn hsz
  obtain ⟨l, c, a⟩ := x
  simp only at hn hsz
  simp only
  have e0 : (!(c == c) || (!(a == a))) = false := by simp
  have e1 : ((l.length : Int) != (l.length : Int)) = false := by simp
  rw [e0, if_neg (by simp), e1, laws_FnWordsBack.j4, if_neg (by simp)]
  obtain ⟨p, q, p1, q1, p2, q2⟩ := texts_both l (by omega) (fun x hx => by have := hsz x hx; omega) (k + 2) (by omega)
  rw [p1, Option.bind_some, q1, Option.bind_some, toL, toL, if_pos (p2.trans q2.symm)]
  by_cases h0 : p.data.toList = []
  · rw [if_pos h0]
  · rw [if_neg h0, i_words p _ (by omega), Option.bind_some, p2, words_back l (by rw [← p2]; exact h0)]
    simp only
    have e2 : (((rel 0 l).length : Int) != (l.length : Int)) = false := by rw [rel_len]; simp
    rw [if_pos trivial, e2, laws_FnWordsBack.j5, if_neg (by simp)]
    exact back_l1 l (by omega) l.length 0 _ rfl (by omega)
theorem yoursFnWordsBack : laws_FnWordsBack.Pure := by
  intro c1 c2 h1 h2
  have b1 := bytes_of h1.2
  have b2 := bytes_of h2.2
  refine ⟨10000003, ?_⟩
  unfold laws_FnWordsBack.f laws_big.f
  rw [Option.bind_some]
  have stop : laws_FnWordsBack.j0 10000003 c1 c2 true = some true := by rw [laws_FnWordsBack.j0, if_pos rfl]
  by_cases g1 : (c1.length : Int) > 1048576
  · rw [decide_eq_true g1, if_pos rfl, stop]
  · rw [decide_eq_false g1, if_neg (by simp), Option.bind_some]
    by_cases g2 : (c2.length : Int) > 1048576
    · rw [decide_eq_true g2, stop]
    · rw [decide_eq_false g2, laws_FnWordsBack.j0, if_neg (by simp)]
      obtain ⟨l, l1, l2, l3⟩ := drawWT_ok b1 (by omega) 10000002 (by omega)
      obtain ⟨p, q, p1, q1, p2, q2⟩ := texts_both l l2 (fun x hx => by have := l3 x hx; omega) 10000002 (by omega)
      rw [l1, Option.bind_some, p1, Option.bind_some, q1, Option.bind_some, toL, toL, if_pos (p2.trans q2.symm)]
      by_cases h0 : p.data.toList = []
      · rw [if_pos h0]; exact j3_ok b2 (by omega) _ (by omega)
      · rw [if_neg h0, i_words p _ (by omega), Option.bind_some, p2, words_back l (by rw [← p2]; exact h0)]
        simp only
        have e2 : (((rel 0 l).length : Int) != (l.length : Int)) = false := by rw [rel_len]; simp
        rw [if_pos trivial, e2, laws_FnWordsBack.j1, if_neg (by simp)]
        have := back_l0 c2 l (by omega) (fun x hx => by have := l3 x hx; omega) l 0 0 (10000001 - l.length - 1) rfl rfl (by omega)
        rw [show 10000001 - l.length - 1 + l.length + 1 = 10000001 by omega] at this
        rw [show (0 : Int) = ((0 : Nat) : Int) from rfl, this]
        exact j3_ok b2 (by omega) _ (by omega)
end Go.Proofs.YtlkcbfonjcflgaaDoor.Q
