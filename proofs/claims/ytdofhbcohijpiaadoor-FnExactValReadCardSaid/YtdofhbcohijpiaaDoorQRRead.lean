/- Ranges read from their texts: both read just the texts of ranges. -/
import Derived.Test.YtdofhbcohijpiaaDoorQSInt
import Derived.Test.YtdofhbcohijpiaaDoorQRText
import Derived.Test.YtdofhbcohijpiaaDoorQOpen
import Derived.Test.YtdofhbcohijpiaaDoorQx13
import Derived.Test.YtdofhbcohijpiaaDoorQx14
import Derived.Test.YtdofhbcohijpiaaDoorQx16
import Derived.Test.YtdofhbcohijpiaaDoorQx17
namespace Go.Proofs.YtdofhbcohijpiaaDoor.Q
open Go.RowKit Go.Proofs.YtdofhbcohijpiaaDoorW.PrintWords Go.Proofs.YtdofhbcohijpiaaDoorW.PrintLast Go.Proofs.YtdofhbcohijpiaaDoorW.PrintMore
open Go.Proofs.YtdofhbcohijpiaaDoor.Open
set_option linter.unusedSimpArgs false
set_option linter.unusedVariables false
theorem itoa_len8 (n : Int) (h1 : -1000000 ≤ n) (h2 : n ≤ 1000000) : (Lib.itoa n).length ≤ 8 := by
  rcases int_cases n with ⟨u, rfl⟩ | ⟨u, hu, rfl⟩
  · rw [itoa_pos]; have := dec_len10 6 u (by omega); omega
  · rw [itoa_neg' u hu]; have := dec_len10 6 u (by omega); simp; omega
theorem itoa_ne (n : Int) : Lib.itoa n ≠ [] := by
  rcases int_cases n with ⟨u, rfl⟩ | ⟨u, hu, rfl⟩
  · rw [itoa_pos]; exact dec_ne u
  · rw [itoa_neg' u hu]; simp
theorem itoa_chars (n : Int) : ∀ c ∈ Lib.itoa n, c = 45 ∨ isDig c := by
  rcases int_cases n with ⟨u, rfl⟩ | ⟨u, hu, rfl⟩
  · rw [itoa_pos]; exact fun c hc => .inr (dec_digs u c hc)
  · rw [itoa_neg' u hu]
    intro c hc
    rcases List.mem_cons.1 hc with h | h
    · exact .inl h
    · exact .inr (dec_digs u c h)
theorem itoa_dot (n : Int) : (46 : UInt8) ∉ Lib.itoa n := by
  intro h
  rcases itoa_chars n 46 h with h | h
  · cases h
  · unfold isDig at h; simp at h
theorem numOf_itoa (n : Int) (h1 : -1000000 ≤ n) (h2 : n ≤ 1000000) : numOf (Lib.itoa n) = (n, true) := by
  unfold numOf; rw [atoi_itoa n h1 h2]; simp
theorem numOf_true {l : List UInt8} (h : (numOf l).2 = true) : l = Lib.itoa (numOf l).1 := by
  unfold numOf at h ⊢
  cases e : Lib.atoiAll l with
  | ok v => rw [e] at h; simpa using (beq_iff_eq.1 h).symm
  | «syntax» => rw [e] at h; simp at h
  | range => rw [e] at h; simp at h
theorem dot_cut : ∀ {x x' y y' : List UInt8}, (46 : UInt8) ∉ x → (46 : UInt8) ∉ x' → x ++ 46 :: y = x' ++ 46 :: y' → x = x' ∧ y = y'
  | [], [], y, y', _, _, h => ⟨rfl, (List.cons.inj h).2⟩
  | [], c :: x', y, y', _, h2, h => absurd (by rw [(List.cons.inj h).1]; exact List.mem_cons_self) h2
  | c :: x, [], y, y', h1, _, h => absurd (by rw [← (List.cons.inj h).1]; exact List.mem_cons_self) h1
  | c :: x, d :: x', y, y', h1, h2, h => by
    obtain ⟨e1, e2⟩ := List.cons.inj h
    obtain ⟨e3, e4⟩ := dot_cut (fun q => h1 (List.mem_cons_of_mem _ q)) (fun q => h2 (List.mem_cons_of_mem _ q)) e2
    exact ⟨by rw [e1, e3], e4⟩
/-- The list is the text of a range that has numbers. -/
def RT (l : List UInt8) (a b : Int) : Prop := -1000000 ≤ a ∧ a ≤ b ∧ b ≤ 1000000 ∧ l = Lib.itoa a ++ 46 :: 46 :: Lib.itoa b
theorem RT_inj {l : List UInt8} {a b c d : Int} (h : RT l a b) (h' : RT l c d) : a = c ∧ b = d := by
  obtain ⟨e1, e2⟩ := dot_cut (itoa_dot a) (itoa_dot c) (h.2.2.2.symm.trans h'.2.2.2)
  exact ⟨itoa_inj e1, itoa_inj (List.cons.inj e2).2⟩
abbrev noneL : List UInt8 := [110, 111, 110, 101]
open Classical in
noncomputable def rread (l : List UInt8) : Int × Int × Bool := if l = noneL then (1, 0, true) else if h : ∃ p : Int × Int, RT l p.1 p.2 then (h.choose.1, h.choose.2, true) else (0, 0, false)
theorem rread_RT {l : List UInt8} {a b : Int} (hn : l ≠ noneL) (h : RT l a b) : rread l = (a, b, true) := by
  have hx : ∃ p : Int × Int, RT l p.1 p.2 := ⟨(a, b), h⟩
  unfold rread
  rw [if_neg hn, dif_pos hx]
  obtain ⟨e1, e2⟩ := RT_inj hx.choose_spec h
  rw [e1, e2]
theorem rread_no {l : List UInt8} (hn : l ≠ noneL) (h : ∀ a b, ¬ RT l a b) : rread l = (0, 0, false) := by
  unfold rread
  rw [if_neg hn, dif_neg]
  rintro ⟨p, hp⟩
  exact h _ _ hp
theorem rread_none : rread noneL = (1, 0, true) := by unfold rread; rw [if_pos rfl]
def occ (l : List UInt8) (i : Nat) : Prop := (l.drop i).take 2 = [46, 46]
theorem occ_split {l : List UInt8} {i : Nat} (h : occ l i) : l = l.take i ++ 46 :: 46 :: l.drop (i + 2) ∧ l[i]? = some 46 := by
  unfold occ at h
  have e : l.drop i = 46 :: 46 :: l.drop (i + 2) := by
    have := (List.take_append_drop 2 (l.drop i)).symm
    rw [h, List.drop_drop] at this
    exact this
  refine ⟨?_, ?_⟩
  · rw [← e, List.take_append_drop]
  · have := congrArg (fun z => z[0]?) e
    simpa using this
theorem RT_occ {l : List UInt8} {a b : Int} (h : RT l a b) : occ l (Lib.itoa a).length ∧ (Lib.itoa a).length + 3 ≤ l.length ∧ (Lib.itoa a).length ≤ 8 := by
  obtain ⟨h1, h2, h3, rfl⟩ := h
  have hb := List.length_pos_iff.2 (itoa_ne b)
  refine ⟨by unfold occ; simp, by simp; omega, itoa_len8 a h1 (by omega)⟩
theorem RT_at {l : List UInt8} {a b : Int} {i : Nat} (h : RT l a b) (ho : occ l i) (hf : ∀ j, j < i → ¬ occ l j) : i = (Lib.itoa a).length := by
  obtain ⟨o1, _, _⟩ := RT_occ h
  rcases Nat.lt_trichotomy i (Lib.itoa a).length with hlt | he | hgt
  · have := (occ_split ho).2
    rw [h.2.2.2, List.getElem?_append_left hlt] at this
    exact absurd (List.mem_of_getElem? this) (itoa_dot a)
  · exact he
  · exact absurd o1 (hf _ hgt)
theorem s_rread_loop (s : ByteArray) (hs : s.size ≤ 1048576) (hn : s.data.toList ≠ noneL) : ∀ (d i k : Nat), 12 - i = d → i ≤ 12 → (∀ j, j < i → ¬ occ s.data.toList j) → 2 * d + 25 ≤ k →
    spec_RangeRead.l0 k s (i : Int) = some (rread s.data.toList) := by
  intro d
  induction d using Nat.strongRecOn with
  | _ d ih =>
    intro i k hd hi hf hk
    obtain ⟨k, rfl⟩ : ∃ m, k = m + 2 := ⟨k - 2, by omega⟩
    rw [spec_RangeRead.l0, w64s i (by omega)]
    have hz := sizeL s
    by_cases h1 : i + 1 < s.size
    · rw [if_pos (by omega), spec_RangeRead.j1]
      by_cases h12 : i < 12
      · rw [if_pos (by simp; omega), if_pos (by omega), w64 (n := (i : Int) + 2) (by omega) (by omega), if_pos (by omega), if_pos (by omega), toL, extL]
        rw [show (((i : Int) + 2).toNat - (i : Int).toNat) = 2 by omega, show (i : Int).toNat = i by omega, show ((i : Int) + 2).toNat = i + 2 by omega]
        by_cases ho : occ s.data.toList i
        · rw [if_pos (show List.take 2 (List.drop i s.data.toList) = [46, 46] from ho), if_pos (by omega), s_int _ 1000000 (by omega) (by omega) k (by omega), ext_head]
          simp only [Option.bind_some]
          rw [if_pos (by omega), s_int _ 1000000 (by omega) (by omega) k (by omega), ext_all]
          simp only [Option.bind_some]
          have key : ∀ a b, RT s.data.toList a b → intOf 1000000 (s.data.toList.take i) = (a, true) ∧ intOf 1000000 (s.data.toList.drop (i + 2)) = (b, true) := by
            intro a b h
            have hia := RT_at h ho hf
            obtain ⟨g1, g2, g3, g4⟩ := h
            have e1 : s.data.toList.take i = Lib.itoa a := by rw [g4, hia]; simp
            have e2 : s.data.toList.drop (i + 2) = Lib.itoa b := by rw [g4, hia, ← List.drop_drop]; simp
            rw [e1, e2]
            exact ⟨intOf_num (by omega) (by omega), intOf_num (by omega) (by omega)⟩
          rcases intOf_cases 1000000 (s.data.toList.take i) with ⟨a, a1, a2, a3, a4⟩ | ⟨a1, a2⟩
          · rw [a4]
            simp only [if_true]
            rcases intOf_cases 1000000 (s.data.toList.drop (i + 2)) with ⟨b, b1, b2, b3, b4⟩ | ⟨b1, b2⟩
            · rw [b4]
              simp only [if_true]
              by_cases hab : a ≤ b
              · rw [if_pos hab, rread_RT hn (a := a) (b := b) ⟨by omega, hab, by omega, by rw [← a3, ← b3]; exact (occ_split ho).1⟩]
              · rw [if_neg hab, rread_no hn]
                intro a' b' h
                obtain ⟨q1, q2⟩ := key a' b' h
                rw [a4] at q1; rw [b4] at q2
                have := h.2.1
                simp only [Prod.mk.injEq, and_true] at q1 q2
                omega
            · rw [b2]
              simp only [Bool.false_eq_true, if_false]
              rw [rread_no hn]
              intro a' b' h
              have := (key a' b' h).2
              rw [b2] at this; simp at this
          · rw [a2]
            simp only [Bool.false_eq_true, if_false]
            rw [rread_no hn]
            intro a' b' h
            have := (key a' b' h).1
            rw [a2] at this; simp at this
        · rw [if_neg (show ¬ List.take 2 (List.drop i s.data.toList) = [46, 46] from ho), w64s i (by omega)]
          refine ih (12 - (i + 1)) (by omega) (i + 1) k rfl (by omega) ?_ (by omega)
          intro j hj
          rcases Nat.lt_or_ge j i with h | h
          · exact hf j h
          · rw [show j = i by omega]; exact ho
      · rw [if_neg (by simp; omega), rread_no hn]
        intro a b h
        obtain ⟨o1, _, o3⟩ := RT_occ h
        exact hf _ (by omega) o1
    · rw [if_neg (by omega), spec_RangeRead.j1, if_neg (by simp), rread_no hn]
      intro a b h
      obtain ⟨o1, o2, _⟩ := RT_occ h
      exact hf _ (by omega) o1
theorem s_rread (s : ByteArray) (hs : s.size ≤ 1048576) (k : Nat) (hk : 60 ≤ k) : spec_RangeRead.f k s = some (rread s.data.toList) := by
  unfold spec_RangeRead.f
  rw [toL]
  by_cases h : s.data.toList = noneL
  · rw [if_pos h, h, rread_none]; rfl
  · rw [if_neg h]
    exact s_rread_loop s hs h 12 0 k rfl (by omega) (fun j hj => by omega) (by omega)
theorem cut_len (l sep : List UInt8) : (Lib.cut l sep).1.length ≤ l.length ∧ (Lib.cut l sep).2.1.length ≤ l.length := by
  unfold Lib.cut
  split
  · refine ⟨?_, ?_⟩
    · simp only [List.length_take]; omega
    · simp only [List.length_drop]; omega
  · exact ⟨Nat.le_refl _, Nat.zero_le _⟩
theorem cut_RT {l : List UInt8} {a b : Int} (h : RT l a b) : Lib.cut l [46, 46] = (Lib.itoa a, Lib.itoa b, true) := by
  have h' := h
  obtain ⟨h1, h2, h3, h4⟩ := h
  have hi : Lib.index l [46, 46] = ((Lib.itoa a).length : Nat) := by
    refine Lib.index_first (by rw [h4]; simp) ?_ ?_
    · rw [h4]; unfold Lib.occAt; simp
    · intro j hj
      cases e : Lib.occAt l [46, 46] j with
      | false => rfl
      | true =>
        have := Lib.occAt_head (c := 46) (t := [46]) rfl e
        rw [h4, List.getElem?_append_left hj] at this
        exact absurd (List.mem_of_getElem? this) (itoa_dot a)
  unfold Lib.cut
  rw [hi, if_pos (by omega), h4]
  simp
theorem rtext_RT {a b : Int} {l : List UInt8} (h : RT l a b) : (rtext a b).toList = l := by
  obtain ⟨h1, h2, h3, h4⟩ := h
  unfold rtext
  rw [if_pos ((okR_iff a b).2 (.inr ⟨by omega, by omega, h2⟩)), if_neg (by simp; omega), toL, app_mk', app_mk', h4]
  simp
theorem rtext_back {a b : Int} {l : List UInt8} (hn : l ≠ noneL) (h0 : l ≠ []) (h : (rtext a b).toList = l) : RT l a b := by
  unfold rtext at h
  by_cases hok : okR a b = true
  · rw [if_pos hok] at h
    by_cases h10 : (a == 1 && b == 0) = true
    · rw [if_pos h10, toL] at h
      exact absurd h.symm hn
    · rw [if_neg h10, toL, app_mk', app_mk'] at h
      rcases (okR_iff a b).1 hok with ⟨rfl, rfl⟩ | ⟨p1, p2, p3⟩
      · simp at h10
      · exact ⟨by omega, p3, by omega, by rw [← h]; simp⟩
  · rw [if_neg hok, toL] at h
    exact absurd h.symm h0
theorem i_rread (s : ByteArray) (hs : s.size ≤ 1048576) : impl_RangeRead.f s = some (rread s.data.toList) := by
  have hz := sizeL s
  unfold impl_RangeRead.f
  rw [toL]
  by_cases h : s.data.toList = noneL
  · rw [if_pos h, h, rread_none]
  · rw [if_neg h]
    unfold strings_Cut.f
    rw [if_pos (by omega)]
    simp only [Option.bind_some]
    obtain ⟨l1, l2⟩ := cut_len s.data.toList [46, 46]
    unfold impl_readNum.f
    rw [if_pos (by rw [sizeL]; simp only [mkL]; exact Nat.le_trans l1 (by omega)), if_pos (by rw [sizeL]; simp only [mkL]; exact Nat.le_trans l2 (by omega))]
    simp only [Option.bind_some, mkL]
    by_cases hx : ∃ p : Int × Int, RT s.data.toList p.1 p.2
    · obtain ⟨⟨a, b⟩, hr⟩ := hx
      rw [cut_RT hr, rread_RT h hr]
      have hr' := hr
      obtain ⟨r1, r2, r3, r4⟩ := hr
      simp only at r1 r2 r3
      rw [numOf_itoa a r1 (by omega), numOf_itoa b (by omega) r3]
      simp only [if_true, i_rtext, Option.bind_some]
      rw [if_pos (rtext_RT hr')]
    · rw [rread_no h (fun a b hr => hx ⟨(a, b), hr⟩)]
      cases e1 : (numOf (Lib.cut s.data.toList [46, 46]).1).2 with
      | false => simp
      | true =>
        cases e2 : (numOf (Lib.cut s.data.toList [46, 46]).2.1).2 with
        | false => simp
        | true =>
          simp only [if_true, i_rtext, Option.bind_some]
          rw [if_neg]
          intro ht
          have h0 : s.data.toList ≠ [] := by
            intro h0
            rw [h0] at e1
            exact absurd e1 (by decide)
          exact hx ⟨(_, _), rtext_back h h0 ht⟩
end Go.Proofs.YtdofhbcohijpiaaDoor.Q
