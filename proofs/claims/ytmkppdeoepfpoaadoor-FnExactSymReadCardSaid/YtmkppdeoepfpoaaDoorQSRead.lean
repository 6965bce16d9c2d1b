/- A symbol and a number read from their text: both read alike. -/
import Derived.Test.YtmkppdeoepfpoaaDoorQSymT
import Derived.Test.YtmkppdeoepfpoaaDoorQOpen
import Derived.Test.YtmkppdeoepfpoaaDoorQx1
import Derived.Test.YtmkppdeoepfpoaaDoorQx11
import Derived.Test.YtmkppdeoepfpoaaDoorQx12
import Derived.Test.YtmkppdeoepfpoaaDoorQx13
import Derived.Test.YtmkppdeoepfpoaaDoorQx14
import Derived.Test.YtmkppdeoepfpoaaDoorQx6
namespace Go.Proofs.YtmkppdeoepfpoaaDoor.Q
open Go.RowKit Go.Proofs.YtmkppdeoepfpoaaDoorW.PrintWords Go.Proofs.YtmkppdeoepfpoaaDoorW.PrintLast Go.Proofs.YtmkppdeoepfpoaaDoorW.PrintMore
open Go.Proofs.YtmkppdeoepfpoaaDoor.Open
set_option linter.unusedSimpArgs false
set_option linter.unusedVariables false
def offL (c : Int) : List UInt8 := if c > 0 then [32, 43, 32] ++ Lib.itoa c else if c < 0 then [32, 45, 32] ++ Lib.itoa (-c) else []
theorem symT_list (v : Nat) (c : Int) (l : List ByteArray) (hv : v ≠ 0) : (symT (v : Int) c l).data.toList = (nm l (v : Int)).data.toList ++ offL c := by
  unfold symT offL
  rw [if_neg (by omega)]
  by_cases h1 : c > 0
  · rw [if_pos h1, if_pos h1, app_mk', app_mk', List.append_assoc]
  · rw [if_neg h1, if_neg h1]
    by_cases h2 : c < 0
    · rw [if_pos h2, if_pos h2, app_mk', app_mk', List.append_assoc]
    · rw [if_neg h2, if_neg h2, List.append_nil]
theorem symT_zero (c : Int) (l : List ByteArray) : (symT ((0 : Nat) : Int) c l).data.toList = Lib.itoa c := by
  unfold symT; rw [if_pos (by omega)]
theorem offL_inj {c d : Int} (h : offL c = offL d) : c = d := by
  unfold offL at h
  repeat' split at h
  all_goals first
    | (simp only [List.cons_append, List.nil_append, List.cons.injEq, true_and] at h; have := itoa_inj h; omega)
    | (simp at h; done)
    | omega
structure Good (l : List ByteArray) (t : List UInt8) (v : Nat) (c : Int) : Prop where
  lab : labels l = true
  ok : okSy (l.length + 1) (v : Int) c = true
  is : (symT (v : Int) c l).data.toList = t
  some : t ≠ []
theorem good_of {l : List ByteArray} {t : List UInt8} {v : Nat} {c : Int} (h : (symtext (v : Int) c l).data.toList = t) (h0 : t ≠ []) : Good l t v c := by
  unfold symtext at h
  split at h
  · rename_i q; exact ⟨q.1, q.2, h, h0⟩
  · exact absurd h.symm h0
theorem Good.text {l : List ByteArray} {t : List UInt8} {v : Nat} {c : Int} (h : Good l t v c) : (symtext (v : Int) c l).data.toList = t := by
  unfold symtext; rw [if_pos ⟨h.lab, h.ok⟩]; exact h.is
theorem Good.inj {l : List ByteArray} {t : List UInt8} {v : Nat} {c d : Int} (h : Good l t v c) (h' : Good l t v d) : c = d := by
  have e := h.is.trans h'.is.symm
  by_cases hv : v = 0
  · subst hv; rw [symT_zero, symT_zero] at e; exact itoa_inj e
  · rw [symT_list v c l hv, symT_list v d l hv] at e
    exact offL_inj (List.append_cancel_left e)
def First (l : List ByteArray) (t : List UInt8) (v : Nat) (c : Int) : Prop := Good l t v c ∧ ∀ v' c', v' < v → ¬ Good l t v' c'
open Classical in
noncomputable def sread (l : List ByteArray) (t : List UInt8) : Int × Int × Bool := if h : ∃ p : Nat × Int, First l t p.1 p.2 then ((h.choose.1 : Int), h.choose.2, true) else (0, 0, false)
theorem sread_hit {l : List ByteArray} {t : List UInt8} {v : Nat} {c : Int} (h : Good l t v c) (h' : ∀ v' c', v' < v → ¬ Good l t v' c') : sread l t = ((v : Int), c, true) := by
  have hx : ∃ p : Nat × Int, First l t p.1 p.2 := ⟨(v, c), h, h'⟩
  unfold sread
  rw [dif_pos hx]
  obtain ⟨g1, g2⟩ := hx.choose_spec
  have ev : hx.choose.1 = v := by
    rcases Nat.lt_trichotomy hx.choose.1 v with q | q | q
    · exact absurd g1 (h' _ _ q)
    · exact q
    · exact absurd h (g2 _ _ q)
  have ec : hx.choose.2 = c := by rw [ev] at g1; exact g1.inj h
  rw [ev, ec]
theorem sread_none {l : List ByteArray} {t : List UInt8} (h : ∀ v c, ¬ Good l t v c) : sread l t = (0, 0, false) := by
  unfold sread
  rw [dif_neg]
  rintro ⟨p, hp⟩
  exact h _ _ hp.1
theorem Good.range {l : List ByteArray} {t : List UInt8} {v : Nat} {c : Int} (h : Good l t v c) : v ≤ l.length ∧ l.length ≤ 12 ∧ -1000 ≤ c ∧ c ≤ 1000 := by
  obtain ⟨q1, q2, q3⟩ := (okSy_iff _ _ _).1 h.ok
  omega
theorem i_haspre (s p : ByteArray) (hs : s.size ≤ 1048576) (hp : p.size ≤ 1048576) : stringslite_HasPrefix.f s p = some (decide (p.size ≤ s.size) && (s.data.toList.take p.size == p.data.toList)) := by
  unfold stringslite_HasPrefix.f
  by_cases h : p.size ≤ s.size
  · rw [if_pos (by omega), if_pos (by omega), if_pos (by omega), toL, toL, ext_head, decide_eq_true h, Bool.true_and, Int.toNat_natCast]
  · rw [if_neg (by omega), decide_eq_false h, Bool.false_and]
theorem i_cutpre (s p : ByteArray) (hs : s.size ≤ 1048576) (hp : p.size ≤ 1048576) : strings_CutPrefix.f s p = some (if p.size ≤ s.size ∧ s.data.toList.take p.size = p.data.toList then (s.extract p.size s.size, true) else (s, false)) := by
  unfold strings_CutPrefix.f stringslite_CutPrefix.f
  rw [i_haspre s p hs hp, Option.bind_some]
  by_cases h : p.size ≤ s.size ∧ s.data.toList.take p.size = p.data.toList
  · rw [if_pos h, decide_eq_true h.1, beq_iff_eq.2 h.2, Bool.and_self, if_pos rfl, if_pos (by omega), if_pos (by omega), Option.bind_some, Int.toNat_natCast]
  · have : (decide (p.size ≤ s.size) && (s.data.toList.take p.size == p.data.toList)) = false := by
      cases q : (decide (p.size ≤ s.size) && (s.data.toList.take p.size == p.data.toList)) with
      | false => rfl
      | true =>
        rw [Bool.and_eq_true, decide_eq_true_eq, beq_iff_eq] at q
        exact absurd q h
    rw [if_neg h, this, if_neg (by simp), Option.bind_some]
abbrev plusB : ByteArray := ⟨#[32, 43, 32]⟩
abbrev minusB : ByteArray := ⟨#[32, 45, 32]⟩
theorem i_readOff (s : ByteArray) (hs : s.size ≤ 1048576) : ∃ r, impl_readOff.f s = some r ∧ ∀ c : Int, -1000 ≤ c → c ≤ 1000 → s.data.toList = offL c → r = (c, true) := by
  have zp : plusB.size = 3 := rfl
  have zm : minusB.size = 3 := rfl
  have lp : plusB.data.toList = [32, 43, 32] := rfl
  have lm : minusB.data.toList = [32, 45, 32] := rfl
  have ex3 : (s.extract 3 s.size).size ≤ 1048576 := by rw [sizeL, ext_all, List.length_drop, ← sizeL]; omega
  unfold impl_readOff.f
  rw [toL, i_cutpre s plusB hs (by decide), i_cutpre s minusB hs (by decide), zp, zm, lp, lm]
  by_cases h0 : s.data.toList = []
  · rw [if_pos h0]
    refine ⟨_, rfl, fun c h1 h2 h3 => ?_⟩
    rw [h0] at h3
    unfold offL at h3
    repeat' split at h3
    · simp at h3
    · simp at h3
    · rw [show c = 0 by omega]
  · rw [if_neg h0, Option.bind_some, Option.bind_some]
    by_cases hp : 3 ≤ s.size ∧ s.data.toList.take 3 = [32, 43, 32]
    · rw [if_pos hp, if_pos rfl]
      unfold impl_readNum.f
      rw [if_pos (by show (s.extract 3 s.size).size ≤ 281474976710656; omega), Option.bind_some]
      refine ⟨_, rfl, fun c h1 h2 h3 => ?_⟩
      rw [ext_all, h3]
      rw [h3] at hp
      unfold offL at hp ⊢
      by_cases c1 : c > 0
      · rw [if_pos c1]
        exact numOf_itoa c (by omega) (by omega)
      · rw [if_neg c1] at hp
        by_cases c2 : c < 0
        · rw [if_pos c2] at hp; simp at hp
        · rw [if_neg c2] at hp; simp at hp
    · rw [if_neg hp, if_neg (by simp)]
      unfold impl_readNum.f
      by_cases hm : 3 ≤ s.size ∧ s.data.toList.take 3 = [32, 45, 32]
      · rw [if_pos hm, if_pos (by show (s.extract 3 s.size).size ≤ 281474976710656; omega), Option.bind_some, if_pos rfl]
        refine ⟨_, rfl, fun c h1 h2 h3 => ?_⟩
        rw [ext_all, h3]
        rw [h3] at hm
        unfold offL at hm ⊢
        by_cases c1 : c > 0
        · rw [if_pos c1] at hm; simp at hm
        · rw [if_neg c1] at hm ⊢
          by_cases c2 : c < 0
          · rw [if_pos c2]
            have e : numOf (List.drop 3 ([32, 45, 32] ++ Lib.itoa (-c))) = (-c, true) := numOf_itoa (-c) (by omega) (by omega)
            rw [e]
            simp only
            rw [w64 (by omega) (by omega), Int.neg_neg]
          · rw [if_neg c2] at hm; simp at hm
      · rw [if_neg hm, if_pos (by show s.size ≤ 281474976710656; omega), Option.bind_some, if_neg (by simp)]
        refine ⟨_, rfl, fun c h1 h2 h3 => ?_⟩
        exfalso
        have hlen : 3 ≤ s.size ∧ (s.data.toList.take 3 = [32, 43, 32] ∨ s.data.toList.take 3 = [32, 45, 32]) := by
          rw [sizeL, h3]
          rw [h3] at h0
          unfold offL at h0 ⊢
          by_cases c1 : c > 0
          · rw [if_pos c1]; exact ⟨by simp, .inl rfl⟩
          · rw [if_neg c1] at h0 ⊢
            by_cases c2 : c < 0
            · rw [if_pos c2]; exact ⟨by simp, .inr rfl⟩
            · rw [if_neg c2] at h0; exact absurd rfl h0
        rcases hlen.2 with q | q
        · exact hp ⟨hlen.1, q⟩
        · exact hm ⟨hlen.1, q⟩
theorem i_sread_loop (s : ByteArray) (hs : s.size ≤ 1048576) (l : List ByteArray) (hl : l.length ≤ 1048576) (hm : ∀ x ∈ l, x.size ≤ 1048576) : ∀ (d v k : Nat), l.length + 1 - v = d → v ≤ l.length + 1 → (∀ v' c', v' < v → ¬ Good l s.data.toList v' c') → 1100000 + l.length + d < k →
    impl_SymRead.l0 k s l ((l.length + 1 : Nat) : Int) (v : Int) = some (sread l s.data.toList) := by
  intro d
  induction d with
  | zero =>
    intro v k hd hv hno hk
    obtain ⟨k, rfl⟩ : ∃ m, k = m + 1 := ⟨k - 1, by omega⟩
    rw [impl_SymRead.l0, if_neg (by omega), sread_none]
    intro v' c' h
    exact hno v' c' (by have := h.range; omega) h
  | succ d ih =>
    intro v k hd hv hno hk
    obtain ⟨k, rfl⟩ : ∃ m, k = m + 1 := ⟨k - 1, by omega⟩
    have nx : (∀ c, ¬ Good l s.data.toList v c) → impl_SymRead.l0 k s l ((l.length + 1 : Nat) : Int) (wrap64 ((v : Int) + 1)) = some (sread l s.data.toList) := by
      intro hn
      rw [w64s v (by omega)]
      refine ih (v + 1) k (by omega) (by omega) ?_ (by omega)
      intro v' c' hv'
      rcases Nat.lt_or_ge v' v with q | q
      · exact hno v' c' q
      · rw [show v' = v by omega]; exact hn c'
    have acc : ∀ (c : Int) (hc : ∀ c', Good l s.data.toList v c' → c' = c), s.data.toList ≠ [] →
        ((impl_SymText.f k (v : Int) c l).bind fun t => if t.toList = s.toList then some ((v : Int), c, true) else impl_SymRead.l0 k s l ((l.length + 1 : Nat) : Int) (wrap64 ((v : Int) + 1))) = some (sread l s.data.toList) := by
      intro c hc hne
      rw [i_symtext _ c l hl hm k (by omega), Option.bind_some, toL, toL]
      by_cases ht : (symtext (v : Int) c l).data.toList = s.data.toList
      · rw [if_pos ht, sread_hit (good_of ht hne) hno]
      · rw [if_neg ht]
        refine nx fun c' h => ht ?_
        rw [← hc c' h]; exact h.text
    have empty : s.data.toList = [] → ∀ c, ¬ Good l s.data.toList v c := fun e c h => h.some e
    rw [impl_SymRead.l0, if_pos (by omega)]
    by_cases hv0 : v = 0
    · subst hv0
      rw [if_pos (by omega)]
      unfold impl_readNum.f
      rw [if_pos (by omega), Option.bind_some]
      have cand : ∀ c', Good l s.data.toList 0 c' → numOf s.data.toList = (c', true) := by
        intro c' h
        have := h.range
        rw [← h.is, symT_zero]
        exact numOf_itoa c' (by omega) (by omega)
      by_cases hb : (numOf s.data.toList).2 = true
      · rw [if_pos hb]
        by_cases he : s.data.toList = []
        · rw [if_pos (by rw [toL]; exact he)]; exact nx (empty he)
        · rw [if_neg (by rw [toL]; exact he)]
          exact acc _ (fun c' h => by rw [cand c' h]) he
      · rw [if_neg hb]
        exact nx fun c h => hb (by rw [cand c h])
    · rw [if_neg (by omega), w64 (n := (v : Int) - 1) (by omega) (by omega), if_pos (by omega), if_pos (by omega)]
      have hnm := nm_size l (v : Int) hm
      have en : rdOf ByteArray.empty l ((v : Int) - 1) = nm l (v : Int) := rfl
      rw [en, i_cutpre s _ hs hnm, Option.bind_some]
      have pre : ∀ c', Good l s.data.toList v c' → ((nm l (v : Int)).size ≤ s.size ∧ s.data.toList.take (nm l (v : Int)).size = (nm l (v : Int)).data.toList) ∧ s.data.toList.drop (nm l (v : Int)).size = offL c' := by
        intro c' h
        have e := h.is
        rw [symT_list v c' l hv0] at e
        refine ⟨⟨?_, ?_⟩, ?_⟩
        · rw [sizeL, sizeL s, ← e, List.length_append]; omega
        · rw [← e, sizeL]; simp
        · rw [← e, sizeL]; simp
      by_cases hp : (nm l (v : Int)).size ≤ s.size ∧ s.data.toList.take (nm l (v : Int)).size = (nm l (v : Int)).data.toList
      · rw [if_pos hp, if_pos rfl]
        have exs : (s.extract (nm l (v : Int)).size s.size).size ≤ 1048576 := by rw [sizeL, ext_all, List.length_drop, ← sizeL]; omega
        obtain ⟨r, r1, r2⟩ := i_readOff _ exs
        rw [r1, Option.bind_some]
        have cand : ∀ c', Good l s.data.toList v c' → r = (c', true) := by
          intro c' h
          have := h.range
          exact r2 c' (by omega) (by omega) (by rw [ext_all]; exact (pre c' h).2)
        by_cases hb : r.2 = true
        · rw [if_pos hb]
          by_cases he : s.data.toList = []
          · rw [if_pos (by rw [toL]; exact he)]; exact nx (empty he)
          · rw [if_neg (by rw [toL]; exact he)]
            exact acc _ (fun c' h => by rw [cand c' h]) he
        · rw [if_neg hb]
          exact nx fun c h => hb (by rw [cand c h])
      · rw [if_neg hp, if_neg (by simp)]
        exact nx fun c h => hp (pre c h).1
theorem i_sread (s : ByteArray) (hs : s.size ≤ 1048576) (l : List ByteArray) (hl : l.length ≤ 1048576) (hm : ∀ x ∈ l, x.size ≤ 1048576) (k : Nat) (hk : 1100002 + 2 * l.length < k) : impl_SymRead.f k s l = some (sread l s.data.toList) := by
  unfold impl_SymRead.f
  rw [w64 (by omega) (by omega), show ((l.length : Int) + 1) = ((l.length + 1 : Nat) : Int) by omega, show (0 : Int) = ((0 : Nat) : Int) from rfl]
  exact i_sread_loop s hs l hl hm (l.length + 1) 0 k rfl (by omega) (fun v' c' h => by omega) (by omega)
open Classical in
noncomputable def offS (R : List UInt8) : Option Int := if h : ∃ c : Int, -1000 ≤ c ∧ c ≤ 1000 ∧ R = offL c then some h.choose else none
theorem offS_hit {R : List UInt8} {c : Int} (h1 : -1000 ≤ c) (h2 : c ≤ 1000) (h : R = offL c) : offS R = some c := by
  have hx : ∃ c : Int, -1000 ≤ c ∧ c ≤ 1000 ∧ R = offL c := ⟨c, h1, h2, h⟩
  unfold offS
  rw [dif_pos hx, offL_inj (hx.choose_spec.2.2.symm.trans h)]
theorem offS_none {R : List UInt8} (h : ∀ c : Int, -1000 ≤ c → c ≤ 1000 → R ≠ offL c) : offS R = none := by
  unfold offS
  rw [dif_neg]
  rintro ⟨c, h1, h2, h3⟩
  exact h c h1 h2 h3
theorem offL_short (c : Int) (h : (offL c).length < 4) : c = 0 := by
  unfold offL at h
  by_cases c1 : c > 0
  · rw [if_pos c1, List.length_append] at h
    have := List.length_pos_iff.2 (itoa_ne c)
    simp at h; omega
  · rw [if_neg c1] at h
    by_cases c2 : c < 0
    · rw [if_pos c2, List.length_append] at h
      have := List.length_pos_iff.2 (itoa_ne (-c))
      simp at h; omega
    · omega
theorem itoa_pos_head (c : Int) (h : 0 < c) (d : UInt8) (r : List UInt8) (e : Lib.itoa c = d :: r) : d ≠ 45 := by
  obtain ⟨u, rfl⟩ : ∃ u : Nat, c = (u : Int) := ⟨c.toNat, by omega⟩
  rw [itoa_pos] at e
  have := dec_digs u d (by rw [e]; simp)
  unfold isDig at this
  intro q
  rw [q] at this
  simp at this
theorem s_rest (y : ByteArray) (hy : y.size ≤ 1048576) (s : ByteArray) (l : List ByteArray) (i : Int) (k : Nat) (hk : 40 ≤ k) (X : Option (Int × Int × Bool)) (hX : offS y.data.toList = none → ∀ k', k ≤ k' + 3 → k' ≤ k → spec_SymRead.l0 k' s l (wrap64 (i + 1)) = X) :
    (if y.toList = ([] : List UInt8) then (some (wrap64 (i + 1), 0, true)) else (if (y.size : Int) < 4 then (spec_SymRead.j2 k s l i y true) else (if 0 < (y.size : Int) then (if (bt y 0) = 32 then (if 1 < (y.size : Int) then (if (bt y 1) = 43 then (if 2 < (y.size : Int) then (if (bt y 2) = 32 then (if 3 < (y.size : Int) then (spec_SymRead.j2 k s l i y ((bt y 3) == 45)) else (none)) else (spec_SymRead.j2 k s l i y true)) else (none)) else (if (bt y 1) = 45 then (if 2 < (y.size : Int) then (if (bt y 2) = 32 then (if 3 < (y.size : Int) then (spec_SymRead.j2 k s l i y ((bt y 3) == 45)) else (none)) else (spec_SymRead.j2 k s l i y true)) else (none)) else (spec_SymRead.j2 k s l i y true))) else (none)) else (spec_SymRead.j2 k s l i y true)) else (none)))) =
    match offS y.data.toList with
    | some c => some (wrap64 (i + 1), c, true)
    | none => X := by
  obtain ⟨k, rfl⟩ : ∃ m, k = m + 2 := ⟨k - 2, by omega⟩
  have stop : spec_SymRead.j2 (k + 2) s l i y true = spec_SymRead.l0 (k + 1) s l (wrap64 (i + 1)) := by rw [spec_SymRead.j2, if_pos rfl]
  have hz := sizeL y
  rw [toL]
  by_cases h0 : y.data.toList = []
  · rw [if_pos h0, offS_hit (c := 0) (by omega) (by omega) (by rw [h0]; rfl)]
  · rw [if_neg h0]
    have bad : (∀ c : Int, -1000 ≤ c → c ≤ 1000 → y.data.toList ≠ offL c) → ∀ k', k + 2 ≤ k' + 3 → k' ≤ k + 2 → spec_SymRead.l0 k' s l (wrap64 (i + 1)) = match offS y.data.toList with
        | some c => some (wrap64 (i + 1), c, true)
        | none => X := fun h k' q1 q2 => by rw [hX (offS_none h) k' q1 q2, offS_none h]
    by_cases h4 : (y.size : Int) < 4
    · rw [if_pos h4, stop]
      refine bad (fun c _ _ e => h0 ?_) _ (by omega) (by omega)
      rw [e, offL_short c (by rw [← e]; omega)]; rfl
    · rw [if_neg h4]
      obtain ⟨a, b, c, d, r, e⟩ : ∃ a b c d r, y.data.toList = a :: b :: c :: d :: r := by
        match q : y.data.toList with
        | a :: b :: c :: d :: r => exact ⟨a, b, c, d, r, rfl⟩
        | [] => rw [q, List.length_nil] at hz; omega
        | [_] => rw [q] at hz; simp at hz; omega
        | [_, _] => rw [q] at hz; simp at hz; omega
        | [_, _, _] => rw [q] at hz; simp at hz; omega
      have ba : bt y 0 = (a.toNat : Int) := bt_at_ (i := 0) (by rw [e]; rfl)
      have bb : bt y 1 = (b.toNat : Int) := bt_at_ (i := 1) (by rw [e]; rfl)
      have bc : bt y 2 = (c.toNat : Int) := bt_at_ (i := 2) (by rw [e]; rfl)
      have bd : bt y 3 = (d.toNat : Int) := bt_at_ (i := 3) (by rw [e]; rfl)
      have shape : ∀ z : Int, y.data.toList = offL z → a = 32 ∧ c = 32 ∧ ((0 < z ∧ b = 43 ∧ Lib.itoa z = d :: r) ∨ (z < 0 ∧ b = 45 ∧ Lib.itoa (-z) = d :: r)) := by
        intro z hz'
        rw [e] at hz'
        unfold offL at hz'
        by_cases z1 : z > 0
        · rw [if_pos z1] at hz'
          simp only [List.cons_append, List.nil_append, List.cons.injEq] at hz'
          exact ⟨hz'.1, hz'.2.2.1, .inl ⟨z1, hz'.2.1, hz'.2.2.2.symm⟩⟩
        · rw [if_neg z1] at hz'
          by_cases z2 : z < 0
          · rw [if_pos z2] at hz'
            simp only [List.cons_append, List.nil_append, List.cons.injEq] at hz'
            exact ⟨hz'.1, hz'.2.2.1, .inr ⟨z2, hz'.2.1, hz'.2.2.2.symm⟩⟩
          · rw [if_neg z2] at hz'; cases hz'
      have tail : a = 32 → c = 32 → (b = 43 ∨ b = 45) → spec_SymRead.j2 (k + 2) s l i y ((bt y 3) == 45) = match offS y.data.toList with
          | some c => some (wrap64 (i + 1), c, true)
          | none => X := by
        intro ea ec eb
        rw [bd]
        by_cases hd : d = 45
        · subst hd
          rw [show (((45 : UInt8).toNat : Int) == 45) = true by decide, stop]
          refine bad (fun z z1 z2 z3 => ?_) _ (by omega) (by omega)
          rcases (shape z z3).2.2 with ⟨q1, _, q3⟩ | ⟨q1, _, q3⟩
          · exact itoa_pos_head z q1 _ _ q3 rfl
          · exact itoa_pos_head (-z) (by omega) _ _ q3 rfl
        · have hd' : (d.toNat : Int) ≠ 45 := fun h => hd (u8_eq (by show d.toNat = 45; omega))
          have e3 : (y.extract 3 y.size).data.toList = d :: r := by rw [ext_all, e]; rfl
          rw [show ((d.toNat : Int) == 45) = false by simpa using hd', spec_SymRead.j2, if_neg (by simp), if_pos (by omega), s_int _ 1000 (by omega) (by omega) _ (by omega), e3, Option.bind_some]
          have fin : ∀ n : Int, 0 < n → n ≤ 1000 → d :: r = Lib.itoa n → spec_SymRead.j3 (k + 1) s l i y n true = match offS y.data.toList with
              | some c => some (wrap64 (i + 1), c, true)
              | none => X := by
            intro n n1 n2 n3
            rw [spec_SymRead.j3, if_pos rfl, if_pos (by omega), bb]
            rcases eb with rfl | rfl
            · rw [if_neg (by decide), offS_hit (c := n) (by omega) (by omega) (by unfold offL; rw [if_pos n1, e, ea, ec, n3]; rfl)]
            · rw [if_pos (by decide), w64 (n := -n) (by omega) (by omega), offS_hit (c := -n) (by omega) (by omega) (by unfold offL; rw [if_neg (by omega), if_pos (by omega), e, ea, ec, n3, Int.neg_neg]; rfl)]
          have fout : (∀ n : Int, 0 < n → n ≤ 1000 → d :: r ≠ Lib.itoa n) → spec_SymRead.l0 k s l (wrap64 (i + 1)) = match offS y.data.toList with
              | some c => some (wrap64 (i + 1), c, true)
              | none => X := by
            intro hn
            refine bad (fun z z1 z2 z3 => ?_) _ (by omega) (by omega)
            rcases (shape z z3).2.2 with ⟨q1, _, q3⟩ | ⟨q1, _, q3⟩
            · exact hn z q1 z2 q3.symm
            · exact hn (-z) (by omega) (by omega) q3.symm
          have j3no : ∀ n : Int, spec_SymRead.j3 (k + 1) s l i y n false = spec_SymRead.l0 k s l (wrap64 (i + 1)) := by
            intro n
            rw [spec_SymRead.j3, if_neg (by simp)]
          rcases intOf_cases 1000 (d :: r) with ⟨n, n1, n2, n3, n4⟩ | ⟨n1, n2⟩
          · rw [n4]
            simp only [if_true]
            by_cases hn : n > 0
            · rw [decide_eq_true hn]; exact fin n hn n2 n3
            · rw [decide_eq_false hn, j3no]
              refine fout fun m m1 m2 m3 => ?_
              have := itoa_inj (n3.symm.trans m3)
              omega
          · rw [n2]
            simp only [Bool.false_eq_true, if_false]
            rw [j3no]
            exact fout fun m m1 m2 m3 => n1 m (by omega) m2 m3
      rw [if_pos (by omega), ba]
      by_cases ea : a = 32
      · rw [if_pos (by rw [ea]; rfl), if_pos (by omega), bb]
        by_cases eb : b = 43
        · rw [if_pos (by rw [eb]; rfl), if_pos (by omega), bc]
          by_cases ec : c = 32
          · rw [if_pos (by rw [ec]; rfl), if_pos (by omega)]; exact tail ea ec (.inl eb)
          · rw [if_neg (fun h => ec (u8_eq (by show c.toNat = 32; omega))), stop]
            exact bad (fun z _ _ z3 => ec (shape z z3).2.1) _ (by omega) (by omega)
        · rw [if_neg (fun h => eb (u8_eq (by show b.toNat = 43; omega)))]
          by_cases eb2 : b = 45
          · rw [if_pos (by rw [eb2]; rfl), if_pos (by omega), bc]
            by_cases ec : c = 32
            · rw [if_pos (by rw [ec]; rfl), if_pos (by omega)]; exact tail ea ec (.inr eb2)
            · rw [if_neg (fun h => ec (u8_eq (by show c.toNat = 32; omega))), stop]
              exact bad (fun z _ _ z3 => ec (shape z z3).2.1) _ (by omega) (by omega)
          · rw [if_neg (fun h => eb2 (u8_eq (by show b.toNat = 45; omega))), stop]
            refine bad (fun z _ _ z3 => ?_) _ (by omega) (by omega)
            rcases (shape z z3).2.2 with ⟨_, q, _⟩ | ⟨_, q, _⟩
            · exact eb q
            · exact eb2 q
      · rw [if_neg (fun h => ea (u8_eq (by show a.toNat = 32; omega))), stop]
        exact bad (fun z _ _ z3 => ea (shape z z3).1) _ (by omega) (by omega)
theorem lab_ne {l : List ByteArray} (h : labels l = true) {x : ByteArray} (hx : x ∈ l) : x.data.toList ≠ [] := by
  unfold labels at h
  have := List.all_eq_true.1 h x hx
  intro e
  rw [e] at this
  exact absurd this (by decide)
theorem s_sread_loop (s : ByteArray) (hs : s.size ≤ 1048576) (l : List ByteArray) (hl : l.length ≤ 12) (hm : ∀ x ∈ l, x.size ≤ 1048576) (hlab : labels l = true) : ∀ (d i k : Nat), l.length - i = d → i ≤ l.length → (∀ v' c', v' < i + 1 → ¬ Good l s.data.toList v' c') → 60 + 5 * d ≤ k →
    spec_SymRead.l0 k s l (i : Int) = some (sread l s.data.toList) := by
  intro d
  induction d with
  | zero =>
    intro i k hd hi hno hk
    obtain ⟨k, rfl⟩ : ∃ m, k = m + 1 := ⟨k - 1, by omega⟩
    rw [spec_SymRead.l0, if_neg (by omega), sread_none]
    intro v' c' h
    exact hno v' c' (by have := h.range; omega) h
  | succ d ih =>
    intro i k hd hi hno hk
    obtain ⟨k, rfl⟩ : ∃ m, k = m + 2 := ⟨k - 2, by omega⟩
    have nx : (∀ c, ¬ Good l s.data.toList (i + 1) c) → ∀ k', 55 + 5 * d ≤ k' + 0 → 60 + 5 * d ≤ k' → spec_SymRead.l0 k' s l (wrap64 ((i : Int) + 1)) = some (sread l s.data.toList) := by
      intro hn k' _ hk'
      rw [w64s i (by omega)]
      refine ih (i + 1) k' (by omega) (by omega) ?_ (by omega)
      intro v' c' hv'
      rcases Nat.lt_or_ge v' (i + 1) with q | q
      · exact hno v' c' q
      · rw [show v' = i + 1 by omega]; exact hn c'
    have hi' : i < l.length := by omega
    have en : rdOf ByteArray.empty l (i : Int) = nm l ((i + 1 : Nat) : Int) := by unfold nm; rw [show (((i + 1 : Nat) : Int) - 1) = (i : Int) by omega]
    have hnm := nm_size l ((i + 1 : Nat) : Int) hm
    have mem : nm l ((i + 1 : Nat) : Int) ∈ l := by
      rw [← en, rdOf_at (List.getElem?_eq_getElem hi')]; exact List.getElem_mem hi'
    have hne := lab_ne hlab mem
    have pre : ∀ c', Good l s.data.toList (i + 1) c' → ((nm l ((i + 1 : Nat) : Int)).size ≤ s.size ∧ s.data.toList.take (nm l ((i + 1 : Nat) : Int)).size = (nm l ((i + 1 : Nat) : Int)).data.toList) ∧ s.data.toList.drop (nm l ((i + 1 : Nat) : Int)).size = offL c' := by
      intro c' h
      have e := h.is
      rw [symT_list (i + 1) c' l (by omega)] at e
      refine ⟨⟨?_, ?_⟩, ?_⟩
      · rw [sizeL, sizeL s, ← e, List.length_append]; omega
      · rw [← e, sizeL]; simp
      · rw [← e, sizeL]; simp
    rw [spec_SymRead.l0, if_pos (by omega), if_pos (by omega), en]
    generalize hn : nm l ((i + 1 : Nat) : Int) = n at *
    by_cases hlt : (s.size : Int) < (n.size : Int)
    · rw [if_pos hlt, spec_SymRead.j1, if_pos rfl]
      exact nx (fun c h => by have := (pre c h).1.1; omega) _ (by omega) (by omega)
    · rw [if_neg hlt, if_pos (by omega), if_pos (by omega), toL, toL, ext_head, Int.toNat_natCast]
      by_cases hp : s.data.toList.take n.size = n.data.toList
      · have hbne : (s.data.toList.take n.size != n.data.toList) = false := by simpa using hp
        rw [hbne, spec_SymRead.j1, if_neg (by simp), if_pos (by omega), if_pos (by omega), Int.toNat_natCast]
        have exs : (s.extract n.size s.size).size ≤ 1048576 := by rw [sizeL, ext_all, List.length_drop, ← sizeL]; omega
        have split_ : s.data.toList = n.data.toList ++ s.data.toList.drop n.size := by rw [← hp, List.take_append_drop]
        by_cases hx : ∃ c, Good l s.data.toList (i + 1) c
        · obtain ⟨c, hc⟩ := hx
          have hr := hc.range
          have eo : offS (s.extract n.size s.size).data.toList = some c := by rw [ext_all]; exact offS_hit (by omega) (by omega) (pre c hc).2
          rw [s_rest _ exs s l (i : Int) k (by omega) none (fun h => by rw [eo] at h; cases h), eo, sread_hit hc hno, w64s i (by omega)]
        · have hx' : ∀ c, ¬ Good l s.data.toList (i + 1) c := fun c h => hx ⟨c, h⟩
          rw [s_rest _ exs s l (i : Int) k (by omega) (some (sread l s.data.toList)) (fun _ k' q1 q2 => nx hx' k' (by omega) (by omega)), ext_all]
          rw [offS_none]
          intro c c1 c2 c3
          refine hx' c ⟨hlab, (okSy_iff _ _ _).2 ⟨by omega, by omega, c1, c2⟩, ?_, ?_⟩
          · rw [symT_list (i + 1) c l (by omega), hn, ← c3, ← split_]
          · intro e; rw [e] at split_
            exact hne (List.append_eq_nil_iff.1 split_.symm).1
      · have hbne : (s.data.toList.take n.size != n.data.toList) = true := by simpa using hp
        rw [hbne, spec_SymRead.j1, if_pos rfl]
        exact nx (fun c h => hp (pre c h).1.2) _ (by omega) (by omega)
theorem s_sread (s : ByteArray) (hs : s.size ≤ 1048576) (l : List ByteArray) (hl : l.length ≤ 1048576) (hm : ∀ x ∈ l, x.size ≤ 1048576) (k : Nat) (hk : 1200000 + 6 * l.length < k) : spec_SymRead.f k s l = some (sread l s.data.toList) := by
  unfold spec_SymRead.f
  rw [s_labels l hl hm k (by omega), Option.bind_some]
  by_cases hlab : (decide (l.length < 13) && labels l) = true
  · have h1 : l.length < 13 ∧ labels l = true := by rw [Bool.and_eq_true, decide_eq_true_eq] at hlab; exact hlab
    rw [if_pos hlab, s_int s 1000 (by omega) (by omega) k (by omega), Option.bind_some]
    rcases intOf_cases 1000 s.data.toList with ⟨n, n1, n2, n3, n4⟩ | ⟨n1, n2⟩
    · rw [n4, if_pos rfl]
      have g : Good l s.data.toList 0 n := ⟨h1.2, (okSy_iff _ _ _).2 ⟨by omega, by omega, n1, n2⟩, by rw [symT_zero]; exact n3.symm, by rw [n3]; exact itoa_ne n⟩
      rw [sread_hit g (fun v' c' h => by omega)]; rfl
    · rw [n2, if_neg (by simp), show (0 : Int) = ((0 : Nat) : Int) from rfl]
      refine s_sread_loop s hs l (by omega) hm h1.2 l.length 0 k rfl (by omega) ?_ (by omega)
      intro v' c' hv' h
      obtain rfl : v' = 0 := by omega
      have := h.range
      exact n1 c' (by omega) (by omega) (by rw [← h.is, symT_zero])
  · rw [if_neg hlab, sread_none]
    intro v c h
    have := h.range
    exact hlab (by rw [Bool.and_eq_true, decide_eq_true_eq]; exact ⟨by omega, h.lab⟩)
end Go.Proofs.YtmkppdeoepfpoaaDoor.Q
