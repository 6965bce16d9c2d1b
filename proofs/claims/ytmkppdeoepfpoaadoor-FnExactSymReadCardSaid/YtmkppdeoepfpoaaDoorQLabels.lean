/- Labels: both tell the same texts to be labels. -/
import Derived.Test.YtmkppdeoepfpoaaDoorQLex0
import Derived.Test.YtmkppdeoepfpoaaDoorQOpen
import Derived.Test.YtmkppdeoepfpoaaDoorQx1
import Derived.Test.YtmkppdeoepfpoaaDoorQx12
import Derived.Test.YtmkppdeoepfpoaaDoorQx13
import Derived.Test.YtmkppdeoepfpoaaDoorQx2
import Derived.Test.YtmkppdeoepfpoaaDoorQx6
import Derived.Test.YtmkppdeoepfpoaaDoorQx9
namespace Go.Proofs.YtmkppdeoepfpoaaDoor.Q
open Go.RowKit Go.Proofs.YtmkppdeoepfpoaaDoorW.PrintWords Go.Proofs.YtmkppdeoepfpoaaDoorW.PrintLast Go.Proofs.YtmkppdeoepfpoaaDoorW.PrintMore
open Go.Proofs.YtmkppdeoepfpoaaDoor.Open
set_option linter.unusedSimpArgs false
set_option linter.unusedVariables false
def isName (l : List UInt8) : Bool := !hasL keys l && nameB l
theorem kind_name (l : List UInt8) : (kindL l != 1) = !isName l := by
  unfold kindL isName
  cases hasL keys l <;> cases nameB l <;> simp
  repeat' split
  all_goals simp
theorem s_isName (s : ByteArray) (hl : s.size ≤ 1048576) (k : Nat) (hk : s.size + 40 ≤ k) : spec_l01Name.f k s = some (isName s.data.toList) := by
  unfold isName
  cases hkey : hasL keys s.data.toList with
  | false => rw [s_name s hl k hk hkey]; rfl
  | true =>
    have stop : spec_l01Name.j0 k s true = some false := by
      obtain ⟨k, rfl⟩ : ∃ m, k = m + 1 := ⟨k - 1, by omega⟩
      rw [spec_l01Name.j0, if_pos rfl]
    have hz := sizeL s
    unfold spec_l01Name.f
    rcases e : s.data.toList with _ | ⟨c, r⟩
    · rw [e] at hkey; exact absurd hkey (by decide)
    · rw [e] at hz hkey
      simp only [List.length_cons] at hz
      rw [if_neg (by omega)]
      by_cases h8 : (s.size : Int) > 8
      · rw [if_pos h8, stop]; rfl
      · rw [if_neg h8, if_pos (by omega), bt_zero e, s_letter, key_head hkey, Option.bind_some, if_pos rfl, s_key s k (by omega), e, hkey, Option.bind_some, stop]; rfl
abbrev lenP : List UInt8 := [108, 101, 110, 40]
theorem len_noName (x : List UInt8) : isName (lenP ++ x) = false := by
  unfold isName nameB
  have : (lenP ++ x).all wordB = false := by simp [lenP, show wordB 40 = false by decide]
  rw [this]; simp
/-- A label: a name, or the length of one. -/
def labL (l : List UInt8) : Bool := if 5 < l.length ∧ l.take 4 = lenP ∧ l.getLast? = some 41 then isName ((l.drop 4).take (l.length - 5)) else isName l
theorem last_at {l : List UInt8} (h : 0 < l.length) : ∃ c, l[l.length - 1]? = some c ∧ l.getLast? = some c := by
  refine ⟨l[l.length - 1], List.getElem?_eq_getElem (by omega), ?_⟩
  rw [List.getLast?_eq_getElem?, List.getElem?_eq_getElem (by omega)]
theorem s_label (s : ByteArray) (hl : s.size ≤ 1048576) (k : Nat) (hk : s.size + 60 ≤ k) : spec_l07Label.f k s = some (labL s.data.toList) := by
  have hz := sizeL s
  obtain ⟨k, rfl⟩ : ∃ m, k = m + 1 := ⟨k - 1, by omega⟩
  have no : spec_l07Label.j0 (k + 1) s false = some (isName s.data.toList) := by
    rw [spec_l07Label.j0, if_neg (by simp), s_isName s hl k (by omega)]; rfl
  unfold spec_l07Label.f labL
  rw [← hz]
  by_cases h5 : 5 < s.size
  · rw [if_pos (by omega), if_pos (by omega), if_pos (by omega), toL, ext_head]
    by_cases hp : s.data.toList.take 4 = lenP
    · obtain ⟨c, c1, c2⟩ := last_at (l := s.data.toList) (by omega)
      rw [if_pos hp, w64 (by omega) (by omega), if_pos (by omega), if_pos (by omega), show ((s.size : Int) - 1) = ((s.data.toList.length - 1 : Nat) : Int) by omega, bt_at_ c1]
      by_cases hc : c = 41
      · subst hc
        rw [if_pos ⟨h5, hp, c2⟩, show (((41 : UInt8).toNat : Int) == 41) = true by decide]
        rw [spec_l07Label.j0, if_pos rfl, w64 (by omega) (by omega), if_pos (by omega), if_pos (by omega), s_isName _ (by rw [sizeL, extL, List.length_take, List.length_drop]; omega) k (by rw [sizeL, extL, List.length_take, List.length_drop]; omega), extL, Option.bind_some]
        rw [show ((s.size : Int) - 1).toNat - 4 = s.size - 5 by omega]
      · have hc' : (c.toNat : Int) ≠ 41 := fun h => hc (u8_eq (by show c.toNat = 41; omega))
        rw [if_neg (fun q => by rw [c2] at q; exact hc (Option.some.inj q.2.2)), show ((c.toNat : Int) == 41) = false by simpa using hc', no]
    · rw [if_neg hp, if_neg (fun q => hp q.2.1), no]
  · rw [if_neg (by omega), if_neg (fun q => h5 q.1), no]
theorem s_labels_loop (l : List ByteArray) (hl : l.length ≤ 1048576) (hs : ∀ x ∈ l, x.size ≤ 1048576) : ∀ (t : List ByteArray) (i k : Nat), l.drop i = t → 1100000 + t.length < k → spec_l08Labels.l0 k l (i : Int) = some (t.all fun x => labL x.data.toList) := by
  intro t
  induction t with
  | nil =>
    intro i k hd hk
    obtain ⟨k, rfl⟩ : ∃ m, k = m + 1 := ⟨k - 1, by omega⟩
    have := drop_nil hd
    rw [spec_l08Labels.l0, if_neg (by omega)]; rfl
  | cons x t ih =>
    intro i k hd hk
    obtain ⟨k, rfl⟩ : ∃ m, k = m + 1 := ⟨k - 1, by omega⟩
    obtain ⟨h1, h2, h3⟩ := drop_cons hd
    have hx := hs x (List.mem_of_getElem? h2)
    rw [spec_l08Labels.l0, if_pos (by omega), if_pos (by omega), rdOf_at h2, s_label x hx k (by simp at hk; omega), Option.bind_some, w64s i (by omega), ih (i + 1) k h3 (by simp at hk; omega), List.all_cons]
    cases labL x.data.toList <;> simp
def labels (l : List ByteArray) : Bool := l.all fun x => labL x.data.toList
theorem s_labels (l : List ByteArray) (hl : l.length ≤ 1048576) (hs : ∀ x ∈ l, x.size ≤ 1048576) (k : Nat) (hk : 1100000 + l.length < k) : spec_l08Labels.f k l = some (decide (l.length < 13) && labels l) := by
  unfold spec_l08Labels.f
  by_cases h : l.length < 13
  · rw [if_neg (by omega), show (0 : Int) = ((0 : Nat) : Int) from rfl, s_labels_loop l hl hs l 0 k rfl hk]
    simp [h, labels]
  · rw [if_pos (by omega)]; simp [h]
theorem i_haslen (s : ByteArray) (hs : s.size ≤ 1048576) : stringslite_HasPrefix.f s (⟨#[108, 101, 110, 40]⟩ : ByteArray) = some (decide (4 ≤ s.size) && (s.data.toList.take 4 == lenP)) := by
  have z : (⟨#[108, 101, 110, 40]⟩ : ByteArray).size = 4 := rfl
  unfold stringslite_HasPrefix.f
  rw [z]
  by_cases h : 4 ≤ s.size
  · rw [if_pos (by omega), if_pos (by omega), if_pos (by omega), toL, toL, ext_head, decide_eq_true h, Bool.true_and]; rfl
  · rw [if_neg (by omega), decide_eq_false h, Bool.false_and]
theorem i_cutlen (s : ByteArray) (hs : s.size ≤ 1048576) : strings_CutPrefix.f s (⟨#[108, 101, 110, 40]⟩ : ByteArray) = some (if 4 ≤ s.size ∧ s.data.toList.take 4 = lenP then (s.extract 4 s.size, true) else (s, false)) := by
  have z : (⟨#[108, 101, 110, 40]⟩ : ByteArray).size = 4 := rfl
  unfold strings_CutPrefix.f stringslite_CutPrefix.f
  rw [i_haslen s hs, z, Option.bind_some]
  by_cases h : 4 ≤ s.size ∧ s.data.toList.take 4 = lenP
  · rw [if_pos h, decide_eq_true h.1, beq_iff_eq.2 h.2, Bool.and_self, if_pos rfl, if_pos (by omega), if_pos (by omega), Option.bind_some]; rfl
  · have : (decide (4 ≤ s.size) && (s.data.toList.take 4 == lenP)) = false := by
      cases q : (decide (4 ≤ s.size) && (s.data.toList.take 4 == lenP)) with
      | false => rfl
      | true =>
        rw [Bool.and_eq_true, decide_eq_true_eq, beq_iff_eq] at q
        exact absurd q h
    rw [if_neg h, this, if_neg (by simp), Option.bind_some]
theorem i_hasclose (s : ByteArray) (hs : s.size ≤ 1048576) : stringslite_HasSuffix.f s (⟨#[41]⟩ : ByteArray) = some (s.data.toList.getLast? == some 41) := by
  have z : (⟨#[41]⟩ : ByteArray).size = 1 := rfl
  have hz := sizeL s
  unfold stringslite_HasSuffix.f
  rw [z]
  by_cases h : 1 ≤ s.size
  · rw [if_pos (by omega), w64 (by omega) (by omega), if_pos (by omega), if_pos (by omega), toL, toL, ext_all, show ((s.size : Int) - ((1 : Nat) : Int)).toNat = s.size - 1 by omega]
    obtain ⟨c, c1, c2⟩ := last_at (l := s.data.toList) (by omega)
    have ed : s.data.toList.drop (s.size - 1) = [c] := by
      obtain ⟨hlt, e⟩ := List.getElem?_eq_some_iff.1 c1
      rw [hz, List.drop_eq_getElem_cons hlt, e, List.drop_eq_nil_of_le (by omega)]
    rw [ed, c2]
    by_cases hc : c = 41
    · rw [hc]; rfl
    · have q1 : (([c] : List UInt8) == [41]) = false := by simpa using hc
      have q2 : (some c == some (41 : UInt8)) = false := by simpa using hc
      rw [q2]; exact congrArg some q1
  · have : s.data.toList = [] := List.eq_nil_of_length_eq_zero (by omega)
    rw [if_neg (by omega), this]; rfl
theorem i_trim (s : ByteArray) (hs : s.size ≤ 1048576) : strings_TrimSuffix.f s (⟨#[41]⟩ : ByteArray) = some (if s.data.toList.getLast? = some 41 then s.extract 0 (s.size - 1) else s) := by
  have z : (⟨#[41]⟩ : ByteArray).size = 1 := rfl
  have hz := sizeL s
  unfold strings_TrimSuffix.f stringslite_TrimSuffix.f
  rw [i_hasclose s hs, z, Option.bind_some]
  by_cases h : s.data.toList.getLast? = some 41
  · have h1 : 1 ≤ s.size := by
      rcases Nat.eq_zero_or_pos s.size with q | q
      · rw [List.eq_nil_of_length_eq_zero (hz.symm.trans q)] at h; cases h
      · exact q
    rw [if_pos h, h, if_pos (by simp), w64 (by omega) (by omega), if_pos (by omega), if_pos (by omega), show ((s.size : Int) - ((1 : Nat) : Int)).toNat = s.size - 1 by omega, Option.bind_some]
  · rw [if_neg h, if_neg (by simpa using h), Option.bind_some]
theorem i_label (s : ByteArray) (hs : s.size ≤ 1048576) (k : Nat) (hk : s.size + 60 ≤ k) : impl_areLabels_1.f k s = some (!labL s.data.toList) := by
  have hz := sizeL s
  unfold impl_areLabels_1.f
  rw [i_cutlen s hs, Option.bind_some]
  by_cases hp : 4 ≤ s.size ∧ s.data.toList.take 4 = lenP
  · rw [if_pos hp]
    simp only [if_true]
    have hy : (s.extract 4 s.size).data.toList = s.data.toList.drop 4 := ext_all s 4
    have hys : (s.extract 4 s.size).size = s.size - 4 := by rw [sizeL, hy, List.length_drop, ← hz]
    have el : s.data.toList = lenP ++ s.data.toList.drop 4 := by rw [← hp.2, List.take_append_drop]
    rw [i_trim _ (by omega), Option.bind_some, hy]
    generalize s.extract 4 s.size = y at hy hys
    by_cases hl : (s.data.toList.drop 4).getLast? = some 41
    · rw [if_pos hl]
      have hm : (y.extract 0 (y.size - 1)).data.toList = (s.data.toList.drop 4).take (s.size - 5) := by rw [ext_head, hy, hys]; congr 1
      have hms : (y.extract 0 (y.size - 1)).size ≤ s.size := by rw [sizeL, hm, List.length_take, List.length_drop]; omega
      have hne : s.data.toList.drop 4 ≠ [] := by intro e; rw [e] at hl; cases hl
      have hlen := List.length_pos_iff.2 hne
      rw [List.length_drop] at hlen
      have ey : s.data.toList.drop 4 = (s.data.toList.drop 4).take (s.size - 5) ++ [41] := by
        rw [List.getLast?_eq_some_iff] at hl
        obtain ⟨m, e⟩ := hl
        have : m.length = s.size - 5 := by
          have := congrArg List.length e
          rw [List.length_drop, List.length_append, List.length_cons, List.length_nil] at this
          omega
        rw [e, ← this]; simp
      rw [if_pos (by omega), toL, toL, app_mk', hm, hy, if_pos ey, i_kind _ (by omega) k (by omega), Option.bind_some, hm, kind_name]
      unfold labL
      rw [← hz]
      by_cases h5 : 5 < s.size
      · have hll : s.data.toList.getLast? = some 41 := by rw [el, List.getLast?_append, hl]; rfl
        rw [if_pos ⟨h5, hp.2, hll⟩]
      · rw [if_neg (fun q => h5 q.1), show s.size - 5 = 0 by omega, List.take_zero, el, len_noName]; rfl
    · rw [if_neg hl, if_pos (by omega), toL, toL, app_mk', hy, if_neg (fun q => by have := congrArg List.length q; simp at this)]
      unfold labL
      rw [if_neg, el, len_noName]; rfl
      rintro ⟨q1, q2, q3⟩
      rw [el, List.getLast?_append] at q3
      cases q : (s.data.toList.drop 4).getLast? with
      | none =>
        rw [List.getLast?_eq_none_iff] at q
        have := congrArg List.length q
        rw [List.length_drop, List.length_nil] at this
        omega
      | some c =>
        rw [q] at q3 hl
        exact hl q3
  · rw [if_neg hp]
    simp only [Bool.false_eq_true, if_false]
    rw [i_kind s hs k (by omega), Option.bind_some, kind_name]
    unfold labL
    rw [if_neg]
    rintro ⟨q1, q2, _⟩
    exact hp ⟨by omega, q2⟩
theorem i_labels_loop (l : List ByteArray) (hl : l.length ≤ 1048576) (hs : ∀ x ∈ l, x.size ≤ 1048576) : ∀ (t : List ByteArray) (i k : Nat), l.drop i = t → 1100000 + t.length < k →
    ∃ r, slices_IndexFunc__impl_areLabels_1.l0 k l (l.length : Int) (i : Int) = some r ∧ decide (r ≥ 0) = !(t.all fun x => labL x.data.toList) := by
  intro t
  induction t with
  | nil =>
    intro i k hd hk
    obtain ⟨k, rfl⟩ : ∃ m, k = m + 1 := ⟨k - 1, by omega⟩
    have := drop_nil hd
    rw [slices_IndexFunc__impl_areLabels_1.l0, if_neg (by omega)]
    exact ⟨_, rfl, rfl⟩
  | cons x t ih =>
    intro i k hd hk
    obtain ⟨k, rfl⟩ : ∃ m, k = m + 1 := ⟨k - 1, by omega⟩
    obtain ⟨h1, h2, h3⟩ := drop_cons hd
    have hx := hs x (List.mem_of_getElem? h2)
    rw [slices_IndexFunc__impl_areLabels_1.l0, if_pos (by omega), if_pos (by omega), if_pos (by omega), rdOf_at h2, i_label x hx k (by simp at hk; omega), Option.bind_some, w64s i (by omega), List.all_cons]
    cases hq : labL x.data.toList with
    | true =>
      rw [if_neg (by simp)]
      obtain ⟨r, e1, e2⟩ := ih (i + 1) k h3 (by simp at hk; omega)
      exact ⟨r, e1, by rw [e2]; simp⟩
    | false =>
      rw [if_pos (by simp)]
      exact ⟨_, rfl, by simp⟩
theorem i_labels (l : List ByteArray) (hl : l.length ≤ 1048576) (hs : ∀ x ∈ l, x.size ≤ 1048576) (n : Int) (k : Nat) (hk : 1100000 + l.length < k) : impl_areLabels.f k l n = some (decide ((l.length : Int) = n) && labels l) := by
  unfold impl_areLabels.f
  by_cases h : (l.length : Int) = n
  · obtain ⟨r, e1, e2⟩ := i_labels_loop l hl hs l 0 k rfl hk
    rw [if_pos h]
    unfold slices_ContainsFunc__impl_areLabels_1.f slices_IndexFunc__impl_areLabels_1.f
    rw [show (0 : Int) = ((0 : Nat) : Int) from rfl, e1, Option.bind_some]
    rw [show (((0 : Nat) : Int)) = 0 from rfl, e2]
    simp [h, labels]
  · rw [if_neg h]; simp [h]
end Go.Proofs.YtmkppdeoepfpoaaDoor.Q
