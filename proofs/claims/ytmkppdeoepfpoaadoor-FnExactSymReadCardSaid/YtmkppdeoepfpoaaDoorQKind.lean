/- The kinds of words: both tell the same kind of a text. -/
import Derived.Test.YtmkppdeoepfpoaaDoorQSInt
import Derived.Test.YtmkppdeoepfpoaaDoorQDec2
import Derived.Test.YtmkppdeoepfpoaaDoorQOpen
import Derived.Test.YtmkppdeoepfpoaaDoorQx5
import Derived.Test.YtmkppdeoepfpoaaDoorQx6
import Derived.Test.YtmkppdeoepfpoaaDoorQx7
import Derived.Test.YtmkppdeoepfpoaaDoorQx8
namespace Go.Proofs.YtmkppdeoepfpoaaDoor.Q
open Go.RowKit Go.Proofs.YtmkppdeoepfpoaaDoorW.PrintWords Go.Proofs.YtmkppdeoepfpoaaDoorW.PrintLast Go.Proofs.YtmkppdeoepfpoaaDoorW.PrintMore
open Go.Proofs.YtmkppdeoepfpoaaDoor.Open
set_option linter.unusedSimpArgs false
set_option linter.unusedVariables false
def hasL (l : List ByteArray) (s : List UInt8) : Bool := l.any fun x => x.data.toList == s
theorem hasL_cons (x : ByteArray) (t : List ByteArray) (s : List UInt8) : hasL (x :: t) s = (x.data.toList == s || hasL t s) := by unfold hasL; rw [List.any_cons]
theorem rdOf_at {α : Type} {d : α} {l : List α} {i : Nat} {x : α} (h : l[i]? = some x) : rdOf d l (i : Int) = x := by
  unfold rdOf; simp [List.getD, h]
theorem s_has_loop (l : List ByteArray) (s : ByteArray) (hl : l.length ≤ 1000) : ∀ (t : List ByteArray) (i k : Nat), l.drop i = t → t.length < k → spec_l01Has.l0 k l s (i : Int) = some (hasL t s.data.toList) := by
  intro t
  induction t with
  | nil =>
    intro i k hd hk
    obtain ⟨k, rfl⟩ : ∃ m, k = m + 1 := ⟨k - 1, by omega⟩
    have := drop_nil hd
    rw [spec_l01Has.l0, if_neg (by omega)]; rfl
  | cons x t ih =>
    intro i k hd hk
    obtain ⟨k, rfl⟩ : ∃ m, k = m + 1 := ⟨k - 1, by omega⟩
    obtain ⟨h1, h2, h3⟩ := drop_cons hd
    rw [spec_l01Has.l0, if_pos (by omega), if_pos (by omega), rdOf_at h2, toL, toL, w64s i (by omega), ih (i + 1) k h3 (by simp at hk; omega)]
    rw [hasL_cons]
    by_cases h : x.data.toList = s.data.toList
    · rw [if_pos h, beq_iff_eq.2 h]; rfl
    · rw [if_neg h, beq_eq_false_iff_ne.2 h]; rfl
theorem s_has (l : List ByteArray) (s : ByteArray) (hl : l.length ≤ 1000) (k : Nat) (hk : l.length < k) : spec_l01Has.f k l s = some (hasL l s.data.toList) :=
  s_has_loop l s hl l 0 k rfl hk
theorem i_index_loop (l : List ByteArray) (s : ByteArray) (hl : l.length ≤ 1000) : ∀ (t : List ByteArray) (i k : Nat), l.drop i = t → t.length < k → ∃ r, slices_Index_string_string.l0 k l s (l.length : Int) (i : Int) = some r ∧ decide (r ≥ 0) = hasL t s.data.toList := by
  intro t
  induction t with
  | nil =>
    intro i k hd hk
    obtain ⟨k, rfl⟩ : ∃ m, k = m + 1 := ⟨k - 1, by omega⟩
    have := drop_nil hd
    rw [slices_Index_string_string.l0, if_neg (by omega)]; exact ⟨_, rfl, rfl⟩
  | cons x t ih =>
    intro i k hd hk
    obtain ⟨k, rfl⟩ : ∃ m, k = m + 1 := ⟨k - 1, by omega⟩
    obtain ⟨h1, h2, h3⟩ := drop_cons hd
    rw [slices_Index_string_string.l0, if_pos (by omega), if_pos (by omega), if_pos (by omega), rdOf_at h2, toL, toL, w64s i (by omega)]
    by_cases h : s.data.toList = x.data.toList
    · rw [if_pos h]; refine ⟨_, rfl, ?_⟩; rw [hasL_cons, beq_iff_eq.2 h.symm]; simp
    · rw [if_neg h]
      obtain ⟨r, e1, e2⟩ := ih (i + 1) k h3 (by simp at hk; omega)
      refine ⟨r, e1, e2.trans ?_⟩
      have h' : ¬ x.data.toList = s.data.toList := fun e => h e.symm
      rw [hasL_cons, beq_eq_false_iff_ne.2 h']; rfl
theorem i_has (l : List ByteArray) (s : ByteArray) (hl : l.length ≤ 1000) (k : Nat) (hk : l.length < k) : slices_Contains_string_string.f k l s = some (hasL l s.data.toList) := by
  obtain ⟨r, e1, e2⟩ := i_index_loop l s hl l 0 k rfl hk
  unfold slices_Contains_string_string.f slices_Index_string_string.f
  rw [show (0 : Int) = ((0 : Nat) : Int) from rfl, e1]
  simp only [Option.bind_some]
  exact congrArg some e2
def letB (c : UInt8) : Bool := decide (97 ≤ c.toNat) && decide (c.toNat ≤ 122)
theorem s_letter (c : UInt8) : spec_l01Letter.f (c.toNat : Int) = some (letB c) := by
  unfold spec_l01Letter.f letB
  by_cases h : 97 ≤ c.toNat
  · rw [if_pos (by omega)]; simp [h]; omega
  · rw [if_neg (by omega)]; simp [h]
theorem i_letter (c : UInt8) : impl_isLetter.f (c.toNat : Int) = some (letB c) := by
  unfold impl_isLetter.f letB
  by_cases h : 97 ≤ c.toNat
  · rw [if_pos (by omega)]; simp [h]; omega
  · rw [if_neg (by omega)]; simp [h]
theorem i_digit (c : UInt8) : impl_isDigit.f (c.toNat : Int) = some (digB c) := by
  unfold impl_isDigit.f digB
  by_cases h : 48 ≤ c.toNat
  · rw [if_pos (by omega)]; simp [h]; omega
  · rw [if_neg (by omega)]; simp [h]
def keys : List ByteArray := [(⟨#[97, 114, 114, 97, 121]⟩ : ByteArray), (⟨#[99, 104, 101, 99, 107]⟩ : ByteArray), (⟨#[101, 108, 115, 101]⟩ : ByteArray), (⟨#[102, 111, 114]⟩ : ByteArray), (⟨#[102, 114, 111, 109]⟩ : ByteArray), (⟨#[105, 102]⟩ : ByteArray), (⟨#[108, 101, 110]⟩ : ByteArray), (⟨#[114, 101, 97, 100]⟩ : ByteArray), (⟨#[115, 107, 105, 112]⟩ : ByteArray), (⟨#[115, 116, 111, 112]⟩ : ByteArray), (⟨#[116, 111]⟩ : ByteArray), (⟨#[118, 97, 114]⟩ : ByteArray), (⟨#[119, 104, 105, 108, 101]⟩ : ByteArray)]
def ones : List ByteArray := [(⟨#[43]⟩ : ByteArray), (⟨#[45]⟩ : ByteArray), (⟨#[42]⟩ : ByteArray), (⟨#[40]⟩ : ByteArray), (⟨#[41]⟩ : ByteArray), (⟨#[91]⟩ : ByteArray), (⟨#[93]⟩ : ByteArray), (⟨#[123]⟩ : ByteArray), (⟨#[125]⟩ : ByteArray), (⟨#[59]⟩ : ByteArray), (⟨#[61]⟩ : ByteArray), (⟨#[60]⟩ : ByteArray), (⟨#[62]⟩ : ByteArray), (⟨#[63]⟩ : ByteArray)]
def twos : List ByteArray := [(⟨#[61, 61]⟩ : ByteArray), (⟨#[33, 61]⟩ : ByteArray), (⟨#[60, 61]⟩ : ByteArray), (⟨#[62, 61]⟩ : ByteArray)]
def wordB (c : UInt8) : Bool := letB c || digB c
def nameB (l : List UInt8) : Bool := decide (l.length ≤ 8) && (l.head?.any letB) && l.all wordB
def numB (l : List UInt8) : Bool := !(l.isEmpty || decide (7 < l.length) || (decide (1 < l.length) && l.head? == some 48)) && (l.all digB && decide (dval 0 l ≤ 1000000))
def kindL (l : List UInt8) : Int := if hasL keys l = true then 4 else if nameB l = true then 1 else if numB l = true then 2 else if hasL (ones ++ twos) l = true then 3 else 0
theorem s_key (s : ByteArray) (k : Nat) (hk : 40 ≤ k) : spec_l01Key.f k s = some (hasL keys s.data.toList) := by
  unfold spec_l01Key.f
  rw [s_has _ _ (by simp) k (by simp; omega)]; rfl
theorem i_key (s : ByteArray) (k : Nat) (hk : 40 ≤ k) : impl_isKey.f k s = some (hasL keys s.data.toList) := by
  unfold impl_isKey.f
  rw [i_has _ _ (by simp) k (by simp; omega)]; rfl
theorem s_name_loop (s : ByteArray) (hl : s.size ≤ 1048576) : ∀ (t : List UInt8) (i k : Nat), s.data.toList.drop i = t → t.length < k → spec_l01Name.l0 k s (i : Int) = some (t.all wordB) := by
  intro t
  induction t with
  | nil =>
    intro i k hd hk
    obtain ⟨k, rfl⟩ : ∃ m, k = m + 1 := ⟨k - 1, by omega⟩
    have := drop_nil hd
    rw [← sizeL] at this
    rw [spec_l01Name.l0, if_neg (by omega)]; rfl
  | cons c t ih =>
    intro i k hd hk
    obtain ⟨k, rfl⟩ : ∃ m, k = m + 1 := ⟨k - 1, by omega⟩
    obtain ⟨h1, h2, h3⟩ := drop_cons hd
    rw [← sizeL] at h1
    rw [spec_l01Name.l0, if_pos (by omega), if_pos (by omega), bt_at_ h2, s_letter, s_digit, w64s i (by omega), ih (i + 1) k h3 (by simp at hk; omega)]
    rw [List.all_cons, wordB]
    simp only [Option.bind_some]
    cases letB c <;> cases digB c <;> simp
theorem s_name (s : ByteArray) (hl : s.size ≤ 1048576) (k : Nat) (hk : s.size + 40 ≤ k) (hkey : hasL keys s.data.toList = false) : spec_l01Name.f k s = some (nameB s.data.toList) := by
  have stop : spec_l01Name.j0 k s true = some false := by
    obtain ⟨k, rfl⟩ : ∃ m, k = m + 1 := ⟨k - 1, by omega⟩
    rw [spec_l01Name.j0, if_pos rfl]
  have go : spec_l01Name.j0 k s false = some (s.data.toList.all wordB) := by
    obtain ⟨k, rfl⟩ : ∃ m, k = m + 1 := ⟨k - 1, by omega⟩
    rw [spec_l01Name.j0, if_neg (by simp)]
    exact s_name_loop s hl _ 0 k rfl (by rw [← sizeL]; omega)
  have hz := sizeL s
  unfold spec_l01Name.f nameB
  rcases e : s.data.toList with _ | ⟨c, r⟩
  · rw [e] at hz
    have hz0 : s.size = 0 := hz
    rw [if_pos (by omega), stop]; rfl
  · rw [e] at hz
    simp only [List.length_cons] at hz
    rw [if_neg (by omega)]
    by_cases h8 : (s.size : Int) > 8
    · rw [if_pos h8, stop]; simp; omega
    · rw [if_neg h8, if_pos (by omega), bt_zero e, s_letter, s_key s k (by omega), hkey]
      simp only [Option.bind_some]
      cases hb : letB c with
      | true =>
        rw [if_pos rfl, go, e]
        have h7 : r.length + 1 ≤ 8 := by omega
        simp [hb, h7]
      | false => rw [if_neg (by simp), stop]; simp [hb]
theorem num_itoa (l : List UInt8) : numB l = true ↔ ∃ u : Nat, u ≤ 1000000 ∧ l = Lib.decDigits u := by
  unfold numB
  simp only [Bool.and_eq_true, Bool.not_eq_true', Bool.or_eq_false_iff, decide_eq_true_eq, decide_eq_false_iff_not, Bool.and_eq_false_iff, beq_eq_false_iff_ne, ne_eq, List.isEmpty_eq_false_iff]
  constructor
  · rintro ⟨⟨⟨h1, h2⟩, h3⟩, h4, h5⟩
    refine ⟨dval 0 l, h5, (dec_of_dval l h1 ((all_digs l).1 h4) ?_).symm⟩
    intro hl c hc e
    rcases h3 with h3 | h3
    · exact h3 hl
    · exact h3 (by rw [hc, show c = 48 from u8_eq e])
  · rintro ⟨u, hu, rfl⟩
    refine ⟨⟨⟨dec_ne u, ?_⟩, ?_⟩, (all_digs _).2 (dec_digs u), by rw [dval_dec]; exact hu⟩
    · have := dec_len10 6 u (by omega); omega
    · rcases Nat.eq_zero_or_pos u with rfl | h
      · left; rw [Lib.decDigits, dif_pos (by omega)]; simp
      · right
        obtain ⟨c, r, e1, _, e2⟩ := dec_head u h
        rw [e1]
        intro h'
        simp only [List.head?_cons, Option.some.injEq] at h'
        rw [h'] at e2; exact e2 rfl
theorem sign_head {c : UInt8} {r : List UInt8} (h : hasL (ones ++ twos) (c :: r) = true) : letB c = false ∧ digB c = false := by
  simp only [hasL, ones, twos, List.cons_append, List.nil_append, List.any_cons, List.any_nil, Bool.or_eq_true, beq_iff_eq, List.cons.injEq, Bool.or_false] at h
  rcases h with h | h | h | h | h | h | h | h | h | h | h | h | h | h | h | h | h | h <;> (rw [← h.1]; decide)
theorem one_fin : ∀ n : Fin 256, Lib.contains [43, 45, 42, 40, 41, 91, 93, 123, 125, 59, 61, 60, 62, 63] [UInt8.ofNat n.val] = hasL ones [UInt8.ofNat n.val] := by decide +kernel
theorem one_sign (c : UInt8) : Lib.contains [43, 45, 42, 40, 41, 91, 93, 123, 125, 59, 61, 60, 62, 63] [c] = hasL ones [c] := by
  have := one_fin ⟨c.toNat, u8_lt c⟩
  simpa using this
theorem ones_len {l : List UInt8} (h : l.length ≠ 1) : hasL ones l = false := by
  cases e : hasL ones l with
  | false => rfl
  | true =>
    simp only [hasL, ones, List.any_cons, List.any_nil, Bool.or_eq_true, beq_iff_eq, Bool.or_false] at e
    rcases e with e | e | e | e | e | e | e | e | e | e | e | e | e | e <;> exact absurd (by rw [← e]; rfl) h
theorem i_kind_loop (s : ByteArray) (hl : s.size ≤ 1048576) : ∀ (t : List UInt8) (i k : Nat), s.data.toList.drop i = t → t.length < k →
    impl_kindOf.l0 k s (s.size : Int) (i : Int) = some (if t.all wordB = true then (if s.size ≤ 8 then 1 else 0) else 0) := by
  intro t
  induction t with
  | nil =>
    intro i k hd hk
    obtain ⟨k, rfl⟩ : ∃ m, k = m + 1 := ⟨k - 1, by omega⟩
    have := drop_nil hd
    rw [← sizeL] at this
    rw [impl_kindOf.l0, if_neg (by omega)]
    simp only [List.all_nil, if_true]
    by_cases h : s.size ≤ 8
    · rw [if_pos (by omega), if_pos h]
    · rw [if_neg (by omega), if_neg h]
  | cons c t ih =>
    intro i k hd hk
    obtain ⟨k, rfl⟩ : ∃ m, k = m + 1 := ⟨k - 1, by omega⟩
    obtain ⟨h1, h2, h3⟩ := drop_cons hd
    rw [← sizeL] at h1
    rw [impl_kindOf.l0, if_pos (by omega), if_pos (by omega), if_pos (by omega), bt_at_ h2, i_letter, i_digit, w64s i (by omega), ih (i + 1) k h3 (by simp at hk; omega)]
    rw [List.all_cons, wordB]
    simp only [Option.bind_some]
    cases letB c <;> cases digB c <;> simp
theorem let_dig {c : UInt8} (h : letB c = true) : digB c = false := by
  unfold letB at h; unfold digB
  simp only [Bool.and_eq_true, decide_eq_true_eq] at h
  simp; omega
theorem i_kind (s : ByteArray) (hl : s.size ≤ 1048576) (k : Nat) (hk : s.size + 40 ≤ k) : impl_kindOf.f k s = some (kindL s.data.toList) := by
  have hz := sizeL s
  unfold impl_kindOf.f
  rw [toL]
  rcases e : s.data.toList with _ | ⟨c, r⟩
  · rw [if_pos rfl]; rfl
  · rw [e] at hz
    simp only [List.length_cons] at hz
    rw [if_neg (List.cons_ne_nil c r), i_key s k (by omega), e]
    simp only [Option.bind_some]
    unfold kindL
    cases hkey : hasL keys (c :: r) with
    | true => simp
    | false =>
      simp only [Bool.false_eq_true, if_false]
      rw [if_pos (by omega), bt_zero e, i_letter, i_digit]
      simp only [Option.bind_some]
      cases hlet : letB c with
      | true =>
        rw [if_pos rfl, show (0 : Int) = ((0 : Nat) : Int) from rfl, i_kind_loop s hl _ 0 k rfl (by simp only [List.drop_zero, ← sizeL]; omega), List.drop_zero, e]
        have hnum : numB (c :: r) = false := by
          unfold numB; simp [let_dig hlet]
        have hsig : hasL (ones ++ twos) (c :: r) = false := by
          cases q : hasL (ones ++ twos) (c :: r) with
          | false => rfl
          | true => rw [(sign_head q).1] at hlet; cases hlet
        rw [hnum, hsig]
        unfold nameB
        by_cases h8 : s.size ≤ 8
        · have : r.length + 1 ≤ 8 := by omega
          rw [if_pos h8]
          simp [this, hlet, wordB]
        · have : ¬ r.length + 1 ≤ 8 := by omega
          rw [if_neg h8]
          simp [this]
      | false =>
        have hname : nameB (c :: r) = false := by unfold nameB; simp [hlet]
        rw [hname]
        simp only [Bool.false_eq_true, if_false]
        cases hdig : digB c with
        | true =>
          have hsig : hasL (ones ++ twos) (c :: r) = false := by
            cases q : hasL (ones ++ twos) (c :: r) with
            | false => rfl
            | true => rw [(sign_head q).2] at hdig; cases hdig
          rw [if_pos rfl, hsig]
          unfold impl_readNum.f
          rw [if_pos (by omega), e]
          simp only [Option.bind_some]
          have key : ((numOf (c :: r)).2 = true ∧ (numOf (c :: r)).1 ≤ 1000000) ↔ numB (c :: r) = true := by
            rw [num_itoa]
            constructor
            · rintro ⟨h1, h2⟩
              have h3 := numOf_true h1
              rcases int_cases (numOf (c :: r)).1 with ⟨u, hu⟩ | ⟨u, hu1, hu⟩
              · rw [hu, itoa_pos] at h3
                exact ⟨u, by omega, h3⟩
              · rw [hu, itoa_neg' u hu1] at h3
                rw [(List.cons.inj h3).1] at hdig
                exact absurd hdig (by decide)
            · rintro ⟨u, hu, h⟩
              rw [h, ← itoa_pos, numOf_itoa _ (by omega) (by omega)]
              exact ⟨rfl, by simp; omega⟩
          by_cases hn : numB (c :: r) = true
          · obtain ⟨k1, k2⟩ := key.2 hn
            rw [if_pos k1, if_pos k2, if_pos hn]
          · have hn' : ¬ ((numOf (c :: r)).2 = true ∧ (numOf (c :: r)).1 ≤ 1000000) := fun h => hn (key.1 h)
            rw [if_neg hn]
            simp only [Bool.false_eq_true, if_false]
            by_cases q : (numOf (c :: r)).2 = true
            · rw [if_pos q, if_neg (fun h => hn' ⟨q, h⟩)]
            · rw [if_neg q]
        | false =>
          have hnum : numB (c :: r) = false := by unfold numB; simp [hdig]
          rw [hnum, i_has _ _ (by simp) k (by simp; omega), e]
          simp only [Option.bind_some, Bool.false_eq_true, if_false]
          have app : hasL (ones ++ twos) (c :: r) = (hasL ones (c :: r) || hasL twos (c :: r)) := by unfold hasL; rw [List.any_append]
          rw [app]
          change (if hasL twos (c :: r) = true then _ else _) = _
          cases htw : hasL twos (c :: r) with
          | true => simp
          | false =>
            rw [Bool.or_false]
            simp only [Bool.false_eq_true, if_false]
            by_cases h1 : (s.size : Int) = 1
            · have hr : r = [] := List.eq_nil_of_length_eq_zero (by omega)
              subst hr
              rw [if_pos h1]
              unfold strings_Contains.f
              rw [if_pos (by decide), e]
              simp only [Option.bind_some]
              rw [one_sign]
              split <;> rfl
            · rw [if_neg h1, ones_len (by simp only [List.length_cons]; omega)]; simp
end Go.Proofs.YtmkppdeoepfpoaaDoor.Q
