/- The reference reads whole numbers: just the numerals up to a limit. -/
import Derived.Test.YtmkppdeoepfpoaaDoorQTxt
import Derived.Test.YtmkppdeoepfpoaaDoorQDec
import Derived.Test.YtmkppdeoepfpoaaDoorQOpen
import Derived.Test.YtmkppdeoepfpoaaDoorQx10
import Derived.Test.YtmkppdeoepfpoaaDoorQx5
namespace Go.Proofs.YtmkppdeoepfpoaaDoor.Q
open Go.RowKit Go.Proofs.YtmkppdeoepfpoaaDoorW.PrintWords Go.Proofs.YtmkppdeoepfpoaaDoorW.PrintLast Go.Proofs.YtmkppdeoepfpoaaDoorW.PrintMore
open Go.Proofs.YtmkppdeoepfpoaaDoor.Open
set_option linter.unusedSimpArgs false
set_option linter.unusedVariables false
def digB (c : UInt8) : Bool := decide (48 ≤ c.toNat) && decide (c.toNat ≤ 57)
theorem digB_iff (c : UInt8) : digB c = true ↔ isDig c := by unfold digB isDig; simp
theorem all_digs (l : List UInt8) : l.all digB = true ↔ ∀ c ∈ l, isDig c := by simp [List.all_eq_true, digB_iff]
theorem s_digit (c : UInt8) : spec_l01Digit.f (c.toNat : Int) = some (digB c) := by
  unfold spec_l01Digit.f digB
  by_cases h : 48 ≤ c.toNat
  · rw [if_pos (by omega)]; simp [h]; omega
  · rw [if_neg (by omega)]; simp [h]
open Classical in
/-- The number of which a list of bytes is the numeral, if it is one up to a limit. -/
noncomputable def intOf (most : Int) (l : List UInt8) : Int × Bool := if h : ∃ n : Int, -most ≤ n ∧ n ≤ most ∧ l = Lib.itoa n then (h.choose, true) else (0, false)
theorem intOf_num {most n : Int} (h1 : -most ≤ n) (h2 : n ≤ most) : intOf most (Lib.itoa n) = (n, true) := by
  have h : ∃ m : Int, -most ≤ m ∧ m ≤ most ∧ Lib.itoa n = Lib.itoa m := ⟨n, h1, h2, rfl⟩
  unfold intOf
  rw [dif_pos h, ← itoa_inj h.choose_spec.2.2]
theorem intOf_none {most : Int} {l : List UInt8} (h : ∀ n : Int, -most ≤ n → n ≤ most → l ≠ Lib.itoa n) : intOf most l = (0, false) := by
  unfold intOf
  rw [dif_neg]
  rintro ⟨n, h1, h2, h3⟩
  exact h n h1 h2 h3
theorem intOf_cases (most : Int) (l : List UInt8) : (∃ n : Int, -most ≤ n ∧ n ≤ most ∧ l = Lib.itoa n ∧ intOf most l = (n, true)) ∨ ((∀ n : Int, -most ≤ n → n ≤ most → l ≠ Lib.itoa n) ∧ intOf most l = (0, false)) := by
  by_cases h : ∃ n : Int, -most ≤ n ∧ n ≤ most ∧ l = Lib.itoa n
  · obtain ⟨n, h1, h2, rfl⟩ := h
    exact .inl ⟨n, h1, h2, rfl, intOf_num h1 h2⟩
  · have h' : ∀ n : Int, -most ≤ n → n ≤ most → l ≠ Lib.itoa n := fun n h1 h2 h3 => h ⟨n, h1, h2, h3⟩
    exact .inr ⟨h', intOf_none h'⟩
def endOf (most : Int) (neg : Bool) (v : Nat) : Int × Bool := if (v : Int) > most then (0, false) else if neg = true then (-(v : Int), true) else ((v : Int), true)
theorem s_int_loop (s : ByteArray) (most : Int) (neg : Bool) (hl : s.size ≤ 8) : ∀ (t : List UInt8) (i acc k : Nat), s.data.toList.drop i = t → acc < 10 ^ i → i ≤ 8 → t.length < k →
    spec_l06Int.l0 k s most neg (acc : Int) (i : Int) = some (if t.all digB = true then endOf most neg (dval acc t) else (0, false)) := by
  intro t
  induction t with
  | nil =>
    intro i acc k hd ha hi hk
    obtain ⟨k, rfl⟩ : ∃ m, k = m + 1 := ⟨k - 1, by omega⟩
    have := drop_nil hd
    rw [← sizeL] at this
    have hp : acc < 10 ^ 8 := Nat.lt_of_lt_of_le ha (Nat.pow_le_pow_right (by omega) hi)
    rw [spec_l06Int.l0, if_neg (by omega)]
    simp only [List.all_nil, if_true]
    rw [dval_nil]
    unfold endOf
    by_cases h1 : (acc : Int) > most
    · rw [if_pos h1, if_pos h1]
    · rw [if_neg h1, if_neg h1]
      cases neg with
      | true =>
        rw [if_pos rfl, if_pos rfl, w64 (by omega) (by omega)]
      | false => simp
  | cons c t ih =>
    intro i acc k hd ha hi hk
    obtain ⟨k, rfl⟩ : ∃ m, k = m + 1 := ⟨k - 1, by omega⟩
    obtain ⟨h1, h2, h3⟩ := drop_cons hd
    have h1' : i < s.size := by rw [sizeL]; exact h1
    have hc := u8_lt c
    have hp : acc < 10 ^ 7 := Nat.lt_of_lt_of_le ha (Nat.pow_le_pow_right (by omega) (by omega))
    rw [spec_l06Int.l0, if_pos (by omega), if_pos (by omega), bt_at_ h2, s_digit]
    rw [List.all_cons]
    simp only [Option.bind_some]
    by_cases hdg : digB c = true
    · have hdg' := (digB_iff c).1 hdg
      unfold isDig at hdg'
      rw [if_pos hdg, hdg, Bool.true_and, w64s i (by omega), w64 (n := 10 * (acc : Int)) (by omega) (by omega), w64 (n := (c.toNat : Int)) (by omega) (by omega), w64 (n := 10 * (acc : Int) + (c.toNat : Int)) (by omega) (by omega), w64 (by omega) (by omega)]
      rw [show (10 * (acc : Int) + (c.toNat : Int) - 48) = ((acc * 10 + (c.toNat - 48) : Nat) : Int) by omega]
      rw [ih (i + 1) (acc * 10 + (c.toNat - 48)) k h3 (by rw [Nat.pow_succ]; omega) (by omega) (by simp at hk; omega)]
      simp only [dval_cons]
    · rw [if_neg hdg]
      simp only [Bool.not_eq_true] at hdg
      rw [hdg]; simp
def tailRes (most : Int) (neg : Bool) (m : List UInt8) : Int × Bool :=
  if m = [] ∨ 8 < m.length ∨ (1 < m.length ∧ m.head? = some 48) ∨ (neg = true ∧ m = [48]) then (0, false)
  else if m.all digB = true then endOf most neg (dval 0 m) else (0, false)
theorem s_int_j1 (y : ByteArray) (most : Int) (neg : Bool) (k : Nat) (hk : 12 ≤ k) : spec_l06Int.j1 k y most neg = some (tailRes most neg y.data.toList) := by
  obtain ⟨k, rfl⟩ : ∃ m, k = m + 1 := ⟨k - 1, by omega⟩
  have stop : spec_l06Int.j2 k y most neg true = some (0, false) := by
    obtain ⟨k, rfl⟩ : ∃ m, k = m + 1 := ⟨k - 1, by omega⟩
    rw [spec_l06Int.j2, if_pos rfl]
  have go : y.size ≤ 8 → spec_l06Int.j2 k y most neg false = some (if y.data.toList.all digB = true then endOf most neg (dval 0 y.data.toList) else (0, false)) := by
    intro hl
    obtain ⟨k, rfl⟩ : ∃ m, k = m + 1 := ⟨k - 1, by omega⟩
    rw [spec_l06Int.j2, if_neg (by simp)]
    exact s_int_loop y most neg hl _ 0 0 k rfl (by decide) (by omega) (by rw [← sizeL]; omega)
  have neg2 : (if neg = true then spec_l06Int.j2 k y most neg (y.toList == ([48] : List UInt8)) else spec_l06Int.j2 k y most neg false) = spec_l06Int.j2 k y most neg (neg && y.data.toList == ([48] : List UInt8)) := by
    rw [toL]
    cases neg <;> simp
  rw [spec_l06Int.j1, neg2]
  unfold tailRes
  rcases e : y.data.toList with _ | ⟨c, r⟩
  · have h0 : y.size = 0 := by rw [sizeL, e]; rfl
    rw [if_pos (by omega), stop, if_pos (.inl rfl)]
  · have h0 : y.size = r.length + 1 := by rw [sizeL, e]; rfl
    rw [if_neg (by omega)]
    by_cases h8 : 8 < (c :: r).length
    · simp only [List.length_cons] at h8
      rw [if_pos (by omega), stop, if_pos (.inr (.inl (by simpa using h8)))]
    · simp only [List.length_cons] at h8
      rw [if_neg (by omega)]
      rw [e] at go
      have fin : ∀ b : Bool, b = (neg && (c :: r) == ([48] : List UInt8)) → ¬ (1 < (c :: r).length ∧ (c :: r).head? = some 48) → spec_l06Int.j2 k y most neg b = some (if (c :: r) = [] ∨ 8 < (c :: r).length ∨ (1 < (c :: r).length ∧ (c :: r).head? = some 48) ∨ (neg = true ∧ (c :: r) = [48]) then (0, false) else if (c :: r).all digB = true then endOf most neg (dval 0 (c :: r)) else (0, false)) := by
        intro b hb hz
        cases b with
        | true =>
          have : neg = true ∧ (c :: r) = [48] := by simpa using hb.symm
          rw [stop, if_pos (.inr (.inr (.inr this)))]
        | false =>
          have : ¬ (neg = true ∧ (c :: r) = [48]) := by
            rintro ⟨rfl, h⟩
            rw [h] at hb
            simp at hb
          have hbad : ¬ ((c :: r) = [] ∨ 8 < (c :: r).length ∨ (1 < (c :: r).length ∧ (c :: r).head? = some 48) ∨ (neg = true ∧ (c :: r) = [48])) := by
            rintro (h | h | h | h)
            · cases h
            · simp only [List.length_cons] at h; omega
            · exact hz h
            · exact this h
          rw [go (by omega), if_neg hbad]
      by_cases h1 : 1 < (c :: r).length
      · have h1' := h1
        simp only [List.length_cons] at h1'
        rw [if_pos (by omega), if_pos (by omega), bt_zero e]
        by_cases hz : c.toNat = 48
        · have : c = 48 := u8_eq hz
          rw [if_pos (by omega), stop, if_pos (.inr (.inr (.inl ⟨h1, by rw [this]; rfl⟩)))]
        · rw [if_neg (by omega)]
          refine fin _ rfl ?_
          rintro ⟨_, h⟩
          simp only [List.head?_cons, Option.some.injEq] at h
          rw [h] at hz; exact hz rfl
      · have h1' := h1
        simp only [List.length_cons] at h1'
        rw [if_neg (by omega)]
        exact fin _ rfl (fun h => h1 h.1)
theorem tail_int (most : Int) (h0 : 0 ≤ most) (hm : most ≤ 1000000) (l : List UInt8) : tailRes most (l.head? == some 45) (if l.head? = some 45 then l.tail else l) = intOf most l := by
  rcases intOf_cases most l with ⟨n, h1, h2, rfl, e⟩ | ⟨h, e⟩
  · rw [e]
    rcases int_cases n with ⟨u, rfl⟩ | ⟨u, hu, rfl⟩
    · rw [itoa_pos]
      have hd := dec_digs u
      have hne : (Lib.decDigits u).head? ≠ some 45 := by
        intro hh
        have := hd 45 (List.mem_of_mem_head? hh)
        unfold isDig at this; simp at this
      have hb : ((Lib.decDigits u).head? == some 45) = false := by simpa using hne
      rw [hb, if_neg hne]
      unfold tailRes
      rw [if_neg, if_pos ((all_digs _).2 hd), dval_dec]
      · unfold endOf; rw [if_neg (by omega), if_neg (by simp)]
      · have hlen := dec_len10 6 u (by omega)
        rintro (h | h | ⟨h, h'⟩ | ⟨h, _⟩)
        · exact dec_ne u h
        · omega
        · rcases Nat.eq_zero_or_pos u with rfl | hu
          · rw [Lib.decDigits, dif_pos (by omega)] at h; simp at h
          · obtain ⟨c, r, e1, _, e2⟩ := dec_head u hu
            rw [e1] at h'
            simp only [List.head?_cons, Option.some.injEq] at h'
            rw [h'] at e2; exact e2 rfl
        · cases h
    · rw [itoa_neg' u hu]
      have hd := dec_digs u
      simp only [List.head?_cons, if_true, List.tail_cons, beq_self_eq_true]
      unfold tailRes
      obtain ⟨c, r, e1, _, e2⟩ := dec_head u hu
      rw [if_neg, if_pos ((all_digs _).2 hd), dval_dec]
      · unfold endOf; rw [if_neg (by omega), if_pos rfl]
      · have hlen := dec_len10 6 u (by omega)
        rintro (h | h | ⟨h, h'⟩ | ⟨_, h⟩)
        · exact dec_ne u h
        · omega
        · rw [e1] at h'
          simp only [List.head?_cons, Option.some.injEq] at h'
          rw [h'] at e2; exact e2 rfl
        · rw [e1] at h
          simp only [List.cons.injEq] at h
          rw [h.1] at e2; exact e2 rfl
  · rw [e]
    have core : ∀ (neg : Bool) (m : List UInt8), (∀ u : Nat, (neg = true → 1 ≤ u) → (u : Int) ≤ most → m ≠ Lib.decDigits u) → tailRes most neg m = (0, false) := by
      intro neg m hno
      unfold tailRes
      split
      · rfl
      · rename_i hc
        split
        · rename_i hall
          have hd := (all_digs _).1 hall
          unfold endOf
          split
          · rfl
          · rename_i hle
            exfalso
            have ht : (m ≠ []) := fun x => hc (.inl x)
            have ed : Lib.decDigits (dval 0 m) = m := dec_of_dval _ ht hd (fun h1 c h2 h3 => hc (.inr (.inr (.inl ⟨h1, by rw [h2, show c = 48 from u8_eq h3]⟩))))
            refine hno (dval 0 m) (fun hneg => ?_) (by omega) ed.symm
            rcases Nat.eq_zero_or_pos (dval 0 m) with h0' | h0'
            · rw [h0', Lib.decDigits, dif_pos (by omega)] at ed
              exact absurd (.inr (.inr (.inr ⟨hneg, ed.symm⟩))) hc
            · exact h0'
        · rfl
    by_cases hn : l.head? = some 45
    · rw [if_pos hn, show (l.head? == some 45) = true by simp [hn]]
      refine core _ _ ?_
      intro u hu hle hm'
      refine h (-(u : Int)) (by omega) (by omega) ?_
      rw [itoa_neg' u (hu rfl), ← hm']
      cases l with
      | nil => simp at hn
      | cons c r => simp only [List.head?_cons, Option.some.injEq] at hn; rw [hn]; rfl
    · rw [if_neg hn, show (l.head? == some 45) = false by simp [hn]]
      refine core _ _ ?_
      intro u _ hle hm'
      refine h (u : Int) (by omega) (by omega) ?_
      rw [itoa_pos, ← hm']
theorem s_int (s : ByteArray) (most : Int) (h0 : 0 ≤ most) (hm : most ≤ 1000000) (k : Nat) (hk : 20 ≤ k) : spec_l06Int.f k s most = some (intOf most s.data.toList) := by
  obtain ⟨k, rfl⟩ : ∃ m, k = m + 1 := ⟨k - 1, by omega⟩
  rw [← tail_int most h0 hm]
  unfold spec_l06Int.f
  rcases e : s.data.toList with _ | ⟨c, r⟩
  · have h0 : s.size = 0 := by rw [sizeL, e]; rfl
    rw [if_neg (by omega), spec_l06Int.j0, if_neg (by simp), s_int_j1 _ _ _ _ (by omega), e]; rfl
  · have h0 : s.size = r.length + 1 := by rw [sizeL, e]; rfl
    rw [if_pos (by omega), if_pos (by omega), bt_zero e, spec_l06Int.j0]
    by_cases hc : c = 45
    · subst hc
      rw [if_pos (by decide), if_pos (by omega), s_int_j1 _ _ _ _ (by omega), ext_all, e]; rfl
    · have hc' : (c.toNat : Int) ≠ 45 := fun h => hc (u8_eq (by show c.toNat = 45; omega))
      have hb : ((c.toNat : Int) == 45) = false := by simpa using hc'
      have hb2 : ((c :: r).head? == some 45) = false := by simpa using hc
      rw [hb, if_neg (by simp), s_int_j1 _ _ _ _ (by omega), e, hb2, if_neg (by simpa using hc)]
end Go.Proofs.YtmkppdeoepfpoaaDoor.Q
