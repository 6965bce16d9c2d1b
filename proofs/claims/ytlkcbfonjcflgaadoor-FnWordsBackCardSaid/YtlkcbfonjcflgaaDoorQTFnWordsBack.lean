/- Plain laws over numbers, lists and texts, for the law FnWordsBack: no program in sight. -/
import Derived.Test.YtlkcbfonjcflgaaDoorWLast
import Derived.Test.YtlkcbfonjcflgaaDoorWMore
import Derived.Test.YtlkcbfonjcflgaaDoorWWords
import Derived.Test.YtlkcbfonjcflgaaDoorQOpen
import Derived.Lib.Strings
import Derived.Lib.AtoiAll
import Derived.Lib.ItoaNum
import Derived.Lib.Join
import Derived.Test.YtlkcbfonjcflgaaDoorQx34
import Derived.Test.YtlkcbfonjcflgaaDoorQx4
import Derived.Test.YtlkcbfonjcflgaaDoorQx44
import Derived.Test.YtlkcbfonjcflgaaDoorQx45
import Derived.Test.YtlkcbfonjcflgaaDoorQx46
import Derived.Test.YtlkcbfonjcflgaaDoorQx47
import Derived.Test.YtlkcbfonjcflgaaDoorQx48
import Derived.Test.YtlkcbfonjcflgaaDoorQx49
import Derived.Test.YtlkcbfonjcflgaaDoorQx5
import Derived.Test.YtlkcbfonjcflgaaDoorQx50
import Derived.Test.YtlkcbfonjcflgaaDoorQx51
import Derived.Test.YtlkcbfonjcflgaaDoorQx52
import Derived.Test.YtlkcbfonjcflgaaDoorQx53
import Derived.Test.YtlkcbfonjcflgaaDoorQx54
import Derived.Test.YtlkcbfonjcflgaaDoorQx55
import Derived.Test.YtlkcbfonjcflgaaDoorQx56
import Derived.Test.YtlkcbfonjcflgaaDoorQx57
import Derived.Test.YtlkcbfonjcflgaaDoorQx58
import Derived.Test.YtlkcbfonjcflgaaDoorQx6
import Derived.Test.YtlkcbfonjcflgaaDoorQx7
namespace Go.Proofs.YtlkcbfonjcflgaaDoor.Q
open Go.RowKit Go.Proofs.YtlkcbfonjcflgaaDoorW.PrintWords Go.Proofs.YtlkcbfonjcflgaaDoorW.PrintLast Go.Proofs.YtlkcbfonjcflgaaDoorW.PrintMore
open Go.Proofs.YtlkcbfonjcflgaaDoor.Open
set_option linter.unusedSimpArgs false
set_option linter.unusedVariables false
theorem drop_cons {α : Type} {l : List α} {i : Nat} {x : α} {t : List α} (h : l.drop i = x :: t) : i < l.length ∧ l[i]? = some x ∧ l.drop (i + 1) = t := by
  have h1 : i < l.length := by
    rcases Nat.lt_or_ge i l.length with h1 | h1
    · exact h1
    · rw [List.drop_eq_nil_of_le h1] at h; simp at h
  refine ⟨h1, ?_, ?_⟩
  · have := congrArg (fun z => z[0]?) h
    simpa using this
  · have := congrArg List.tail h
    simpa using this
theorem drop_nil {α : Type} {l : List α} {i : Nat} (h : l.drop i = []) : l.length ≤ i := by simpa using h
theorem w64 {n : Int} (h1 : -9223372036854775808 ≤ n) (h2 : n ≤ 9223372036854775807) : wrap64 n = n := by unfold wrap64; omega
theorem w64s (i : Nat) (h : i < 9223372036854775807) : wrap64 ((i : Int) + 1) = ((i + 1 : Nat) : Int) := by
  rw [w64 (by omega) (by omega)]; omega
end Go.Proofs.YtlkcbfonjcflgaaDoor.Q
namespace Go.Proofs.YtlkcbfonjcflgaaDoor.Q
open Go.RowKit Go.Proofs.YtlkcbfonjcflgaaDoorW.PrintWords Go.Proofs.YtlkcbfonjcflgaaDoorW.PrintLast Go.Proofs.YtlkcbfonjcflgaaDoorW.PrintMore
open Go.Proofs.YtlkcbfonjcflgaaDoor.Open
set_option linter.unusedSimpArgs false
set_option linter.unusedVariables false
theorem toL (s : ByteArray) : s.toList = s.data.toList := Lib.toList_data s
theorem sizeL (s : ByteArray) : s.size = s.data.toList.length := Lib.size_eq s
theorem extL (s : ByteArray) (a b : Nat) : (s.extract a b).data.toList = (s.data.toList.drop a).take (b - a) := Lib.extract_data s a b
theorem ext_all (s : ByteArray) (a : Nat) : (s.extract a s.size).data.toList = s.data.toList.drop a := by
  rw [extL, sizeL, List.take_of_length_le (by simp)]
theorem ext_head (s : ByteArray) (b : Nat) : (s.extract 0 b).data.toList = s.data.toList.take b := by rw [extL]; simp
theorem mkL (l : List UInt8) : (⟨l.toArray⟩ : ByteArray).data.toList = l := rfl
theorem eqL {s t : ByteArray} (h : s.data.toList = t.data.toList) : s = t := by
  rw [← Lib.mk_data s, h, Lib.mk_data]
theorem isL {s : ByteArray} {l : List UInt8} (h : s.data.toList = l) : s = ⟨l.toArray⟩ := by rw [← h, Lib.mk_data]
theorem bt_at_ {s : ByteArray} {i : Nat} {c : UInt8} (h : s.data.toList[i]? = some c) : bt s (i : Int) = (c.toNat : Int) := by
  obtain ⟨hi, e⟩ := List.getElem?_eq_some_iff.1 h
  have hs : i < s.size := by rw [sizeL]; exact hi
  unfold bt
  rw [dif_pos (by simpa using hs)]
  have : s[i] = c := by rw [← e]; simp [ByteArray.getElem_eq_getElem_data]
  simp only [Int.toNat_natCast, this]
theorem bt_zero {s : ByteArray} {c : UInt8} {r : List UInt8} (h : s.data.toList = c :: r) : bt s 0 = (c.toNat : Int) := bt_at_ (i := 0) (by rw [h]; rfl)
theorem u8_lt (c : UInt8) : c.toNat < 256 := UInt8.toNat_lt c
theorem u8_eq {c d : UInt8} (h : c.toNat = d.toNat) : c = d := UInt8.toNat_inj.1 h
theorem app_mk' (a b : ByteArray) : (a ++ b).data.toList = a.data.toList ++ b.data.toList := by simp [ByteArray.data_append]
end Go.Proofs.YtlkcbfonjcflgaaDoor.Q
namespace Go.Proofs.YtlkcbfonjcflgaaDoor.Q
open Go.RowKit Go.Proofs.YtlkcbfonjcflgaaDoorW.PrintWords Go.Proofs.YtlkcbfonjcflgaaDoorW.PrintLast Go.Proofs.YtlkcbfonjcflgaaDoorW.PrintMore
open Go.Proofs.YtlkcbfonjcflgaaDoor.Open
set_option linter.unusedSimpArgs false
set_option linter.unusedVariables false
def isDig (c : UInt8) : Prop := 48 ≤ c.toNat ∧ c.toNat ≤ 57
def dval (acc : Nat) (l : List UInt8) : Nat := l.foldl (fun a c => a * 10 + (c.toNat - 48)) acc
theorem dval_nil (acc : Nat) : dval acc [] = acc := by unfold dval; rw [List.foldl_nil]
theorem dval_cons (acc : Nat) (c : UInt8) (r : List UInt8) : dval acc (c :: r) = dval (acc * 10 + (c.toNat - 48)) r := by
  unfold dval
  rw [List.foldl_cons]
theorem dval_snoc (c : UInt8) (l : List UInt8) (acc : Nat) : dval acc (l ++ [c]) = dval acc l * 10 + (c.toNat - 48) := by
  unfold dval
  rw [List.foldl_append, List.foldl_cons, List.foldl_nil]
theorem dval_ge : ∀ (l : List UInt8) (acc : Nat), acc ≤ dval acc l
  | [], acc => Nat.le_refl _
  | c :: l, acc => by simp only [dval_cons, dval_nil]; have := dval_ge l (acc * 10 + (c.toNat - 48)); omega
theorem ofNat_dig (d : Nat) (h : d < 10) : (UInt8.ofNat (48 + d)).toNat = 48 + d := by simp; omega
theorem isDig_ofNat (d : Nat) (h : d < 10) : isDig (UInt8.ofNat (48 + d)) := by unfold isDig; rw [ofNat_dig d h]; omega
theorem dig_ofNat {c : UInt8} (h : isDig c) : UInt8.ofNat (48 + (c.toNat - 48)) = c := by
  unfold isDig at h
  rw [show 48 + (c.toNat - 48) = c.toNat by omega]
  simp
theorem dec_digs (u : Nat) : ∀ c ∈ Lib.decDigits u, isDig c := by
  induction u using Nat.strongRecOn with
  | _ u ih =>
    rw [Lib.decDigits]
    split
    · rename_i h; intro c hc; simp only [List.mem_singleton] at hc; subst hc; exact isDig_ofNat u h
    · intro c hc
      rcases List.mem_append.1 hc with h | h
      · exact ih (u / 10) (by omega) c h
      · simp only [List.mem_singleton] at h; subst h; exact isDig_ofNat _ (by omega)
theorem dval_dec (u : Nat) : dval 0 (Lib.decDigits u) = u := by
  induction u using Nat.strongRecOn with
  | _ u ih =>
    rw [Lib.decDigits]
    split
    · rename_i h; simp only [dval_cons, dval_nil, ofNat_dig u h]; omega
    · rw [dval_snoc, ih (u / 10) (by omega), ofNat_dig _ (by omega)]; omega
theorem dec_ne (u : Nat) : Lib.decDigits u ≠ [] := by rw [Lib.decDigits]; split <;> simp
theorem dec_head (u : Nat) (hu : 1 ≤ u) : ∃ c r, Lib.decDigits u = c :: r ∧ isDig c ∧ c.toNat ≠ 48 := by
  induction u using Nat.strongRecOn with
  | _ u ih =>
    rw [Lib.decDigits]
    split
    · rename_i h; exact ⟨_, [], rfl, isDig_ofNat u h, by rw [ofNat_dig u h]; omega⟩
    · obtain ⟨c, r, e, h1, h2⟩ := ih (u / 10) (by omega) (by omega)
      exact ⟨c, r ++ [_], by rw [e]; rfl, h1, h2⟩
theorem dec_of_dval (l : List UInt8) : l ≠ [] → (∀ c ∈ l, isDig c) → (1 < l.length → ∀ c, l.head? = some c → c.toNat ≠ 48) → Lib.decDigits (dval 0 l) = l := by
  induction h : l.length using Nat.strongRecOn generalizing l with
  | _ n ih =>
    intro h0 hd hz
    have e : l = l.dropLast ++ [l.getLast h0] := (List.dropLast_concat_getLast h0).symm
    have hcd := hd (l.getLast h0) (List.getLast_mem h0)
    generalize l.getLast h0 = c at e hcd
    generalize l.dropLast = p at e
    subst e
    rw [dval_snoc]
    have hcd' := hcd
    unfold isDig at hcd'
    by_cases hp : p = []
    · subst hp
      rw [Lib.decDigits, dif_pos (by simp only [dval_cons, dval_nil]; omega)]
      simp only [dval_cons, dval_nil, Nat.zero_mul, Nat.zero_add, List.nil_append, dig_ofNat hcd]
    · have hpl : 0 < p.length := List.length_pos_iff.2 hp
      have hhead : ∀ x, p.head? = some x → x.toNat ≠ 48 := fun x hx => hz (by simp at h ⊢; omega) x (by rw [List.head?_append, hx]; rfl)
      have i1 := ih p.length (by simp at h; omega) p rfl hp (fun x hx => hd x (by simp [hx])) (fun _ => hhead)
      have pos : 1 ≤ dval 0 p := by
        cases p with
        | nil => exact absurd rfl hp
        | cons x r =>
          have a := hhead x rfl
          have b := hd x (by simp)
          unfold isDig at b
          have := dval_ge r (0 * 10 + (x.toNat - 48))
          simp only [dval_cons, dval_nil]; omega
      rw [Lib.decDigits, dif_neg (by omega), show (dval 0 p * 10 + (c.toNat - 48)) / 10 = dval 0 p by omega, show (dval 0 p * 10 + (c.toNat - 48)) % 10 = c.toNat - 48 by omega, i1, dig_ofNat hcd]
theorem dec_len10 (k : Nat) : ∀ u, u < 10 ^ (k + 1) → (Lib.decDigits u).length ≤ k + 1 := by
  induction k with
  | zero => intro u hu; rw [Lib.decDigits, dif_pos (by simpa using hu)]; simp
  | succ k ih =>
    intro u hu
    rw [Lib.decDigits]
    split
    · simp
    · have := ih (u / 10) (by rw [Nat.pow_succ] at hu; omega)
      simp; omega
theorem parse_digs : ∀ (l : List UInt8) (acc : Nat), (∀ c ∈ l, isDig c) → dval acc l < 1000000000 → Lib.parseUint10 acc l = .ok (dval acc l)
  | [], acc, _, _ => rfl
  | c :: l, acc, hd, hv => by
    have hc := hd c (by simp)
    unfold isDig at hc
    rw [dval_cons] at hv ⊢
    have hge := dval_ge l (acc * 10 + (c.toNat - 48))
    rw [Lib.parseUint10, if_pos hc, if_neg (by omega), if_neg (by omega)]
    exact parse_digs l _ (fun x hx => hd x (by simp [hx])) hv
theorem atoi_dec (u : Nat) (hu : u < 1000000000) : Lib.atoiAll (Lib.decDigits u) = .ok (u : Int) := by
  have hp := parse_digs (Lib.decDigits u) 0 (dec_digs u) (by rw [dval_dec]; omega)
  rw [dval_dec] at hp
  have hd := dec_digs u
  have hne := dec_ne u
  cases e : Lib.decDigits u with
  | nil => exact absurd e hne
  | cons c r =>
    rw [e] at hp hd
    have hc := hd c (by simp)
    unfold isDig at hc
    unfold Lib.atoiAll
    simp only
    rw [if_neg (by omega)]
    unfold Lib.parseMag
    rw [if_neg (by simp), hp]
    simp only
    rw [if_neg (by omega), if_neg (by omega), if_neg (by omega)]
theorem atoi_neg_dec (u : Nat) (h1 : 1 ≤ u) (hu : u < 1000000000) : Lib.atoiAll (45 :: Lib.decDigits u) = .ok (-(u : Int)) := by
  have hp := parse_digs (Lib.decDigits u) 0 (dec_digs u) (by rw [dval_dec]; omega)
  rw [dval_dec] at hp
  unfold Lib.atoiAll
  simp only
  rw [if_pos (by decide)]
  unfold Lib.parseMag
  rw [if_neg (dec_ne u), hp]
  simp only
  rw [if_neg (by simp), if_neg (by omega), if_pos (by decide)]
theorem itoa_pos (u : Nat) : Lib.itoa (u : Int) = Lib.decDigits u := by unfold Lib.itoa; rw [if_neg (by omega)]; simp
theorem itoa_neg' (u : Nat) (h : 1 ≤ u) : Lib.itoa (-(u : Int)) = 45 :: Lib.decDigits u := by unfold Lib.itoa; rw [if_pos (by omega)]; simp
theorem int_cases (n : Int) : (∃ u : Nat, n = (u : Int)) ∨ ∃ u : Nat, 1 ≤ u ∧ n = -(u : Int) := by
  by_cases h : 0 ≤ n
  · exact .inl ⟨n.toNat, by omega⟩
  · exact .inr ⟨n.natAbs, by omega, by omega⟩
theorem atoi_itoa (n : Int) (h1 : -1000000 ≤ n) (h2 : n ≤ 1000000) : Lib.atoiAll (Lib.itoa n) = .ok n := by
  rcases int_cases n with ⟨u, rfl⟩ | ⟨u, hu, rfl⟩
  · rw [itoa_pos]; exact atoi_dec u (by omega)
  · rw [itoa_neg' u hu]; exact atoi_neg_dec u hu (by omega)
end Go.Proofs.YtlkcbfonjcflgaaDoor.Q
namespace Go.Proofs.YtlkcbfonjcflgaaDoor.Q
open Go.RowKit Go.Proofs.YtlkcbfonjcflgaaDoorW.PrintWords Go.Proofs.YtlkcbfonjcflgaaDoorW.PrintLast Go.Proofs.YtlkcbfonjcflgaaDoorW.PrintMore
open Go.Proofs.YtlkcbfonjcflgaaDoor.Open
set_option linter.unusedSimpArgs false
set_option linter.unusedVariables false
def digB (c : UInt8) : Bool := decide (48 ≤ c.toNat) && decide (c.toNat ≤ 57)
theorem digB_iff (c : UInt8) : digB c = true ↔ isDig c := by unfold digB isDig; simp
theorem all_digs (l : List UInt8) : l.all digB = true ↔ ∀ c ∈ l, isDig c := by simp [List.all_eq_true, digB_iff]
theorem s_digit (c : UInt8) : spec_l01Digit.f (c.toNat : Int) = some (digB c) := by
  unfold spec_l01Digit.f digB
  by_cases h : 48 ≤ c.toNat
  · rw [if_pos (by omega)]; simp [h]; omega
  · rw [if_neg (by omega)]; simp [h]
end Go.Proofs.YtlkcbfonjcflgaaDoor.Q
namespace Go.Proofs.YtlkcbfonjcflgaaDoor.Q
open Go.RowKit Go.Proofs.YtlkcbfonjcflgaaDoorW.PrintWords Go.Proofs.YtlkcbfonjcflgaaDoorW.PrintLast Go.Proofs.YtlkcbfonjcflgaaDoorW.PrintMore
open Go.Proofs.YtlkcbfonjcflgaaDoor.Open
set_option linter.unusedSimpArgs false
set_option linter.unusedVariables false
/-- What the text of a number is read as (impl_readNum.f). -/
theorem numOf_itoa (n : Int) (h1 : -1000000 ≤ n) (h2 : n ≤ 1000000) : numOf (Lib.itoa n) = (n, true) := by
  unfold numOf; rw [atoi_itoa n h1 h2]; simp
theorem numOf_true {l : List UInt8} (h : (numOf l).2 = true) : l = Lib.itoa (numOf l).1 := by
  unfold numOf at h ⊢
  cases e : Lib.atoiAll l with
  | ok v => rw [e] at h; simpa using (beq_iff_eq.1 h).symm
  | «syntax» => rw [e] at h; simp at h
  | range => rw [e] at h; simp at h
end Go.Proofs.YtlkcbfonjcflgaaDoor.Q
namespace Go.Proofs.YtlkcbfonjcflgaaDoor.Q
open Go.RowKit Go.Proofs.YtlkcbfonjcflgaaDoorW.PrintWords Go.Proofs.YtlkcbfonjcflgaaDoorW.PrintLast Go.Proofs.YtlkcbfonjcflgaaDoorW.PrintMore
open Go.Proofs.YtlkcbfonjcflgaaDoor.Open
set_option linter.unusedSimpArgs false
set_option linter.unusedVariables false
def hasL (l : List ByteArray) (s : List UInt8) : Bool := l.any fun x => x.data.toList == s
theorem hasL_cons (x : ByteArray) (t : List ByteArray) (s : List UInt8) : hasL (x :: t) s = (x.data.toList == s || hasL t s) := by unfold hasL; rw [List.any_cons]
theorem rdOf_at {α : Type} {d : α} {l : List α} {i : Nat} {x : α} (h : l[i]? = some x) : rdOf d l (i : Int) = x := by
  unfold rdOf; simp [List.getD, h]
theorem s_has_loop (l : List ByteArray) (s : ByteArray) (hl : l.length ≤ 1000) : ∀ (t : List ByteArray) (i k : Nat), l.drop i = t → t.length < k → spec_l01Has.l0 k l s (i : Int) = some (hasL t s.data.toList) := by
  intro t
  induction t with
  | nil =>
    intro i k hd hk
    obtain ⟨k, rfl⟩ : ∃ m, k = m + 1 := ⟨k - 1, by omega⟩
    have := drop_nil hd
    rw [spec_l01Has.l0, if_neg (by omega)]; rfl
  | cons x t ih =>
    intro i k hd hk
    obtain ⟨k, rfl⟩ : ∃ m, k = m + 1 := ⟨k - 1, by omega⟩
    obtain ⟨h1, h2, h3⟩ := drop_cons hd
    rw [spec_l01Has.l0, if_pos (by omega), if_pos (by omega), rdOf_at h2, toL, toL, w64s i (by omega), ih (i + 1) k h3 (by simp at hk; omega)]
    rw [hasL_cons]
    by_cases h : x.data.toList = s.data.toList
    · rw [if_pos h, beq_iff_eq.2 h]; rfl
    · rw [if_neg h, beq_eq_false_iff_ne.2 h]; rfl
theorem s_has (l : List ByteArray) (s : ByteArray) (hl : l.length ≤ 1000) (k : Nat) (hk : l.length < k) : spec_l01Has.f k l s = some (hasL l s.data.toList) :=
  s_has_loop l s hl l 0 k rfl hk
theorem i_index_loop (l : List ByteArray) (s : ByteArray) (hl : l.length ≤ 1000) : ∀ (t : List ByteArray) (i k : Nat), l.drop i = t → t.length < k → ∃ r, slices_Index_string_string.l0 k l s (l.length : Int) (i : Int) = some r ∧ decide (r ≥ 0) = hasL t s.data.toList := by
  intro t
  induction t with
  | nil =>
    intro i k hd hk
    obtain ⟨k, rfl⟩ : ∃ m, k = m + 1 := ⟨k - 1, by omega⟩
    have := drop_nil hd
    rw [slices_Index_string_string.l0, if_neg (by omega)]; exact ⟨_, rfl, rfl⟩
  | cons x t ih =>
    intro i k hd hk
    obtain ⟨k, rfl⟩ : ∃ m, k = m + 1 := ⟨k - 1, by omega⟩
    obtain ⟨h1, h2, h3⟩ := drop_cons hd
    rw [slices_Index_string_string.l0, if_pos (by omega), if_pos (by omega), if_pos (by omega), rdOf_at h2, toL, toL, w64s i (by omega)]
    by_cases h : s.data.toList = x.data.toList
    · rw [if_pos h]; refine ⟨_, rfl, ?_⟩; rw [hasL_cons, beq_iff_eq.2 h.symm]; simp
    · rw [if_neg h]
      obtain ⟨r, e1, e2⟩ := ih (i + 1) k h3 (by simp at hk; omega)
      refine ⟨r, e1, e2.trans ?_⟩
      have h' : ¬ x.data.toList = s.data.toList := fun e => h e.symm
      rw [hasL_cons, beq_eq_false_iff_ne.2 h']; rfl
theorem i_has (l : List ByteArray) (s : ByteArray) (hl : l.length ≤ 1000) (k : Nat) (hk : l.length < k) : slices_Contains_string_string.f k l s = some (hasL l s.data.toList) := by
  obtain ⟨r, e1, e2⟩ := i_index_loop l s hl l 0 k rfl hk
  unfold slices_Contains_string_string.f slices_Index_string_string.f
  rw [show (0 : Int) = ((0 : Nat) : Int) from rfl, e1]
  simp only [Option.bind_some]
  exact congrArg some e2
def letB (c : UInt8) : Bool := decide (97 ≤ c.toNat) && decide (c.toNat ≤ 122)
theorem s_letter (c : UInt8) : spec_l01Letter.f (c.toNat : Int) = some (letB c) := by
  unfold spec_l01Letter.f letB
  by_cases h : 97 ≤ c.toNat
  · rw [if_pos (by omega)]; simp [h]; omega
  · rw [if_neg (by omega)]; simp [h]
theorem i_letter (c : UInt8) : impl_isLetter.f (c.toNat : Int) = some (letB c) := by
  unfold impl_isLetter.f letB
  by_cases h : 97 ≤ c.toNat
  · rw [if_pos (by omega)]; simp [h]; omega
  · rw [if_neg (by omega)]; simp [h]
theorem i_digit (c : UInt8) : impl_isDigit.f (c.toNat : Int) = some (digB c) := by
  unfold impl_isDigit.f digB
  by_cases h : 48 ≤ c.toNat
  · rw [if_pos (by omega)]; simp [h]; omega
  · rw [if_neg (by omega)]; simp [h]
def keys : List ByteArray := [(⟨#[97, 114, 114, 97, 121]⟩ : ByteArray), (⟨#[99, 104, 101, 99, 107]⟩ : ByteArray), (⟨#[101, 108, 115, 101]⟩ : ByteArray), (⟨#[102, 111, 114]⟩ : ByteArray), (⟨#[102, 114, 111, 109]⟩ : ByteArray), (⟨#[105, 102]⟩ : ByteArray), (⟨#[108, 101, 110]⟩ : ByteArray), (⟨#[114, 101, 97, 100]⟩ : ByteArray), (⟨#[115, 107, 105, 112]⟩ : ByteArray), (⟨#[115, 116, 111, 112]⟩ : ByteArray), (⟨#[116, 111]⟩ : ByteArray), (⟨#[118, 97, 114]⟩ : ByteArray), (⟨#[119, 104, 105, 108, 101]⟩ : ByteArray)]
def ones : List ByteArray := [(⟨#[43]⟩ : ByteArray), (⟨#[45]⟩ : ByteArray), (⟨#[42]⟩ : ByteArray), (⟨#[40]⟩ : ByteArray), (⟨#[41]⟩ : ByteArray), (⟨#[91]⟩ : ByteArray), (⟨#[93]⟩ : ByteArray), (⟨#[123]⟩ : ByteArray), (⟨#[125]⟩ : ByteArray), (⟨#[59]⟩ : ByteArray), (⟨#[61]⟩ : ByteArray), (⟨#[60]⟩ : ByteArray), (⟨#[62]⟩ : ByteArray), (⟨#[63]⟩ : ByteArray)]
def twos : List ByteArray := [(⟨#[61, 61]⟩ : ByteArray), (⟨#[33, 61]⟩ : ByteArray), (⟨#[60, 61]⟩ : ByteArray), (⟨#[62, 61]⟩ : ByteArray)]
def wordB (c : UInt8) : Bool := letB c || digB c
def nameB (l : List UInt8) : Bool := decide (l.length ≤ 8) && (l.head?.any letB) && l.all wordB
def numB (l : List UInt8) : Bool := !(l.isEmpty || decide (7 < l.length) || (decide (1 < l.length) && l.head? == some 48)) && (l.all digB && decide (dval 0 l ≤ 1000000))
def kindL (l : List UInt8) : Int := if hasL keys l = true then 4 else if nameB l = true then 1 else if numB l = true then 2 else if hasL (ones ++ twos) l = true then 3 else 0
theorem s_key (s : ByteArray) (k : Nat) (hk : 40 ≤ k) : spec_l01Key.f k s = some (hasL keys s.data.toList) := by
  unfold spec_l01Key.f
  rw [s_has _ _ (by simp) k (by simp; omega)]; rfl
theorem i_key (s : ByteArray) (k : Nat) (hk : 40 ≤ k) : impl_isKey.f k s = some (hasL keys s.data.toList) := by
  unfold impl_isKey.f
  rw [i_has _ _ (by simp) k (by simp; omega)]; rfl
theorem s_sign (s : ByteArray) (k : Nat) (hk : 40 ≤ k) : spec_l01Sign.f k s = some (hasL (ones ++ twos) s.data.toList) := by
  unfold spec_l01Sign.f
  rw [s_has _ _ (by simp) k (by simp; omega)]; rfl
theorem s_name_loop (s : ByteArray) (hl : s.size ≤ 1048576) : ∀ (t : List UInt8) (i k : Nat), s.data.toList.drop i = t → t.length < k → spec_l01Name.l0 k s (i : Int) = some (t.all wordB) := by
  intro t
  induction t with
  | nil =>
    intro i k hd hk
    obtain ⟨k, rfl⟩ : ∃ m, k = m + 1 := ⟨k - 1, by omega⟩
    have := drop_nil hd
    rw [← sizeL] at this
    rw [spec_l01Name.l0, if_neg (by omega)]; rfl
  | cons c t ih =>
    intro i k hd hk
    obtain ⟨k, rfl⟩ : ∃ m, k = m + 1 := ⟨k - 1, by omega⟩
    obtain ⟨h1, h2, h3⟩ := drop_cons hd
    rw [← sizeL] at h1
    rw [spec_l01Name.l0, if_pos (by omega), if_pos (by omega), bt_at_ h2, s_letter, s_digit, w64s i (by omega), ih (i + 1) k h3 (by simp at hk; omega)]
    rw [List.all_cons, wordB]
    simp only [Option.bind_some]
    cases letB c <;> cases digB c <;> simp
theorem s_name (s : ByteArray) (hl : s.size ≤ 1048576) (k : Nat) (hk : s.size + 40 ≤ k) (hkey : hasL keys s.data.toList = false) : spec_l01Name.f k s = some (nameB s.data.toList) := by
  have stop : spec_l01Name.j0 k s true = some false := by
    obtain ⟨k, rfl⟩ : ∃ m, k = m + 1 := ⟨k - 1, by omega⟩
    rw [spec_l01Name.j0, if_pos rfl]
  have go : spec_l01Name.j0 k s false = some (s.data.toList.all wordB) := by
    obtain ⟨k, rfl⟩ : ∃ m, k = m + 1 := ⟨k - 1, by omega⟩
    rw [spec_l01Name.j0, if_neg (by simp)]
    exact s_name_loop s hl _ 0 k rfl (by rw [← sizeL]; omega)
  have hz := sizeL s
  unfold spec_l01Name.f nameB
  rcases e : s.data.toList with _ | ⟨c, r⟩
  · rw [e] at hz
    have hz0 : s.size = 0 := hz
    rw [if_pos (by omega), stop]; rfl
  · rw [e] at hz
    simp only [List.length_cons] at hz
    rw [if_neg (by omega)]
    by_cases h8 : (s.size : Int) > 8
    · rw [if_pos h8, stop]; simp; omega
    · rw [if_neg h8, if_pos (by omega), bt_zero e, s_letter, s_key s k (by omega), hkey]
      simp only [Option.bind_some]
      cases hb : letB c with
      | true =>
        rw [if_pos rfl, go, e]
        have h7 : r.length + 1 ≤ 8 := by omega
        simp [hb, h7]
      | false => rw [if_neg (by simp), stop]; simp [hb]
theorem s_number_loop (s : ByteArray) (hl : s.size ≤ 7) : ∀ (t : List UInt8) (i acc k : Nat), s.data.toList.drop i = t → acc < 10 ^ i → i ≤ 7 → t.length < k →
    spec_l01Number.l0 k s (acc : Int) (i : Int) = some (if t.all digB = true ∧ dval acc t ≤ 1000000 then (dval acc t : Int) else -1) := by
  intro t
  induction t with
  | nil =>
    intro i acc k hd ha hi hk
    obtain ⟨k, rfl⟩ : ∃ m, k = m + 1 := ⟨k - 1, by omega⟩
    have := drop_nil hd
    rw [← sizeL] at this
    rw [spec_l01Number.l0, if_neg (by omega)]
    rw [dval_nil]
    simp only [List.all_nil, true_and]
    by_cases h : acc ≤ 1000000
    · rw [if_neg (by omega), if_pos h]
    · rw [if_pos (by omega), if_neg h]
  | cons c t ih =>
    intro i acc k hd ha hi hk
    obtain ⟨k, rfl⟩ : ∃ m, k = m + 1 := ⟨k - 1, by omega⟩
    obtain ⟨h1, h2, h3⟩ := drop_cons hd
    rw [← sizeL] at h1
    have hc := u8_lt c
    have hp : acc < 10 ^ 7 := Nat.lt_of_lt_of_le ha (Nat.pow_le_pow_right (by omega) (by omega))
    rw [spec_l01Number.l0, if_pos (by omega), if_pos (by omega), bt_at_ h2, s_digit]
    rw [List.all_cons]
    simp only [Option.bind_some]
    by_cases hdg : digB c = true
    · have hdg' := (digB_iff c).1 hdg
      unfold isDig at hdg'
      rw [if_pos hdg, hdg, Bool.true_and, w64s i (by omega), w64 (n := 10 * (acc : Int)) (by omega) (by omega), w64 (n := (c.toNat : Int)) (by omega) (by omega), w64 (n := 10 * (acc : Int) + (c.toNat : Int)) (by omega) (by omega), w64 (by omega) (by omega)]
      rw [show (10 * (acc : Int) + (c.toNat : Int) - 48) = ((acc * 10 + (c.toNat - 48) : Nat) : Int) by omega]
      rw [ih (i + 1) (acc * 10 + (c.toNat - 48)) k h3 (by rw [Nat.pow_succ]; omega) (by omega) (by simp at hk; omega)]
      simp only [dval_cons]
    · rw [if_neg hdg]
      simp only [Bool.not_eq_true] at hdg
      rw [hdg]; simp
theorem s_number (s : ByteArray) (k : Nat) (hk : 20 ≤ k) : ∃ n, spec_l01Number.f k s = some n ∧ (n ≥ 0 ↔ numB s.data.toList = true) := by
  have stop : spec_l01Number.j0 k s true = some (-1) := by
    obtain ⟨k, rfl⟩ : ∃ m, k = m + 1 := ⟨k - 1, by omega⟩
    rw [spec_l01Number.j0, if_pos rfl]
  have hz := sizeL s
  have go : s.size ≤ 7 → spec_l01Number.j0 k s false = some (if s.data.toList.all digB = true ∧ dval 0 s.data.toList ≤ 1000000 then (dval 0 s.data.toList : Int) else -1) := by
    intro hl
    obtain ⟨k, rfl⟩ : ∃ m, k = m + 1 := ⟨k - 1, by omega⟩
    rw [spec_l01Number.j0, if_neg (by simp)]
    exact s_number_loop s hl _ 0 0 k rfl (by decide) (by omega) (by omega)
  unfold spec_l01Number.f numB
  rcases e : s.data.toList with _ | ⟨c, r⟩
  · rw [e] at hz
    have hz0 : s.size = 0 := hz
    rw [if_pos (by omega), stop]
    exact ⟨_, rfl, by simp⟩
  · rw [e] at hz go
    simp only [List.length_cons] at hz
    rw [if_neg (by omega)]
    by_cases h7 : (s.size : Int) > 7
    · rw [if_pos h7, stop]
      have : 7 < r.length + 1 := by omega
      exact ⟨_, rfl, by simp [this]⟩
    · rw [if_neg h7]
      have h7' : ¬ 7 < r.length + 1 := by omega
      have fin : ∀ b : Bool, b = (decide (1 < r.length + 1) && (c == 48)) → ∃ n, spec_l01Number.j0 k s b = some n ∧ (n ≥ 0 ↔ (!((c :: r).isEmpty || decide (7 < (c :: r).length) || (decide (1 < (c :: r).length) && (c :: r).head? == some 48)) && ((c :: r).all digB && decide (dval 0 (c :: r) ≤ 1000000))) = true) := by
        intro b hb
        have e0 : ((c :: r).head? == some 48) = (c == 48) := by simp
        rw [List.length_cons, e0, ← hb, decide_eq_false h7']
        cases b with
        | true => rw [stop]; exact ⟨_, rfl, by simp⟩
        | false =>
          rw [go (by omega)]
          refine ⟨_, rfl, ?_⟩
          simp only [List.isEmpty_cons, Bool.or_self, Bool.not_false, Bool.true_and, Bool.and_eq_true, decide_eq_true_eq]
          split
          · rename_i h; simp only [h, iff_true, and_self]; omega
          · rename_i h; simp only [h, iff_false]; omega
      by_cases h1 : (s.size : Int) > 1
      · rw [if_pos h1, if_pos (by omega), bt_zero e]
        refine fin _ ?_
        have : 1 < r.length + 1 := by omega
        simp only [this, decide_true, Bool.true_and]
        by_cases h48 : c = 48
        · subst h48; rfl
        · have : (c.toNat : Int) ≠ 48 := fun h => h48 (u8_eq (by show c.toNat = 48; omega))
          rw [show ((c.toNat : Int) == 48) = false by simpa using this, show (c == 48) = false by simpa using h48]
      · rw [if_neg h1]
        refine fin _ ?_
        have : ¬ 1 < r.length + 1 := by omega
        simp [this]
theorem s_kind (s : ByteArray) (hl : s.size ≤ 1048576) (k : Nat) (hk : s.size + 40 ≤ k) : spec_l01Kind.f k s = some (kindL s.data.toList) := by
  unfold spec_l01Kind.f kindL
  rw [s_key s k (by omega)]
  simp only [Option.bind_some]
  cases hkey : hasL keys s.data.toList with
  | true => simp
  | false =>
    rw [if_neg (by simp), s_name s hl k hk hkey]
    simp only [Option.bind_some]
    cases hn : nameB s.data.toList with
    | true => simp
    | false =>
      rw [if_neg (by simp)]
      obtain ⟨n, e1, e2⟩ := s_number s k (by omega)
      rw [e1]
      simp only [Option.bind_some]
      cases hm : numB s.data.toList with
      | true => rw [if_pos (e2.2 hm)]; simp
      | false =>
        rw [if_neg (fun h => by rw [e2.1 h] at hm; cases hm), s_sign s k (by omega)]
        simp only [Option.bind_some]
        simp
        split <;> rfl
theorem num_itoa (l : List UInt8) : numB l = true ↔ ∃ u : Nat, u ≤ 1000000 ∧ l = Lib.decDigits u := by
  unfold numB
  simp only [Bool.and_eq_true, Bool.not_eq_true', Bool.or_eq_false_iff, decide_eq_true_eq, decide_eq_false_iff_not, Bool.and_eq_false_iff, beq_eq_false_iff_ne, ne_eq, List.isEmpty_eq_false_iff]
  constructor
  · rintro ⟨⟨⟨h1, h2⟩, h3⟩, h4, h5⟩
    refine ⟨dval 0 l, h5, (dec_of_dval l h1 ((all_digs l).1 h4) ?_).symm⟩
    intro hl c hc e
    rcases h3 with h3 | h3
    · exact h3 hl
    · exact h3 (by rw [hc, show c = 48 from u8_eq e])
  · rintro ⟨u, hu, rfl⟩
    refine ⟨⟨⟨dec_ne u, ?_⟩, ?_⟩, (all_digs _).2 (dec_digs u), by rw [dval_dec]; exact hu⟩
    · have := dec_len10 6 u (by omega); omega
    · rcases Nat.eq_zero_or_pos u with rfl | h
      · left; rw [Lib.decDigits, dif_pos (by omega)]; simp
      · right
        obtain ⟨c, r, e1, _, e2⟩ := dec_head u h
        rw [e1]
        intro h'
        simp only [List.head?_cons, Option.some.injEq] at h'
        rw [h'] at e2; exact e2 rfl
theorem sign_head {c : UInt8} {r : List UInt8} (h : hasL (ones ++ twos) (c :: r) = true) : letB c = false ∧ digB c = false := by
  simp only [hasL, ones, twos, List.cons_append, List.nil_append, List.any_cons, List.any_nil, Bool.or_eq_true, beq_iff_eq, List.cons.injEq, Bool.or_false] at h
  rcases h with h | h | h | h | h | h | h | h | h | h | h | h | h | h | h | h | h | h <;> (rw [← h.1]; decide)
theorem one_fin : ∀ n : Fin 256, Lib.contains [43, 45, 42, 40, 41, 91, 93, 123, 125, 59, 61, 60, 62, 63] [UInt8.ofNat n.val] = hasL ones [UInt8.ofNat n.val] := by decide +kernel
theorem one_sign (c : UInt8) : Lib.contains [43, 45, 42, 40, 41, 91, 93, 123, 125, 59, 61, 60, 62, 63] [c] = hasL ones [c] := by
  have := one_fin ⟨c.toNat, u8_lt c⟩
  simpa using this
theorem ones_len {l : List UInt8} (h : l.length ≠ 1) : hasL ones l = false := by
  cases e : hasL ones l with
  | false => rfl
  | true =>
    simp only [hasL, ones, List.any_cons, List.any_nil, Bool.or_eq_true, beq_iff_eq, Bool.or_false] at e
    rcases e with e | e | e | e | e | e | e | e | e | e | e | e | e | e <;> exact absurd (by rw [← e]; rfl) h
theorem i_kind_loop (s : ByteArray) (hl : s.size ≤ 1048576) : ∀ (t : List UInt8) (i k : Nat), s.data.toList.drop i = t → t.length < k →
    impl_kindOf.l0 k s (s.size : Int) (i : Int) = some (if t.all wordB = true then (if s.size ≤ 8 then 1 else 0) else 0) := by
  intro t
  induction t with
  | nil =>
    intro i k hd hk
    obtain ⟨k, rfl⟩ : ∃ m, k = m + 1 := ⟨k - 1, by omega⟩
    have := drop_nil hd
    rw [← sizeL] at this
    rw [impl_kindOf.l0, if_neg (by omega)]
    simp only [List.all_nil, if_true]
    by_cases h : s.size ≤ 8
    · rw [if_pos (by omega), if_pos h]
    · rw [if_neg (by omega), if_neg h]
  | cons c t ih =>
    intro i k hd hk
    obtain ⟨k, rfl⟩ : ∃ m, k = m + 1 := ⟨k - 1, by omega⟩
    obtain ⟨h1, h2, h3⟩ := drop_cons hd
    rw [← sizeL] at h1
    rw [impl_kindOf.l0, if_pos (by omega), if_pos (by omega), if_pos (by omega), bt_at_ h2, i_letter, i_digit, w64s i (by omega), ih (i + 1) k h3 (by simp at hk; omega)]
    rw [List.all_cons, wordB]
    simp only [Option.bind_some]
    cases letB c <;> cases digB c <;> simp
theorem let_dig {c : UInt8} (h : letB c = true) : digB c = false := by
  unfold letB at h; unfold digB
  simp only [Bool.and_eq_true, decide_eq_true_eq] at h
  simp; omega
theorem i_kind (s : ByteArray) (hl : s.size ≤ 1048576) (k : Nat) (hk : s.size + 40 ≤ k) : impl_kindOf.f k s = some (kindL s.data.toList) := by
  have hz := sizeL s
  unfold impl_kindOf.f
  rw [toL]
  rcases e : s.data.toList with _ | ⟨c, r⟩
  · rw [if_pos rfl]; rfl
  · rw [e] at hz
    simp only [List.length_cons] at hz
    rw [if_neg (List.cons_ne_nil c r), i_key s k (by omega), e]
    simp only [Option.bind_some]
    unfold kindL
    cases hkey : hasL keys (c :: r) with
    | true => simp
    | false =>
      simp only [Bool.false_eq_true, if_false]
      rw [if_pos (by omega), bt_zero e, i_letter, i_digit]
      simp only [Option.bind_some]
      cases hlet : letB c with
      | true =>
        rw [if_pos rfl, show (0 : Int) = ((0 : Nat) : Int) from rfl, i_kind_loop s hl _ 0 k rfl (by simp only [List.drop_zero, ← sizeL]; omega), List.drop_zero, e]
        have hnum : numB (c :: r) = false := by
          unfold numB; simp [let_dig hlet]
        have hsig : hasL (ones ++ twos) (c :: r) = false := by
          cases q : hasL (ones ++ twos) (c :: r) with
          | false => rfl
          | true => rw [(sign_head q).1] at hlet; cases hlet
        rw [hnum, hsig]
        unfold nameB
        by_cases h8 : s.size ≤ 8
        · have : r.length + 1 ≤ 8 := by omega
          rw [if_pos h8]
          simp [this, hlet, wordB]
        · have : ¬ r.length + 1 ≤ 8 := by omega
          rw [if_neg h8]
          simp [this]
      | false =>
        have hname : nameB (c :: r) = false := by unfold nameB; simp [hlet]
        rw [hname]
        simp only [Bool.false_eq_true, if_false]
        cases hdig : digB c with
        | true =>
          have hsig : hasL (ones ++ twos) (c :: r) = false := by
            cases q : hasL (ones ++ twos) (c :: r) with
            | false => rfl
            | true => rw [(sign_head q).2] at hdig; cases hdig
          rw [if_pos rfl, hsig]
          unfold impl_readNum.f
          rw [if_pos (by omega), e]
          simp only [Option.bind_some]
          have key : ((numOf (c :: r)).2 = true ∧ (numOf (c :: r)).1 ≤ 1000000) ↔ numB (c :: r) = true := by
            rw [num_itoa]
            constructor
            · rintro ⟨h1, h2⟩
              have h3 := numOf_true h1
              rcases int_cases (numOf (c :: r)).1 with ⟨u, hu⟩ | ⟨u, hu1, hu⟩
              · rw [hu, itoa_pos] at h3
                exact ⟨u, by omega, h3⟩
              · rw [hu, itoa_neg' u hu1] at h3
                rw [(List.cons.inj h3).1] at hdig
                exact absurd hdig (by decide)
            · rintro ⟨u, hu, h⟩
              rw [h, ← itoa_pos, numOf_itoa _ (by omega) (by omega)]
              exact ⟨rfl, by simp; omega⟩
          by_cases hn : numB (c :: r) = true
          · obtain ⟨k1, k2⟩ := key.2 hn
            rw [if_pos k1, if_pos k2, if_pos hn]
          · have hn' : ¬ ((numOf (c :: r)).2 = true ∧ (numOf (c :: r)).1 ≤ 1000000) := fun h => hn (key.1 h)
            rw [if_neg hn]
            simp only [Bool.false_eq_true, if_false]
            by_cases q : (numOf (c :: r)).2 = true
            · rw [if_pos q, if_neg (fun h => hn' ⟨q, h⟩)]
            · rw [if_neg q]
        | false =>
          have hnum : numB (c :: r) = false := by unfold numB; simp [hdig]
          rw [hnum, i_has _ _ (by simp) k (by simp; omega), e]
          simp only [Option.bind_some, Bool.false_eq_true, if_false]
          have app : hasL (ones ++ twos) (c :: r) = (hasL ones (c :: r) || hasL twos (c :: r)) := by unfold hasL; rw [List.any_append]
          rw [app]
          change (if hasL twos (c :: r) = true then _ else _) = _
          cases htw : hasL twos (c :: r) with
          | true => simp
          | false =>
            rw [Bool.or_false]
            simp only [Bool.false_eq_true, if_false]
            by_cases h1 : (s.size : Int) = 1
            · have hr : r = [] := List.eq_nil_of_length_eq_zero (by omega)
              subst hr
              rw [if_pos h1]
              unfold strings_Contains.f
              rw [if_pos (by decide), e]
              simp only [Option.bind_some]
              rw [one_sign]
              split <;> rfl
            · rw [if_neg h1, ones_len (by simp only [List.length_cons]; omega)]; simp
end Go.Proofs.YtlkcbfonjcflgaaDoor.Q
namespace Go.Proofs.YtlkcbfonjcflgaaDoor.Q
open Go.RowKit Go.Proofs.YtlkcbfonjcflgaaDoorW.PrintWords Go.Proofs.YtlkcbfonjcflgaaDoorW.PrintLast Go.Proofs.YtlkcbfonjcflgaaDoorW.PrintMore
open Go.Proofs.YtlkcbfonjcflgaaDoor.Open
set_option linter.unusedSimpArgs false
set_option linter.unusedVariables false
theorem key_head {c : UInt8} {r : List UInt8} (h : hasL keys (c :: r) = true) : letB c = true := by
  simp only [hasL, keys, List.any_cons, List.any_nil, Bool.or_eq_true, beq_iff_eq, List.cons.injEq, Bool.or_false] at h
  rcases h with h | h | h | h | h | h | h | h | h | h | h | h | h <;> (rw [← h.1]; decide)
end Go.Proofs.YtlkcbfonjcflgaaDoor.Q
namespace Go.Proofs.YtlkcbfonjcflgaaDoor.Q
open Go.RowKit Go.Proofs.YtlkcbfonjcflgaaDoorW.PrintWords Go.Proofs.YtlkcbfonjcflgaaDoorW.PrintLast Go.Proofs.YtlkcbfonjcflgaaDoorW.PrintMore
open Go.Proofs.YtlkcbfonjcflgaaDoor.Open
set_option linter.unusedSimpArgs false
set_option linter.unusedVariables false
/-- How many bytes are passed over: blanks, and what stands behind a number sign ('true': in such a remark). -/
def skipN : Bool → List UInt8 → Nat
  | _, [] => 0
  | false, c :: r => if c = 32 ∨ c = 10 then skipN false r + 1 else if c = 35 then skipN true r + 1 else 0
  | true, c :: r => if c = 10 then skipN false r + 1 else skipN true r + 1
theorem skip_nil (b : Bool) : skipN b [] = 0 := by cases b <;> rfl
theorem skip_blank {c : UInt8} (r : List UInt8) (h : c = 32 ∨ c = 10) : skipN false (c :: r) = skipN false r + 1 := by rw [skipN, if_pos h]
theorem skip_hash (r : List UInt8) : skipN false (35 :: r) = skipN true r + 1 := by rw [skipN, if_neg (by decide), if_pos rfl]
theorem skip_word {c : UInt8} (r : List UInt8) (h : ¬ (c = 32 ∨ c = 10)) (h2 : c ≠ 35) : skipN false (c :: r) = 0 := by rw [skipN, if_neg h, if_neg h2]
theorem skip_end (r : List UInt8) : skipN true (10 :: r) = skipN false r + 1 := by rw [skipN, if_pos rfl]
theorem skip_in {c : UInt8} (r : List UInt8) (h : c ≠ 10) : skipN true (c :: r) = skipN true r + 1 := by rw [skipN, if_neg h]
theorem skip_le : ∀ (l : List UInt8) (b : Bool), skipN b l ≤ l.length
  | [], b => by rw [skip_nil]; simp
  | c :: r, b => by
    have h1 := skip_le r false
    have h2 := skip_le r true
    cases b <;> rw [skipN] <;> (repeat' split) <;> simp <;> omega
theorem at_drop {l : List UInt8} {i : Nat} (h : i < l.length) : ∃ c r, l.drop i = c :: r ∧ l[i]? = some c ∧ l.drop (i + 1) = r :=
  ⟨l[i], l.drop (i + 1), List.drop_eq_getElem_cons h, List.getElem?_eq_getElem h, rfl⟩
theorem end_drop {l : List UInt8} {i : Nat} (h : l.length ≤ i) : l.drop i = [] := List.drop_eq_nil_of_le h
theorem s_skip (s : ByteArray) (hs : s.size ≤ 1048576) : ∀ (d i k : Nat), s.size - i = d → i ≤ s.size → 4 * d + 4 ≤ k →
    spec_l01Skip.l0 k s (i : Int) = some ((i + skipN false (s.data.toList.drop i) : Nat) : Int) ∧ spec_l01Skip.l1 k s (i : Int) = some ((i + skipN true (s.data.toList.drop i) : Nat) : Int) := by
  intro d
  have hz := sizeL s
  induction d with
  | zero =>
    intro i k hd hi hk
    obtain ⟨k, rfl⟩ : ∃ m, k = m + 2 := ⟨k - 2, by omega⟩
    have e0 : ∀ m, spec_l01Skip.l0 (m + 1) s (i : Int) = some ((i + skipN false (s.data.toList.drop i) : Nat) : Int) := by
      intro m
      rw [spec_l01Skip.l0, if_neg (by omega), end_drop (by omega), skip_nil]; rfl
    refine ⟨e0 _, ?_⟩
    rw [spec_l01Skip.l1, if_neg (by omega), e0, end_drop (by omega), skip_nil, skip_nil]
  | succ d ih =>
    intro i k hd hi hk
    obtain ⟨k, rfl⟩ : ∃ m, k = m + 4 := ⟨k - 4, by omega⟩
    obtain ⟨c, r, e1, e2, e3⟩ := at_drop (l := s.data.toList) (i := i) (by omega)
    have hc := u8_lt c
    have nx : ∀ m, 4 * d + 4 ≤ m → _ := fun m hm => ih (i + 1) m (by omega) (by omega) hm
    rw [e3] at nx
    have cast : ∀ x : Nat, ((i + 1 + x : Nat) : Int) = ((i + (x + 1) : Nat) : Int) := fun x => by omega
    have blank : ∀ m, 4 * d + 4 ≤ m → (c = 32 ∨ c = 10) → spec_l01Skip.l0 (m + 2) s (i : Int) = some ((i + skipN false (s.data.toList.drop i) : Nat) : Int) := by
      intro m hm hcc
      rw [spec_l01Skip.l0, if_pos (by omega), if_pos (by omega), bt_at_ e2, e1, skip_blank r hcc, ← cast, ← (nx m hm).1]
      rcases hcc with rfl | rfl
      · rw [if_pos (by decide), spec_l01Skip.j1, if_pos rfl, w64s i (by omega)]
      · rw [if_neg (by decide), spec_l01Skip.j1, if_pos (by decide), w64s i (by omega)]
    have inr_ : ∀ m, 4 * d + 4 ≤ m → c ≠ 10 → spec_l01Skip.l1 (m + 1) s (i : Int) = some ((i + skipN true (s.data.toList.drop i) : Nat) : Int) := by
      intro m hm hcc
      rw [spec_l01Skip.l1, if_pos (by omega), if_pos (by omega), bt_at_ e2, if_neg (fun h => hcc (u8_eq (by show c.toNat = 10; omega))), e1, skip_in r hcc, ← cast, ← (nx m hm).2, w64s i (by omega)]
    refine ⟨?_, ?_⟩
    · by_cases hb : c = 32 ∨ c = 10
      · exact blank (k + 2) (by omega) hb
      · have h32 : (c.toNat : Int) ≠ 32 := fun h => hb (.inl (u8_eq (by show c.toNat = 32; omega)))
        have h10 : (c.toNat : Int) ≠ 10 := fun h => hb (.inr (u8_eq (by show c.toNat = 10; omega)))
        rw [spec_l01Skip.l0, if_pos (by omega), if_pos (by omega), bt_at_ e2, if_neg h32, spec_l01Skip.j1, if_neg (by simpa using h10), if_pos (by omega), if_pos (by omega), bt_at_ e2]
        by_cases hh : c = 35
        · subst hh
          rw [if_pos (by decide), inr_ (k + 1) (by omega) (by decide), e1, skip_hash, skip_in r (by decide)]
        · rw [if_neg (fun h => hh (u8_eq (by show c.toNat = 35; omega))), e1, skip_word r hb hh]; rfl
    · by_cases hb : c = 10
      · subst hb
        rw [spec_l01Skip.l1, if_pos (by omega), if_pos (by omega), bt_at_ e2, if_pos (by decide), blank (k + 1) (by omega) (.inr rfl), e1, skip_blank r (.inr rfl), skip_end]
      · exact inr_ (k + 3) (by omega) hb
/-- How many bytes the word at the head of a list takes. -/
def runN : List UInt8 → Nat
  | [] => 0
  | c :: r => if wordB c = true then runN r + 1 else 0
def wlen (l : List UInt8) : Nat := if 0 < runN l then runN l else if 1 < l.length ∧ hasL (ones ++ twos) (l.take 2) = true then 2 else 1
theorem run_le : ∀ l : List UInt8, runN l ≤ l.length
  | [] => Nat.le_refl _
  | c :: r => by rw [runN]; have := run_le r; split <;> simp <;> omega
theorem wlen_pos (l : List UInt8) : 1 ≤ wlen l := by
  unfold wlen
  repeat' split
  all_goals omega
theorem wlen_le (l : List UInt8) (h : l ≠ []) : wlen l ≤ l.length := by
  have := run_le l
  have := List.length_pos_iff.2 h
  unfold wlen
  repeat' split
  all_goals omega
theorem s_run (s : ByteArray) (hs : s.size ≤ 1048576) : ∀ (t : List UInt8) (i k : Nat), s.data.toList.drop i = t → i ≤ s.size → t.length < k → spec_l01End.l0 k s (i : Int) = some ((i + runN t : Nat) : Int) := by
  intro t
  have hz := sizeL s
  induction t with
  | nil =>
    intro i k hd hi hk
    obtain ⟨k, rfl⟩ : ∃ m, k = m + 1 := ⟨k - 1, by omega⟩
    have := drop_nil hd
    rw [spec_l01End.l0, if_neg (by omega)]; rfl
  | cons c t ih =>
    intro i k hd hi hk
    obtain ⟨k, rfl⟩ : ∃ m, k = m + 1 := ⟨k - 1, by omega⟩
    obtain ⟨h1, h2, h3⟩ := drop_cons hd
    rw [spec_l01End.l0, if_pos (by omega), if_pos (by omega), bt_at_ h2, s_letter, s_digit, w64s i (by omega), ih (i + 1) k h3 (by omega) (by simp at hk; omega), runN, wordB]
    simp only [Option.bind_some]
    cases letB c <;> cases digB c <;> simp <;> omega
theorem s_end (s : ByteArray) (hs : s.size ≤ 1048576) (i k : Nat) (hi : i < s.size) (hk : s.size + 60 ≤ k) : spec_l01End.f k s (i : Int) = some ((i + wlen (s.data.toList.drop i) : Nat) : Int) := by
  have hz := sizeL s
  obtain ⟨c, r, e1, e2, e3⟩ := at_drop (l := s.data.toList) (i := i) (by omega)
  obtain ⟨k, rfl⟩ : ∃ m, k = m + 1 := ⟨k - 1, by omega⟩
  have run := s_run s hs _ i k rfl (by omega) (by rw [List.length_drop]; omega)
  unfold spec_l01End.f wlen
  rw [if_pos (by omega), if_pos (by omega), bt_at_ e2, s_letter, s_digit]
  simp only [Option.bind_some]
  have j1 : spec_l01End.j0 (k + 1) s (i : Int) true = some ((i + runN (s.data.toList.drop i) : Nat) : Int) := by rw [spec_l01End.j0, if_pos rfl, run]
  have j0 : spec_l01End.j0 (k + 1) s (i : Int) false = some ((i + (if 1 < (s.data.toList.drop i).length ∧ hasL (ones ++ twos) ((s.data.toList.drop i).take 2) = true then 2 else 1) : Nat) : Int) := by
    rw [spec_l01End.j0, if_neg (by simp), w64s i (by omega)]
    by_cases h : i + 1 < s.size
    · rw [if_pos (by omega), if_pos (by omega), w64 (n := (i : Int) + 2) (by omega) (by omega), if_pos (by omega), if_pos (by omega), s_sign _ _ (by omega), extL]
      rw [show ((i : Int) + 2).toNat - (i : Int).toNat = 2 by omega, show (i : Int).toNat = i by omega]
      simp only [Option.bind_some]
      by_cases hh : hasL (ones ++ twos) ((s.data.toList.drop i).take 2) = true
      · rw [if_pos hh, if_pos ⟨by rw [List.length_drop]; omega, hh⟩]; rfl
      · rw [if_neg hh, if_neg (fun q => hh q.2)]
    · rw [if_neg (by omega), if_neg (fun q => by rw [List.length_drop] at q; omega)]
  have hr : runN (s.data.toList.drop i) = if wordB c = true then runN r + 1 else 0 := by rw [e1, runN]
  cases hl : letB c with
  | true =>
    rw [if_pos rfl, j1, if_pos (by rw [hr, wordB, hl]; simp)]
  | false =>
    simp only [Bool.false_eq_true, if_false]
    cases hd : digB c with
    | true => rw [j1, if_pos (by rw [hr, wordB, hl, hd]; simp)]
    | false =>
      have h0 : ¬ 0 < runN (s.data.toList.drop i) := by rw [hr, wordB, hl, hd]; simp
      rw [j0, if_neg h0]
theorem kind_sign {c : UInt8} {r : List UInt8} (h : wordB c = false) : kindL (c :: r) = 3 ↔ hasL (ones ++ twos) (c :: r) = true := by
  have hl : letB c = false := by unfold wordB at h; simp at h; exact h.1
  have hd : digB c = false := by unfold wordB at h; simp at h; exact h.2
  have k1 : hasL keys (c :: r) = false := by
    cases q : hasL keys (c :: r) with
    | false => rfl
    | true => rw [key_head q] at hl; cases hl
  have k2 : nameB (c :: r) = false := by unfold nameB; simp [hl]
  have k3 : numB (c :: r) = false := by unfold numB; simp [hd]
  unfold kindL
  rw [k1, k2, k3]
  cases hasL (ones ++ twos) (c :: r) <;> simp
theorem i_long (y : ByteArray) (hs : y.size ≤ 1048576) : ∀ (t : List UInt8) (i k : Nat), y.data.toList.drop i = t → i ≤ y.size → (i = 0 ∨ 0 < runN y.data.toList) → t.length + 60 < k →
    impl_longest.l0 k y (i : Int) = some (if i + runN t = 0 then (if 1 < y.size ∧ hasL (ones ++ twos) (y.data.toList.take 2) = true then 2 else 1) else ((i + runN t : Nat) : Int)) := by
  intro t
  have hz := sizeL y
  have stop : ∀ (i k : Nat), 60 ≤ k → (i = 0 → runN y.data.toList = 0) →
      (if (i : Int) = 0 then (if (y.size : Int) > 1 then (if (0 : Int) ≤ 2 then (if (2 : Int) ≤ (y.size : Int) then ((impl_kindOf.f k (y.extract 0 2)).bind fun t313 => (if t313 = 3 then (some (2 : Int)) else (some (mx (i : Int) 1)))) else (none)) else (none)) else (some (mx (i : Int) 1))) else (some (mx (i : Int) 1))) =
      some (if i + 0 = 0 then (if 1 < y.size ∧ hasL (ones ++ twos) (y.data.toList.take 2) = true then 2 else 1) else ((i + 0 : Nat) : Int)) := by
    intro i k hk hr
    by_cases h0 : i = 0
    · subst h0
      have hr := hr rfl
      rw [if_pos (show ((0 : Nat) : Int) = 0 from rfl), if_pos (show 0 + 0 = 0 from rfl)]
      by_cases h1 : 1 < y.size
      · rw [if_pos (by omega), if_pos (by omega), if_pos (by omega), i_kind _ (by rw [sizeL, extL, List.length_take, List.length_drop]; omega) k (by rw [sizeL, extL, List.length_take, List.length_drop]; omega), ext_head]
        simp only [Option.bind_some]
        obtain ⟨c, r, e1, e2, e3⟩ := at_drop (l := y.data.toList) (i := 0) (by omega)
        rw [List.drop_zero] at e1
        have hw : wordB c = false := by
          rw [e1, runN] at hr
          cases q : wordB c with
          | false => rfl
          | true => rw [q, if_pos rfl] at hr; omega
        have ek : kindL (y.data.toList.take 2) = 3 ↔ hasL (ones ++ twos) (y.data.toList.take 2) = true := by rw [e1, List.take_succ_cons]; exact kind_sign hw
        by_cases hh : hasL (ones ++ twos) (y.data.toList.take 2) = true
        · rw [if_pos (ek.2 hh), if_pos ⟨h1, hh⟩]
        · rw [if_neg (fun q => hh (ek.1 q)), if_neg (fun q => hh q.2)]; rfl
      · rw [if_neg (by omega), if_neg (fun q => h1 q.1)]; rfl
    · rw [if_neg (show ¬ (i : Int) = 0 by omega), if_neg (show ¬ i + 0 = 0 by omega)]
      congr 1
      unfold mx
      split <;> omega
  induction t with
  | nil =>
    intro i k hd hi h0 hk
    obtain ⟨k, rfl⟩ : ∃ m, k = m + 1 := ⟨k - 1, by omega⟩
    have := drop_nil hd
    rw [impl_longest.l0, if_neg (by omega)]
    refine stop i k (by simp at hk; omega) (fun e => ?_)
    subst e
    rw [List.drop_zero] at hd
    rw [hd]; rfl
  | cons c t ih =>
    intro i k hd hi h0 hk
    obtain ⟨k, rfl⟩ : ∃ m, k = m + 1 := ⟨k - 1, by omega⟩
    obtain ⟨h1, h2, h3⟩ := drop_cons hd
    rw [impl_longest.l0, if_pos (by omega), if_pos (by omega), bt_at_ h2, i_letter, i_digit, w64s i (by omega), runN]
    simp only [Option.bind_some]
    cases hw : wordB c with
    | true =>
      have pos : 0 < runN y.data.toList := by
        rcases h0 with rfl | h0
        · rw [List.drop_zero] at hd; rw [hd, runN, hw]; simp
        · exact h0
      have := ih (i + 1) k h3 (by omega) (.inr pos) (by simp at hk; omega)
      rw [if_neg (by omega)] at this
      simp only [if_true]
      have e : ((i + 1 + runN t : Nat) : Int) = ((i + (runN t + 1) : Nat) : Int) := by omega
      rw [this, if_neg (show ¬ i + (runN t + 1) = 0 by omega), e]
      unfold wordB at hw
      cases hl : letB c with
      | true => rw [if_pos rfl]
      | false =>
        rw [hl, Bool.false_or] at hw
        rw [hw]
        simp
    | false =>
      have hl : letB c = false := by unfold wordB at hw; simp at hw; exact hw.1
      have hg : digB c = false := by unfold wordB at hw; simp at hw; exact hw.2
      rw [hl, hg]
      simp only [Bool.false_eq_true, if_false]
      refine stop i k (by simp at hk; omega) (fun e => ?_)
      subst e
      rw [List.drop_zero] at hd
      rw [hd, runN, hw]; rfl
theorem i_longest (y : ByteArray) (hs : y.size ≤ 1048576) (k : Nat) (hk : y.size + 61 ≤ k) : impl_longest.f k y = some ((wlen y.data.toList : Nat) : Int) := by
  have hz := sizeL y
  unfold impl_longest.f wlen
  rw [show (0 : Int) = ((0 : Nat) : Int) from rfl, i_long y hs _ 0 k rfl (by omega) (.inl rfl) (by rw [List.drop_zero, ← hz]; omega), List.drop_zero]
  by_cases h : 0 < runN y.data.toList
  · rw [if_neg (by omega), if_pos h]; simp
  · rw [if_pos (by omega), if_neg h, ← hz]
    split <;> rfl
end Go.Proofs.YtlkcbfonjcflgaaDoor.Q
namespace Go.Proofs.YtlkcbfonjcflgaaDoor.Q
open Go.RowKit Go.Proofs.YtlkcbfonjcflgaaDoorW.PrintWords Go.Proofs.YtlkcbfonjcflgaaDoorW.PrintLast Go.Proofs.YtlkcbfonjcflgaaDoorW.PrintMore
open Go.Proofs.YtlkcbfonjcflgaaDoor.Open
set_option linter.unusedSimpArgs false
set_option linter.unusedVariables false
abbrev Wo := S73
/-- The words from a place on, where what is passed over lies behind; 'at_' tells the place. -/
def lexW : Nat → List UInt8 → Nat → List Wo → List Wo × Int × Int
  | 0, _, _, out => (out, 0, 0)
  | n + 1, l, at_, out =>
    if l = [] then (out, 0, 0)
    else if kindL (l.take (wlen l)) = 0 then ([], 2, (at_ : Int))
    else if out.length = 1500 then ([], 3, (at_ : Int))
    else lexW n ((l.drop (wlen l)).drop (skipN false (l.drop (wlen l)))) (at_ + wlen l + skipN false (l.drop (wlen l))) (out ++ [⟨kindL (l.take (wlen l)), ⟨(l.take (wlen l)).toArray⟩, (at_ : Int)⟩])
theorem lexW_len : ∀ (n : Nat) (l : List UInt8) (a : Nat) (out : List Wo), out.length ≤ 1500 → (lexW n l a out).1.length ≤ 1500
  | 0, _, _, _, h => h
  | n + 1, l, a, out, h => by
    rw [lexW]
    split
    · exact h
    · split
      · simp
      · split
        · simp
        · exact lexW_len n _ _ _ (by simp; omega)
def wordsL (l : List UInt8) : List Wo × Int × Int := if l.length > 4000 then ([], 1, 0) else lexW (l.length + 1) (l.drop (skipN false l)) (skipN false l) []
theorem wordsL_len (l : List UInt8) : (wordsL l).1.length ≤ 1500 := by
  unfold wordsL
  split
  · simp
  · exact lexW_len _ _ _ _ (by simp)
theorem s_words_loop (s : ByteArray) (hs : s.size ≤ 4000) : ∀ (n a k : Nat) (out : List Wo), a ≤ s.size → s.size - a < n → out.length ≤ 1500 → 30000 + n ≤ k →
    spec_Words.l0 k s out (a : Int) = some (lexW n (s.data.toList.drop a) a out) := by
  have hz := sizeL s
  intro n
  induction n with
  | zero => intro a k out h1 h2; omega
  | succ n ih =>
    intro a k out h1 h2 h3 hk
    obtain ⟨k, rfl⟩ : ∃ m, k = m + 1 := ⟨k - 1, by omega⟩
    rw [spec_Words.l0, lexW]
    by_cases h : a < s.size
    · have hne : s.data.toList.drop a ≠ [] := by
        intro e
        have := congrArg List.length e
        rw [List.length_drop, List.length_nil] at this
        omega
      have hw1 := wlen_pos (s.data.toList.drop a)
      have hw2 := wlen_le _ hne
      rw [List.length_drop, ← hz] at hw2
      rw [if_pos (by omega), s_end s (by omega) a k h (by omega), if_neg hne]
      simp only [Option.bind_some]
      generalize hw : wlen (s.data.toList.drop a) = w at hw1 hw2
      have ex : (s.extract (a : Int).toNat (((a + w : Nat) : Int)).toNat) = ⟨((s.data.toList.drop a).take w).toArray⟩ := isL (by rw [extL]; congr 1; omega)
      rw [if_pos (by omega), if_pos (by omega), if_pos (by omega), ex, s_kind _ (by rw [sizeL]; simp only [mkL, List.length_take, List.length_drop]; omega) k (by rw [sizeL]; simp only [mkL, List.length_take, List.length_drop]; omega)]
      simp only [Option.bind_some, mkL]
      by_cases hk0 : kindL ((s.data.toList.drop a).take w) = 0
      · rw [if_pos hk0, if_pos hk0]
      · rw [if_neg hk0, if_neg hk0]
        by_cases hl : out.length = 1500
        · rw [if_pos (by omega), if_pos hl]
        · rw [if_neg (by omega), if_neg hl, if_pos (by omega)]
          have sk := (s_skip s (by omega) (s.size - (a + w)) (a + w) k rfl (by omega) (by omega)).1
          have skl := skip_le (s.data.toList.drop (a + w)) false
          rw [List.length_drop, ← hz] at skl
          unfold spec_l01Skip.f
          rw [sk]
          simp only [Option.bind_some]
          rw [ih (a + w + skipN false (s.data.toList.drop (a + w))) k _ (by omega) (by omega) (by simp; omega) (by omega), show (s.data.toList.drop a).drop w = s.data.toList.drop (a + w) by rw [List.drop_drop], List.drop_drop]
    · rw [if_neg (by omega), end_drop (by omega), if_pos rfl]
theorem s_words (s : ByteArray) (k : Nat) (hk : 40000 ≤ k) : spec_Words.f k s = some (wordsL s.data.toList) := by
  have hz := sizeL s
  unfold spec_Words.f wordsL
  simp only [Option.bind_some]
  rw [← hz]
  by_cases h : s.size > 4000
  · rw [if_pos (by omega), if_pos h]
  · rw [if_neg (by omega), if_neg h]
    have sk := (s_skip s (by omega) s.size 0 k (by omega) (by omega) (by omega)).1
    have skl := skip_le s.data.toList false
    unfold spec_l01Skip.f
    rw [show (0 : Int) = ((0 : Nat) : Int) from rfl, sk]
    simp only [Option.bind_some, List.drop_zero, Nat.zero_add]
    rw [s_words_loop s (by omega) (s.size + 1) (skipN false s.data.toList) k [] (by omega) (by omega) (by simp) (by omega)]
def resW (s : ByteArray) (b : Bool) (n a : Nat) (out : List Wo) : List Wo × Int × Int := lexW n (s.data.toList.drop (a + skipN b (s.data.toList.drop a))) (a + skipN b (s.data.toList.drop a)) out
theorem i_words_loop (s : ByteArray) (hs : s.size ≤ 4000) : ∀ (d a n k : Nat) (out : List Wo), s.size - a = d → a ≤ s.size → d < n → out.length ≤ 1500 → 30000 + 4 * d ≤ k →
    impl_Words.l0 k s out (a : Int) = some (resW s false n a out) ∧ impl_Words.l1 k s out (a : Int) = some (resW s true n a out) := by
  have hz := sizeL s
  intro d
  induction d using Nat.strongRecOn with
  | _ d ih =>
    intro a n k out hd h1 hn h3 hk
    obtain ⟨k, rfl⟩ : ∃ m, k = m + 4 := ⟨k - 4, by omega⟩
    obtain ⟨n, rfl⟩ : ∃ m, n = m + 1 := ⟨n - 1, by omega⟩
    by_cases h : a < s.size
    · obtain ⟨c, r, e1, e2, e3⟩ := at_drop (l := s.data.toList) (i := a) (by omega)
      have hc := u8_lt c
      have nx : ∀ m, 30000 + 4 * (d - 1) ≤ m → _ := fun m hm => ih (d - 1) (by omega) (a + 1) (n + 1) m out (by omega) (by omega) (by omega) h3 hm
      have nxt : ∀ b : Bool, resW s b (n + 1) (a + 1) out = lexW (n + 1) (s.data.toList.drop (a + (skipN b r + 1))) (a + (skipN b r + 1)) out := by
        intro b
        unfold resW
        rw [e3, show a + 1 + skipN b r = a + (skipN b r + 1) by omega]
      have here : ∀ b : Bool, resW s b (n + 1) a out = lexW (n + 1) (s.data.toList.drop (a + skipN b (c :: r))) (a + skipN b (c :: r)) out := by
        intro b
        unfold resW
        rw [e1]
      have blank : ∀ m, 30000 + 4 * (d - 1) ≤ m → (c = 32 ∨ c = 10) → impl_Words.l0 (m + 2) s out (a : Int) = some (resW s false (n + 1) a out) := by
        intro m hm hcc
        rw [impl_Words.l0, if_pos (by omega), if_pos (by omega), bt_at_ e2, here, skip_blank r hcc, ← nxt, ← (nx m hm).1]
        rcases hcc with rfl | rfl
        · rw [if_pos (by decide), impl_Words.j1, if_pos (by decide), w64s a (by omega)]
        · rw [if_neg (by decide), impl_Words.j1, if_pos (by decide), w64s a (by omega)]
      have inr_ : ∀ m, 30000 + 4 * (d - 1) ≤ m → c ≠ 10 → impl_Words.l1 (m + 1) s out (a : Int) = some (resW s true (n + 1) a out) := by
        intro m hm hcc
        rw [impl_Words.l1, if_pos (by omega), if_pos (by omega), bt_at_ e2, if_neg (fun h => hcc (u8_eq (by show c.toNat = 10; omega))), here, skip_in r hcc, ← nxt, ← (nx m hm).2, w64s a (by omega)]
      refine ⟨?_, ?_⟩
      · by_cases hb : c = 32 ∨ c = 10
        · exact blank (k + 2) (by omega) hb
        · have h32 : (c.toNat : Int) ≠ 32 := fun h => hb (.inl (u8_eq (by show c.toNat = 32; omega)))
          have h10 : (c.toNat : Int) ≠ 10 := fun h => hb (.inr (u8_eq (by show c.toNat = 10; omega)))
          rw [impl_Words.l0, if_pos (by omega), if_pos (by omega), bt_at_ e2, if_neg h32, impl_Words.j1, if_neg (by simpa using h10)]
          by_cases hh : c = 35
          · subst hh
            rw [if_pos (by decide), inr_ (k + 1) (by omega) (by decide), here, here, skip_hash, skip_in r (by decide)]
          · rw [if_neg (fun h => hh (u8_eq (by show c.toNat = 35; omega))), here, skip_word r hb hh, Nat.add_zero a, if_pos (by omega), if_pos (by omega)]
            have hne : s.data.toList.drop a ≠ [] := by rw [e1]; simp
            have hw1 := wlen_pos (s.data.toList.drop a)
            have hw2 := wlen_le _ hne
            rw [List.length_drop, ← hz] at hw2
            rw [show (a : Int).toNat = a by omega, i_longest _ (by rw [sizeL, ext_all, List.length_drop]; omega) _ (by rw [sizeL, ext_all, List.length_drop]; omega), ext_all, lexW, if_neg hne]
            rw [Option.bind_some]
            generalize hw : wlen (s.data.toList.drop a) = w at hw1 hw2
            rw [w64 (n := (a : Int) + (w : Int)) (by omega) (by omega), if_pos (by omega), if_pos (by omega)]
            have ex : (s.extract a ((a : Int) + (w : Int)).toNat) = ⟨((s.data.toList.drop a).take w).toArray⟩ := isL (by rw [extL]; congr 1; omega)
            rw [ex, i_kind _ (by rw [sizeL]; simp only [mkL, List.length_take, List.length_drop]; omega) _ (by rw [sizeL]; simp only [mkL, List.length_take, List.length_drop]; omega)]
            rw [Option.bind_some]
            simp only [mkL]
            by_cases hk0 : kindL ((s.data.toList.drop a).take w) = 0
            · rw [if_pos hk0, if_pos hk0]
            · rw [if_neg hk0, if_neg hk0]
              by_cases hl : out.length = 1500
              · rw [if_pos (by omega), if_pos hl]
              · rw [if_neg (by omega), if_neg hl, if_pos (by omega)]
                have es : (⟨((s.data.toList.drop a).take w).toArray⟩ : ByteArray).size = w := by rw [sizeL]; simp only [mkL, List.length_take, List.length_drop]; omega
                rw [es, w64 (by omega) (by omega), show ((a : Int) + (w : Int)) = ((a + w : Nat) : Int) by omega]
                rw [(ih (s.size - (a + w)) (by omega) (a + w) n (k + 2) _ rfl (by omega) (by omega) (by simp; omega) (by omega)).1]
                unfold resW
                rw [show (s.data.toList.drop a).drop w = s.data.toList.drop (a + w) by rw [List.drop_drop], List.drop_drop]
      · by_cases hb : c = 10
        · subst hb
          rw [impl_Words.l1, if_pos (by omega), if_pos (by omega), bt_at_ e2, if_pos (by decide), blank (k + 1) (by omega) (.inr rfl), here, here, skip_blank r (.inr rfl), skip_end]
        · exact inr_ (k + 3) (by omega) hb
    · have en : s.data.toList.drop a = [] := end_drop (by omega)
      have res : ∀ b : Bool, resW s b (n + 1) a out = (out, 0, 0) := by
        intro b
        unfold resW
        rw [en, skip_nil, Nat.add_zero a, en, lexW, if_pos rfl]
      have l0 : ∀ m, impl_Words.l0 (m + 1) s out (a : Int) = some (out, 0, 0) := by
        intro m
        rw [impl_Words.l0, if_neg (by omega)]
      refine ⟨?_, ?_⟩
      · rw [l0, res]
      · rw [impl_Words.l1, if_neg (by omega), l0, res]
theorem i_words (s : ByteArray) (k : Nat) (hk : 60000 ≤ k) : impl_Words.f k s = some (wordsL s.data.toList) := by
  have hz := sizeL s
  unfold impl_Words.f wordsL
  rw [← hz]
  by_cases h : s.size > 4000
  · rw [if_pos (by omega), if_pos h]
  · rw [if_neg (by omega), if_neg h, show (0 : Int) = ((0 : Nat) : Int) from rfl, (i_words_loop s (by omega) s.size 0 (s.size + 1) k [] (by omega) (by omega) (by omega) (by simp) (by omega)).1]
    unfold resW
    simp only [List.drop_zero, Nat.zero_add]
end Go.Proofs.YtlkcbfonjcflgaaDoor.Q
namespace Go.Proofs.YtlkcbfonjcflgaaDoor.Q
open Go.RowKit Go.Proofs.YtlkcbfonjcflgaaDoorW.PrintWords Go.Proofs.YtlkcbfonjcflgaaDoorW.PrintLast Go.Proofs.YtlkcbfonjcflgaaDoorW.PrintMore
open Go.Proofs.YtlkcbfonjcflgaaDoor.Open
set_option linter.unusedSimpArgs false
set_option linter.unusedVariables false
def okW (a : Int) (l : List UInt8) (b : Int) : Bool := decide (a ≠ 0) && (decide (a = kindL l) && (decide (0 ≤ b) && decide (b ≤ 4000)))
theorem kindL_range (l : List UInt8) : 0 ≤ kindL l ∧ kindL l ≤ 4 := by
  unfold kindL
  repeat' split
  all_goals omega
theorem s_wordOk (a : Int) (s : ByteArray) (b : Int) (hs : s.size ≤ 1048576) (k : Nat) (hk : s.size + 40 ≤ k) : spec_WordOk.f k a s b = some (okW a s.data.toList b) := by
  unfold spec_WordOk.f spec_l01Between.f okW
  rw [s_kind s hs k hk]
  have := kindL_range s.data.toList
  simp only [Option.bind_some]
  by_cases h : a > 0
  · rw [if_pos h]
    by_cases e : a = kindL s.data.toList
    · rw [if_pos e]
      by_cases h0 : 0 ≤ b
      · rw [if_pos (by omega)]
        have : a ≠ 0 := by omega
        simp [this, e.symm, h0, h]
      · rw [if_neg (by omega)]; simp [h0]
    · rw [if_neg e]; simp [e]
  · rw [if_neg h]
    by_cases e : a = kindL s.data.toList
    · have : a = 0 := by omega
      simp [this]
    · simp [e]
theorem i_wordOk (a : Int) (s : ByteArray) (b : Int) (hs : s.size ≤ 1048576) (k : Nat) (hk : s.size + 40 ≤ k) : impl_WordOk.f k a s b = some (okW a s.data.toList b) := by
  unfold impl_WordOk.f impl_inRange.f okW
  rw [i_kind s hs k hk]
  simp only [Option.bind_some]
  by_cases h : a = 0
  · rw [if_pos h]; simp [h]
  · rw [if_neg h]
    by_cases e : a = kindL s.data.toList
    · rw [if_pos e]
      by_cases h0 : 0 ≤ b
      · rw [if_pos (by omega)]
        simp [h, e.symm, h0]
      · rw [if_neg (by omega)]; simp [h0]
    · rw [if_neg e]; simp [e]
end Go.Proofs.YtlkcbfonjcflgaaDoor.Q
namespace Go.Proofs.YtlkcbfonjcflgaaDoor.Q
open Go.RowKit Go.Proofs.YtlkcbfonjcflgaaDoorW.PrintWords Go.Proofs.YtlkcbfonjcflgaaDoorW.PrintLast Go.Proofs.YtlkcbfonjcflgaaDoorW.PrintMore
open Go.Proofs.YtlkcbfonjcflgaaDoor.Open
set_option linter.unusedSimpArgs false
set_option linter.unusedVariables false
abbrev Ww := S73
theorem rdWw_at {l : List Ww} {i : Nat} {x : Ww} (h : l[i]? = some x) : rd_T73 l (i : Int) = x := by
  unfold rd_T73; simp [List.getD, h]
def okS (x : Ww) : Bool := okW x.f0 x.f1.data.toList x.f2
def texts (l : List Ww) : List (List UInt8) := l.map fun x => x.f1.data.toList
def wtext (l : List Ww) : List UInt8 := if l.length ≤ 1500 ∧ l.all okS = true ∧ (Lib.join (texts l) [32]).length ≤ 4000 then Lib.join (texts l) [32] else []
theorem s_wt_loop (l : List Ww) (hl : l.length ≤ 1500) (hs : ∀ x ∈ l, x.f1.size ≤ 1048576) : ∀ (t : List Ww) (i k : Nat) (out : ByteArray), l.drop i = t → 0 < i → out.size ≤ 4000 → 2000000 + t.length ≤ k →
    ∃ r, spec_WordsText.l0 k l out (i : Int) = some r ∧ r.data.toList = if t.all okS = true ∧ (out.data.toList ++ Lib.joinTail [32] (texts t)).length ≤ 4000 then out.data.toList ++ Lib.joinTail [32] (texts t) else [] := by
  intro t
  induction t with
  | nil =>
    intro i k out hd hi ho hk
    obtain ⟨k, rfl⟩ : ∃ m, k = m + 1 := ⟨k - 1, by omega⟩
    have := drop_nil hd
    rw [spec_WordsText.l0, if_neg (by omega)]
    refine ⟨_, rfl, ?_⟩
    have e : Lib.joinTail [32] (texts []) = [] := rfl
    rw [e, List.append_nil, if_pos ⟨rfl, by rw [← sizeL]; exact ho⟩]
  | cons x t ih =>
    intro i k out hd hi ho hk
    obtain ⟨k, rfl⟩ : ∃ m, k = m + 1 := ⟨k - 1, by omega⟩
    obtain ⟨g1, g2, g3⟩ := drop_cons hd
    have hx := hs x (List.mem_of_getElem? g2)
    rw [spec_WordsText.l0, if_pos (by omega), if_pos (by omega), rdWw_at g2, s_wordOk _ _ _ hx k (by simp at hk; omega), Option.bind_some]
    change ∃ r, (if okS x = true then _ else _) = some r ∧ _
    have ej : Lib.joinTail [32] (texts (x :: t)) = [32] ++ x.f1.data.toList ++ Lib.joinTail [32] (texts t) := rfl
    rw [ej, List.all_cons]
    cases hok : okS x with
    | false =>
      rw [if_neg (by simp)]
      exact ⟨_, rfl, by simp⟩
    | true =>
      rw [if_pos rfl, if_pos (by omega), if_pos (by omega), if_pos (by omega)]
      by_cases hbig : ((out.size : Int) + 1 + (x.f1.size : Int)) > 4000
      · rw [if_pos hbig]
        refine ⟨_, rfl, ?_⟩
        rw [if_neg]
        rintro ⟨_, h⟩
        simp only [List.length_append, List.length_cons, List.length_nil] at h
        rw [← sizeL, ← sizeL] at h
        omega
      · rw [if_neg hbig, w64s i (by omega)]
        have ho' : ((out ++ (⟨#[32]⟩ : ByteArray)) ++ x.f1).size ≤ 4000 := by
          rw [sizeL, app_mk', app_mk', List.length_append, List.length_append, ← sizeL, ← sizeL, ← sizeL]
          have : (⟨#[32]⟩ : ByteArray).size = 1 := rfl
          omega
        obtain ⟨r, e1, e2⟩ := ih (i + 1) k _ g3 (by omega) ho' (by simp at hk; omega)
        refine ⟨r, e1, ?_⟩
        rw [e2, Bool.true_and, app_mk', app_mk']
        have e3 : out.data.toList ++ (⟨#[32]⟩ : ByteArray).data.toList ++ x.f1.data.toList ++ Lib.joinTail [32] (texts t) = out.data.toList ++ ([32] ++ x.f1.data.toList ++ Lib.joinTail [32] (texts t)) := by
          have : (⟨#[32]⟩ : ByteArray).data.toList = [32] := rfl
          rw [this]; simp
        rw [e3]
theorem s_wtext (l : List Ww) (hs : ∀ x ∈ l, x.f1.size ≤ 1048576) (k : Nat) (hk : 2100000 ≤ k) : ∃ r, spec_WordsText.f k l = some r ∧ r.data.toList = wtext l := by
  unfold spec_WordsText.f wtext
  by_cases hl : l.length ≤ 1500
  · rw [if_neg (by omega)]
    obtain ⟨k, rfl⟩ : ∃ m, k = m + 1 := ⟨k - 1, by omega⟩
    rcases l with _ | ⟨x, t⟩
    · rw [spec_WordsText.l0, if_neg (by simp)]
      exact ⟨_, rfl, rfl⟩
    · have g2 : (x :: t)[0]? = some x := rfl
      have hx := hs x (by simp)
      rw [spec_WordsText.l0, if_pos (by simp), if_pos (by omega)]
      rw [show (0 : Int) = ((0 : Nat) : Int) from rfl, rdWw_at g2, s_wordOk _ _ _ hx k (by omega), Option.bind_some]
      change ∃ r, (if okS x = true then _ else _) = some r ∧ _
      have ej : Lib.join (texts (x :: t)) [32] = x.f1.data.toList ++ Lib.joinTail [32] (texts t) := Lib.join_cons _ _ _
      rw [ej, List.all_cons]
      cases hok : okS x with
      | false =>
        rw [if_neg (by simp)]
        exact ⟨_, rfl, by simp⟩
      | true =>
        have z0 : (⟨#[]⟩ : ByteArray).size = 0 := rfl
        rw [if_pos rfl, if_neg (by omega), if_pos (by omega)]
        by_cases hbig : (((⟨#[]⟩ : ByteArray).size : Int) + (x.f1.size : Int)) > 4000
        · rw [if_pos hbig]
          refine ⟨_, rfl, ?_⟩
          rw [if_neg]
          rintro ⟨_, _, h⟩
          rw [List.length_append, ← sizeL] at h
          omega
        · rw [if_neg hbig, w64s 0 (by omega)]
          have hl' : t.length + 1 ≤ 1500 := hl
          have e0 : (⟨#[]⟩ : ByteArray) ++ x.f1 = x.f1 := eqL (by rw [app_mk']; rfl)
          obtain ⟨r, e1, e2⟩ := s_wt_loop (x :: t) hl hs t 1 k ((⟨#[]⟩ : ByteArray) ++ x.f1) rfl (by omega) (by rw [e0]; omega) (by omega)
          refine ⟨r, e1, ?_⟩
          rw [e2, e0, Bool.true_and]
          by_cases hc : t.all okS = true ∧ (x.f1.data.toList ++ Lib.joinTail [32] (texts t)).length ≤ 4000
          · rw [if_pos hc, if_pos ⟨hl, hc⟩]
          · rw [if_neg hc, if_neg (fun q => hc q.2)]
  · rw [if_pos (by omega), if_neg (fun q => hl q.1)]
    exact ⟨_, rfl, rfl⟩
theorem i_wt_loop (l : List Ww) (hl : l.length ≤ 1048576) (hs : ∀ x ∈ l, x.f1.size ≤ 1048576) (hj : (Lib.join (texts l) [32]).length ≤ 100000000) : ∀ (t pre : List Ww) (k : Nat), l = pre ++ t → pre.all okS = true → 2000000 + t.length ≤ k →
    ∃ r, impl_WordsText.l0 k l (pre.map fun x => x.f1) l (l.length : Int) (pre.length : Int) = some r ∧ r.data.toList = wtext l := by
  intro t
  induction t with
  | nil =>
    intro pre k hd hok hk
    obtain ⟨k, rfl⟩ : ∃ m, k = m + 1 := ⟨k - 1, by omega⟩
    rw [List.append_nil] at hd
    subst hd
    rw [impl_WordsText.l0, if_neg (by omega)]
    have et : ((l.map fun x => x.f1).map fun x => x.data.toList) = texts l := by rw [List.map_map]; rfl
    unfold strings_Join.f
    have es : (⟨#[32]⟩ : ByteArray).data.toList = [32] := rfl
    rw [et, es, if_pos ⟨by rw [List.length_map]; omega, by omega⟩, Option.bind_some]
    unfold wtext
    by_cases h15 : l.length ≤ 1500
    · rw [if_neg (by omega)]
      have ez : (⟨(Lib.join (texts l) [32]).toArray⟩ : ByteArray).size = (Lib.join (texts l) [32]).length := by rw [sizeL]
      by_cases h4 : (Lib.join (texts l) [32]).length ≤ 4000
      · rw [if_neg (by rw [ez]; omega), if_pos ⟨h15, hok, h4⟩]
        exact ⟨_, rfl, rfl⟩
      · rw [if_pos (by rw [ez]; omega), if_neg (fun q => h4 q.2.2)]
        exact ⟨_, rfl, rfl⟩
    · rw [if_pos (by omega), if_neg (fun q => h15 q.1)]
      exact ⟨_, rfl, rfl⟩
  | cons x t ih =>
    intro pre k hd hok hk
    obtain ⟨k, rfl⟩ : ∃ m, k = m + 1 := ⟨k - 1, by omega⟩
    have hlen : l.length = pre.length + (t.length + 1) := by rw [hd, List.length_append, List.length_cons]
    have at_ : l[pre.length]? = some x := by rw [hd, List.getElem?_append_right (Nat.le_refl _)]; simp
    have hx := hs x (List.mem_of_getElem? at_)
    rw [impl_WordsText.l0, if_pos (by omega), if_pos (by omega), if_pos (by omega), rdWw_at at_, i_wordOk _ _ _ hx k (by simp at hk; omega), Option.bind_some]
    change ∃ r, (if okS x = true then _ else _) = some r ∧ _
    cases hokx : okS x with
    | false =>
      rw [if_neg (by simp)]
      refine ⟨_, rfl, ?_⟩
      unfold wtext
      rw [if_neg]
      rintro ⟨_, h, _⟩
      rw [hd, List.all_append, List.all_cons, hokx] at h
      simp at h
    | true =>
      rw [if_pos rfl, if_pos (by rw [List.length_map]; omega), w64s pre.length (by omega)]
      have := ih (pre ++ [x]) k (by rw [hd]; simp) (by rw [List.all_append, hok]; simp [hokx]) (by simp at hk; omega)
      rw [List.map_append, List.length_append, List.length_cons, List.length_nil] at this
      exact this
theorem i_wtext (l : List Ww) (hl : l.length ≤ 1048576) (hs : ∀ x ∈ l, x.f1.size ≤ 1048576) (hj : (Lib.join (texts l) [32]).length ≤ 100000000) (k : Nat) (hk : 3100000 ≤ k) : ∃ r, impl_WordsText.f k l = some r ∧ r.data.toList = wtext l :=
  i_wt_loop l hl hs hj l [] k rfl rfl (by omega)
end Go.Proofs.YtlkcbfonjcflgaaDoor.Q
namespace Go.Proofs.YtlkcbfonjcflgaaDoor.Q
open Go.RowKit Go.Proofs.YtlkcbfonjcflgaaDoorW.PrintWords Go.Proofs.YtlkcbfonjcflgaaDoorW.PrintLast Go.Proofs.YtlkcbfonjcflgaaDoorW.PrintMore
open Go.Proofs.YtlkcbfonjcflgaaDoor.Open
set_option linter.unusedSimpArgs false
set_option linter.unusedVariables false
theorem keys_words : keys.all (fun x => x.data.toList.all wordB) = true := by decide
theorem hasL_mem {l : List ByteArray} {s : List UInt8} (h : hasL l s = true) : ∃ x ∈ l, x.data.toList = s := by
  unfold hasL at h
  obtain ⟨x, hx, e⟩ := List.any_eq_true.1 h
  exact ⟨x, hx, beq_iff_eq.1 e⟩
theorem run_all : ∀ (w rest : List UInt8), w.all wordB = true → (rest = [] ∨ ∃ r, rest = 32 :: r) → runN (w ++ rest) = w.length
  | [], rest, _, hr => by
    rcases hr with rfl | ⟨r, rfl⟩
    · rfl
    · rw [List.nil_append, runN, if_neg (by decide)]; rfl
  | c :: w, rest, h, hr => by
    rw [List.all_cons, Bool.and_eq_true] at h
    rw [List.cons_append, runN, if_pos h.1, run_all w rest h.2 hr]; rfl
theorem two_space : ∀ n : Fin 256, hasL (ones ++ twos) [UInt8.ofNat n.val, 32] = false := by decide +kernel
theorem sign_space (c : UInt8) : hasL (ones ++ twos) [c, 32] = false := by
  have := two_space ⟨c.toNat, u8_lt c⟩
  simpa using this
theorem sign_facts : (ones ++ twos).all (fun x => match x.data.toList with
    | [c] => !wordB c && c != 32 && c != 10 && c != 35
    | [c, _] => !wordB c && c != 32 && c != 10 && c != 35
    | _ => false) = true := by decide
/-- A text of some kind is read off as one word where nothing, or a blank, stands behind it. -/
theorem word_read {w rest : List UInt8} (h : kindL w ≠ 0) (hr : rest = [] ∨ ∃ r, rest = 32 :: r) : w ≠ [] ∧ skipN false (w ++ rest) = 0 ∧ wlen (w ++ rest) = w.length := by
  have words : w ≠ [] → w.all wordB = true → w ≠ [] ∧ skipN false (w ++ rest) = 0 ∧ wlen (w ++ rest) = w.length := by
    intro hne hall
    have hrun := run_all w rest hall hr
    refine ⟨hne, ?_, ?_⟩
    · cases w with
      | nil => exact absurd rfl hne
      | cons c w =>
        rw [List.all_cons, Bool.and_eq_true] at hall
        rw [List.cons_append, skip_word _ _ _]
        · rintro (rfl | rfl)
          · exact absurd hall.1 (by decide)
          · exact absurd hall.1 (by decide)
        · rintro rfl; exact absurd hall.1 (by decide)
    · unfold wlen
      rw [hrun, if_pos (List.length_pos_iff.2 hne)]
  unfold kindL at h
  by_cases h1 : hasL keys w = true
  · obtain ⟨x, hx, e⟩ := hasL_mem h1
    have := List.all_eq_true.1 keys_words x hx
    rw [e] at this
    refine words ?_ this
    rintro rfl
    exact absurd h1 (by decide)
  · rw [if_neg h1] at h
    by_cases h2 : nameB w = true
    · have h2' := h2
      unfold nameB at h2'
      rw [Bool.and_eq_true, Bool.and_eq_true] at h2'
      refine words ?_ h2'.2
      rintro rfl
      exact absurd h2 (by decide)
    · rw [if_neg h2] at h
      by_cases h3 : numB w = true
      · obtain ⟨u, _, e⟩ := (num_itoa w).1 h3
        refine words (by rw [e]; exact dec_ne u) ?_
        rw [List.all_eq_true]
        intro c hc
        have := dec_digs u c (by rw [← e]; exact hc)
        unfold wordB
        rw [(digB_iff c).2 this, Bool.or_true]
      · rw [if_neg h3] at h
        by_cases h4 : hasL (ones ++ twos) w = true
        · obtain ⟨x, hx, e⟩ := hasL_mem h4
          have := List.all_eq_true.1 sign_facts x hx
          rw [e] at this
          match w, this with
          | [c], this =>
            simp only [Bool.and_eq_true, Bool.not_eq_true', bne_iff_ne, ne_eq] at this
            refine ⟨by simp, ?_, ?_⟩
            · rw [List.singleton_append, skip_word _ (by rintro (q | q); exact this.1.1.2 q; exact this.1.2 q) this.2]
            · have hrn : runN ([c] ++ rest) = 0 := by rw [List.singleton_append, runN, if_neg (by rw [this.1.1.1]; simp)]
              unfold wlen
              rw [hrn, if_neg (by omega), if_neg]; · rfl
              rintro ⟨q1, q2⟩
              rcases hr with rfl | ⟨r, rfl⟩
              · simp at q1
              · have : List.take 2 ([c] ++ 32 :: r) = [c, 32] := rfl
                rw [this, sign_space] at q2
                cases q2
          | [c, d], this =>
            simp only [Bool.and_eq_true, Bool.not_eq_true', bne_iff_ne, ne_eq] at this
            refine ⟨by simp, ?_, ?_⟩
            · rw [List.cons_append, skip_word _ (by rintro (q | q); exact this.1.1.2 q; exact this.1.2 q) this.2]
            · have hrn : runN ([c, d] ++ rest) = 0 := by rw [List.cons_append, runN, if_neg (by rw [this.1.1.1]; simp)]
              unfold wlen
              rw [hrn, if_neg (by omega), if_pos]; · rfl
              refine ⟨by simp, ?_⟩
              have : List.take 2 ([c, d] ++ rest) = [c, d] := rfl
              rw [this]; exact h4
        · rw [if_neg h4] at h; exact absurd rfl h
/-- The words, each where it stands in the text. -/
def rel : Nat → List Wo → List Wo
  | _, [] => []
  | a, x :: t => ⟨x.f0, x.f1, (a : Int)⟩ :: rel (a + x.f1.size + 1) t
theorem rel_len : ∀ (l : List Wo) (a : Nat), (rel a l).length = l.length
  | [], _ => rfl
  | x :: t, a => by rw [rel, List.length_cons, rel_len t, List.length_cons]
theorem okS_kind {x : Wo} (h : okS x = true) : x.f0 = kindL x.f1.data.toList ∧ kindL x.f1.data.toList ≠ 0 := by
  unfold okS okW at h
  simp only [Bool.and_eq_true, decide_eq_true_eq] at h
  exact ⟨h.2.1, by rw [← h.2.1]; exact h.1⟩
theorem tail_shape (t : List Wo) : Lib.joinTail [32] (texts t) = [] ∨ ∃ r, Lib.joinTail [32] (texts t) = 32 :: r := by
  cases t with
  | nil => exact .inl rfl
  | cons y t => exact .inr ⟨y.f1.data.toList ++ Lib.joinTail [32] (texts t), rfl⟩
theorem lex_back : ∀ (t : List Wo) (x : Wo) (n a : Nat) (out : List Wo), okS x = true → t.all okS = true → t.length + 1 < n → out.length + (t.length + 1) ≤ 1500 →
    lexW n (x.f1.data.toList ++ Lib.joinTail [32] (texts t)) a out = (out ++ rel a (x :: t), 0, 0)
  | t, x, n, a, out, hx, ht, hn, ho => by
    obtain ⟨n, rfl⟩ : ∃ m, n = m + 1 := ⟨n - 1, by omega⟩
    obtain ⟨k1, k2⟩ := okS_kind hx
    obtain ⟨w1, w2, w3⟩ := word_read k2 (tail_shape t)
    have hne : x.f1.data.toList ++ Lib.joinTail [32] (texts t) ≠ [] := fun e => w1 (List.append_eq_nil_iff.1 e).1
    have e1 : (x.f1.data.toList ++ Lib.joinTail [32] (texts t)).take x.f1.data.toList.length = x.f1.data.toList := by simp
    have e2 : (x.f1.data.toList ++ Lib.joinTail [32] (texts t)).drop x.f1.data.toList.length = Lib.joinTail [32] (texts t) := by simp
    rw [lexW, if_neg hne, w3, e1, e2, if_neg k2, if_neg (by omega), Lib.mk_data, ← k1, ← sizeL]
    cases t with
    | nil =>
      obtain ⟨n, rfl⟩ : ∃ m, n = m + 1 := ⟨n - 1, by omega⟩
      have e3 : Lib.joinTail [32] (texts []) = [] := rfl
      rw [e3, skip_nil, List.drop_nil, lexW, if_pos rfl]; rfl
    | cons y t =>
      rw [List.all_cons, Bool.and_eq_true] at ht
      obtain ⟨j1, j2⟩ := okS_kind ht.1
      obtain ⟨v1, v2, v3⟩ := word_read j2 (tail_shape t)
      have e3 : Lib.joinTail [32] (texts (y :: t)) = 32 :: (y.f1.data.toList ++ Lib.joinTail [32] (texts t)) := rfl
      rw [e3, skip_blank _ (.inl rfl), v2, Nat.zero_add, List.drop_succ_cons, List.drop_zero]
      simp only [List.length_cons] at hn ho
      rw [lex_back t y n (a + x.f1.size + 1) _ ht.1 ht.2 (by omega) (by simp; omega), List.append_assoc]; rfl
theorem words_back (l : List Wo) (h : wtext l ≠ []) : wordsL (wtext l) = (rel 0 l, 0, 0) := by
  unfold wtext at h ⊢
  by_cases hc : l.length ≤ 1500 ∧ l.all okS = true ∧ (Lib.join (texts l) [32]).length ≤ 4000
  · rw [if_pos hc] at h ⊢
    cases l with
    | nil => exact absurd rfl h
    | cons x t =>
      obtain ⟨c1, c2, c3⟩ := hc
      rw [List.all_cons, Bool.and_eq_true] at c2
      have ej : Lib.join (texts (x :: t)) [32] = x.f1.data.toList ++ Lib.joinTail [32] (texts t) := Lib.join_cons _ _ _
      rw [ej] at c3 ⊢
      obtain ⟨k1, k2⟩ := okS_kind c2.1
      obtain ⟨w1, w2, w3⟩ := word_read k2 (tail_shape t)
      unfold wordsL
      rw [if_neg (by omega), w2, List.drop_zero]
      have hlen : ∀ t : List Wo, t.length ≤ (Lib.joinTail [32] (texts t)).length := by
        intro t
        induction t with
        | nil => exact Nat.zero_le _
        | cons y t ih =>
          have e2 : Lib.joinTail [32] (texts (y :: t)) = [32] ++ y.f1.data.toList ++ Lib.joinTail [32] (texts t) := rfl
          rw [e2]; simp; omega
      have := hlen t
      have hx := List.length_pos_iff.2 w1
      rw [lex_back t x _ 0 [] c2.1 c2.2 (by rw [List.length_append]; omega) (by simpa using c1)]; rfl
  · rw [if_neg hc] at h; exact absurd rfl h
end Go.Proofs.YtlkcbfonjcflgaaDoor.Q
namespace Go.Proofs.YtlkcbfonjcflgaaDoor.Q
open Go.RowKit Go.Proofs.YtlkcbfonjcflgaaDoorW.PrintWords Go.Proofs.YtlkcbfonjcflgaaDoorW.PrintLast Go.Proofs.YtlkcbfonjcflgaaDoorW.PrintMore
open Go.Proofs.YtlkcbfonjcflgaaDoor.Open
set_option linter.unusedSimpArgs false
set_option linter.unusedVariables false
theorem tm {a n : Int} (h : 0 ≤ a) (hn : 0 < n) : 0 ≤ Int.tmod a n ∧ Int.tmod a n < n := by
  rw [Int.tmod_eq_emod_of_nonneg h]
  exact ⟨Int.emod_nonneg _ (by omega), Int.emod_lt_of_pos _ hn⟩
theorem td {a : Int} (h : 0 ≤ a) : 0 ≤ Int.tdiv a 7 ∧ Int.tdiv a 7 ≤ a := by
  rw [Int.tdiv_eq_ediv_of_nonneg h]; omega
def Bytes (l : List Int) : Prop := ∀ x ∈ l, 0 ≤ x ∧ x ≤ 255
theorem rd_byte {l : List Int} (h : Bytes l) (i : Int) : 0 ≤ rd l i ∧ rd l i ≤ 255 := by
  unfold rd
  rcases Nat.lt_or_ge i.toNat l.length with h1 | h1
  · have : l.getD i.toNat 0 = l[i.toNat] := by simp [h1]
    rw [this]; exact h _ (List.getElem_mem h1)
  · have : l.getD i.toNat 0 = 0 := by simp [h1]
    rw [this]; omega
theorem bytes_of {l : List Int} (h : ∀ x ∈ l, (Lit.int .u8 x).wf = true) : Bytes l := by
  intro x hx
  have := h x hx
  have e : (decide ((0 : Int) ≤ x) && decide (x ≤ 255)) = true := this
  simp only [Bool.and_eq_true, decide_eq_true_eq] at e
  exact e
theorem pick_ok {code : List Int} (hb : Bytes code) (hl : code.length ≤ 1048576) {at_ seed n : Int} (h0 : 0 ≤ at_) (h1 : at_ ≤ 4611686018427387904) (h2 : 0 ≤ seed) (h3 : seed < 65521) (hn : 1 ≤ n) (hn2 : n ≤ 100000000) :
    ∃ v at1 seed1, spec_l01Cur_pick.f code at_ seed n = some (v, at1, seed1) ∧ 0 ≤ v ∧ v < n ∧ 0 ≤ at1 ∧ at1 ≤ at_ + 2 ∧ 0 ≤ seed1 ∧ seed1 < 65521 := by
  unfold spec_l01Cur_pick.f
  by_cases c1 : n < 2
  · rw [if_pos c1]; exact ⟨_, _, _, rfl, by omega, by omega, by omega, by omega, by omega, by omega⟩
  rw [if_neg c1]
  have e1 : wrap64 (at_ + 1) = at_ + 1 := w64 (by omega) (by omega)
  have e2 : wrap64 (at_ + 1 + 1) = at_ + 2 := by rw [w64 (by omega) (by omega)]; omega
  have b0 := rd_byte hb at_
  have b1 := rd_byte hb (at_ + 1)
  by_cases c2 : at_ < (code.length : Int)
  · rw [if_pos c2, if_pos h0, w64 (n := rd code at_) (by omega) (by omega)]
    have t0 := tm b0.1 (show 0 < n by omega)
    by_cases c3 : n > 200
    · rw [if_pos c3, e1]
      by_cases c4 : at_ + 1 < (code.length : Int)
      · rw [if_pos c4, if_pos (by omega), if_neg (by omega), e2, w64 (n := rd code (at_ + 1)) (by omega) (by omega), w64 (n := 256 * rd code at_) (by omega) (by omega), w64 (n := 256 * rd code at_ + rd code (at_ + 1)) (by omega) (by omega)]
        have t1 := tm (show 0 ≤ 256 * rd code at_ + rd code (at_ + 1) by omega) (show 0 < n by omega)
        exact ⟨_, _, _, rfl, t1.1, t1.2, by omega, by omega, h2, h3⟩
      · rw [if_neg c4, if_neg (by omega)]
        exact ⟨_, _, _, rfl, t0.1, t0.2, by omega, by omega, h2, h3⟩
    · rw [if_neg c3, if_neg (by omega), e1]
      exact ⟨_, _, _, rfl, t0.1, t0.2, by omega, by omega, h2, h3⟩
  · rw [if_neg c2, w64 (n := seed * 1103) (by omega) (by omega), w64 (n := seed * 1103 + 12345) (by omega) (by omega), e1]
    have t0 := tm (show 0 ≤ seed * 1103 + 12345 by omega) (show (0 : Int) < 65521 by omega)
    generalize Int.tmod (seed * 1103 + 12345) 65521 = s at t0 ⊢
    have d0 := td t0.1
    generalize Int.tdiv s 7 = u at d0 ⊢
    by_cases c3 : (code.length : Int) > 0
    · have t1 := tm h0 c3
      have b2 := rd_byte hb (Int.tmod at_ (code.length : Int))
      rw [if_pos c3, if_neg (by omega), if_pos t1.1, if_pos t1.2, if_neg (by omega)]
      generalize rd code (Int.tmod at_ (code.length : Int)) = r at b2 ⊢
      rw [w64 (n := u) (by omega) (by omega), w64 (n := r) (by omega) (by omega), w64 (n := u + r) (by omega) (by omega)]
      have t2 := tm (show 0 ≤ u + r by omega) (show 0 < n by omega)
      exact ⟨_, _, _, rfl, t2.1, t2.2, by omega, by omega, t0.1, t0.2⟩
    · rw [if_neg c3, if_neg (by omega)]
      exact ⟨_, _, _, rfl, by simp, by simp; omega, by omega, by omega, t0.1, t0.2⟩
end Go.Proofs.YtlkcbfonjcflgaaDoor.Q
namespace Go.Proofs.YtlkcbfonjcflgaaDoor.Q
open Go.RowKit Go.Proofs.YtlkcbfonjcflgaaDoorW.PrintWords Go.Proofs.YtlkcbfonjcflgaaDoorW.PrintLast Go.Proofs.YtlkcbfonjcflgaaDoorW.PrintMore
open Go.Proofs.YtlkcbfonjcflgaaDoor.Open
set_option linter.unusedSimpArgs false
set_option linter.unusedVariables false
theorem once_ok {code : List Int} (hb : Bytes code) (hl : code.length ≤ 1048576) {at_ seed n : Int} (h0 : 0 ≤ at_) (h1 : at_ ≤ 4611686018427387904) (h2 : 0 ≤ seed) (h3 : seed < 65521) (hn : 1 ≤ n) (hn2 : n ≤ 100000000) :
    ∃ v at1 seed1, spec_l01Cur_once.f code at_ seed n = some (v, at1, seed1) ∧ 0 ≤ at1 ∧ at1 ≤ at_ + 2 ∧ 0 ≤ seed1 ∧ seed1 < 65521 := by
  unfold spec_l01Cur_once.f
  obtain ⟨v, a1, s1, e, p1, p2, p3, p4, p5, p6⟩ := pick_ok hb hl h0 h1 h2 h3 hn hn2
  rw [e, Option.bind_some]
  exact ⟨_, _, _, rfl, p3, p4, p5, p6⟩
theorem size_ok {code : List Int} (hb : Bytes code) (hl : code.length ≤ 1048576) {at_ seed n : Int} (h0 : 0 ≤ at_) (h1 : at_ ≤ 4611686018427387904) (h2 : 0 ≤ seed) (h3 : seed < 65521) (hn : 1 ≤ n) (hn2 : n ≤ 1000) :
    ∃ v at1 seed1, spec_l01Cur_size.f code at_ seed n = some (v, at1, seed1) ∧ 0 ≤ v ∧ v ≤ n ∧ 0 ≤ at1 ∧ at1 ≤ at_ + 2 ∧ 0 ≤ seed1 ∧ seed1 < 65521 := by
  unfold spec_l01Cur_size.f
  rw [w64 (n := (code.length : Int) / 12) (by omega) (by omega), w64 (n := 1 + (code.length : Int) / 12) (by omega) (by omega)]
  by_cases c : 1 + (code.length : Int) / 12 > n
  · rw [if_pos c, w64 (n := n + 1) (by omega) (by omega)]
    obtain ⟨v, a1, s1, e, p1, p2, p3, p4, p5, p6⟩ := pick_ok hb hl h0 h1 h2 h3 (n := n + 1) (by omega) (by omega)
    rw [e, Option.bind_some]
    exact ⟨_, _, _, rfl, p1, by omega, p3, p4, p5, p6⟩
  · rw [if_neg c, w64 (n := 1 + (code.length : Int) / 12 + 1) (by omega) (by omega)]
    obtain ⟨v, a1, s1, e, p1, p2, p3, p4, p5, p6⟩ := pick_ok hb hl h0 h1 h2 h3 (n := 1 + (code.length : Int) / 12 + 1) (by omega) (by omega)
    rw [e, Option.bind_some]
    exact ⟨_, _, _, rfl, p1, by omega, p3, p4, p5, p6⟩
theorem rdOf_size {l : List ByteArray} {B : Nat} (h : l.all (fun x => decide (x.size ≤ B)) = true) (i : Int) : (rdOf ByteArray.empty l i).size ≤ B := by
  unfold rdOf
  rw [List.getD_eq_getElem?_getD]
  cases e : l[i.toNat]? with
  | none => exact Nat.zero_le _
  | some x => exact of_decide_eq_true (List.all_eq_true.1 h x (List.mem_of_getElem? e))
theorem piece_ok {code : List Int} (hb : Bytes code) (hl : code.length ≤ 1048576) {at_ seed : Int} (h0 : 0 ≤ at_) (h1 : at_ ≤ 4611686018427387900) (h2 : 0 ≤ seed) (h3 : seed < 65521) :
    ∃ x at1 seed1, spec_l01DrawPiece.f code at_ seed = some (x, at1, seed1) ∧ x.size ≤ 20 ∧ 0 ≤ at1 ∧ at1 ≤ at_ + 4 ∧ 0 ≤ seed1 ∧ seed1 < 65521 := by
  unfold spec_l01DrawPiece.f
  obtain ⟨v, a1, s1, e, p1, p2, p3, p4, p5, p6⟩ := pick_ok hb hl h0 (by omega) h2 h3 (n := 6) (by omega) (by omega)
  rw [e, Option.bind_some]
  simp only
  have fin : ∀ (l : List ByteArray) (n : Int), 1 ≤ n → n ≤ 1000 → (l.length : Int) = n → l.all (fun x => decide (x.size ≤ 20)) = true →
      ∃ x at1 seed1, ((some (l : List ByteArray)).bind fun y => ((spec_l01Cur_pick.f code a1 s1 n).bind fun bt => (if 0 ≤ bt.1 then (if bt.1 < (y.length : Int) then (some (rdOf ByteArray.empty y bt.1, bt.2.1, bt.2.2)) else (none)) else (none)))) = some (x, at1, seed1) ∧ x.size ≤ 20 ∧ 0 ≤ at1 ∧ at1 ≤ at_ + 4 ∧ 0 ≤ seed1 ∧ seed1 < 65521 := by
    intro l n n1 n2 hlen hall
    obtain ⟨v', a2, s2, e', q1, q2, q3, q4, q5, q6⟩ := pick_ok hb hl p3 (by omega) p5 p6 (n := n) (by omega) (by omega)
    rw [Option.bind_some, e', Option.bind_some]
    simp only
    rw [if_pos q1, if_pos (by omega)]
    exact ⟨_, _, _, rfl, rdOf_size hall v', q3, by omega, q5, q6⟩
  by_cases c0 : v = 0
  · rw [if_pos c0]; exact fin _ 10 (by omega) (by omega) rfl (by decide)
  rw [if_neg c0]
  by_cases c1 : v = 1
  · rw [if_pos c1]; exact fin _ 9 (by omega) (by omega) rfl (by decide)
  rw [if_neg c1]
  by_cases c2 : v = 2
  · rw [if_pos c2]; exact fin _ 13 (by omega) (by omega) rfl (by decide)
  rw [if_neg c2]
  by_cases c3 : v = 3
  · rw [if_pos c3]; exact fin _ 10 (by omega) (by omega) rfl (by decide)
  rw [if_neg c3]
  exact fin _ 20 (by omega) (by omega) rfl (by decide)
theorem word_j1 {code : List Int} (hb : Bytes code) (hl : code.length ≤ 1048576) (k : Nat) (hk : 1 ≤ k) {at_ seed : Int} (h0 : 0 ≤ at_) (h1 : at_ ≤ 4611686018427387900) (h2 : 0 ≤ seed) (h3 : seed < 65521) (a : Int) (t : ByteArray) (b : Int) (ht : t.size ≤ 20) :
    ∃ a' t' b' at1 seed1, spec_l01DrawWord.j1 k code at_ seed a t b = some (a', t', b', at1, seed1) ∧ t'.size ≤ 20 ∧ 0 ≤ at1 ∧ at1 ≤ at_ + 4 ∧ 0 ≤ seed1 ∧ seed1 < 65521 := by
  obtain ⟨k, rfl⟩ : ∃ m, k = m + 1 := ⟨k - 1, by omega⟩
  rw [spec_l01DrawWord.j1]
  obtain ⟨v, a1, s1, e, p1, p2, p3, p4, p5, p6⟩ := pick_ok hb hl h0 (by omega) h2 h3 (n := 40) (by omega) (by omega)
  rw [e, Option.bind_some]
  simp only
  by_cases c0 : v = 0
  · rw [if_pos c0]
    obtain ⟨v', a2, s2, e', q1, q2, q3, q4, q5, q6⟩ := pick_ok hb hl p3 (by omega) p5 p6 (n := 7) (by omega) (by omega)
    rw [e', Option.bind_some]
    exact ⟨_, _, _, _, _, rfl, ht, q3, by simp only; omega, q5, q6⟩
  rw [if_neg c0]
  by_cases c1 : v = 1
  · rw [if_pos c1, Option.bind_some]
    obtain ⟨v', a2, s2, e', q1, q2, q3, q4, q5, q6⟩ := pick_ok hb hl p3 (by omega) p5 p6 (n := 3) (by omega) (by omega)
    rw [e', Option.bind_some]
    simp only
    rw [if_pos q1, if_pos (by simpa using q2)]
    exact ⟨_, _, _, _, _, rfl, ht, q3, by omega, q5, q6⟩
  rw [if_neg c1]
  exact ⟨_, _, _, _, _, rfl, ht, p3, by omega, p5, p6⟩
theorem word_ok {code : List Int} (hb : Bytes code) (hl : code.length ≤ 1048576) (k : Nat) (hk : 100 ≤ k) {at_ seed : Int} (h0 : 0 ≤ at_) (h1 : at_ ≤ 4611686018427387800) (h2 : 0 ≤ seed) (h3 : seed < 65521) :
    ∃ a' t' b' at1 seed1, spec_l01DrawWord.f k code at_ seed = some (a', t', b', at1, seed1) ∧ t'.size ≤ 20 ∧ 0 ≤ at1 ∧ at1 ≤ at_ + 20 ∧ 0 ≤ seed1 ∧ seed1 < 65521 := by
  obtain ⟨k, rfl⟩ : ∃ m, k = m + 1 := ⟨k - 1, by omega⟩
  unfold spec_l01DrawWord.f
  obtain ⟨x, a1, s1, e, p1, p3, p4, p5, p6⟩ := piece_ok hb hl h0 (by omega) h2 h3
  rw [e, Option.bind_some]
  simp only
  obtain ⟨v', a2, s2, e', q1, q2, q3, q4, q5, q6⟩ := pick_ok hb hl p3 (by omega) p5 p6 (n := 100) (by omega) (by omega)
  rw [e', Option.bind_some]
  simp only
  rw [s_kind x (by omega) (k + 1) (by omega), Option.bind_some]
  have j0f : ∀ (a3 s3 : Int), 0 ≤ a3 → a3 ≤ at_ + 10 → 0 ≤ s3 → s3 < 65521 → ∃ a' t' b' at1 seed1, spec_l01DrawWord.j0 (k + 1) false code a3 s3 (kindL x.data.toList) x v' = some (a', t', b', at1, seed1) ∧ t'.size ≤ 20 ∧ 0 ≤ at1 ∧ at1 ≤ at_ + 20 ∧ 0 ≤ seed1 ∧ seed1 < 65521 := by
    intro a3 s3 r1 r2 r3 r4
    rw [spec_l01DrawWord.j0, if_neg (by simp)]
    obtain ⟨u1, u2, u3, u4, u5, w1, w2, w3, w4, w5, w6⟩ := word_j1 hb hl k (by omega) r1 (by omega) r3 r4 (kindL x.data.toList) x v' p1
    exact ⟨_, _, _, _, _, w1, w2, w3, by omega, w5, w6⟩
  by_cases c0 : kindL x.data.toList = 0
  · rw [if_pos c0]
    obtain ⟨v3, a3, s3, e3, r3, r4, r5, r6⟩ := once_ok hb hl q3 (by omega) q5 q6 (n := 6) (by omega) (by omega)
    rw [e3, Option.bind_some]
    simp only
    cases v3 with
    | true => exact j0f a3 s3 r3 (by omega) r5 r6
    | false =>
      rw [spec_l01DrawWord.j0, if_pos (by simp), Option.bind_some]
      obtain ⟨v4, a4, s4, e4, t1, t2, t3, t4, t5, t6⟩ := pick_ok hb hl r3 (by omega) r5 r6 (n := 4) (by omega) (by omega)
      rw [e4, Option.bind_some]
      simp only
      have hy : (rdOf ByteArray.empty [(⟨#[105]⟩ : ByteArray), (⟨#[55]⟩ : ByteArray), (⟨#[43]⟩ : ByteArray), (⟨#[108, 101, 110]⟩ : ByteArray)] v4).size ≤ 20 := rdOf_size (by decide) v4
      rw [if_pos t1, if_pos (by simpa using t2), s_kind _ (by omega) k (by omega), Option.bind_some]
      obtain ⟨u1, u2, u3, u4, u5, w1, w2, w3, w4, w5, w6⟩ := word_j1 hb hl k (by omega) t3 (by omega) t5 t6 (kindL (rdOf ByteArray.empty [(⟨#[105]⟩ : ByteArray), (⟨#[55]⟩ : ByteArray), (⟨#[43]⟩ : ByteArray), (⟨#[108, 101, 110]⟩ : ByteArray)] v4).data.toList) _ v' hy
      exact ⟨_, _, _, _, _, w1, w2, w3, by omega, w5, w6⟩
  · rw [if_neg c0]
    exact j0f a2 s2 q3 (by omega) q5 q6
abbrev Wr := S73
theorem fill_ok : ∀ (d k : Nat) (l : List Wr) (n : Int), n = (l.length : Int) + d → n ≤ 100000 → d < k → (∀ x ∈ l, x.f1.size ≤ 20) → ∃ r, spec_DrawWordsText.l1 k l n = some r ∧ (r.length : Int) = n ∧ ∀ x ∈ r, x.f1.size ≤ 20 := by
  intro d
  induction d with
  | zero =>
    intro k l n hn h1 hk h
    obtain ⟨k, rfl⟩ : ∃ m, k = m + 1 := ⟨k - 1, by omega⟩
    rw [spec_DrawWordsText.l1, if_neg (by omega)]
    exact ⟨_, rfl, by omega, h⟩
  | succ d ih =>
    intro k l n hn h1 hk h
    obtain ⟨k, rfl⟩ : ∃ m, k = m + 1 := ⟨k - 1, by omega⟩
    rw [spec_DrawWordsText.l1, if_pos (by omega), if_pos (by omega)]
    refine ih k _ n (by simp; omega) h1 (by omega) ?_
    intro x hx
    rcases List.mem_append.1 hx with q | q
    · exact h x q
    · rw [List.mem_singleton.1 q]; show (⟨#[59]⟩ : ByteArray).size ≤ 20; decide
theorem draw_loop {code : List Int} (hb : Bytes code) (hl : code.length ≤ 1048576) : ∀ (d k : Nat) (l : List Wr) (i at_ seed : Int), i = (d : Int) → l.length + d ≤ 41 → 2000 + d < k → 0 ≤ at_ → at_ + 20 * d ≤ 4611686018427380000 → 0 ≤ seed → seed < 65521 → (∀ x ∈ l, x.f1.size ≤ 20) →
    ∃ r, spec_DrawWordsText.l0 k l i code at_ seed = some r ∧ r.length ≤ 1501 ∧ ∀ x ∈ r, x.f1.size ≤ 20 := by
  intro d
  induction d with
  | zero =>
    intro k l i at_ seed hi hll hk h0 h1 h2 h3 h
    obtain ⟨k, rfl⟩ : ∃ m, k = m + 1 := ⟨k - 1, by omega⟩
    rw [spec_DrawWordsText.l0, if_neg (by omega)]
    obtain ⟨v, a1, s1, e, p3, p4, p5, p6⟩ := once_ok hb hl h0 (by omega) h2 h3 (n := 20) (by omega) (by omega)
    rw [e, Option.bind_some]
    simp only
    cases v with
    | false => rw [if_neg (by simp)]; exact ⟨_, rfl, by omega, h⟩
    | true =>
      obtain ⟨v4, a4, s4, e4, t1, t2, t3, t4, t5, t6⟩ := pick_ok hb hl p3 (by omega) p5 p6 (n := 2) (by omega) (by omega)
      rw [if_pos rfl, e4, Option.bind_some]
      simp only
      rw [w64 (by omega) (by omega)]
      obtain ⟨r, r1, r2, r3⟩ := fill_ok (1500 + v4 - l.length).toNat k l (1500 + v4) (by omega) (by omega) (by omega) h
      exact ⟨r, r1, by omega, r3⟩
  | succ d ih =>
    intro k l i at_ seed hi hll hk h0 h1 h2 h3 h
    obtain ⟨k, rfl⟩ : ∃ m, k = m + 1 := ⟨k - 1, by omega⟩
    obtain ⟨a', t', b', at1, seed1, e, p1, p2, p3, p4, p5⟩ := word_ok hb hl k (by omega) h0 (by omega) h2 h3
    rw [spec_DrawWordsText.l0, if_pos (by omega), e, Option.bind_some]
    simp only
    rw [if_pos (by omega), w64 (by omega) (by omega)]
    refine ih k _ (i - 1) at1 seed1 (by omega) (by simp; omega) (by omega) p2 (by omega) p4 p5 ?_
    intro x hx
    rcases List.mem_append.1 hx with q | q
    · exact h x q
    · rw [List.mem_singleton.1 q]; exact p1
theorem drawWT_ok {code : List Int} (hb : Bytes code) (hl : code.length ≤ 1048576) (k : Nat) (hk : 3000 ≤ k) : ∃ r, spec_DrawWordsText.f k code = some r ∧ r.length ≤ 1501 ∧ ∀ x ∈ r, x.f1.size ≤ 20 := by
  unfold spec_DrawWordsText.f spec_l01Open.f
  rw [Option.bind_some]
  simp only
  obtain ⟨v, a1, s1, e, p1, p2, p3, p4, p5, p6⟩ := size_ok hb hl (at_ := 0) (seed := 7 + ((code.length : Int) % 1000)) (n := 40) (by omega) (by omega) (by omega) (by omega) (by omega) (by omega)
  rw [e, Option.bind_some]
  exact draw_loop hb hl v.toNat k [] v a1 s1 (by omega) (by simp; omega) (by omega) p3 (by omega) p5 p6 (by simp)
theorem pad_ok {code : List Int} (hb : Bytes code) (hl : code.length ≤ 1048576) (m : Int) (hm1 : 1 ≤ m) (hm : m ≤ 10) : ∀ (d k : Nat) (x : ByteArray) (at_ seed : Int), 4000 - (x.size : Int) ≤ d → x.size ≤ 5000 → d + 1 < k → 0 ≤ at_ → at_ + 4 * d ≤ 4611686018427380000 → 0 ≤ seed → seed < 65521 →
    ∃ r, spec_DrawWords.l1 k x m code at_ seed = some r ∧ r.size ≤ 5000 := by
  intro d
  induction d with
  | zero =>
    intro k x at_ seed hd hx hk h0 h1 h2 h3
    obtain ⟨k, rfl⟩ : ∃ m, k = m + 1 := ⟨k - 1, by omega⟩
    rw [spec_DrawWords.l1, w64 (by omega) (by omega), if_neg (by omega)]
    exact ⟨_, rfl, hx⟩
  | succ d ih =>
    intro k x at_ seed hd hx hk h0 h1 h2 h3
    obtain ⟨k, rfl⟩ : ∃ m, k = m + 1 := ⟨k - 1, by omega⟩
    rw [spec_DrawWords.l1, w64 (by omega) (by omega)]
    by_cases c : (x.size : Int) < 4000 - m
    · obtain ⟨v4, a4, s4, e4, t1, t2, t3, t4, t5, t6⟩ := pick_ok hb hl h0 (by omega) h2 h3 (n := 4) (by omega) (by omega)
      have hy : (rdOf ByteArray.empty [(⟨#[43, 32]⟩ : ByteArray), (⟨#[59, 32]⟩ : ByteArray), (⟨#[97, 32, 98, 32]⟩ : ByteArray), (⟨#[97, 97, 97, 97, 97, 97, 97, 97, 32]⟩ : ByteArray)] v4).size ≤ 9 := rdOf_size (by decide) v4
      have hy2 : 1 ≤ (rdOf ByteArray.empty [(⟨#[43, 32]⟩ : ByteArray), (⟨#[59, 32]⟩ : ByteArray), (⟨#[97, 32, 98, 32]⟩ : ByteArray), (⟨#[97, 97, 97, 97, 97, 97, 97, 97, 32]⟩ : ByteArray)] v4).size := by
        have : v4 = 0 ∨ v4 = 1 ∨ v4 = 2 ∨ v4 = 3 := by omega
        rcases this with rfl | rfl | rfl | rfl <;> decide
      rw [if_pos c, Option.bind_some, e4, Option.bind_some]
      simp only
      generalize rdOf ByteArray.empty [(⟨#[43, 32]⟩ : ByteArray), (⟨#[59, 32]⟩ : ByteArray), (⟨#[97, 32, 98, 32]⟩ : ByteArray), (⟨#[97, 97, 97, 97, 97, 97, 97, 97, 32]⟩ : ByteArray)] v4 = y at hy hy2
      have es : (x ++ y).size = x.size + y.size := by rw [sizeL, app_mk', List.length_append, ← sizeL, ← sizeL]
      rw [if_pos t1, if_pos (by simpa using t2), if_pos (by omega)]
      exact ih k (x ++ y) a4 s4 (by omega) (by omega) (by omega) t3 (by omega) t5 t6
    · rw [if_neg c]; exact ⟨_, rfl, hx⟩
theorem drawW_loop {code : List Int} (hb : Bytes code) (hl : code.length ≤ 1048576) : ∀ (d k : Nat) (x : ByteArray) (i at_ seed : Int), i = (d : Int) → x.size + 21 * d ≤ 1400 → 5000 + d < k → 0 ≤ at_ → at_ + 20 * d ≤ 4611686018427300000 → 0 ≤ seed → seed < 65521 →
    ∃ r, spec_DrawWords.l0 k x i code at_ seed = some r ∧ r.size ≤ 5000 := by
  intro d
  induction d with
  | zero =>
    intro k x i at_ seed hi hll hk h0 h1 h2 h3
    obtain ⟨k, rfl⟩ : ∃ m, k = m + 1 := ⟨k - 1, by omega⟩
    rw [spec_DrawWords.l0, if_neg (by omega)]
    obtain ⟨v, a1, s1, e, p3, p4, p5, p6⟩ := once_ok hb hl h0 (by omega) h2 h3 (n := 25) (by omega) (by omega)
    rw [e, Option.bind_some]
    simp only
    cases v with
    | false => rw [if_neg (by simp)]; exact ⟨_, rfl, by omega⟩
    | true =>
      obtain ⟨v4, a4, s4, e4, t1, t2, t3, t4, t5, t6⟩ := pick_ok hb hl p3 (by omega) p5 p6 (n := 3) (by omega) (by omega)
      rw [if_pos rfl, e4, Option.bind_some]
      simp only
      rw [w64 (by omega) (by omega)]
      exact pad_ok hb hl (1 + v4) (by omega) (by omega) 4000 k x a4 s4 (by omega) (by omega) (by omega) t3 (by omega) t5 t6
  | succ d ih =>
    intro k x i at_ seed hi hll hk h0 h1 h2 h3
    obtain ⟨k, rfl⟩ : ∃ m, k = m + 1 := ⟨k - 1, by omega⟩
    obtain ⟨y, at1, seed1, e, p1, p2, p3, p4, p5⟩ := piece_ok hb hl h0 (by omega) h2 h3
    have es : (x ++ y).size = x.size + y.size := by rw [sizeL, app_mk', List.length_append, ← sizeL, ← sizeL]
    have es2 : ((x ++ y) ++ (⟨#[32]⟩ : ByteArray)).size = x.size + y.size + 1 := by rw [sizeL, app_mk', List.length_append, ← sizeL, es]; rfl
    rw [spec_DrawWords.l0, if_pos (by omega), e, Option.bind_some]
    simp only
    rw [if_pos (by omega)]
    obtain ⟨v, a2, s2, e2, q3, q4, q5, q6⟩ := once_ok hb hl p2 (by omega) p4 p5 (n := 5) (by omega) (by omega)
    rw [e2, Option.bind_some]
    simp only
    rw [w64 (by omega) (by omega)]
    cases v with
    | true =>
      rw [if_pos rfl]
      exact ih k (x ++ y) (i - 1) a2 s2 (by omega) (by omega) (by omega) q3 (by omega) q5 q6
    | false =>
      rw [if_neg (by simp), if_pos (by omega)]
      exact ih k _ (i - 1) a2 s2 (by omega) (by omega) (by omega) q3 (by omega) q5 q6
theorem drawW_ok {code : List Int} (hb : Bytes code) (hl : code.length ≤ 1048576) (k : Nat) (hk : 6000 ≤ k) : ∃ r, spec_DrawWords.f k code = some r ∧ r.size ≤ 5000 := by
  unfold spec_DrawWords.f spec_l01Open.f
  rw [Option.bind_some]
  simp only
  obtain ⟨v, a1, s1, e, p1, p2, p3, p4, p5, p6⟩ := size_ok hb hl (at_ := 0) (seed := 7 + ((code.length : Int) % 1000)) (n := 60) (by omega) (by omega) (by omega) (by omega) (by omega) (by omega)
  rw [e, Option.bind_some]
  simp only
  rw [w64 (by omega) (by omega)]
  exact drawW_loop hb hl (1 + v).toNat k ⟨#[]⟩ (1 + v) a1 s1 (by omega) (by show 0 + 21 * (1 + v).toNat ≤ 1400; omega) (by omega) p3 (by omega) p5 p6
end Go.Proofs.YtlkcbfonjcflgaaDoor.Q
