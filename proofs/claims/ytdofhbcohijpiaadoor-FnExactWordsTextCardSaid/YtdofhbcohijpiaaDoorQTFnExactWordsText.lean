/- Plain laws over numbers, lists and texts, for the law FnExactWordsText: no program in sight. -/
import Derived.Test.YtdofhbcohijpiaaDoorWLast
import Derived.Test.YtdofhbcohijpiaaDoorWMore
import Derived.Test.YtdofhbcohijpiaaDoorWWords
import Derived.Test.YtdofhbcohijpiaaDoorQOpen
import Derived.Lib.Strings
import Derived.Lib.AtoiAll
import Derived.Lib.ItoaNum
import Derived.Test.YtdofhbcohijpiaaDoorQx14
import Derived.Test.YtdofhbcohijpiaaDoorQx15
import Derived.Test.YtdofhbcohijpiaaDoorQx5
import Derived.Test.YtdofhbcohijpiaaDoorQx9
import Derived.Test.YtdofhbcohijpiaaDoorQx2
import Derived.Test.YtdofhbcohijpiaaDoorQx3
import Derived.Test.YtdofhbcohijpiaaDoorQx4
import Derived.Test.YtdofhbcohijpiaaDoorQx7
import Derived.Test.YtdofhbcohijpiaaDoorQx8
import Derived.Test.YtdofhbcohijpiaaDoorQx10
import Derived.Test.YtdofhbcohijpiaaDoorQx6
import Derived.Test.YtdofhbcohijpiaaDoorQx13
import Derived.Test.YtdofhbcohijpiaaDoorQXFnExactWordsText
import Derived.Test.YtdofhbcohijpiaaDoorQx23
import Derived.Test.YtdofhbcohijpiaaDoorQx24
import Derived.Test.YtdofhbcohijpiaaDoorQx25
import Derived.Test.YtdofhbcohijpiaaDoorQx26
import Derived.Test.YtdofhbcohijpiaaDoorQx27
import Derived.Test.YtdofhbcohijpiaaDoorQx28
import Derived.Test.YtdofhbcohijpiaaDoorQx29
import Derived.Test.YtdofhbcohijpiaaDoorQx30
import Derived.Lib.Join
import Derived.Test.YtdofhbcohijpiaaDoorQx42
import Derived.Test.YtdofhbcohijpiaaDoorQx43
import Derived.Test.YtdofhbcohijpiaaDoorQx22
import Derived.Test.YtdofhbcohijpiaaDoorQx39
import Derived.Test.YtdofhbcohijpiaaDoorQx40
namespace Go.Proofs.YtdofhbcohijpiaaDoor.Q
open Go.RowKit Go.Proofs.YtdofhbcohijpiaaDoorW.PrintWords Go.Proofs.YtdofhbcohijpiaaDoorW.PrintLast Go.Proofs.YtdofhbcohijpiaaDoorW.PrintMore
open Go.Proofs.YtdofhbcohijpiaaDoor.Open
set_option linter.unusedSimpArgs false
set_option linter.unusedVariables false
theorem drop_cons {α : Type} {l : List α} {i : Nat} {x : α} {t : List α} (h : l.drop i = x :: t) : i < l.length ∧ l[i]? = some x ∧ l.drop (i + 1) = t := by
  have h1 : i < l.length := by
    rcases Nat.lt_or_ge i l.length with h1 | h1
    · exact h1
    · rw [List.drop_eq_nil_of_le h1] at h; simp at h
  refine ⟨h1, ?_, ?_⟩
  · have := congrArg (fun z => z[0]?) h
    simpa using this
  · have := congrArg List.tail h
    simpa using this
theorem drop_nil {α : Type} {l : List α} {i : Nat} (h : l.drop i = []) : l.length ≤ i := by simpa using h
theorem rd_at {l : List Int} {i : Nat} {x : Int} (h : l[i]? = some x) : rd l (i : Int) = x := by
  unfold rd; simp [List.getD, h]
theorem w64 {n : Int} (h1 : -9223372036854775808 ≤ n) (h2 : n ≤ 9223372036854775807) : wrap64 n = n := by unfold wrap64; omega
theorem w64s (i : Nat) (h : i < 9223372036854775807) : wrap64 ((i : Int) + 1) = ((i + 1 : Nat) : Int) := by
  rw [w64 (by omega) (by omega)]; omega
end Go.Proofs.YtdofhbcohijpiaaDoor.Q
namespace Go.Proofs.YtdofhbcohijpiaaDoor.Q
open Go.RowKit Go.Proofs.YtdofhbcohijpiaaDoorW.PrintWords Go.Proofs.YtdofhbcohijpiaaDoorW.PrintLast Go.Proofs.YtdofhbcohijpiaaDoorW.PrintMore
open Go.Proofs.YtdofhbcohijpiaaDoor.Open
set_option linter.unusedSimpArgs false
set_option linter.unusedVariables false
theorem toL (s : ByteArray) : s.toList = s.data.toList := Lib.toList_data s
theorem sizeL (s : ByteArray) : s.size = s.data.toList.length := Lib.size_eq s
theorem extL (s : ByteArray) (a b : Nat) : (s.extract a b).data.toList = (s.data.toList.drop a).take (b - a) := Lib.extract_data s a b
theorem ext_all (s : ByteArray) (a : Nat) : (s.extract a s.size).data.toList = s.data.toList.drop a := by
  rw [extL, sizeL, List.take_of_length_le (by simp)]
theorem ext_head (s : ByteArray) (b : Nat) : (s.extract 0 b).data.toList = s.data.toList.take b := by rw [extL]; simp
theorem mkL (l : List UInt8) : (⟨l.toArray⟩ : ByteArray).data.toList = l := rfl
theorem eqL {s t : ByteArray} (h : s.data.toList = t.data.toList) : s = t := by
  rw [← Lib.mk_data s, h, Lib.mk_data]
theorem isL {s : ByteArray} {l : List UInt8} (h : s.data.toList = l) : s = ⟨l.toArray⟩ := by rw [← h, Lib.mk_data]
theorem bt_at_ {s : ByteArray} {i : Nat} {c : UInt8} (h : s.data.toList[i]? = some c) : bt s (i : Int) = (c.toNat : Int) := by
  obtain ⟨hi, e⟩ := List.getElem?_eq_some_iff.1 h
  have hs : i < s.size := by rw [sizeL]; exact hi
  unfold bt
  rw [dif_pos (by simpa using hs)]
  have : s[i] = c := by rw [← e]; simp [ByteArray.getElem_eq_getElem_data]
  simp only [Int.toNat_natCast, this]
theorem bt_zero {s : ByteArray} {c : UInt8} {r : List UInt8} (h : s.data.toList = c :: r) : bt s 0 = (c.toNat : Int) := bt_at_ (i := 0) (by rw [h]; rfl)
theorem u8_lt (c : UInt8) : c.toNat < 256 := UInt8.toNat_lt c
theorem u8_eq {c d : UInt8} (h : c.toNat = d.toNat) : c = d := UInt8.toNat_inj.1 h
theorem app_mk' (a b : ByteArray) : (a ++ b).data.toList = a.data.toList ++ b.data.toList := by simp [ByteArray.data_append]
theorem getS {l : List UInt8} {i : Nat} (h : i < l.length) : ∃ c, l[i]? = some c := ⟨_, List.getElem?_eq_getElem h⟩
end Go.Proofs.YtdofhbcohijpiaaDoor.Q
namespace Go.Proofs.YtdofhbcohijpiaaDoor.Q
open Go.RowKit Go.Proofs.YtdofhbcohijpiaaDoorW.PrintWords Go.Proofs.YtdofhbcohijpiaaDoorW.PrintLast Go.Proofs.YtdofhbcohijpiaaDoorW.PrintMore
open Go.Proofs.YtdofhbcohijpiaaDoor.Open
set_option linter.unusedSimpArgs false
set_option linter.unusedVariables false
def isDig (c : UInt8) : Prop := 48 ≤ c.toNat ∧ c.toNat ≤ 57
def dval (acc : Nat) (l : List UInt8) : Nat := l.foldl (fun a c => a * 10 + (c.toNat - 48)) acc
theorem dval_nil (acc : Nat) : dval acc [] = acc := by unfold dval; rw [List.foldl_nil]
theorem dval_cons (acc : Nat) (c : UInt8) (r : List UInt8) : dval acc (c :: r) = dval (acc * 10 + (c.toNat - 48)) r := by
  unfold dval
  rw [List.foldl_cons]
theorem dval_snoc (c : UInt8) (l : List UInt8) (acc : Nat) : dval acc (l ++ [c]) = dval acc l * 10 + (c.toNat - 48) := by
  unfold dval
  rw [List.foldl_append, List.foldl_cons, List.foldl_nil]
theorem dval_ge : ∀ (l : List UInt8) (acc : Nat), acc ≤ dval acc l
  | [], acc => Nat.le_refl _
  | c :: l, acc => by simp only [dval_cons, dval_nil]; have := dval_ge l (acc * 10 + (c.toNat - 48)); omega
theorem dval_lt : ∀ (l : List UInt8) (acc k : Nat), (∀ c ∈ l, isDig c) → acc < k → dval acc l < k * 10 ^ l.length
  | [], acc, k, _, h => by simpa [dval_nil] using h
  | c :: l, acc, k, hd, h => by
    simp only [dval_cons, List.length_cons]
    have hc := hd c (by simp)
    unfold isDig at hc
    have := dval_lt l (acc * 10 + (c.toNat - 48)) (k * 10) (fun x hx => hd x (by simp [hx])) (by omega)
    rwa [Nat.pow_succ', ← Nat.mul_assoc]
theorem ofNat_dig (d : Nat) (h : d < 10) : (UInt8.ofNat (48 + d)).toNat = 48 + d := by simp; omega
theorem isDig_ofNat (d : Nat) (h : d < 10) : isDig (UInt8.ofNat (48 + d)) := by unfold isDig; rw [ofNat_dig d h]; omega
theorem dig_ofNat {c : UInt8} (h : isDig c) : UInt8.ofNat (48 + (c.toNat - 48)) = c := by
  unfold isDig at h
  rw [show 48 + (c.toNat - 48) = c.toNat by omega]
  simp
theorem dec_digs (u : Nat) : ∀ c ∈ Lib.decDigits u, isDig c := by
  induction u using Nat.strongRecOn with
  | _ u ih =>
    rw [Lib.decDigits]
    split
    · rename_i h; intro c hc; simp only [List.mem_singleton] at hc; subst hc; exact isDig_ofNat u h
    · intro c hc
      rcases List.mem_append.1 hc with h | h
      · exact ih (u / 10) (by omega) c h
      · simp only [List.mem_singleton] at h; subst h; exact isDig_ofNat _ (by omega)
theorem dval_dec (u : Nat) : dval 0 (Lib.decDigits u) = u := by
  induction u using Nat.strongRecOn with
  | _ u ih =>
    rw [Lib.decDigits]
    split
    · rename_i h; simp only [dval_cons, dval_nil, ofNat_dig u h]; omega
    · rw [dval_snoc, ih (u / 10) (by omega), ofNat_dig _ (by omega)]; omega
theorem dec_inj {u v : Nat} (h : Lib.decDigits u = Lib.decDigits v) : u = v := by rw [← dval_dec u, h, dval_dec]
theorem dec_ne (u : Nat) : Lib.decDigits u ≠ [] := by rw [Lib.decDigits]; split <;> simp
theorem dec_head (u : Nat) (hu : 1 ≤ u) : ∃ c r, Lib.decDigits u = c :: r ∧ isDig c ∧ c.toNat ≠ 48 := by
  induction u using Nat.strongRecOn with
  | _ u ih =>
    rw [Lib.decDigits]
    split
    · rename_i h; exact ⟨_, [], rfl, isDig_ofNat u h, by rw [ofNat_dig u h]; omega⟩
    · obtain ⟨c, r, e, h1, h2⟩ := ih (u / 10) (by omega) (by omega)
      exact ⟨c, r ++ [_], by rw [e]; rfl, h1, h2⟩
theorem dec_of_dval (l : List UInt8) : l ≠ [] → (∀ c ∈ l, isDig c) → (1 < l.length → ∀ c, l.head? = some c → c.toNat ≠ 48) → Lib.decDigits (dval 0 l) = l := by
  induction h : l.length using Nat.strongRecOn generalizing l with
  | _ n ih =>
    intro h0 hd hz
    have e : l = l.dropLast ++ [l.getLast h0] := (List.dropLast_concat_getLast h0).symm
    have hcd := hd (l.getLast h0) (List.getLast_mem h0)
    generalize l.getLast h0 = c at e hcd
    generalize l.dropLast = p at e
    subst e
    rw [dval_snoc]
    have hcd' := hcd
    unfold isDig at hcd'
    by_cases hp : p = []
    · subst hp
      rw [Lib.decDigits, dif_pos (by simp only [dval_cons, dval_nil]; omega)]
      simp only [dval_cons, dval_nil, Nat.zero_mul, Nat.zero_add, List.nil_append, dig_ofNat hcd]
    · have hpl : 0 < p.length := List.length_pos_iff.2 hp
      have hhead : ∀ x, p.head? = some x → x.toNat ≠ 48 := fun x hx => hz (by simp at h ⊢; omega) x (by rw [List.head?_append, hx]; rfl)
      have i1 := ih p.length (by simp at h; omega) p rfl hp (fun x hx => hd x (by simp [hx])) (fun _ => hhead)
      have pos : 1 ≤ dval 0 p := by
        cases p with
        | nil => exact absurd rfl hp
        | cons x r =>
          have a := hhead x rfl
          have b := hd x (by simp)
          unfold isDig at b
          have := dval_ge r (0 * 10 + (x.toNat - 48))
          simp only [dval_cons, dval_nil]; omega
      rw [Lib.decDigits, dif_neg (by omega), show (dval 0 p * 10 + (c.toNat - 48)) / 10 = dval 0 p by omega, show (dval 0 p * 10 + (c.toNat - 48)) % 10 = c.toNat - 48 by omega, i1, dig_ofNat hcd]
theorem dec_len10 (k : Nat) : ∀ u, u < 10 ^ (k + 1) → (Lib.decDigits u).length ≤ k + 1 := by
  induction k with
  | zero => intro u hu; rw [Lib.decDigits, dif_pos (by simpa using hu)]; simp
  | succ k ih =>
    intro u hu
    rw [Lib.decDigits]
    split
    · simp
    · have := ih (u / 10) (by rw [Nat.pow_succ] at hu; omega)
      simp; omega
theorem parse_digs : ∀ (l : List UInt8) (acc : Nat), (∀ c ∈ l, isDig c) → dval acc l < 1000000000 → Lib.parseUint10 acc l = .ok (dval acc l)
  | [], acc, _, _ => rfl
  | c :: l, acc, hd, hv => by
    have hc := hd c (by simp)
    unfold isDig at hc
    rw [dval_cons] at hv ⊢
    have hge := dval_ge l (acc * 10 + (c.toNat - 48))
    rw [Lib.parseUint10, if_pos hc, if_neg (by omega), if_neg (by omega)]
    exact parse_digs l _ (fun x hx => hd x (by simp [hx])) hv
theorem atoi_dec (u : Nat) (hu : u < 1000000000) : Lib.atoiAll (Lib.decDigits u) = .ok (u : Int) := by
  have hp := parse_digs (Lib.decDigits u) 0 (dec_digs u) (by rw [dval_dec]; omega)
  rw [dval_dec] at hp
  have hd := dec_digs u
  have hne := dec_ne u
  cases e : Lib.decDigits u with
  | nil => exact absurd e hne
  | cons c r =>
    rw [e] at hp hd
    have hc := hd c (by simp)
    unfold isDig at hc
    unfold Lib.atoiAll
    simp only
    rw [if_neg (by omega)]
    unfold Lib.parseMag
    rw [if_neg (by simp), hp]
    simp only
    rw [if_neg (by omega), if_neg (by omega), if_neg (by omega)]
theorem atoi_neg_dec (u : Nat) (h1 : 1 ≤ u) (hu : u < 1000000000) : Lib.atoiAll (45 :: Lib.decDigits u) = .ok (-(u : Int)) := by
  have hp := parse_digs (Lib.decDigits u) 0 (dec_digs u) (by rw [dval_dec]; omega)
  rw [dval_dec] at hp
  unfold Lib.atoiAll
  simp only
  rw [if_pos (by decide)]
  unfold Lib.parseMag
  rw [if_neg (dec_ne u), hp]
  simp only
  rw [if_neg (by simp), if_neg (by omega), if_pos (by decide)]
theorem itoa_pos (u : Nat) : Lib.itoa (u : Int) = Lib.decDigits u := by unfold Lib.itoa; rw [if_neg (by omega)]; simp
theorem itoa_neg' (u : Nat) (h : 1 ≤ u) : Lib.itoa (-(u : Int)) = 45 :: Lib.decDigits u := by unfold Lib.itoa; rw [if_pos (by omega)]; simp
theorem int_cases (n : Int) : (∃ u : Nat, n = (u : Int)) ∨ ∃ u : Nat, 1 ≤ u ∧ n = -(u : Int) := by
  by_cases h : 0 ≤ n
  · exact .inl ⟨n.toNat, by omega⟩
  · exact .inr ⟨n.natAbs, by omega, by omega⟩
theorem atoi_itoa (n : Int) (h1 : -1000000 ≤ n) (h2 : n ≤ 1000000) : Lib.atoiAll (Lib.itoa n) = .ok n := by
  rcases int_cases n with ⟨u, rfl⟩ | ⟨u, hu, rfl⟩
  · rw [itoa_pos]; exact atoi_dec u (by omega)
  · rw [itoa_neg' u hu]; exact atoi_neg_dec u hu (by omega)
theorem itoa_inj {m n : Int} (h : Lib.itoa m = Lib.itoa n) : m = n := by
  have no : ∀ u v : Nat, Lib.decDigits u ≠ 45 :: Lib.decDigits v := fun u v e => by
    have := dec_digs u 45 (by rw [e]; simp)
    unfold isDig at this
    simp at this
  rcases int_cases m with ⟨u, rfl⟩ | ⟨u, hu, rfl⟩ <;> rcases int_cases n with ⟨v, rfl⟩ | ⟨v, hv, rfl⟩
  · rw [itoa_pos, itoa_pos] at h; rw [dec_inj h]
  · rw [itoa_pos, itoa_neg' v hv] at h; exact absurd h (no u v)
  · rw [itoa_pos, itoa_neg' u hu] at h; exact absurd h.symm (no v u)
  · rw [itoa_neg' v hv, itoa_neg' u hu] at h; rw [dec_inj (List.cons.inj h).2]
end Go.Proofs.YtdofhbcohijpiaaDoor.Q
namespace Go.Proofs.YtdofhbcohijpiaaDoor.Q
open Go.RowKit Go.Proofs.YtdofhbcohijpiaaDoorW.PrintWords Go.Proofs.YtdofhbcohijpiaaDoorW.PrintLast Go.Proofs.YtdofhbcohijpiaaDoorW.PrintMore
open Go.Proofs.YtdofhbcohijpiaaDoor.Open
set_option linter.unusedSimpArgs false
set_option linter.unusedVariables false
def digB (c : UInt8) : Bool := decide (48 ≤ c.toNat) && decide (c.toNat ≤ 57)
theorem digB_iff (c : UInt8) : digB c = true ↔ isDig c := by unfold digB isDig; simp
theorem all_digs (l : List UInt8) : l.all digB = true ↔ ∀ c ∈ l, isDig c := by simp [List.all_eq_true, digB_iff]
theorem s_digit (c : UInt8) : spec_l01Digit.f (c.toNat : Int) = some (digB c) := by
  unfold spec_l01Digit.f digB
  by_cases h : 48 ≤ c.toNat
  · rw [if_pos (by omega)]; simp [h]; omega
  · rw [if_neg (by omega)]; simp [h]
open Classical in
/-- The number of which a list of bytes is the numeral, if it is one up to a limit. -/
noncomputable def intOf (most : Int) (l : List UInt8) : Int × Bool := if h : ∃ n : Int, -most ≤ n ∧ n ≤ most ∧ l = Lib.itoa n then (h.choose, true) else (0, false)
theorem intOf_num {most n : Int} (h1 : -most ≤ n) (h2 : n ≤ most) : intOf most (Lib.itoa n) = (n, true) := by
  have h : ∃ m : Int, -most ≤ m ∧ m ≤ most ∧ Lib.itoa n = Lib.itoa m := ⟨n, h1, h2, rfl⟩
  unfold intOf
  rw [dif_pos h, ← itoa_inj h.choose_spec.2.2]
theorem intOf_none {most : Int} {l : List UInt8} (h : ∀ n : Int, -most ≤ n → n ≤ most → l ≠ Lib.itoa n) : intOf most l = (0, false) := by
  unfold intOf
  rw [dif_neg]
  rintro ⟨n, h1, h2, h3⟩
  exact h n h1 h2 h3
theorem intOf_cases (most : Int) (l : List UInt8) : (∃ n : Int, -most ≤ n ∧ n ≤ most ∧ l = Lib.itoa n ∧ intOf most l = (n, true)) ∨ ((∀ n : Int, -most ≤ n → n ≤ most → l ≠ Lib.itoa n) ∧ intOf most l = (0, false)) := by
  by_cases h : ∃ n : Int, -most ≤ n ∧ n ≤ most ∧ l = Lib.itoa n
  · obtain ⟨n, h1, h2, rfl⟩ := h
    exact .inl ⟨n, h1, h2, rfl, intOf_num h1 h2⟩
  · have h' : ∀ n : Int, -most ≤ n → n ≤ most → l ≠ Lib.itoa n := fun n h1 h2 h3 => h ⟨n, h1, h2, h3⟩
    exact .inr ⟨h', intOf_none h'⟩
def endOf (most : Int) (neg : Bool) (v : Nat) : Int × Bool := if (v : Int) > most then (0, false) else if neg = true then (-(v : Int), true) else ((v : Int), true)
theorem s_int_loop (s : ByteArray) (most : Int) (neg : Bool) (hl : s.size ≤ 8) : ∀ (t : List UInt8) (i acc k : Nat), s.data.toList.drop i = t → acc < 10 ^ i → i ≤ 8 → t.length < k →
    spec_l06Int.l0 k s most neg (acc : Int) (i : Int) = some (if t.all digB = true then endOf most neg (dval acc t) else (0, false)) := by
  intro t
  induction t with
  | nil =>
    intro i acc k hd ha hi hk
    obtain ⟨k, rfl⟩ : ∃ m, k = m + 1 := ⟨k - 1, by omega⟩
    have := drop_nil hd
    rw [← sizeL] at this
    have hp : acc < 10 ^ 8 := Nat.lt_of_lt_of_le ha (Nat.pow_le_pow_right (by omega) hi)
    rw [spec_l06Int.l0, if_neg (by omega)]
    simp only [List.all_nil, if_true]
    rw [dval_nil]
    unfold endOf
    by_cases h1 : (acc : Int) > most
    · rw [if_pos h1, if_pos h1]
    · rw [if_neg h1, if_neg h1]
      cases neg with
      | true =>
        rw [if_pos rfl, if_pos rfl, w64 (by omega) (by omega)]
      | false => simp
  | cons c t ih =>
    intro i acc k hd ha hi hk
    obtain ⟨k, rfl⟩ : ∃ m, k = m + 1 := ⟨k - 1, by omega⟩
    obtain ⟨h1, h2, h3⟩ := drop_cons hd
    have h1' : i < s.size := by rw [sizeL]; exact h1
    have hc := u8_lt c
    have hp : acc < 10 ^ 7 := Nat.lt_of_lt_of_le ha (Nat.pow_le_pow_right (by omega) (by omega))
    rw [spec_l06Int.l0, if_pos (by omega), if_pos (by omega), bt_at_ h2, s_digit]
    rw [List.all_cons]
    simp only [Option.bind_some]
    by_cases hdg : digB c = true
    · have hdg' := (digB_iff c).1 hdg
      unfold isDig at hdg'
      rw [if_pos hdg, hdg, Bool.true_and, w64s i (by omega), w64 (n := 10 * (acc : Int)) (by omega) (by omega), w64 (n := (c.toNat : Int)) (by omega) (by omega), w64 (n := 10 * (acc : Int) + (c.toNat : Int)) (by omega) (by omega), w64 (by omega) (by omega)]
      rw [show (10 * (acc : Int) + (c.toNat : Int) - 48) = ((acc * 10 + (c.toNat - 48) : Nat) : Int) by omega]
      rw [ih (i + 1) (acc * 10 + (c.toNat - 48)) k h3 (by rw [Nat.pow_succ]; omega) (by omega) (by simp at hk; omega)]
      simp only [dval_cons]
    · rw [if_neg hdg]
      simp only [Bool.not_eq_true] at hdg
      rw [hdg]; simp
def tailRes (most : Int) (neg : Bool) (m : List UInt8) : Int × Bool :=
  if m = [] ∨ 8 < m.length ∨ (1 < m.length ∧ m.head? = some 48) ∨ (neg = true ∧ m = [48]) then (0, false)
  else if m.all digB = true then endOf most neg (dval 0 m) else (0, false)
theorem s_int_j1 (y : ByteArray) (most : Int) (neg : Bool) (k : Nat) (hk : 12 ≤ k) : spec_l06Int.j1 k y most neg = some (tailRes most neg y.data.toList) := by
  obtain ⟨k, rfl⟩ : ∃ m, k = m + 1 := ⟨k - 1, by omega⟩
  have stop : spec_l06Int.j2 k y most neg true = some (0, false) := by
    obtain ⟨k, rfl⟩ : ∃ m, k = m + 1 := ⟨k - 1, by omega⟩
    rw [spec_l06Int.j2, if_pos rfl]
  have go : y.size ≤ 8 → spec_l06Int.j2 k y most neg false = some (if y.data.toList.all digB = true then endOf most neg (dval 0 y.data.toList) else (0, false)) := by
    intro hl
    obtain ⟨k, rfl⟩ : ∃ m, k = m + 1 := ⟨k - 1, by omega⟩
    rw [spec_l06Int.j2, if_neg (by simp)]
    exact s_int_loop y most neg hl _ 0 0 k rfl (by decide) (by omega) (by rw [← sizeL]; omega)
  have neg2 : (if neg = true then spec_l06Int.j2 k y most neg (y.toList == ([48] : List UInt8)) else spec_l06Int.j2 k y most neg false) = spec_l06Int.j2 k y most neg (neg && y.data.toList == ([48] : List UInt8)) := by
    rw [toL]
    cases neg <;> simp
  rw [spec_l06Int.j1, neg2]
  unfold tailRes
  rcases e : y.data.toList with _ | ⟨c, r⟩
  · have h0 : y.size = 0 := by rw [sizeL, e]; rfl
    rw [if_pos (by omega), stop, if_pos (.inl rfl)]
  · have h0 : y.size = r.length + 1 := by rw [sizeL, e]; rfl
    rw [if_neg (by omega)]
    by_cases h8 : 8 < (c :: r).length
    · simp only [List.length_cons] at h8
      rw [if_pos (by omega), stop, if_pos (.inr (.inl (by simpa using h8)))]
    · simp only [List.length_cons] at h8
      rw [if_neg (by omega)]
      rw [e] at go
      have fin : ∀ b : Bool, b = (neg && (c :: r) == ([48] : List UInt8)) → ¬ (1 < (c :: r).length ∧ (c :: r).head? = some 48) → spec_l06Int.j2 k y most neg b = some (if (c :: r) = [] ∨ 8 < (c :: r).length ∨ (1 < (c :: r).length ∧ (c :: r).head? = some 48) ∨ (neg = true ∧ (c :: r) = [48]) then (0, false) else if (c :: r).all digB = true then endOf most neg (dval 0 (c :: r)) else (0, false)) := by
        intro b hb hz
        cases b with
        | true =>
          have : neg = true ∧ (c :: r) = [48] := by simpa using hb.symm
          rw [stop, if_pos (.inr (.inr (.inr this)))]
        | false =>
          have : ¬ (neg = true ∧ (c :: r) = [48]) := by
            rintro ⟨rfl, h⟩
            rw [h] at hb
            simp at hb
          have hbad : ¬ ((c :: r) = [] ∨ 8 < (c :: r).length ∨ (1 < (c :: r).length ∧ (c :: r).head? = some 48) ∨ (neg = true ∧ (c :: r) = [48])) := by
            rintro (h | h | h | h)
            · cases h
            · simp only [List.length_cons] at h; omega
            · exact hz h
            · exact this h
          rw [go (by omega), if_neg hbad]
      by_cases h1 : 1 < (c :: r).length
      · have h1' := h1
        simp only [List.length_cons] at h1'
        rw [if_pos (by omega), if_pos (by omega), bt_zero e]
        by_cases hz : c.toNat = 48
        · have : c = 48 := u8_eq hz
          rw [if_pos (by omega), stop, if_pos (.inr (.inr (.inl ⟨h1, by rw [this]; rfl⟩)))]
        · rw [if_neg (by omega)]
          refine fin _ rfl ?_
          rintro ⟨_, h⟩
          simp only [List.head?_cons, Option.some.injEq] at h
          rw [h] at hz; exact hz rfl
      · have h1' := h1
        simp only [List.length_cons] at h1'
        rw [if_neg (by omega)]
        exact fin _ rfl (fun h => h1 h.1)
theorem tail_int (most : Int) (h0 : 0 ≤ most) (hm : most ≤ 1000000) (l : List UInt8) : tailRes most (l.head? == some 45) (if l.head? = some 45 then l.tail else l) = intOf most l := by
  rcases intOf_cases most l with ⟨n, h1, h2, rfl, e⟩ | ⟨h, e⟩
  · rw [e]
    rcases int_cases n with ⟨u, rfl⟩ | ⟨u, hu, rfl⟩
    · rw [itoa_pos]
      have hd := dec_digs u
      have hne : (Lib.decDigits u).head? ≠ some 45 := by
        intro hh
        have := hd 45 (List.mem_of_mem_head? hh)
        unfold isDig at this; simp at this
      have hb : ((Lib.decDigits u).head? == some 45) = false := by simpa using hne
      rw [hb, if_neg hne]
      unfold tailRes
      rw [if_neg, if_pos ((all_digs _).2 hd), dval_dec]
      · unfold endOf; rw [if_neg (by omega), if_neg (by simp)]
      · have hlen := dec_len10 6 u (by omega)
        rintro (h | h | ⟨h, h'⟩ | ⟨h, _⟩)
        · exact dec_ne u h
        · omega
        · rcases Nat.eq_zero_or_pos u with rfl | hu
          · rw [Lib.decDigits, dif_pos (by omega)] at h; simp at h
          · obtain ⟨c, r, e1, _, e2⟩ := dec_head u hu
            rw [e1] at h'
            simp only [List.head?_cons, Option.some.injEq] at h'
            rw [h'] at e2; exact e2 rfl
        · cases h
    · rw [itoa_neg' u hu]
      have hd := dec_digs u
      simp only [List.head?_cons, if_true, List.tail_cons, beq_self_eq_true]
      unfold tailRes
      obtain ⟨c, r, e1, _, e2⟩ := dec_head u hu
      rw [if_neg, if_pos ((all_digs _).2 hd), dval_dec]
      · unfold endOf; rw [if_neg (by omega), if_pos rfl]
      · have hlen := dec_len10 6 u (by omega)
        rintro (h | h | ⟨h, h'⟩ | ⟨_, h⟩)
        · exact dec_ne u h
        · omega
        · rw [e1] at h'
          simp only [List.head?_cons, Option.some.injEq] at h'
          rw [h'] at e2; exact e2 rfl
        · rw [e1] at h
          simp only [List.cons.injEq] at h
          rw [h.1] at e2; exact e2 rfl
  · rw [e]
    have core : ∀ (neg : Bool) (m : List UInt8), (∀ u : Nat, (neg = true → 1 ≤ u) → (u : Int) ≤ most → m ≠ Lib.decDigits u) → tailRes most neg m = (0, false) := by
      intro neg m hno
      unfold tailRes
      split
      · rfl
      · rename_i hc
        split
        · rename_i hall
          have hd := (all_digs _).1 hall
          unfold endOf
          split
          · rfl
          · rename_i hle
            exfalso
            have ht : (m ≠ []) := fun x => hc (.inl x)
            have ed : Lib.decDigits (dval 0 m) = m := dec_of_dval _ ht hd (fun h1 c h2 h3 => hc (.inr (.inr (.inl ⟨h1, by rw [h2, show c = 48 from u8_eq h3]⟩))))
            refine hno (dval 0 m) (fun hneg => ?_) (by omega) ed.symm
            rcases Nat.eq_zero_or_pos (dval 0 m) with h0' | h0'
            · rw [h0', Lib.decDigits, dif_pos (by omega)] at ed
              exact absurd (.inr (.inr (.inr ⟨hneg, ed.symm⟩))) hc
            · exact h0'
        · rfl
    by_cases hn : l.head? = some 45
    · rw [if_pos hn, show (l.head? == some 45) = true by simp [hn]]
      refine core _ _ ?_
      intro u hu hle hm'
      refine h (-(u : Int)) (by omega) (by omega) ?_
      rw [itoa_neg' u (hu rfl), ← hm']
      cases l with
      | nil => simp at hn
      | cons c r => simp only [List.head?_cons, Option.some.injEq] at hn; rw [hn]; rfl
    · rw [if_neg hn, show (l.head? == some 45) = false by simp [hn]]
      refine core _ _ ?_
      intro u _ hle hm'
      refine h (u : Int) (by omega) (by omega) ?_
      rw [itoa_pos, ← hm']
theorem s_int (s : ByteArray) (most : Int) (h0 : 0 ≤ most) (hm : most ≤ 1000000) (k : Nat) (hk : 20 ≤ k) : spec_l06Int.f k s most = some (intOf most s.data.toList) := by
  obtain ⟨k, rfl⟩ : ∃ m, k = m + 1 := ⟨k - 1, by omega⟩
  rw [← tail_int most h0 hm]
  unfold spec_l06Int.f
  rcases e : s.data.toList with _ | ⟨c, r⟩
  · have h0 : s.size = 0 := by rw [sizeL, e]; rfl
    rw [if_neg (by omega), spec_l06Int.j0, if_neg (by simp), s_int_j1 _ _ _ _ (by omega), e]; rfl
  · have h0 : s.size = r.length + 1 := by rw [sizeL, e]; rfl
    rw [if_pos (by omega), if_pos (by omega), bt_zero e, spec_l06Int.j0]
    by_cases hc : c = 45
    · subst hc
      rw [if_pos (by decide), if_pos (by omega), s_int_j1 _ _ _ _ (by omega), ext_all, e]; rfl
    · have hc' : (c.toNat : Int) ≠ 45 := fun h => hc (u8_eq (by show c.toNat = 45; omega))
      have hb : ((c.toNat : Int) == 45) = false := by simpa using hc'
      have hb2 : ((c :: r).head? == some 45) = false := by simpa using hc
      rw [hb, if_neg (by simp), s_int_j1 _ _ _ _ (by omega), e, hb2, if_neg (by simpa using hc)]
end Go.Proofs.YtdofhbcohijpiaaDoor.Q
namespace Go.Proofs.YtdofhbcohijpiaaDoor.Q
open Go.RowKit Go.Proofs.YtdofhbcohijpiaaDoorW.PrintWords Go.Proofs.YtdofhbcohijpiaaDoorW.PrintLast Go.Proofs.YtdofhbcohijpiaaDoorW.PrintMore
open Go.Proofs.YtdofhbcohijpiaaDoor.Open
set_option linter.unusedSimpArgs false
set_option linter.unusedVariables false
theorem app_mk (a b : List UInt8) : ((⟨a.toArray⟩ : ByteArray) ++ (⟨b.toArray⟩ : ByteArray)) = ⟨(a ++ b).toArray⟩ := by
  apply ByteArray.ext
  simp [ByteArray.data_append]
theorem size_mk (a : List UInt8) : (⟨a.toArray⟩ : ByteArray).size = a.length := by simp [ByteArray.size]
theorem dec_len (u : Nat) : (Lib.decDigits u).length ≤ u + 1 := by
  induction u using Nat.strongRecOn with
  | _ u ih =>
    rw [Lib.decDigits]
    split
    · simp
    · have := ih (u / 10) (by omega)
      simp; omega
theorem dig1 (u : Nat) (h : u < 10) : strOfNums [(wrap64 (48 + (u : Int))) % 256] = ⟨([UInt8.ofNat (48 + u)] : List UInt8).toArray⟩ := by
  unfold strOfNums
  rw [w64 (by omega) (by omega)]
  simp only [List.map_cons, List.map_nil]
  rw [show ((48 + (u : Int)) % 256).toNat = 48 + u by omega]
theorem dig_pos (u : Nat) (hu : u ≤ 1000000000) : ∀ k, u < k → spec_l01Digits.f k (u : Int) = some ⟨(Lib.decDigits u).toArray⟩ := by
  induction u using Nat.strongRecOn with
  | _ u ih =>
    intro k hk
    obtain ⟨k, rfl⟩ : ∃ m, k = m + 1 := ⟨k - 1, by omega⟩
    rw [spec_l01Digits.f, if_neg (by omega), if_neg (by omega), Lib.decDigits]
    by_cases h : u < 10
    · rw [if_pos (by omega), dif_pos h, dig1 u h]
    · have e1 : Int.tdiv (u : Int) 10 = ((u / 10 : Nat) : Int) := by rw [show (10 : Int) = ((10 : Nat) : Int) from rfl, ← Int.ofNat_tdiv]
      have e2 : Int.tmod (u : Int) 10 = ((u % 10 : Nat) : Int) := by rw [show (10 : Int) = ((10 : Nat) : Int) from rfl, ← Int.ofNat_tmod]
      rw [if_neg (by omega), dif_neg h, e1, e2, w64 (by omega) (by omega), ih (u / 10) (by omega) (by omega) k (by omega)]
      simp only [Option.bind_some]
      rw [dig1 (u % 10) (by omega), size_mk, size_mk, if_pos (by have := dec_len (u / 10); simp; omega), app_mk]
theorem digits (n : Int) (h1 : -1000000 ≤ n) (h2 : n ≤ 1000000) (k : Nat) (hk : n.natAbs + 3 < k) : spec_l01Digits.f k n = some ⟨(Lib.itoa n).toArray⟩ := by
  unfold Lib.itoa
  by_cases hn : n < 0
  · rw [if_pos hn]
    obtain ⟨u, hu⟩ : ∃ u : Nat, n = -(u : Int) := ⟨n.natAbs, by omega⟩
    subst hu
    rw [show (-(u : Int)).natAbs = u by omega]
    obtain ⟨k, rfl⟩ : ∃ m, k = m + 1 := ⟨k - 1, by omega⟩
    have one : (⟨#[45]⟩ : ByteArray) = ⟨([45] : List UInt8).toArray⟩ := rfl
    rw [spec_l01Digits.f, one]
    by_cases h10 : -(u : Int) < -9
    · have e1 : Int.tdiv (-(u : Int)) 10 = -((u / 10 : Nat) : Int) := by rw [Int.neg_tdiv, show (10 : Int) = ((10 : Nat) : Int) from rfl, ← Int.ofNat_tdiv]
      have e2 : Int.tmod (-(u : Int)) 10 = -((u % 10 : Nat) : Int) := by rw [Int.neg_tmod, show (10 : Int) = ((10 : Nat) : Int) from rfl, ← Int.ofNat_tmod]
      rw [if_pos h10, e1, e2, w64 (n := -((u / 10 : Nat) : Int)) (by omega) (by omega), Int.neg_neg, Int.neg_neg, w64 (n := ((u / 10 : Nat) : Int)) (by omega) (by omega), w64 (n := ((u % 10 : Nat) : Int)) (by omega) (by omega), dig_pos (u / 10) (by omega) k (by omega), dig_pos (u % 10) (by omega) k (by omega)]
      simp only [Option.bind_some]
      have l1 := dec_len (u / 10)
      have l2 := dec_len (u % 10)
      rw [if_pos (by rw [size_mk]; first | omega | (simp; omega)), app_mk, size_mk, size_mk, if_pos (by first | omega | (simp; omega)), app_mk]
      have e3 : Lib.decDigits u = Lib.decDigits (u / 10) ++ [UInt8.ofNat (48 + u % 10)] := by rw [Lib.decDigits, dif_neg (by omega)]
      have e4 : Lib.decDigits (u % 10) = [UInt8.ofNat (48 + u % 10)] := by rw [Lib.decDigits, dif_pos (by omega)]
      rw [e3, e4]; rfl
    · rw [if_neg h10, if_pos hn, Int.neg_neg, w64 (by omega) (by omega), dig_pos u (by omega) k (by omega)]
      simp only [Option.bind_some]
      have l1 := dec_len u
      rw [if_pos (by rw [size_mk]; first | omega | (simp; omega)), app_mk]; rfl
  · rw [if_neg hn]
    obtain ⟨u, rfl⟩ : ∃ u : Nat, n = (u : Int) := ⟨n.toNat, by omega⟩
    rw [Int.toNat_natCast]
    exact dig_pos u (by omega) k (by omega)
theorem itoa_i (n : Int) (h1 : -1000000 ≤ n) (h2 : n ≤ 1000000) : strconv_Itoa.f n = some ⟨(Lib.itoa n).toArray⟩ := by
  unfold strconv_Itoa.f; rw [if_pos ⟨by omega, by omega⟩]
theorem itoa_len (n : Int) (h1 : -1000000 ≤ n) (h2 : n ≤ 1000000) : (Lib.itoa n).length ≤ 1000003 := by
  unfold Lib.itoa
  split
  · have := dec_len n.natAbs; simp; omega
  · have := dec_len n.toNat; omega
end Go.Proofs.YtdofhbcohijpiaaDoor.Q
namespace Go.Proofs.YtdofhbcohijpiaaDoor.Q
open Go.RowKit Go.Proofs.YtdofhbcohijpiaaDoorW.PrintWords Go.Proofs.YtdofhbcohijpiaaDoorW.PrintLast Go.Proofs.YtdofhbcohijpiaaDoorW.PrintMore
open Go.Proofs.YtdofhbcohijpiaaDoor.Open
set_option linter.unusedSimpArgs false
set_option linter.unusedVariables false
def okR (lo hi : Int) : Bool := (lo == 1 && hi == 0) || (decide (-1000000 ≤ lo) && decide (hi ≤ 1000000) && decide (lo ≤ hi))
theorem okR_iff (lo hi : Int) : okR lo hi = true ↔ (lo = 1 ∧ hi = 0) ∨ (-1000000 ≤ lo ∧ hi ≤ 1000000 ∧ lo ≤ hi) := by
  simp [okR, and_assoc]
theorem inR (a b c : Int) : impl_inRange.f a b c = some (decide (b ≤ a) && decide (a ≤ c)) := by
  unfold impl_inRange.f
  by_cases h : b ≤ a <;> simp [h]
theorem btw (a b c : Int) : spec_l01Between.f a b c = some (decide (b ≤ a) && decide (a ≤ c)) := by
  unfold spec_l01Between.f
  by_cases h : b ≤ a <;> simp [h]
theorem i_val (a : Int) : impl_isVal.f a = some (decide (-1000000 ≤ a) && decide (a ≤ 1000000)) := by
  unfold impl_isVal.f
  rw [inR]; rfl
theorem s_val (a : Int) : spec_l05Val.f a = some (decide (-1000000 ≤ a) && decide (a ≤ 1000000)) := by
  unfold spec_l05Val.f
  rw [btw]; rfl
theorem i_ok (a b : Int) : impl_RangeOk.f a b = some (okR a b) := by
  unfold impl_RangeOk.f
  simp only [i_val, Option.bind_some]
  by_cases h : (a == 1 && b == 0) = true
  · rw [if_pos h]; simp [okR, h]
  · rw [if_neg h]
    have e : okR a b = (decide (-1000000 ≤ a) && decide (b ≤ 1000000) && decide (a ≤ b)) := by
      unfold okR
      rw [Bool.eq_false_iff.mpr h]; rfl
    rw [e]
    (repeat' split) <;> simp_all <;> omega
theorem s_is (a b : Int) : spec_l06Is.f a b = some (decide (a ≤ b)) := rfl
theorem s_ok (a b : Int) : spec_RangeOk.f a b = some (okR a b) := by
  rw [← i_ok]
  unfold spec_RangeOk.f impl_RangeOk.f
  simp only [s_is, s_val, i_val, Option.bind_some]
  by_cases h1 : a = 1
  · by_cases h2 : b = 0
    · simp [h1, h2]
    · simp only [h1, h2, if_true, if_false]
      (repeat' split) <;> simp_all <;> omega
  · simp only [h1, if_false]
    (repeat' split) <;> simp_all <;> omega
/-- A range between two ends, cut down. -/
def mkR (lo hi : Int) : Int × Int := if mx lo (-1000000) > mn hi 1000000 then (1, 0) else (mx lo (-1000000), mn hi 1000000)
theorem mkR_in {lo hi : Int} (h1 : -1000000 ≤ lo) (h2 : hi ≤ 1000000) (h3 : lo ≤ hi) : mkR lo hi = (lo, hi) := by
  unfold mkR mx mn
  (repeat' split) <;> first | omega | (simp; omega) | simp_all
end Go.Proofs.YtdofhbcohijpiaaDoor.Q
namespace Go.Proofs.YtdofhbcohijpiaaDoor.Q
open Go.RowKit Go.Proofs.YtdofhbcohijpiaaDoorW.PrintWords Go.Proofs.YtdofhbcohijpiaaDoorW.PrintLast Go.Proofs.YtdofhbcohijpiaaDoorW.PrintMore
open Go.Proofs.YtdofhbcohijpiaaDoor.Open
set_option linter.unusedSimpArgs false
set_option linter.unusedVariables false
def rtext (a b : Int) : ByteArray := if okR a b = true then (if (a == 1 && b == 0) = true then ⟨#[110, 111, 110, 101]⟩ else (⟨(Lib.itoa a).toArray⟩ ++ (⟨#[46, 46]⟩ : ByteArray)) ++ ⟨(Lib.itoa b).toArray⟩) else ⟨#[]⟩
theorem two_dots : (⟨#[46, 46]⟩ : ByteArray) = ⟨([46, 46] : List UInt8).toArray⟩ := rfl
theorem rtext_len (a b : Int) : (rtext a b).size ≤ 2000010 := by
  unfold rtext
  split
  · rename_i h
    split
    · decide
    · rename_i h2
      rcases (okR_iff a b).1 h with ⟨rfl, rfl⟩ | ⟨p1, p2, p3⟩
      · simp at h2
      · have l1 := itoa_len a (by omega) (by omega)
        have l2 := itoa_len b (by omega) (by omega)
        rw [two_dots, app_mk, app_mk, size_mk]; simp; omega
  · decide
theorem i_rtext (a b : Int) : impl_RangeText.f a b = some (rtext a b) := by
  unfold impl_RangeText.f rtext
  simp only [i_ok, Option.bind_some]
  by_cases h : okR a b = true
  · rw [if_pos h, if_pos h]
    by_cases h2 : (a == 1 && b == 0) = true
    · rw [if_pos h2, if_pos h2]
    · rw [if_neg h2, if_neg h2]
      rcases (okR_iff a b).1 h with ⟨rfl, rfl⟩ | ⟨p1, p2, p3⟩
      · simp at h2
      · have l1 := itoa_len a (by omega) (by omega)
        have l2 := itoa_len b (by omega) (by omega)
        rw [itoa_i a (by omega) (by omega), itoa_i b (by omega) (by omega)]
        simp only [Option.bind_some]
        rw [if_pos (by rw [size_mk]; omega), if_pos (by rw [size_mk, size_mk]; omega)]
  · rw [if_neg h, if_neg h]
theorem s_rtext (a b : Int) (k : Nat) (hk : 1000010 ≤ k) : spec_RangeText.f k a b = some (rtext a b) := by
  unfold spec_RangeText.f rtext
  simp only [s_ok, s_is, Option.bind_some]
  by_cases h : okR a b = true
  · rw [if_pos h, if_pos h]
    rcases (okR_iff a b).1 h with ⟨rfl, rfl⟩ | ⟨p1, p2, p3⟩
    · simp
    · have q1 : decide (a ≤ b) = true := by simpa using p3
      have q2 : (a == 1 && b == 0) = false := by simp; omega
      have l1 := itoa_len a (by omega) (by omega)
      have l2 := itoa_len b (by omega) (by omega)
      rw [q1, q2, digits a (by omega) (by omega) k (by omega), digits b (by omega) (by omega) k (by omega)]
      simp only [Option.bind_some, if_true, Bool.false_eq_true, if_false]
      rw [if_pos (by rw [size_mk]; omega), if_pos (by rw [size_mk, size_mk]; omega)]
  · rw [if_neg h, if_neg h]
end Go.Proofs.YtdofhbcohijpiaaDoor.Q
namespace Go.Proofs.YtdofhbcohijpiaaDoor.Q
open Go.RowKit Go.Proofs.YtdofhbcohijpiaaDoorW.PrintWords Go.Proofs.YtdofhbcohijpiaaDoorW.PrintLast Go.Proofs.YtdofhbcohijpiaaDoorW.PrintMore
open Go.Proofs.YtdofhbcohijpiaaDoor.Open
set_option linter.unusedSimpArgs false
set_option linter.unusedVariables false
theorem itoa_len8 (n : Int) (h1 : -1000000 ≤ n) (h2 : n ≤ 1000000) : (Lib.itoa n).length ≤ 8 := by
  rcases int_cases n with ⟨u, rfl⟩ | ⟨u, hu, rfl⟩
  · rw [itoa_pos]; have := dec_len10 6 u (by omega); omega
  · rw [itoa_neg' u hu]; have := dec_len10 6 u (by omega); simp; omega
theorem itoa_ne (n : Int) : Lib.itoa n ≠ [] := by
  rcases int_cases n with ⟨u, rfl⟩ | ⟨u, hu, rfl⟩
  · rw [itoa_pos]; exact dec_ne u
  · rw [itoa_neg' u hu]; simp
theorem itoa_chars (n : Int) : ∀ c ∈ Lib.itoa n, c = 45 ∨ isDig c := by
  rcases int_cases n with ⟨u, rfl⟩ | ⟨u, hu, rfl⟩
  · rw [itoa_pos]; exact fun c hc => .inr (dec_digs u c hc)
  · rw [itoa_neg' u hu]
    intro c hc
    rcases List.mem_cons.1 hc with h | h
    · exact .inl h
    · exact .inr (dec_digs u c h)
theorem itoa_dot (n : Int) : (46 : UInt8) ∉ Lib.itoa n := by
  intro h
  rcases itoa_chars n 46 h with h | h
  · cases h
  · unfold isDig at h; simp at h
theorem numOf_itoa (n : Int) (h1 : -1000000 ≤ n) (h2 : n ≤ 1000000) : numOf (Lib.itoa n) = (n, true) := by
  unfold numOf; rw [atoi_itoa n h1 h2]; simp
theorem numOf_true {l : List UInt8} (h : (numOf l).2 = true) : l = Lib.itoa (numOf l).1 := by
  unfold numOf at h ⊢
  cases e : Lib.atoiAll l with
  | ok v => rw [e] at h; simpa using (beq_iff_eq.1 h).symm
  | «syntax» => rw [e] at h; simp at h
  | range => rw [e] at h; simp at h
theorem dot_cut : ∀ {x x' y y' : List UInt8}, (46 : UInt8) ∉ x → (46 : UInt8) ∉ x' → x ++ 46 :: y = x' ++ 46 :: y' → x = x' ∧ y = y'
  | [], [], y, y', _, _, h => ⟨rfl, (List.cons.inj h).2⟩
  | [], c :: x', y, y', _, h2, h => absurd (by rw [(List.cons.inj h).1]; exact List.mem_cons_self) h2
  | c :: x, [], y, y', h1, _, h => absurd (by rw [← (List.cons.inj h).1]; exact List.mem_cons_self) h1
  | c :: x, d :: x', y, y', h1, h2, h => by
    obtain ⟨e1, e2⟩ := List.cons.inj h
    obtain ⟨e3, e4⟩ := dot_cut (fun q => h1 (List.mem_cons_of_mem _ q)) (fun q => h2 (List.mem_cons_of_mem _ q)) e2
    exact ⟨by rw [e1, e3], e4⟩
/-- The list is the text of a range that has numbers. -/
def RT (l : List UInt8) (a b : Int) : Prop := -1000000 ≤ a ∧ a ≤ b ∧ b ≤ 1000000 ∧ l = Lib.itoa a ++ 46 :: 46 :: Lib.itoa b
theorem RT_inj {l : List UInt8} {a b c d : Int} (h : RT l a b) (h' : RT l c d) : a = c ∧ b = d := by
  obtain ⟨e1, e2⟩ := dot_cut (itoa_dot a) (itoa_dot c) (h.2.2.2.symm.trans h'.2.2.2)
  exact ⟨itoa_inj e1, itoa_inj (List.cons.inj e2).2⟩
abbrev noneL : List UInt8 := [110, 111, 110, 101]
open Classical in
noncomputable def rread (l : List UInt8) : Int × Int × Bool := if l = noneL then (1, 0, true) else if h : ∃ p : Int × Int, RT l p.1 p.2 then (h.choose.1, h.choose.2, true) else (0, 0, false)
theorem rread_RT {l : List UInt8} {a b : Int} (hn : l ≠ noneL) (h : RT l a b) : rread l = (a, b, true) := by
  have hx : ∃ p : Int × Int, RT l p.1 p.2 := ⟨(a, b), h⟩
  unfold rread
  rw [if_neg hn, dif_pos hx]
  obtain ⟨e1, e2⟩ := RT_inj hx.choose_spec h
  rw [e1, e2]
theorem rread_no {l : List UInt8} (hn : l ≠ noneL) (h : ∀ a b, ¬ RT l a b) : rread l = (0, 0, false) := by
  unfold rread
  rw [if_neg hn, dif_neg]
  rintro ⟨p, hp⟩
  exact h _ _ hp
theorem rread_none : rread noneL = (1, 0, true) := by unfold rread; rw [if_pos rfl]
def occ (l : List UInt8) (i : Nat) : Prop := (l.drop i).take 2 = [46, 46]
theorem occ_split {l : List UInt8} {i : Nat} (h : occ l i) : l = l.take i ++ 46 :: 46 :: l.drop (i + 2) ∧ l[i]? = some 46 := by
  unfold occ at h
  have e : l.drop i = 46 :: 46 :: l.drop (i + 2) := by
    have := (List.take_append_drop 2 (l.drop i)).symm
    rw [h, List.drop_drop] at this
    exact this
  refine ⟨?_, ?_⟩
  · rw [← e, List.take_append_drop]
  · have := congrArg (fun z => z[0]?) e
    simpa using this
theorem RT_occ {l : List UInt8} {a b : Int} (h : RT l a b) : occ l (Lib.itoa a).length ∧ (Lib.itoa a).length + 3 ≤ l.length ∧ (Lib.itoa a).length ≤ 8 := by
  obtain ⟨h1, h2, h3, rfl⟩ := h
  have hb := List.length_pos_iff.2 (itoa_ne b)
  refine ⟨by unfold occ; simp, by simp; omega, itoa_len8 a h1 (by omega)⟩
theorem RT_at {l : List UInt8} {a b : Int} {i : Nat} (h : RT l a b) (ho : occ l i) (hf : ∀ j, j < i → ¬ occ l j) : i = (Lib.itoa a).length := by
  obtain ⟨o1, _, _⟩ := RT_occ h
  rcases Nat.lt_trichotomy i (Lib.itoa a).length with hlt | he | hgt
  · have := (occ_split ho).2
    rw [h.2.2.2, List.getElem?_append_left hlt] at this
    exact absurd (List.mem_of_getElem? this) (itoa_dot a)
  · exact he
  · exact absurd o1 (hf _ hgt)
theorem s_rread_loop (s : ByteArray) (hs : s.size ≤ 1048576) (hn : s.data.toList ≠ noneL) : ∀ (d i k : Nat), 12 - i = d → i ≤ 12 → (∀ j, j < i → ¬ occ s.data.toList j) → 2 * d + 25 ≤ k →
    spec_RangeRead.l0 k s (i : Int) = some (rread s.data.toList) := by
  intro d
  induction d using Nat.strongRecOn with
  | _ d ih =>
    intro i k hd hi hf hk
    obtain ⟨k, rfl⟩ : ∃ m, k = m + 2 := ⟨k - 2, by omega⟩
    rw [spec_RangeRead.l0, w64s i (by omega)]
    have hz := sizeL s
    by_cases h1 : i + 1 < s.size
    · rw [if_pos (by omega), spec_RangeRead.j1]
      by_cases h12 : i < 12
      · rw [if_pos (by simp; omega), if_pos (by omega), w64 (n := (i : Int) + 2) (by omega) (by omega), if_pos (by omega), if_pos (by omega), toL, extL]
        rw [show (((i : Int) + 2).toNat - (i : Int).toNat) = 2 by omega, show (i : Int).toNat = i by omega, show ((i : Int) + 2).toNat = i + 2 by omega]
        by_cases ho : occ s.data.toList i
        · rw [if_pos (show List.take 2 (List.drop i s.data.toList) = [46, 46] from ho), if_pos (by omega), s_int _ 1000000 (by omega) (by omega) k (by omega), ext_head]
          simp only [Option.bind_some]
          rw [if_pos (by omega), s_int _ 1000000 (by omega) (by omega) k (by omega), ext_all]
          simp only [Option.bind_some]
          have key : ∀ a b, RT s.data.toList a b → intOf 1000000 (s.data.toList.take i) = (a, true) ∧ intOf 1000000 (s.data.toList.drop (i + 2)) = (b, true) := by
            intro a b h
            have hia := RT_at h ho hf
            obtain ⟨g1, g2, g3, g4⟩ := h
            have e1 : s.data.toList.take i = Lib.itoa a := by rw [g4, hia]; simp
            have e2 : s.data.toList.drop (i + 2) = Lib.itoa b := by rw [g4, hia, ← List.drop_drop]; simp
            rw [e1, e2]
            exact ⟨intOf_num (by omega) (by omega), intOf_num (by omega) (by omega)⟩
          rcases intOf_cases 1000000 (s.data.toList.take i) with ⟨a, a1, a2, a3, a4⟩ | ⟨a1, a2⟩
          · rw [a4]
            simp only [if_true]
            rcases intOf_cases 1000000 (s.data.toList.drop (i + 2)) with ⟨b, b1, b2, b3, b4⟩ | ⟨b1, b2⟩
            · rw [b4]
              simp only [if_true]
              by_cases hab : a ≤ b
              · rw [if_pos hab, rread_RT hn (a := a) (b := b) ⟨by omega, hab, by omega, by rw [← a3, ← b3]; exact (occ_split ho).1⟩]
              · rw [if_neg hab, rread_no hn]
                intro a' b' h
                obtain ⟨q1, q2⟩ := key a' b' h
                rw [a4] at q1; rw [b4] at q2
                have := h.2.1
                simp only [Prod.mk.injEq, and_true] at q1 q2
                omega
            · rw [b2]
              simp only [Bool.false_eq_true, if_false]
              rw [rread_no hn]
              intro a' b' h
              have := (key a' b' h).2
              rw [b2] at this; simp at this
          · rw [a2]
            simp only [Bool.false_eq_true, if_false]
            rw [rread_no hn]
            intro a' b' h
            have := (key a' b' h).1
            rw [a2] at this; simp at this
        · rw [if_neg (show ¬ List.take 2 (List.drop i s.data.toList) = [46, 46] from ho), w64s i (by omega)]
          refine ih (12 - (i + 1)) (by omega) (i + 1) k rfl (by omega) ?_ (by omega)
          intro j hj
          rcases Nat.lt_or_ge j i with h | h
          · exact hf j h
          · rw [show j = i by omega]; exact ho
      · rw [if_neg (by simp; omega), rread_no hn]
        intro a b h
        obtain ⟨o1, _, o3⟩ := RT_occ h
        exact hf _ (by omega) o1
    · rw [if_neg (by omega), spec_RangeRead.j1, if_neg (by simp), rread_no hn]
      intro a b h
      obtain ⟨o1, o2, _⟩ := RT_occ h
      exact hf _ (by omega) o1
theorem s_rread (s : ByteArray) (hs : s.size ≤ 1048576) (k : Nat) (hk : 60 ≤ k) : spec_RangeRead.f k s = some (rread s.data.toList) := by
  unfold spec_RangeRead.f
  rw [toL]
  by_cases h : s.data.toList = noneL
  · rw [if_pos h, h, rread_none]; rfl
  · rw [if_neg h]
    exact s_rread_loop s hs h 12 0 k rfl (by omega) (fun j hj => by omega) (by omega)
theorem cut_len (l sep : List UInt8) : (Lib.cut l sep).1.length ≤ l.length ∧ (Lib.cut l sep).2.1.length ≤ l.length := by
  unfold Lib.cut
  split
  · refine ⟨?_, ?_⟩
    · simp only [List.length_take]; omega
    · simp only [List.length_drop]; omega
  · exact ⟨Nat.le_refl _, Nat.zero_le _⟩
theorem cut_RT {l : List UInt8} {a b : Int} (h : RT l a b) : Lib.cut l [46, 46] = (Lib.itoa a, Lib.itoa b, true) := by
  have h' := h
  obtain ⟨h1, h2, h3, h4⟩ := h
  have hi : Lib.index l [46, 46] = ((Lib.itoa a).length : Nat) := by
    refine Lib.index_first (by rw [h4]; simp) ?_ ?_
    · rw [h4]; unfold Lib.occAt; simp
    · intro j hj
      cases e : Lib.occAt l [46, 46] j with
      | false => rfl
      | true =>
        have := Lib.occAt_head (c := 46) (t := [46]) rfl e
        rw [h4, List.getElem?_append_left hj] at this
        exact absurd (List.mem_of_getElem? this) (itoa_dot a)
  unfold Lib.cut
  rw [hi, if_pos (by omega), h4]
  simp
theorem rtext_RT {a b : Int} {l : List UInt8} (h : RT l a b) : (rtext a b).toList = l := by
  obtain ⟨h1, h2, h3, h4⟩ := h
  unfold rtext
  rw [if_pos ((okR_iff a b).2 (.inr ⟨by omega, by omega, h2⟩)), if_neg (by simp; omega), toL, app_mk', app_mk', h4]
  simp
theorem rtext_back {a b : Int} {l : List UInt8} (hn : l ≠ noneL) (h0 : l ≠ []) (h : (rtext a b).toList = l) : RT l a b := by
  unfold rtext at h
  by_cases hok : okR a b = true
  · rw [if_pos hok] at h
    by_cases h10 : (a == 1 && b == 0) = true
    · rw [if_pos h10, toL] at h
      exact absurd h.symm hn
    · rw [if_neg h10, toL, app_mk', app_mk'] at h
      rcases (okR_iff a b).1 hok with ⟨rfl, rfl⟩ | ⟨p1, p2, p3⟩
      · simp at h10
      · exact ⟨by omega, p3, by omega, by rw [← h]; simp⟩
  · rw [if_neg hok, toL] at h
    exact absurd h.symm h0
theorem i_rread (s : ByteArray) (hs : s.size ≤ 1048576) : impl_RangeRead.f s = some (rread s.data.toList) := by
  have hz := sizeL s
  unfold impl_RangeRead.f
  rw [toL]
  by_cases h : s.data.toList = noneL
  · rw [if_pos h, h, rread_none]
  · rw [if_neg h]
    unfold strings_Cut.f
    rw [if_pos (by omega)]
    simp only [Option.bind_some]
    obtain ⟨l1, l2⟩ := cut_len s.data.toList [46, 46]
    unfold impl_readNum.f
    rw [if_pos (by rw [sizeL]; simp only [mkL]; exact Nat.le_trans l1 (by omega)), if_pos (by rw [sizeL]; simp only [mkL]; exact Nat.le_trans l2 (by omega))]
    simp only [Option.bind_some, mkL]
    by_cases hx : ∃ p : Int × Int, RT s.data.toList p.1 p.2
    · obtain ⟨⟨a, b⟩, hr⟩ := hx
      rw [cut_RT hr, rread_RT h hr]
      have hr' := hr
      obtain ⟨r1, r2, r3, r4⟩ := hr
      simp only at r1 r2 r3
      rw [numOf_itoa a r1 (by omega), numOf_itoa b (by omega) r3]
      simp only [if_true, i_rtext, Option.bind_some]
      rw [if_pos (rtext_RT hr')]
    · rw [rread_no h (fun a b hr => hx ⟨(a, b), hr⟩)]
      cases e1 : (numOf (Lib.cut s.data.toList [46, 46]).1).2 with
      | false => simp
      | true =>
        cases e2 : (numOf (Lib.cut s.data.toList [46, 46]).2.1).2 with
        | false => simp
        | true =>
          simp only [if_true, i_rtext, Option.bind_some]
          rw [if_neg]
          intro ht
          have h0 : s.data.toList ≠ [] := by
            intro h0
            rw [h0] at e1
            exact absurd e1 (by decide)
          exact hx ⟨(_, _), rtext_back h h0 ht⟩
end Go.Proofs.YtdofhbcohijpiaaDoor.Q
namespace Go.Proofs.YtdofhbcohijpiaaDoor.Q
open Go.RowKit Go.Proofs.YtdofhbcohijpiaaDoorW.PrintWords Go.Proofs.YtdofhbcohijpiaaDoorW.PrintLast Go.Proofs.YtdofhbcohijpiaaDoorW.PrintMore
open Go.Proofs.YtdofhbcohijpiaaDoor.Open
set_option linter.unusedSimpArgs false
set_option linter.unusedVariables false
def hasL (l : List ByteArray) (s : List UInt8) : Bool := l.any fun x => x.data.toList == s
theorem hasL_cons (x : ByteArray) (t : List ByteArray) (s : List UInt8) : hasL (x :: t) s = (x.data.toList == s || hasL t s) := by unfold hasL; rw [List.any_cons]
theorem rdOf_at {α : Type} {d : α} {l : List α} {i : Nat} {x : α} (h : l[i]? = some x) : rdOf d l (i : Int) = x := by
  unfold rdOf; simp [List.getD, h]
theorem s_has_loop (l : List ByteArray) (s : ByteArray) (hl : l.length ≤ 1000) : ∀ (t : List ByteArray) (i k : Nat), l.drop i = t → t.length < k → spec_l01Has.l0 k l s (i : Int) = some (hasL t s.data.toList) := by
  intro t
  induction t with
  | nil =>
    intro i k hd hk
    obtain ⟨k, rfl⟩ : ∃ m, k = m + 1 := ⟨k - 1, by omega⟩
    have := drop_nil hd
    rw [spec_l01Has.l0, if_neg (by omega)]; rfl
  | cons x t ih =>
    intro i k hd hk
    obtain ⟨k, rfl⟩ : ∃ m, k = m + 1 := ⟨k - 1, by omega⟩
    obtain ⟨h1, h2, h3⟩ := drop_cons hd
    rw [spec_l01Has.l0, if_pos (by omega), if_pos (by omega), rdOf_at h2, toL, toL, w64s i (by omega), ih (i + 1) k h3 (by simp at hk; omega)]
    rw [hasL_cons]
    by_cases h : x.data.toList = s.data.toList
    · rw [if_pos h, beq_iff_eq.2 h]; rfl
    · rw [if_neg h, beq_eq_false_iff_ne.2 h]; rfl
theorem s_has (l : List ByteArray) (s : ByteArray) (hl : l.length ≤ 1000) (k : Nat) (hk : l.length < k) : spec_l01Has.f k l s = some (hasL l s.data.toList) :=
  s_has_loop l s hl l 0 k rfl hk
theorem i_index_loop (l : List ByteArray) (s : ByteArray) (hl : l.length ≤ 1000) : ∀ (t : List ByteArray) (i k : Nat), l.drop i = t → t.length < k → ∃ r, slices_Index_string_string.l0 k l s (l.length : Int) (i : Int) = some r ∧ decide (r ≥ 0) = hasL t s.data.toList := by
  intro t
  induction t with
  | nil =>
    intro i k hd hk
    obtain ⟨k, rfl⟩ : ∃ m, k = m + 1 := ⟨k - 1, by omega⟩
    have := drop_nil hd
    rw [slices_Index_string_string.l0, if_neg (by omega)]; exact ⟨_, rfl, rfl⟩
  | cons x t ih =>
    intro i k hd hk
    obtain ⟨k, rfl⟩ : ∃ m, k = m + 1 := ⟨k - 1, by omega⟩
    obtain ⟨h1, h2, h3⟩ := drop_cons hd
    rw [slices_Index_string_string.l0, if_pos (by omega), if_pos (by omega), if_pos (by omega), rdOf_at h2, toL, toL, w64s i (by omega)]
    by_cases h : s.data.toList = x.data.toList
    · rw [if_pos h]; refine ⟨_, rfl, ?_⟩; rw [hasL_cons, beq_iff_eq.2 h.symm]; simp
    · rw [if_neg h]
      obtain ⟨r, e1, e2⟩ := ih (i + 1) k h3 (by simp at hk; omega)
      refine ⟨r, e1, e2.trans ?_⟩
      have h' : ¬ x.data.toList = s.data.toList := fun e => h e.symm
      rw [hasL_cons, beq_eq_false_iff_ne.2 h']; rfl
theorem i_has (l : List ByteArray) (s : ByteArray) (hl : l.length ≤ 1000) (k : Nat) (hk : l.length < k) : slices_Contains_string_string.f k l s = some (hasL l s.data.toList) := by
  obtain ⟨r, e1, e2⟩ := i_index_loop l s hl l 0 k rfl hk
  unfold slices_Contains_string_string.f slices_Index_string_string.f
  rw [show (0 : Int) = ((0 : Nat) : Int) from rfl, e1]
  simp only [Option.bind_some]
  exact congrArg some e2
def letB (c : UInt8) : Bool := decide (97 ≤ c.toNat) && decide (c.toNat ≤ 122)
theorem s_letter (c : UInt8) : spec_l01Letter.f (c.toNat : Int) = some (letB c) := by
  unfold spec_l01Letter.f letB
  by_cases h : 97 ≤ c.toNat
  · rw [if_pos (by omega)]; simp [h]; omega
  · rw [if_neg (by omega)]; simp [h]
theorem i_letter (c : UInt8) : impl_isLetter.f (c.toNat : Int) = some (letB c) := by
  unfold impl_isLetter.f letB
  by_cases h : 97 ≤ c.toNat
  · rw [if_pos (by omega)]; simp [h]; omega
  · rw [if_neg (by omega)]; simp [h]
theorem i_digit (c : UInt8) : impl_isDigit.f (c.toNat : Int) = some (digB c) := by
  unfold impl_isDigit.f digB
  by_cases h : 48 ≤ c.toNat
  · rw [if_pos (by omega)]; simp [h]; omega
  · rw [if_neg (by omega)]; simp [h]
def keys : List ByteArray := [(⟨#[97, 114, 114, 97, 121]⟩ : ByteArray), (⟨#[99, 104, 101, 99, 107]⟩ : ByteArray), (⟨#[101, 108, 115, 101]⟩ : ByteArray), (⟨#[102, 111, 114]⟩ : ByteArray), (⟨#[102, 114, 111, 109]⟩ : ByteArray), (⟨#[105, 102]⟩ : ByteArray), (⟨#[108, 101, 110]⟩ : ByteArray), (⟨#[114, 101, 97, 100]⟩ : ByteArray), (⟨#[115, 107, 105, 112]⟩ : ByteArray), (⟨#[115, 116, 111, 112]⟩ : ByteArray), (⟨#[116, 111]⟩ : ByteArray), (⟨#[118, 97, 114]⟩ : ByteArray), (⟨#[119, 104, 105, 108, 101]⟩ : ByteArray)]
def ones : List ByteArray := [(⟨#[43]⟩ : ByteArray), (⟨#[45]⟩ : ByteArray), (⟨#[42]⟩ : ByteArray), (⟨#[40]⟩ : ByteArray), (⟨#[41]⟩ : ByteArray), (⟨#[91]⟩ : ByteArray), (⟨#[93]⟩ : ByteArray), (⟨#[123]⟩ : ByteArray), (⟨#[125]⟩ : ByteArray), (⟨#[59]⟩ : ByteArray), (⟨#[61]⟩ : ByteArray), (⟨#[60]⟩ : ByteArray), (⟨#[62]⟩ : ByteArray), (⟨#[63]⟩ : ByteArray)]
def twos : List ByteArray := [(⟨#[61, 61]⟩ : ByteArray), (⟨#[33, 61]⟩ : ByteArray), (⟨#[60, 61]⟩ : ByteArray), (⟨#[62, 61]⟩ : ByteArray)]
def wordB (c : UInt8) : Bool := letB c || digB c
def nameB (l : List UInt8) : Bool := decide (l.length ≤ 8) && (l.head?.any letB) && l.all wordB
def numB (l : List UInt8) : Bool := !(l.isEmpty || decide (7 < l.length) || (decide (1 < l.length) && l.head? == some 48)) && (l.all digB && decide (dval 0 l ≤ 1000000))
def kindL (l : List UInt8) : Int := if hasL keys l = true then 4 else if nameB l = true then 1 else if numB l = true then 2 else if hasL (ones ++ twos) l = true then 3 else 0
theorem s_key (s : ByteArray) (k : Nat) (hk : 40 ≤ k) : spec_l01Key.f k s = some (hasL keys s.data.toList) := by
  unfold spec_l01Key.f
  rw [s_has _ _ (by simp) k (by simp; omega)]; rfl
theorem i_key (s : ByteArray) (k : Nat) (hk : 40 ≤ k) : impl_isKey.f k s = some (hasL keys s.data.toList) := by
  unfold impl_isKey.f
  rw [i_has _ _ (by simp) k (by simp; omega)]; rfl
theorem s_sign (s : ByteArray) (k : Nat) (hk : 40 ≤ k) : spec_l01Sign.f k s = some (hasL (ones ++ twos) s.data.toList) := by
  unfold spec_l01Sign.f
  rw [s_has _ _ (by simp) k (by simp; omega)]; rfl
theorem s_name_loop (s : ByteArray) (hl : s.size ≤ 1048576) : ∀ (t : List UInt8) (i k : Nat), s.data.toList.drop i = t → t.length < k → spec_l01Name.l0 k s (i : Int) = some (t.all wordB) := by
  intro t
  induction t with
  | nil =>
    intro i k hd hk
    obtain ⟨k, rfl⟩ : ∃ m, k = m + 1 := ⟨k - 1, by omega⟩
    have := drop_nil hd
    rw [← sizeL] at this
    rw [spec_l01Name.l0, if_neg (by omega)]; rfl
  | cons c t ih =>
    intro i k hd hk
    obtain ⟨k, rfl⟩ : ∃ m, k = m + 1 := ⟨k - 1, by omega⟩
    obtain ⟨h1, h2, h3⟩ := drop_cons hd
    rw [← sizeL] at h1
    rw [spec_l01Name.l0, if_pos (by omega), if_pos (by omega), bt_at_ h2, s_letter, s_digit, w64s i (by omega), ih (i + 1) k h3 (by simp at hk; omega)]
    rw [List.all_cons, wordB]
    simp only [Option.bind_some]
    cases letB c <;> cases digB c <;> simp
theorem s_name (s : ByteArray) (hl : s.size ≤ 1048576) (k : Nat) (hk : s.size + 40 ≤ k) (hkey : hasL keys s.data.toList = false) : spec_l01Name.f k s = some (nameB s.data.toList) := by
  have stop : spec_l01Name.j0 k s true = some false := by
    obtain ⟨k, rfl⟩ : ∃ m, k = m + 1 := ⟨k - 1, by omega⟩
    rw [spec_l01Name.j0, if_pos rfl]
  have go : spec_l01Name.j0 k s false = some (s.data.toList.all wordB) := by
    obtain ⟨k, rfl⟩ : ∃ m, k = m + 1 := ⟨k - 1, by omega⟩
    rw [spec_l01Name.j0, if_neg (by simp)]
    exact s_name_loop s hl _ 0 k rfl (by rw [← sizeL]; omega)
  have hz := sizeL s
  unfold spec_l01Name.f nameB
  rcases e : s.data.toList with _ | ⟨c, r⟩
  · rw [e] at hz
    have hz0 : s.size = 0 := hz
    rw [if_pos (by omega), stop]; rfl
  · rw [e] at hz
    simp only [List.length_cons] at hz
    rw [if_neg (by omega)]
    by_cases h8 : (s.size : Int) > 8
    · rw [if_pos h8, stop]; simp; omega
    · rw [if_neg h8, if_pos (by omega), bt_zero e, s_letter, s_key s k (by omega), hkey]
      simp only [Option.bind_some]
      cases hb : letB c with
      | true =>
        rw [if_pos rfl, go, e]
        have h7 : r.length + 1 ≤ 8 := by omega
        simp [hb, h7]
      | false => rw [if_neg (by simp), stop]; simp [hb]
theorem s_number_loop (s : ByteArray) (hl : s.size ≤ 7) : ∀ (t : List UInt8) (i acc k : Nat), s.data.toList.drop i = t → acc < 10 ^ i → i ≤ 7 → t.length < k →
    spec_l01Number.l0 k s (acc : Int) (i : Int) = some (if t.all digB = true ∧ dval acc t ≤ 1000000 then (dval acc t : Int) else -1) := by
  intro t
  induction t with
  | nil =>
    intro i acc k hd ha hi hk
    obtain ⟨k, rfl⟩ : ∃ m, k = m + 1 := ⟨k - 1, by omega⟩
    have := drop_nil hd
    rw [← sizeL] at this
    rw [spec_l01Number.l0, if_neg (by omega)]
    rw [dval_nil]
    simp only [List.all_nil, true_and]
    by_cases h : acc ≤ 1000000
    · rw [if_neg (by omega), if_pos h]
    · rw [if_pos (by omega), if_neg h]
  | cons c t ih =>
    intro i acc k hd ha hi hk
    obtain ⟨k, rfl⟩ : ∃ m, k = m + 1 := ⟨k - 1, by omega⟩
    obtain ⟨h1, h2, h3⟩ := drop_cons hd
    rw [← sizeL] at h1
    have hc := u8_lt c
    have hp : acc < 10 ^ 7 := Nat.lt_of_lt_of_le ha (Nat.pow_le_pow_right (by omega) (by omega))
    rw [spec_l01Number.l0, if_pos (by omega), if_pos (by omega), bt_at_ h2, s_digit]
    rw [List.all_cons]
    simp only [Option.bind_some]
    by_cases hdg : digB c = true
    · have hdg' := (digB_iff c).1 hdg
      unfold isDig at hdg'
      rw [if_pos hdg, hdg, Bool.true_and, w64s i (by omega), w64 (n := 10 * (acc : Int)) (by omega) (by omega), w64 (n := (c.toNat : Int)) (by omega) (by omega), w64 (n := 10 * (acc : Int) + (c.toNat : Int)) (by omega) (by omega), w64 (by omega) (by omega)]
      rw [show (10 * (acc : Int) + (c.toNat : Int) - 48) = ((acc * 10 + (c.toNat - 48) : Nat) : Int) by omega]
      rw [ih (i + 1) (acc * 10 + (c.toNat - 48)) k h3 (by rw [Nat.pow_succ]; omega) (by omega) (by simp at hk; omega)]
      simp only [dval_cons]
    · rw [if_neg hdg]
      simp only [Bool.not_eq_true] at hdg
      rw [hdg]; simp
theorem s_number (s : ByteArray) (k : Nat) (hk : 20 ≤ k) : ∃ n, spec_l01Number.f k s = some n ∧ (n ≥ 0 ↔ numB s.data.toList = true) := by
  have stop : spec_l01Number.j0 k s true = some (-1) := by
    obtain ⟨k, rfl⟩ : ∃ m, k = m + 1 := ⟨k - 1, by omega⟩
    rw [spec_l01Number.j0, if_pos rfl]
  have hz := sizeL s
  have go : s.size ≤ 7 → spec_l01Number.j0 k s false = some (if s.data.toList.all digB = true ∧ dval 0 s.data.toList ≤ 1000000 then (dval 0 s.data.toList : Int) else -1) := by
    intro hl
    obtain ⟨k, rfl⟩ : ∃ m, k = m + 1 := ⟨k - 1, by omega⟩
    rw [spec_l01Number.j0, if_neg (by simp)]
    exact s_number_loop s hl _ 0 0 k rfl (by decide) (by omega) (by omega)
  unfold spec_l01Number.f numB
  rcases e : s.data.toList with _ | ⟨c, r⟩
  · rw [e] at hz
    have hz0 : s.size = 0 := hz
    rw [if_pos (by omega), stop]
    exact ⟨_, rfl, by simp⟩
  · rw [e] at hz go
    simp only [List.length_cons] at hz
    rw [if_neg (by omega)]
    by_cases h7 : (s.size : Int) > 7
    · rw [if_pos h7, stop]
      have : 7 < r.length + 1 := by omega
      exact ⟨_, rfl, by simp [this]⟩
    · rw [if_neg h7]
      have h7' : ¬ 7 < r.length + 1 := by omega
      have fin : ∀ b : Bool, b = (decide (1 < r.length + 1) && (c == 48)) → ∃ n, spec_l01Number.j0 k s b = some n ∧ (n ≥ 0 ↔ (!((c :: r).isEmpty || decide (7 < (c :: r).length) || (decide (1 < (c :: r).length) && (c :: r).head? == some 48)) && ((c :: r).all digB && decide (dval 0 (c :: r) ≤ 1000000))) = true) := by
        intro b hb
        have e0 : ((c :: r).head? == some 48) = (c == 48) := by simp
        rw [List.length_cons, e0, ← hb, decide_eq_false h7']
        cases b with
        | true => rw [stop]; exact ⟨_, rfl, by simp⟩
        | false =>
          rw [go (by omega)]
          refine ⟨_, rfl, ?_⟩
          simp only [List.isEmpty_cons, Bool.or_self, Bool.not_false, Bool.true_and, Bool.and_eq_true, decide_eq_true_eq]
          split
          · rename_i h; simp only [h, iff_true, and_self]; omega
          · rename_i h; simp only [h, iff_false]; omega
      by_cases h1 : (s.size : Int) > 1
      · rw [if_pos h1, if_pos (by omega), bt_zero e]
        refine fin _ ?_
        have : 1 < r.length + 1 := by omega
        simp only [this, decide_true, Bool.true_and]
        by_cases h48 : c = 48
        · subst h48; rfl
        · have : (c.toNat : Int) ≠ 48 := fun h => h48 (u8_eq (by show c.toNat = 48; omega))
          rw [show ((c.toNat : Int) == 48) = false by simpa using this, show (c == 48) = false by simpa using h48]
      · rw [if_neg h1]
        refine fin _ ?_
        have : ¬ 1 < r.length + 1 := by omega
        simp [this]
theorem s_kind (s : ByteArray) (hl : s.size ≤ 1048576) (k : Nat) (hk : s.size + 40 ≤ k) : spec_l01Kind.f k s = some (kindL s.data.toList) := by
  unfold spec_l01Kind.f kindL
  rw [s_key s k (by omega)]
  simp only [Option.bind_some]
  cases hkey : hasL keys s.data.toList with
  | true => simp
  | false =>
    rw [if_neg (by simp), s_name s hl k hk hkey]
    simp only [Option.bind_some]
    cases hn : nameB s.data.toList with
    | true => simp
    | false =>
      rw [if_neg (by simp)]
      obtain ⟨n, e1, e2⟩ := s_number s k (by omega)
      rw [e1]
      simp only [Option.bind_some]
      cases hm : numB s.data.toList with
      | true => rw [if_pos (e2.2 hm)]; simp
      | false =>
        rw [if_neg (fun h => by rw [e2.1 h] at hm; cases hm), s_sign s k (by omega)]
        simp only [Option.bind_some]
        simp
        split <;> rfl
theorem num_itoa (l : List UInt8) : numB l = true ↔ ∃ u : Nat, u ≤ 1000000 ∧ l = Lib.decDigits u := by
  unfold numB
  simp only [Bool.and_eq_true, Bool.not_eq_true', Bool.or_eq_false_iff, decide_eq_true_eq, decide_eq_false_iff_not, Bool.and_eq_false_iff, beq_eq_false_iff_ne, ne_eq, List.isEmpty_eq_false_iff]
  constructor
  · rintro ⟨⟨⟨h1, h2⟩, h3⟩, h4, h5⟩
    refine ⟨dval 0 l, h5, (dec_of_dval l h1 ((all_digs l).1 h4) ?_).symm⟩
    intro hl c hc e
    rcases h3 with h3 | h3
    · exact h3 hl
    · exact h3 (by rw [hc, show c = 48 from u8_eq e])
  · rintro ⟨u, hu, rfl⟩
    refine ⟨⟨⟨dec_ne u, ?_⟩, ?_⟩, (all_digs _).2 (dec_digs u), by rw [dval_dec]; exact hu⟩
    · have := dec_len10 6 u (by omega); omega
    · rcases Nat.eq_zero_or_pos u with rfl | h
      · left; rw [Lib.decDigits, dif_pos (by omega)]; simp
      · right
        obtain ⟨c, r, e1, _, e2⟩ := dec_head u h
        rw [e1]
        intro h'
        simp only [List.head?_cons, Option.some.injEq] at h'
        rw [h'] at e2; exact e2 rfl
theorem sign_head {c : UInt8} {r : List UInt8} (h : hasL (ones ++ twos) (c :: r) = true) : letB c = false ∧ digB c = false := by
  simp only [hasL, ones, twos, List.cons_append, List.nil_append, List.any_cons, List.any_nil, Bool.or_eq_true, beq_iff_eq, List.cons.injEq, Bool.or_false] at h
  rcases h with h | h | h | h | h | h | h | h | h | h | h | h | h | h | h | h | h | h <;> (rw [← h.1]; decide)
theorem one_fin : ∀ n : Fin 256, Lib.contains [43, 45, 42, 40, 41, 91, 93, 123, 125, 59, 61, 60, 62, 63] [UInt8.ofNat n.val] = hasL ones [UInt8.ofNat n.val] := by decide +kernel
theorem one_sign (c : UInt8) : Lib.contains [43, 45, 42, 40, 41, 91, 93, 123, 125, 59, 61, 60, 62, 63] [c] = hasL ones [c] := by
  have := one_fin ⟨c.toNat, u8_lt c⟩
  simpa using this
theorem ones_len {l : List UInt8} (h : l.length ≠ 1) : hasL ones l = false := by
  cases e : hasL ones l with
  | false => rfl
  | true =>
    simp only [hasL, ones, List.any_cons, List.any_nil, Bool.or_eq_true, beq_iff_eq, Bool.or_false] at e
    rcases e with e | e | e | e | e | e | e | e | e | e | e | e | e | e <;> exact absurd (by rw [← e]; rfl) h
theorem i_kind_loop (s : ByteArray) (hl : s.size ≤ 1048576) : ∀ (t : List UInt8) (i k : Nat), s.data.toList.drop i = t → t.length < k →
    impl_kindOf.l0 k s (s.size : Int) (i : Int) = some (if t.all wordB = true then (if s.size ≤ 8 then 1 else 0) else 0) := by
  intro t
  induction t with
  | nil =>
    intro i k hd hk
    obtain ⟨k, rfl⟩ : ∃ m, k = m + 1 := ⟨k - 1, by omega⟩
    have := drop_nil hd
    rw [← sizeL] at this
    rw [impl_kindOf.l0, if_neg (by omega)]
    simp only [List.all_nil, if_true]
    by_cases h : s.size ≤ 8
    · rw [if_pos (by omega), if_pos h]
    · rw [if_neg (by omega), if_neg h]
  | cons c t ih =>
    intro i k hd hk
    obtain ⟨k, rfl⟩ : ∃ m, k = m + 1 := ⟨k - 1, by omega⟩
    obtain ⟨h1, h2, h3⟩ := drop_cons hd
    rw [← sizeL] at h1
    rw [impl_kindOf.l0, if_pos (by omega), if_pos (by omega), if_pos (by omega), bt_at_ h2, i_letter, i_digit, w64s i (by omega), ih (i + 1) k h3 (by simp at hk; omega)]
    rw [List.all_cons, wordB]
    simp only [Option.bind_some]
    cases letB c <;> cases digB c <;> simp
theorem let_dig {c : UInt8} (h : letB c = true) : digB c = false := by
  unfold letB at h; unfold digB
  simp only [Bool.and_eq_true, decide_eq_true_eq] at h
  simp; omega
theorem i_kind (s : ByteArray) (hl : s.size ≤ 1048576) (k : Nat) (hk : s.size + 40 ≤ k) : impl_kindOf.f k s = some (kindL s.data.toList) := by
  have hz := sizeL s
  unfold impl_kindOf.f
  rw [toL]
  rcases e : s.data.toList with _ | ⟨c, r⟩
  · rw [if_pos rfl]; rfl
  · rw [e] at hz
    simp only [List.length_cons] at hz
    rw [if_neg (List.cons_ne_nil c r), i_key s k (by omega), e]
    simp only [Option.bind_some]
    unfold kindL
    cases hkey : hasL keys (c :: r) with
    | true => simp
    | false =>
      simp only [Bool.false_eq_true, if_false]
      rw [if_pos (by omega), bt_zero e, i_letter, i_digit]
      simp only [Option.bind_some]
      cases hlet : letB c with
      | true =>
        rw [if_pos rfl, show (0 : Int) = ((0 : Nat) : Int) from rfl, i_kind_loop s hl _ 0 k rfl (by simp only [List.drop_zero, ← sizeL]; omega), List.drop_zero, e]
        have hnum : numB (c :: r) = false := by
          unfold numB; simp [let_dig hlet]
        have hsig : hasL (ones ++ twos) (c :: r) = false := by
          cases q : hasL (ones ++ twos) (c :: r) with
          | false => rfl
          | true => rw [(sign_head q).1] at hlet; cases hlet
        rw [hnum, hsig]
        unfold nameB
        by_cases h8 : s.size ≤ 8
        · have : r.length + 1 ≤ 8 := by omega
          rw [if_pos h8]
          simp [this, hlet, wordB]
        · have : ¬ r.length + 1 ≤ 8 := by omega
          rw [if_neg h8]
          simp [this]
      | false =>
        have hname : nameB (c :: r) = false := by unfold nameB; simp [hlet]
        rw [hname]
        simp only [Bool.false_eq_true, if_false]
        cases hdig : digB c with
        | true =>
          have hsig : hasL (ones ++ twos) (c :: r) = false := by
            cases q : hasL (ones ++ twos) (c :: r) with
            | false => rfl
            | true => rw [(sign_head q).2] at hdig; cases hdig
          rw [if_pos rfl, hsig]
          unfold impl_readNum.f
          rw [if_pos (by omega), e]
          simp only [Option.bind_some]
          have key : ((numOf (c :: r)).2 = true ∧ (numOf (c :: r)).1 ≤ 1000000) ↔ numB (c :: r) = true := by
            rw [num_itoa]
            constructor
            · rintro ⟨h1, h2⟩
              have h3 := numOf_true h1
              rcases int_cases (numOf (c :: r)).1 with ⟨u, hu⟩ | ⟨u, hu1, hu⟩
              · rw [hu, itoa_pos] at h3
                exact ⟨u, by omega, h3⟩
              · rw [hu, itoa_neg' u hu1] at h3
                rw [(List.cons.inj h3).1] at hdig
                exact absurd hdig (by decide)
            · rintro ⟨u, hu, h⟩
              rw [h, ← itoa_pos, numOf_itoa _ (by omega) (by omega)]
              exact ⟨rfl, by simp; omega⟩
          by_cases hn : numB (c :: r) = true
          · obtain ⟨k1, k2⟩ := key.2 hn
            rw [if_pos k1, if_pos k2, if_pos hn]
          · have hn' : ¬ ((numOf (c :: r)).2 = true ∧ (numOf (c :: r)).1 ≤ 1000000) := fun h => hn (key.1 h)
            rw [if_neg hn]
            simp only [Bool.false_eq_true, if_false]
            by_cases q : (numOf (c :: r)).2 = true
            · rw [if_pos q, if_neg (fun h => hn' ⟨q, h⟩)]
            · rw [if_neg q]
        | false =>
          have hnum : numB (c :: r) = false := by unfold numB; simp [hdig]
          rw [hnum, i_has _ _ (by simp) k (by simp; omega), e]
          simp only [Option.bind_some, Bool.false_eq_true, if_false]
          have app : hasL (ones ++ twos) (c :: r) = (hasL ones (c :: r) || hasL twos (c :: r)) := by unfold hasL; rw [List.any_append]
          rw [app]
          change (if hasL twos (c :: r) = true then _ else _) = _
          cases htw : hasL twos (c :: r) with
          | true => simp
          | false =>
            rw [Bool.or_false]
            simp only [Bool.false_eq_true, if_false]
            by_cases h1 : (s.size : Int) = 1
            · have hr : r = [] := List.eq_nil_of_length_eq_zero (by omega)
              subst hr
              rw [if_pos h1]
              unfold strings_Contains.f
              rw [if_pos (by decide), e]
              simp only [Option.bind_some]
              rw [one_sign]
              split <;> rfl
            · rw [if_neg h1, ones_len (by simp only [List.length_cons]; omega)]; simp
end Go.Proofs.YtdofhbcohijpiaaDoor.Q
namespace Go.Proofs.YtdofhbcohijpiaaDoor.Q
open Go.RowKit Go.Proofs.YtdofhbcohijpiaaDoorW.PrintWords Go.Proofs.YtdofhbcohijpiaaDoorW.PrintLast Go.Proofs.YtdofhbcohijpiaaDoorW.PrintMore
open Go.Proofs.YtdofhbcohijpiaaDoor.Open
set_option linter.unusedSimpArgs false
set_option linter.unusedVariables false
def okW (a : Int) (l : List UInt8) (b : Int) : Bool := decide (a ≠ 0) && (decide (a = kindL l) && (decide (0 ≤ b) && decide (b ≤ 4000)))
theorem kindL_range (l : List UInt8) : 0 ≤ kindL l ∧ kindL l ≤ 4 := by
  unfold kindL
  repeat' split
  all_goals omega
theorem s_wordOk (a : Int) (s : ByteArray) (b : Int) (hs : s.size ≤ 1048576) (k : Nat) (hk : s.size + 40 ≤ k) : spec_WordOk.f k a s b = some (okW a s.data.toList b) := by
  unfold spec_WordOk.f spec_l01Between.f okW
  rw [s_kind s hs k hk]
  have := kindL_range s.data.toList
  simp only [Option.bind_some]
  by_cases h : a > 0
  · rw [if_pos h]
    by_cases e : a = kindL s.data.toList
    · rw [if_pos e]
      by_cases h0 : 0 ≤ b
      · rw [if_pos (by omega)]
        have : a ≠ 0 := by omega
        simp [this, e.symm, h0, h]
      · rw [if_neg (by omega)]; simp [h0]
    · rw [if_neg e]; simp [e]
  · rw [if_neg h]
    by_cases e : a = kindL s.data.toList
    · have : a = 0 := by omega
      simp [this]
    · simp [e]
theorem i_wordOk (a : Int) (s : ByteArray) (b : Int) (hs : s.size ≤ 1048576) (k : Nat) (hk : s.size + 40 ≤ k) : impl_WordOk.f k a s b = some (okW a s.data.toList b) := by
  unfold impl_WordOk.f impl_inRange.f okW
  rw [i_kind s hs k hk]
  simp only [Option.bind_some]
  by_cases h : a = 0
  · rw [if_pos h]; simp [h]
  · rw [if_neg h]
    by_cases e : a = kindL s.data.toList
    · rw [if_pos e]
      by_cases h0 : 0 ≤ b
      · rw [if_pos (by omega)]
        simp [h, e.symm, h0]
      · rw [if_neg (by omega)]; simp [h0]
    · rw [if_neg e]; simp [e]
end Go.Proofs.YtdofhbcohijpiaaDoor.Q
namespace Go.Proofs.YtdofhbcohijpiaaDoor.Q
open Go.RowKit Go.Proofs.YtdofhbcohijpiaaDoorW.PrintWords Go.Proofs.YtdofhbcohijpiaaDoorW.PrintLast Go.Proofs.YtdofhbcohijpiaaDoorW.PrintMore
open Go.Proofs.YtdofhbcohijpiaaDoor.Open
set_option linter.unusedSimpArgs false
set_option linter.unusedVariables false
abbrev Ww := S46
theorem rdWw_at {l : List Ww} {i : Nat} {x : Ww} (h : l[i]? = some x) : rd_T46 l (i : Int) = x := by
  unfold rd_T46; simp [List.getD, h]
def okS (x : Ww) : Bool := okW x.f0 x.f1.data.toList x.f2
def texts (l : List Ww) : List (List UInt8) := l.map fun x => x.f1.data.toList
def wtext (l : List Ww) : List UInt8 := if l.length ≤ 1500 ∧ l.all okS = true ∧ (Lib.join (texts l) [32]).length ≤ 4000 then Lib.join (texts l) [32] else []
theorem tail_cons (sep y : List UInt8) (r : List (List UInt8)) : Lib.joinTail sep (y :: r) = sep ++ y ++ Lib.joinTail sep r := rfl
theorem s_wt_loop (l : List Ww) (hl : l.length ≤ 1500) (hs : ∀ x ∈ l, x.f1.size ≤ 1048576) : ∀ (t : List Ww) (i k : Nat) (out : ByteArray), l.drop i = t → 0 < i → out.size ≤ 4000 → 2000000 + t.length ≤ k →
    ∃ r, spec_WordsText.l0 k l out (i : Int) = some r ∧ r.data.toList = if t.all okS = true ∧ (out.data.toList ++ Lib.joinTail [32] (texts t)).length ≤ 4000 then out.data.toList ++ Lib.joinTail [32] (texts t) else [] := by
  intro t
  induction t with
  | nil =>
    intro i k out hd hi ho hk
    obtain ⟨k, rfl⟩ : ∃ m, k = m + 1 := ⟨k - 1, by omega⟩
    have := drop_nil hd
    rw [spec_WordsText.l0, if_neg (by omega)]
    refine ⟨_, rfl, ?_⟩
    have e : Lib.joinTail [32] (texts []) = [] := rfl
    rw [e, List.append_nil, if_pos ⟨rfl, by rw [← sizeL]; exact ho⟩]
  | cons x t ih =>
    intro i k out hd hi ho hk
    obtain ⟨k, rfl⟩ : ∃ m, k = m + 1 := ⟨k - 1, by omega⟩
    obtain ⟨g1, g2, g3⟩ := drop_cons hd
    have hx := hs x (List.mem_of_getElem? g2)
    rw [spec_WordsText.l0, if_pos (by omega), if_pos (by omega), rdWw_at g2, s_wordOk _ _ _ hx k (by simp at hk; omega), Option.bind_some]
    change ∃ r, (if okS x = true then _ else _) = some r ∧ _
    have ej : Lib.joinTail [32] (texts (x :: t)) = [32] ++ x.f1.data.toList ++ Lib.joinTail [32] (texts t) := rfl
    rw [ej, List.all_cons]
    cases hok : okS x with
    | false =>
      rw [if_neg (by simp)]
      exact ⟨_, rfl, by simp⟩
    | true =>
      rw [if_pos rfl, if_pos (by omega), if_pos (by omega), if_pos (by omega)]
      by_cases hbig : ((out.size : Int) + 1 + (x.f1.size : Int)) > 4000
      · rw [if_pos hbig]
        refine ⟨_, rfl, ?_⟩
        rw [if_neg]
        rintro ⟨_, h⟩
        simp only [List.length_append, List.length_cons, List.length_nil] at h
        rw [← sizeL, ← sizeL] at h
        omega
      · rw [if_neg hbig, w64s i (by omega)]
        have ho' : ((out ++ (⟨#[32]⟩ : ByteArray)) ++ x.f1).size ≤ 4000 := by
          rw [sizeL, app_mk', app_mk', List.length_append, List.length_append, ← sizeL, ← sizeL, ← sizeL]
          have : (⟨#[32]⟩ : ByteArray).size = 1 := rfl
          omega
        obtain ⟨r, e1, e2⟩ := ih (i + 1) k _ g3 (by omega) ho' (by simp at hk; omega)
        refine ⟨r, e1, ?_⟩
        rw [e2, Bool.true_and, app_mk', app_mk']
        have e3 : out.data.toList ++ (⟨#[32]⟩ : ByteArray).data.toList ++ x.f1.data.toList ++ Lib.joinTail [32] (texts t) = out.data.toList ++ ([32] ++ x.f1.data.toList ++ Lib.joinTail [32] (texts t)) := by
          have : (⟨#[32]⟩ : ByteArray).data.toList = [32] := rfl
          rw [this]; simp
        rw [e3]
theorem s_wtext (l : List Ww) (hs : ∀ x ∈ l, x.f1.size ≤ 1048576) (k : Nat) (hk : 2100000 ≤ k) : ∃ r, spec_WordsText.f k l = some r ∧ r.data.toList = wtext l := by
  unfold spec_WordsText.f wtext
  by_cases hl : l.length ≤ 1500
  · rw [if_neg (by omega)]
    obtain ⟨k, rfl⟩ : ∃ m, k = m + 1 := ⟨k - 1, by omega⟩
    rcases l with _ | ⟨x, t⟩
    · rw [spec_WordsText.l0, if_neg (by simp)]
      exact ⟨_, rfl, rfl⟩
    · have g2 : (x :: t)[0]? = some x := rfl
      have hx := hs x (by simp)
      rw [spec_WordsText.l0, if_pos (by simp), if_pos (by omega)]
      rw [show (0 : Int) = ((0 : Nat) : Int) from rfl, rdWw_at g2, s_wordOk _ _ _ hx k (by omega), Option.bind_some]
      change ∃ r, (if okS x = true then _ else _) = some r ∧ _
      have ej : Lib.join (texts (x :: t)) [32] = x.f1.data.toList ++ Lib.joinTail [32] (texts t) := Lib.join_cons _ _ _
      rw [ej, List.all_cons]
      cases hok : okS x with
      | false =>
        rw [if_neg (by simp)]
        exact ⟨_, rfl, by simp⟩
      | true =>
        have z0 : (⟨#[]⟩ : ByteArray).size = 0 := rfl
        rw [if_pos rfl, if_neg (by omega), if_pos (by omega)]
        by_cases hbig : (((⟨#[]⟩ : ByteArray).size : Int) + (x.f1.size : Int)) > 4000
        · rw [if_pos hbig]
          refine ⟨_, rfl, ?_⟩
          rw [if_neg]
          rintro ⟨_, _, h⟩
          rw [List.length_append, ← sizeL] at h
          omega
        · rw [if_neg hbig, w64s 0 (by omega)]
          have hl' : t.length + 1 ≤ 1500 := hl
          have e0 : (⟨#[]⟩ : ByteArray) ++ x.f1 = x.f1 := eqL (by rw [app_mk']; rfl)
          obtain ⟨r, e1, e2⟩ := s_wt_loop (x :: t) hl hs t 1 k ((⟨#[]⟩ : ByteArray) ++ x.f1) rfl (by omega) (by rw [e0]; omega) (by omega)
          refine ⟨r, e1, ?_⟩
          rw [e2, e0, Bool.true_and]
          by_cases hc : t.all okS = true ∧ (x.f1.data.toList ++ Lib.joinTail [32] (texts t)).length ≤ 4000
          · rw [if_pos hc, if_pos ⟨hl, hc⟩]
          · rw [if_neg hc, if_neg (fun q => hc q.2)]
  · rw [if_pos (by omega), if_neg (fun q => hl q.1)]
    exact ⟨_, rfl, rfl⟩
theorem i_wt_loop (l : List Ww) (hl : l.length ≤ 1048576) (hs : ∀ x ∈ l, x.f1.size ≤ 1048576) (hj : (Lib.join (texts l) [32]).length ≤ 4000000) : ∀ (t pre : List Ww) (k : Nat), l = pre ++ t → pre.all okS = true → 2000000 + t.length ≤ k →
    ∃ r, impl_WordsText.l0 k l (pre.map fun x => x.f1) l (l.length : Int) (pre.length : Int) = some r ∧ r.data.toList = wtext l := by
  intro t
  induction t with
  | nil =>
    intro pre k hd hok hk
    obtain ⟨k, rfl⟩ : ∃ m, k = m + 1 := ⟨k - 1, by omega⟩
    rw [List.append_nil] at hd
    subst hd
    rw [impl_WordsText.l0, if_neg (by omega)]
    have et : ((l.map fun x => x.f1).map fun x => x.data.toList) = texts l := by rw [List.map_map]; rfl
    unfold strings_Join.f
    have es : (⟨#[32]⟩ : ByteArray).data.toList = [32] := rfl
    rw [et, es, if_pos ⟨by rw [List.length_map]; omega, by omega⟩, Option.bind_some]
    unfold wtext
    by_cases h15 : l.length ≤ 1500
    · rw [if_neg (by omega)]
      have ez : (⟨(Lib.join (texts l) [32]).toArray⟩ : ByteArray).size = (Lib.join (texts l) [32]).length := by rw [sizeL]
      by_cases h4 : (Lib.join (texts l) [32]).length ≤ 4000
      · rw [if_neg (by rw [ez]; omega), if_pos ⟨h15, hok, h4⟩]
        exact ⟨_, rfl, rfl⟩
      · rw [if_pos (by rw [ez]; omega), if_neg (fun q => h4 q.2.2)]
        exact ⟨_, rfl, rfl⟩
    · rw [if_pos (by omega), if_neg (fun q => h15 q.1)]
      exact ⟨_, rfl, rfl⟩
  | cons x t ih =>
    intro pre k hd hok hk
    obtain ⟨k, rfl⟩ : ∃ m, k = m + 1 := ⟨k - 1, by omega⟩
    have hlen : l.length = pre.length + (t.length + 1) := by rw [hd, List.length_append, List.length_cons]
    have at_ : l[pre.length]? = some x := by rw [hd, List.getElem?_append_right (Nat.le_refl _)]; simp
    have hx := hs x (List.mem_of_getElem? at_)
    rw [impl_WordsText.l0, if_pos (by omega), if_pos (by omega), if_pos (by omega), rdWw_at at_, i_wordOk _ _ _ hx k (by simp at hk; omega), Option.bind_some]
    change ∃ r, (if okS x = true then _ else _) = some r ∧ _
    cases hokx : okS x with
    | false =>
      rw [if_neg (by simp)]
      refine ⟨_, rfl, ?_⟩
      unfold wtext
      rw [if_neg]
      rintro ⟨_, h, _⟩
      rw [hd, List.all_append, List.all_cons, hokx] at h
      simp at h
    | true =>
      rw [if_pos rfl, if_pos (by rw [List.length_map]; omega), w64s pre.length (by omega)]
      have := ih (pre ++ [x]) k (by rw [hd]; simp) (by rw [List.all_append, hok]; simp [hokx]) (by simp at hk; omega)
      rw [List.map_append, List.length_append, List.length_cons, List.length_nil] at this
      exact this
theorem i_wtext (l : List Ww) (hl : l.length ≤ 1048576) (hs : ∀ x ∈ l, x.f1.size ≤ 1048576) (hj : (Lib.join (texts l) [32]).length ≤ 4000000) (k : Nat) (hk : 3100000 ≤ k) : ∃ r, impl_WordsText.f k l = some r ∧ r.data.toList = wtext l :=
  i_wt_loop l hl hs hj l [] k rfl rfl (by omega)
end Go.Proofs.YtdofhbcohijpiaaDoor.Q
namespace Go.Proofs.YtdofhbcohijpiaaDoor.Q
open Go.RowKit Go.Proofs.YtdofhbcohijpiaaDoorW.PrintWords Go.Proofs.YtdofhbcohijpiaaDoorW.PrintLast Go.Proofs.YtdofhbcohijpiaaDoorW.PrintMore
open Go.Proofs.YtdofhbcohijpiaaDoor.Open
set_option linter.unusedSimpArgs false
set_option linter.unusedVariables false
abbrev Wl := S43
abbrev Wp := S46
def conv (x : Wl) : Wp := ⟨x.f0, x.f1, x.f2⟩
def weight : List Wl → Nat
  | [] => 0
  | x :: t => x.f1.size + weight t
theorem rdWl_at {l : List Wl} {i : Nat} {x : Wl} (h : l[i]? = some x) : rd_T43 l (i : Int) = x := by
  unfold rd_T43; simp [List.getD, h]
theorem sz_loop (l : List Wl) (hl : l.length ≤ 1048576) (hs : ∀ x ∈ l, x.f1.size ≤ 9223372036854775807) : ∀ (t : List Wl) (i k : Nat) (left : Int), l.drop i = t → (∀ x ∈ t, x.f1.size ≤ 9223372036854775807) → 0 ≤ left → left ≤ 1048576 → t.length < k →
    ∃ r, laws_szWordS.l0 k l left (i : Int) = some r ∧ (0 ≤ r → (weight t : Int) ≤ left) := by
  intro t
  induction t with
  | nil =>
    intro i k left hd _ h0 h1 hk
    obtain ⟨k, rfl⟩ : ∃ m, k = m + 1 := ⟨k - 1, by omega⟩
    have := drop_nil hd
    rw [laws_szWordS.l0, if_neg (by omega)]
    exact ⟨_, rfl, fun _ => by simpa [weight] using h0⟩
  | cons x t ih =>
    intro i k left hd hx h0 h1 hk
    obtain ⟨k, rfl⟩ : ∃ m, k = m + 1 := ⟨k - 1, by omega⟩
    obtain ⟨g1, g2, g3⟩ := drop_cons hd
    have hxs := hx x (by simp)
    rw [laws_szWordS.l0, if_pos (by omega), if_pos (by omega), rdWl_at g2]
    unfold laws_szWord.f
    rw [w64 (by omega) (by omega)]
    by_cases hn : left - (x.f1.size : Int) < 0
    · rw [if_pos hn, Option.bind_some, if_pos (by omega)]
      exact ⟨_, rfl, fun h => by omega⟩
    · rw [if_neg hn, Option.bind_some, if_neg hn, w64s i (by omega)]
      obtain ⟨r, e1, e2⟩ := ih (i + 1) k (left - (x.f1.size : Int)) g3 (fun y hy => hx y (by simp [hy])) (by omega) (by omega) (by simp at hk; omega)
      refine ⟨r, e1, fun h => ?_⟩
      have := e2 h
      simp only [weight]
      omega
theorem sz_words (l : List Wl) (hl : l.length ≤ 9223372036854775807) (hs : ∀ x ∈ l, x.f1.size ≤ 9223372036854775807) (k : Nat) (hk : l.length < k) :
    ∃ r, laws_szWordS.f k l 1048576 = some r ∧ (0 ≤ r → l.length + weight l ≤ 1048576) := by
  unfold laws_szWordS.f
  rw [w64 (by omega) (by omega)]
  by_cases h : (1048576 : Int) - (l.length : Int) < 0
  · rw [if_pos h]; exact ⟨_, rfl, fun h => by omega⟩
  · rw [if_neg h]
    obtain ⟨r, e1, e2⟩ := sz_loop l (by omega) hs l 0 k ((1048576 : Int) - (l.length : Int)) rfl hs (by omega) (by omega) hk
    exact ⟨r, e1, fun h => by have := e2 h; omega⟩
theorem to_loop (l : List Wl) (hl : l.length ≤ 1048576) : ∀ (t pre : List Wl) (k : Nat) (rest : List Wp), l = pre ++ t → rest.length = t.length → t.length < k →
    laws_toWordS.l0 k l (pre.map conv ++ rest) (pre.length : Int) = some (l.map conv) := by
  intro t
  induction t with
  | nil =>
    intro pre k rest hd hr hk
    obtain ⟨k, rfl⟩ : ∃ m, k = m + 1 := ⟨k - 1, by omega⟩
    obtain rfl := List.eq_nil_of_length_eq_zero (hr.trans rfl)
    rw [List.append_nil] at hd
    rw [laws_toWordS.l0, if_neg (by rw [hd]; omega), List.append_nil, hd]
  | cons x t ih =>
    intro pre k rest hd hr hk
    obtain ⟨k, rfl⟩ : ∃ m, k = m + 1 := ⟨k - 1, by omega⟩
    have hlen : l.length = pre.length + (t.length + 1) := by rw [hd, List.length_append, List.length_cons]
    match rest, hr with
    | y :: rest, hr =>
      have at_ : l[pre.length]? = some x := by rw [hd, List.getElem?_append_right (Nat.le_refl _)]; simp
      rw [laws_toWordS.l0, if_pos (by omega), if_pos (by omega), rdWl_at at_]
      unfold laws_toWord.f
      rw [Option.bind_some, if_pos (by simp; omega), w64s pre.length (by omega), Int.toNat_natCast]
      have st : (pre.map conv ++ y :: rest).set pre.length (⟨x.f0, x.f1, x.f2⟩ : Wp) = (pre ++ [x]).map conv ++ rest := by
        rw [List.set_append_right _ _ (by simp)]
        simp [conv]
      have := ih (pre ++ [x]) k rest (by rw [hd]; simp) (by simpa using hr) (by simp at hk; omega)
      rw [List.length_append, List.length_cons, List.length_nil] at this
      rw [st, this]
theorem to_words (l : List Wl) (hl : l.length ≤ 1048576) (k : Nat) (hk : l.length < k) : laws_toWordS.f k l = some (l.map conv) := by
  unfold laws_toWordS.f
  rw [if_pos (by omega), if_pos (by omega)]
  have := to_loop l hl l [] k (List.replicate ((l.length : Int)).toNat z46) rfl (by simp) hk
  simpa using this
theorem weight_mem : ∀ {l : List Wl} {x : Wl}, x ∈ l → x.f1.size ≤ weight l
  | y :: t, x, h => by
    simp only [weight]
    rcases List.mem_cons.1 h with rfl | h
    · omega
    · have := weight_mem h; omega
end Go.Proofs.YtdofhbcohijpiaaDoor.Q
namespace Go.Proofs.YtdofhbcohijpiaaDoor.Q
open Go.RowKit Go.Proofs.YtdofhbcohijpiaaDoorW.PrintWords Go.Proofs.YtdofhbcohijpiaaDoorW.PrintLast Go.Proofs.YtdofhbcohijpiaaDoorW.PrintMore
open Go.Proofs.YtdofhbcohijpiaaDoor.Open
set_option linter.unusedSimpArgs false
set_option linter.unusedVariables false
abbrev Wd := S46
theorem rdW_at {l : List Wd} {i : Nat} {x : Wd} (h : l[i]? = some x) : rd_T46 l (i : Int) = x := by
  unfold rd_T46; simp [List.getD, h]
theorem eqW_self (x : Wd) : laws_eqWord.f x.f0 x.f1 x.f2 x.f0 x.f1 x.f2 = some true := by
  unfold laws_eqWord.f; rw [if_pos rfl, if_pos rfl, if_pos rfl]
theorem eqWs_loop (l : List Wd) (hl : l.length ≤ 9000000) : ∀ (t : List Wd) (i k : Nat), l.drop i = t → t.length < k → laws_eqWordS.l0 k l l (i : Int) = some true := by
  intro t
  induction t with
  | nil =>
    intro i k hd hk
    obtain ⟨k, rfl⟩ : ∃ m, k = m + 1 := ⟨k - 1, by omega⟩
    have := drop_nil hd
    rw [laws_eqWordS.l0, if_neg (by omega)]
  | cons x t ih =>
    intro i k hd hk
    obtain ⟨k, rfl⟩ : ∃ m, k = m + 1 := ⟨k - 1, by omega⟩
    obtain ⟨h1, h2, h3⟩ := drop_cons hd
    rw [laws_eqWordS.l0, if_pos (by omega), if_pos (by omega), if_pos (by omega), rdW_at h2, eqW_self]
    simp only [Option.bind_some, if_true]
    rw [w64s i (by omega)]
    exact ih (i + 1) k h3 (by simp at hk; omega)
theorem eqWs_self (l : List Wd) (hl : l.length ≤ 9000000) (k : Nat) (hk : l.length < k) : laws_eqWordS.f k l l = some true := by
  unfold laws_eqWordS.f
  rw [if_pos rfl]
  exact eqWs_loop l hl l 0 k rfl hk
theorem mt_loop : ∀ (m k : Nat) (x : ByteArray), m < k → m ≤ 1000000000 → x.size ≤ 9000000000 - m → ∃ t, laws_markText.l0 k (m : Int) x = some t := by
  intro m
  induction m using Nat.strongRecOn with
  | _ m ih =>
    intro k x hk hm hx
    obtain ⟨k, rfl⟩ : ∃ n, k = n + 1 := ⟨k - 1, by omega⟩
    rw [laws_markText.l0]
    by_cases h : (m : Int) > 0
    · rw [if_pos h]
      simp only [Option.bind_some]
      have hs : ∀ z : Int, (strOfNums [z]).size = 1 := fun z => by unfold strOfNums; rw [sizeL]; simp
      rw [hs, if_pos (by omega)]
      have e : wrap64 (Int.tdiv (m : Int) 10) = ((m / 10 : Nat) : Int) := by
        rw [show (10 : Int) = ((10 : Nat) : Int) from rfl, ← Int.ofNat_tdiv, w64 (by omega) (by omega)]
      rw [e]
      refine ih (m / 10) (by omega) k _ (by omega) (by omega) ?_
      rw [sizeL, app_mk', List.length_append, ← sizeL, ← sizeL, hs]
      omega
    · rw [if_neg h, if_pos (by omega)]; exact ⟨_, rfl⟩
/-- The mark of a number, as a text. -/
def mtx (m : Nat) : ByteArray := (laws_markText.f (m + 2) (m : Int)).getD ⟨#[]⟩
theorem markText_is (m k : Nat) (h0 : 0 < m) (hm : m ≤ 1000000000) (hk : m + 2 ≤ k) : laws_markText.f k (m : Int) = some (mtx m) := by
  have h1 : ∃ t, laws_markText.f (m + 2) (m : Int) = some t := by
    unfold laws_markText.f
    rw [if_neg (by omega)]
    exact mt_loop m (m + 2) _ (by omega) hm (by simp [ByteArray.size])
  obtain ⟨t, ht⟩ := h1
  unfold mtx
  rw [at_rounds (fun k => laws_markText.mono _ k) hk ht, ht]; rfl
def marks : Nat → Nat → List Wd
  | _, 0 => []
  | m, n + 1 => ⟨(m : Int), mtx (m + 1), ((m + 2 : Nat) : Int)⟩ :: marks (m + 3) n
theorem marks_len : ∀ n m, (marks m n).length = n
  | 0, _ => rfl
  | n + 1, m => by rw [marks, List.length_cons, marks_len n]
theorem mark_loop : ∀ (t pre : List Wd) (m k : Nat), pre.length + t.length ≤ 9000000 → 0 < m → m + 3 * t.length ≤ 30000000 → m + 4 * t.length + 5 ≤ k →
    laws_markWordS.l0 k (pre ++ t) (m : Int) (pre.length : Int) = some (((m + 3 * t.length : Nat) : Int), pre ++ marks m t.length) := by
  intro t
  induction t with
  | nil =>
    intro pre m k h1 h2 h3 hk
    obtain ⟨k, rfl⟩ : ∃ n, k = n + 1 := ⟨k - 1, by omega⟩
    rw [laws_markWordS.l0, if_neg (by simp)]
    simp [marks]
  | cons x t ih =>
    intro pre m k h1 h2 h3 hk
    simp only [List.length_cons] at h1 h3 hk
    obtain ⟨k, rfl⟩ : ∃ n, k = n + 1 := ⟨k - 1, by omega⟩
    rw [laws_markWordS.l0, if_pos (by simp; omega), if_pos (by omega)]
    rw [Option.bind_some, Int.toNat_natCast]
    have set_at : ∀ y z : Wd, (pre ++ y :: t).set pre.length z = pre ++ z :: t := fun y z => by rw [List.set_append_right _ _ (Nat.le_refl _)]; simp
    have at_ : ∀ y : Wd, rd_T46 (pre ++ y :: t) (pre.length : Int) = y := fun y => rdW_at (by rw [List.getElem?_append_right (Nat.le_refl _)]; simp)
    rw [set_at, w64 (n := (m : Int) + 1) (by omega) (by omega), show ((m : Int) + 1) = ((m + 1 : Nat) : Int) by omega, markText_is (m + 1) k (by omega) (by omega) (by omega)]
    rw [Option.bind_some, Option.bind_some]
    simp only [set_at, at_]
    rw [w64 (n := ((m + 1 : Nat) : Int) + 1) (by omega) (by omega), w64 (by omega) (by omega), w64s pre.length (by omega)]
    have e := ih (pre ++ [⟨(m : Int), mtx (m + 1), ((m + 2 : Nat) : Int)⟩]) (m + 3) k (by simp; omega) (by omega) (by omega) (by omega)
    rw [List.append_assoc, List.length_append] at e
    simp only [List.length_cons, List.length_nil, List.cons_append, List.nil_append] at e
    rw [show ((m + 1 : Nat) : Int) + 1 = ((m + 2 : Nat) : Int) by omega, show ((m + 2 : Nat) : Int) + 1 = ((m + 3 : Nat) : Int) by omega]
    rw [show ((pre.length + 1 : Nat) : Int) = ((pre.length + (0 + 1) : Nat) : Int) by omega]
    have em : marks m (t.length + 1) = ⟨(m : Int), mtx (m + 1), ((m + 2 : Nat) : Int)⟩ :: marks (m + 3) t.length := by rw [marks]
    rw [e, List.length_cons, em, List.append_assoc, show m + 3 + 3 * t.length = m + 3 * (t.length + 1) by omega, List.singleton_append]
theorem mark_is (l : List Wd) (hl : l.length ≤ 9000000) (k : Nat) (hk : 4 * l.length + 6 ≤ k) : laws_markWordS.f k l 1 = some (((1 + 3 * l.length : Nat) : Int), marks 1 l.length) := by
  unfold laws_markWordS.f
  have := mark_loop l [] 1 k (by simp; omega) (by omega) (by omega) (by omega)
  simpa using this
theorem held_loop (l : List Wd) (hl : l.length ≤ 9000000) : ∀ (n i m k : Nat), l.drop i = marks m n → 0 < m → m + 3 * n ≤ 30000000 → m + 4 * n + 5 ≤ k →
    laws_heldWordS.l0 k l (m : Int) (i : Int) = some ((m + 3 * n : Nat) : Int) := by
  intro n
  induction n with
  | zero =>
    intro i m k hd h2 h3 hk
    obtain ⟨k, rfl⟩ : ∃ n, k = n + 1 := ⟨k - 1, by omega⟩
    have := drop_nil hd
    rw [laws_heldWordS.l0, if_neg (by omega)]; rfl
  | succ n ih =>
    intro i m k hd h2 h3 hk
    obtain ⟨k, rfl⟩ : ∃ n, k = n + 1 := ⟨k - 1, by omega⟩
    rw [marks] at hd
    have hd0 : l.length - i = n + 1 := by rw [← List.length_drop, hd, List.length_cons, marks_len]
    have h1 : l[i]? = some ⟨(m : Int), mtx (m + 1), ((m + 2 : Nat) : Int)⟩ := by
      have := congrArg (fun z => z[0]?) hd
      simpa using this
    have h3' : l.drop (i + 1) = marks (m + 3) n := by
      have := congrArg List.tail hd
      simpa using this
    rw [laws_heldWordS.l0, if_pos (by omega), if_pos (by omega), rdW_at h1, if_pos rfl, w64 (n := (m : Int) + 1) (by omega) (by omega), show ((m : Int) + 1) = ((m + 1 : Nat) : Int) by omega, markText_is (m + 1) k (by omega) (by omega) (by omega)]
    simp only [Option.bind_some, if_true]
    rw [w64 (n := ((m + 1 : Nat) : Int) + 1) (by omega) (by omega), w64 (by omega) (by omega), w64s i (by omega), if_pos (by omega)]
    rw [show ((m + 1 : Nat) : Int) + 1 + 1 = ((m + 3 : Nat) : Int) by omega, ih (i + 1) (m + 3) k h3' (by omega) (by omega) (by omega), show m + 3 + 3 * n = m + 3 * (n + 1) by omega]
theorem held_is (n : Nat) (hn : n ≤ 9000000) (k : Nat) (hk : 4 * n + 6 ≤ k) : laws_heldWordS.f k (marks 1 n) 1 = some ((1 + 3 * n : Nat) : Int) := by
  unfold laws_heldWordS.f
  exact held_loop (marks 1 n) (by rw [marks_len]; omega) n 0 1 k rfl (by omega) (by omega) (by omega)
end Go.Proofs.YtdofhbcohijpiaaDoor.Q
