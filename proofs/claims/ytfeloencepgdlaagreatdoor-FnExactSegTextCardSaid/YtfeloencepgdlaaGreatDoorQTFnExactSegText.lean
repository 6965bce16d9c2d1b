/- Plain laws over numbers, lists and texts, for the law FnExactSegText: no program in sight. -/
import Derived.Test.YtfeloencepgdlaaGreatDoorWLast
import Derived.Test.YtfeloencepgdlaaGreatDoorWMore
import Derived.Test.YtfeloencepgdlaaGreatDoorWWords
import Derived.Test.YtfeloencepgdlaaGreatDoorQOpen
import Derived.Lib.Strings
import Derived.Lib.Join
import Derived.Lib.AtoiAll
import Derived.Lib.ItoaNum
import Derived.Test.YtfeloencepgdlaaGreatDoorQKinds
import Derived.Test.YtfeloencepgdlaaGreatDoorQx10
import Derived.Test.YtfeloencepgdlaaGreatDoorQx11
import Derived.Test.YtfeloencepgdlaaGreatDoorQx12
import Derived.Test.YtfeloencepgdlaaGreatDoorQx13
import Derived.Test.YtfeloencepgdlaaGreatDoorQx14
import Derived.Test.YtfeloencepgdlaaGreatDoorQx15
import Derived.Test.YtfeloencepgdlaaGreatDoorQx16
import Derived.Test.YtfeloencepgdlaaGreatDoorQx17
import Derived.Test.YtfeloencepgdlaaGreatDoorQx18
import Derived.Test.YtfeloencepgdlaaGreatDoorQx19
import Derived.Test.YtfeloencepgdlaaGreatDoorQx20
import Derived.Test.YtfeloencepgdlaaGreatDoorQx21
import Derived.Test.YtfeloencepgdlaaGreatDoorQx22
import Derived.Test.YtfeloencepgdlaaGreatDoorQx23
import Derived.Test.YtfeloencepgdlaaGreatDoorQx24
import Derived.Test.YtfeloencepgdlaaGreatDoorQx25
import Derived.Test.YtfeloencepgdlaaGreatDoorQx26
import Derived.Test.YtfeloencepgdlaaGreatDoorQXFnExactSegText
import Derived.Test.YtfeloencepgdlaaGreatDoorQx3
import Derived.Test.YtfeloencepgdlaaGreatDoorQx4
import Derived.Test.YtfeloencepgdlaaGreatDoorQx5
import Derived.Test.YtfeloencepgdlaaGreatDoorQx6
import Derived.Test.YtfeloencepgdlaaGreatDoorQx7
import Derived.Test.YtfeloencepgdlaaGreatDoorQx8
import Derived.Test.YtfeloencepgdlaaGreatDoorQx9
namespace Go.Proofs.YtfeloencepgdlaaGreatDoor.Q
open Go.RowKit Go.Proofs.YtfeloencepgdlaaGreatDoorW.PrintWords Go.Proofs.YtfeloencepgdlaaGreatDoorW.PrintLast Go.Proofs.YtfeloencepgdlaaGreatDoorW.PrintMore
open Go.Proofs.YtfeloencepgdlaaGreatDoor.Open
set_option linter.unusedSimpArgs false
set_option linter.unusedVariables false
theorem drop_cons {α : Type} {l : List α} {i : Nat} {x : α} {t : List α} (h : l.drop i = x :: t) : i < l.length ∧ l[i]? = some x ∧ l.drop (i + 1) = t := by
  have h1 : i < l.length := by
    rcases Nat.lt_or_ge i l.length with h1 | h1
    · exact h1
    · rw [List.drop_eq_nil_of_le h1] at h; simp at h
  refine ⟨h1, ?_, ?_⟩
  · have := congrArg (fun z => z[0]?) h
    simpa using this
  · have := congrArg List.tail h
    simpa using this
theorem drop_nil {α : Type} {l : List α} {i : Nat} (h : l.drop i = []) : l.length ≤ i := by simpa using h
theorem w64 {n : Int} (h1 : -9223372036854775808 ≤ n) (h2 : n ≤ 9223372036854775807) : wrap64 n = n := by unfold wrap64; omega
theorem w64s (i : Nat) (h : i < 9223372036854775807) : wrap64 ((i : Int) + 1) = ((i + 1 : Nat) : Int) := by
  rw [w64 (by omega) (by omega)]; omega
end Go.Proofs.YtfeloencepgdlaaGreatDoor.Q
namespace Go.Proofs.YtfeloencepgdlaaGreatDoor.Q
open Go.RowKit Go.Proofs.YtfeloencepgdlaaGreatDoorW.PrintWords Go.Proofs.YtfeloencepgdlaaGreatDoorW.PrintLast Go.Proofs.YtfeloencepgdlaaGreatDoorW.PrintMore
open Go.Proofs.YtfeloencepgdlaaGreatDoor.Open
set_option linter.unusedSimpArgs false
set_option linter.unusedVariables false
theorem toL (s : ByteArray) : s.toList = s.data.toList := Lib.toList_data s
theorem sizeL (s : ByteArray) : s.size = s.data.toList.length := Lib.size_eq s
theorem extL (s : ByteArray) (a b : Nat) : (s.extract a b).data.toList = (s.data.toList.drop a).take (b - a) := Lib.extract_data s a b
theorem ext_all (s : ByteArray) (a : Nat) : (s.extract a s.size).data.toList = s.data.toList.drop a := by
  rw [extL, sizeL, List.take_of_length_le (by simp)]
theorem ext_head (s : ByteArray) (b : Nat) : (s.extract 0 b).data.toList = s.data.toList.take b := by rw [extL]; simp
theorem eqL {s t : ByteArray} (h : s.data.toList = t.data.toList) : s = t := by
  rw [← Lib.mk_data s, h, Lib.mk_data]
theorem bt_at_ {s : ByteArray} {i : Nat} {c : UInt8} (h : s.data.toList[i]? = some c) : bt s (i : Int) = (c.toNat : Int) := by
  obtain ⟨hi, e⟩ := List.getElem?_eq_some_iff.1 h
  have hs : i < s.size := by rw [sizeL]; exact hi
  unfold bt
  rw [dif_pos (by simpa using hs)]
  have : s[i] = c := by rw [← e]; simp [ByteArray.getElem_eq_getElem_data]
  simp only [Int.toNat_natCast, this]
theorem bt_zero {s : ByteArray} {c : UInt8} {r : List UInt8} (h : s.data.toList = c :: r) : bt s 0 = (c.toNat : Int) := bt_at_ (i := 0) (by rw [h]; rfl)
theorem u8_lt (c : UInt8) : c.toNat < 256 := UInt8.toNat_lt c
theorem u8_eq {c d : UInt8} (h : c.toNat = d.toNat) : c = d := UInt8.toNat_inj.1 h
theorem app_mk' (a b : ByteArray) : (a ++ b).data.toList = a.data.toList ++ b.data.toList := by simp [ByteArray.data_append]
end Go.Proofs.YtfeloencepgdlaaGreatDoor.Q
namespace Go.Proofs.YtfeloencepgdlaaGreatDoor.Q
open Go.RowKit Go.Proofs.YtfeloencepgdlaaGreatDoorW.PrintWords Go.Proofs.YtfeloencepgdlaaGreatDoorW.PrintLast Go.Proofs.YtfeloencepgdlaaGreatDoorW.PrintMore
open Go.Proofs.YtfeloencepgdlaaGreatDoor.Open
set_option linter.unusedSimpArgs false
set_option linter.unusedVariables false
def jl (xs : List ByteArray) (sep : List UInt8) : List UInt8 := Lib.join (xs.map (·.data.toList)) sep
theorem jl_nil (sep : List UInt8) : jl [] sep = [] := rfl
theorem jl_one (x : ByteArray) (sep : List UInt8) : jl [x] sep = x.data.toList := Lib.join_one _ _
theorem tail_app (sep : List UInt8) : ∀ (xs ys : List (List UInt8)), Lib.joinTail sep (xs ++ ys) = Lib.joinTail sep xs ++ Lib.joinTail sep ys
  | [], ys => by simp [Lib.joinTail]
  | x :: xs, ys => by
    have e : ∀ (z : List UInt8) (zs : List (List UInt8)), Lib.joinTail sep (z :: zs) = sep ++ z ++ Lib.joinTail sep zs := fun _ _ => rfl
    rw [List.cons_append, e, e, tail_app sep xs ys]; simp
theorem jl_snoc (xs : List ByteArray) (x : ByteArray) (sep : List UInt8) (h : xs ≠ []) : jl (xs ++ [x]) sep = jl xs sep ++ sep ++ x.data.toList := by
  cases xs with
  | nil => exact absurd rfl h
  | cons y ys =>
    unfold jl
    rw [List.cons_append, List.map_cons, List.map_cons, Lib.join_cons, Lib.join_cons, List.map_append, tail_app]
    have e : Lib.joinTail sep (List.map (·.data.toList) [x]) = sep ++ x.data.toList := by
      show sep ++ x.data.toList ++ [] = _
      rw [List.append_nil]
    rw [e]; simp
theorem jl_le (B : Nat) (sep : List UInt8) : ∀ xs : List ByteArray, (∀ x ∈ xs, x.size ≤ B) → (jl xs sep).length ≤ xs.length * (B + sep.length)
  | [], _ => by simp [jl_nil]
  | y :: ys, h => by
    have tl : ∀ zs : List ByteArray, (∀ x ∈ zs, x.size ≤ B) → (Lib.joinTail sep (zs.map (·.data.toList))).length ≤ zs.length * (B + sep.length) := by
      intro zs
      induction zs with
      | nil => intro _; simp [Lib.joinTail]
      | cons z zs ih =>
        intro hz
        have e : Lib.joinTail sep ((z :: zs).map (·.data.toList)) = sep ++ z.data.toList ++ Lib.joinTail sep (zs.map (·.data.toList)) := rfl
        have h1 := ih (fun x hx => hz x (by simp [hx]))
        have h2 := hz z (by simp)
        rw [e, List.length_append, List.length_append, ← sizeL, List.length_cons, Nat.add_mul]
        omega
    unfold jl
    rw [List.map_cons, Lib.join_cons, List.length_append, ← sizeL, List.length_cons, Nat.add_mul]
    have h1 := tl ys (fun x hx => h x (by simp [hx]))
    have h2 := h y (by simp)
    omega
theorem i_join (xs : List ByteArray) (sep : ByteArray) (h1 : xs.length ≤ 140737488355328) (h2 : (jl xs sep.data.toList).length ≤ 140737488355328) : strings_Join.f xs sep = some ⟨(jl xs sep.data.toList).toArray⟩ := by
  unfold strings_Join.f
  rw [if_pos ⟨h1, h2⟩]; rfl
end Go.Proofs.YtfeloencepgdlaaGreatDoor.Q
namespace Go.Proofs.YtfeloencepgdlaaGreatDoor.Q
open Go.RowKit Go.Proofs.YtfeloencepgdlaaGreatDoorW.PrintWords Go.Proofs.YtfeloencepgdlaaGreatDoorW.PrintLast Go.Proofs.YtfeloencepgdlaaGreatDoorW.PrintMore
open Go.Proofs.YtfeloencepgdlaaGreatDoor.Open
set_option linter.unusedSimpArgs false
set_option linter.unusedVariables false
def isDig (c : UInt8) : Prop := 48 ≤ c.toNat ∧ c.toNat ≤ 57
def dval (acc : Nat) (l : List UInt8) : Nat := l.foldl (fun a c => a * 10 + (c.toNat - 48)) acc
theorem dval_nil (acc : Nat) : dval acc [] = acc := by unfold dval; rw [List.foldl_nil]
theorem dval_cons (acc : Nat) (c : UInt8) (r : List UInt8) : dval acc (c :: r) = dval (acc * 10 + (c.toNat - 48)) r := by
  unfold dval
  rw [List.foldl_cons]
theorem dval_snoc (c : UInt8) (l : List UInt8) (acc : Nat) : dval acc (l ++ [c]) = dval acc l * 10 + (c.toNat - 48) := by
  unfold dval
  rw [List.foldl_append, List.foldl_cons, List.foldl_nil]
theorem dval_ge : ∀ (l : List UInt8) (acc : Nat), acc ≤ dval acc l
  | [], acc => Nat.le_refl _
  | c :: l, acc => by simp only [dval_cons, dval_nil]; have := dval_ge l (acc * 10 + (c.toNat - 48)); omega
theorem ofNat_dig (d : Nat) (h : d < 10) : (UInt8.ofNat (48 + d)).toNat = 48 + d := by simp; omega
theorem isDig_ofNat (d : Nat) (h : d < 10) : isDig (UInt8.ofNat (48 + d)) := by unfold isDig; rw [ofNat_dig d h]; omega
theorem dig_ofNat {c : UInt8} (h : isDig c) : UInt8.ofNat (48 + (c.toNat - 48)) = c := by
  unfold isDig at h
  rw [show 48 + (c.toNat - 48) = c.toNat by omega]
  simp
theorem dec_digs (u : Nat) : ∀ c ∈ Lib.decDigits u, isDig c := by
  induction u using Nat.strongRecOn with
  | _ u ih =>
    rw [Lib.decDigits]
    split
    · rename_i h; intro c hc; simp only [List.mem_singleton] at hc; subst hc; exact isDig_ofNat u h
    · intro c hc
      rcases List.mem_append.1 hc with h | h
      · exact ih (u / 10) (by omega) c h
      · simp only [List.mem_singleton] at h; subst h; exact isDig_ofNat _ (by omega)
theorem dval_dec (u : Nat) : dval 0 (Lib.decDigits u) = u := by
  induction u using Nat.strongRecOn with
  | _ u ih =>
    rw [Lib.decDigits]
    split
    · rename_i h; simp only [dval_cons, dval_nil, ofNat_dig u h]; omega
    · rw [dval_snoc, ih (u / 10) (by omega), ofNat_dig _ (by omega)]; omega
theorem dec_ne (u : Nat) : Lib.decDigits u ≠ [] := by rw [Lib.decDigits]; split <;> simp
theorem dec_head (u : Nat) (hu : 1 ≤ u) : ∃ c r, Lib.decDigits u = c :: r ∧ isDig c ∧ c.toNat ≠ 48 := by
  induction u using Nat.strongRecOn with
  | _ u ih =>
    rw [Lib.decDigits]
    split
    · rename_i h; exact ⟨_, [], rfl, isDig_ofNat u h, by rw [ofNat_dig u h]; omega⟩
    · obtain ⟨c, r, e, h1, h2⟩ := ih (u / 10) (by omega) (by omega)
      exact ⟨c, r ++ [_], by rw [e]; rfl, h1, h2⟩
theorem dec_of_dval (l : List UInt8) : l ≠ [] → (∀ c ∈ l, isDig c) → (1 < l.length → ∀ c, l.head? = some c → c.toNat ≠ 48) → Lib.decDigits (dval 0 l) = l := by
  induction h : l.length using Nat.strongRecOn generalizing l with
  | _ n ih =>
    intro h0 hd hz
    have e : l = l.dropLast ++ [l.getLast h0] := (List.dropLast_concat_getLast h0).symm
    have hcd := hd (l.getLast h0) (List.getLast_mem h0)
    generalize l.getLast h0 = c at e hcd
    generalize l.dropLast = p at e
    subst e
    rw [dval_snoc]
    have hcd' := hcd
    unfold isDig at hcd'
    by_cases hp : p = []
    · subst hp
      rw [Lib.decDigits, dif_pos (by simp only [dval_cons, dval_nil]; omega)]
      simp only [dval_cons, dval_nil, Nat.zero_mul, Nat.zero_add, List.nil_append, dig_ofNat hcd]
    · have hpl : 0 < p.length := List.length_pos_iff.2 hp
      have hhead : ∀ x, p.head? = some x → x.toNat ≠ 48 := fun x hx => hz (by simp at h ⊢; omega) x (by rw [List.head?_append, hx]; rfl)
      have i1 := ih p.length (by simp at h; omega) p rfl hp (fun x hx => hd x (by simp [hx])) (fun _ => hhead)
      have pos : 1 ≤ dval 0 p := by
        cases p with
        | nil => exact absurd rfl hp
        | cons x r =>
          have a := hhead x rfl
          have b := hd x (by simp)
          unfold isDig at b
          have := dval_ge r (0 * 10 + (x.toNat - 48))
          simp only [dval_cons, dval_nil]; omega
      rw [Lib.decDigits, dif_neg (by omega), show (dval 0 p * 10 + (c.toNat - 48)) / 10 = dval 0 p by omega, show (dval 0 p * 10 + (c.toNat - 48)) % 10 = c.toNat - 48 by omega, i1, dig_ofNat hcd]
theorem dec_len10 (k : Nat) : ∀ u, u < 10 ^ (k + 1) → (Lib.decDigits u).length ≤ k + 1 := by
  induction k with
  | zero => intro u hu; rw [Lib.decDigits, dif_pos (by simpa using hu)]; simp
  | succ k ih =>
    intro u hu
    rw [Lib.decDigits]
    split
    · simp
    · have := ih (u / 10) (by rw [Nat.pow_succ] at hu; omega)
      simp; omega
theorem parse_digs : ∀ (l : List UInt8) (acc : Nat), (∀ c ∈ l, isDig c) → dval acc l < 1000000000 → Lib.parseUint10 acc l = .ok (dval acc l)
  | [], acc, _, _ => rfl
  | c :: l, acc, hd, hv => by
    have hc := hd c (by simp)
    unfold isDig at hc
    rw [dval_cons] at hv ⊢
    have hge := dval_ge l (acc * 10 + (c.toNat - 48))
    rw [Lib.parseUint10, if_pos hc, if_neg (by omega), if_neg (by omega)]
    exact parse_digs l _ (fun x hx => hd x (by simp [hx])) hv
theorem atoi_dec (u : Nat) (hu : u < 1000000000) : Lib.atoiAll (Lib.decDigits u) = .ok (u : Int) := by
  have hp := parse_digs (Lib.decDigits u) 0 (dec_digs u) (by rw [dval_dec]; omega)
  rw [dval_dec] at hp
  have hd := dec_digs u
  have hne := dec_ne u
  cases e : Lib.decDigits u with
  | nil => exact absurd e hne
  | cons c r =>
    rw [e] at hp hd
    have hc := hd c (by simp)
    unfold isDig at hc
    unfold Lib.atoiAll
    simp only
    rw [if_neg (by omega)]
    unfold Lib.parseMag
    rw [if_neg (by simp), hp]
    simp only
    rw [if_neg (by omega), if_neg (by omega), if_neg (by omega)]
theorem atoi_neg_dec (u : Nat) (h1 : 1 ≤ u) (hu : u < 1000000000) : Lib.atoiAll (45 :: Lib.decDigits u) = .ok (-(u : Int)) := by
  have hp := parse_digs (Lib.decDigits u) 0 (dec_digs u) (by rw [dval_dec]; omega)
  rw [dval_dec] at hp
  unfold Lib.atoiAll
  simp only
  rw [if_pos (by decide)]
  unfold Lib.parseMag
  rw [if_neg (dec_ne u), hp]
  simp only
  rw [if_neg (by simp), if_neg (by omega), if_pos (by decide)]
theorem itoa_pos (u : Nat) : Lib.itoa (u : Int) = Lib.decDigits u := by unfold Lib.itoa; rw [if_neg (by omega)]; simp
theorem itoa_neg' (u : Nat) (h : 1 ≤ u) : Lib.itoa (-(u : Int)) = 45 :: Lib.decDigits u := by unfold Lib.itoa; rw [if_pos (by omega)]; simp
theorem int_cases (n : Int) : (∃ u : Nat, n = (u : Int)) ∨ ∃ u : Nat, 1 ≤ u ∧ n = -(u : Int) := by
  by_cases h : 0 ≤ n
  · exact .inl ⟨n.toNat, by omega⟩
  · exact .inr ⟨n.natAbs, by omega, by omega⟩
theorem atoi_itoa (n : Int) (h1 : -1000000 ≤ n) (h2 : n ≤ 1000000) : Lib.atoiAll (Lib.itoa n) = .ok n := by
  rcases int_cases n with ⟨u, rfl⟩ | ⟨u, hu, rfl⟩
  · rw [itoa_pos]; exact atoi_dec u (by omega)
  · rw [itoa_neg' u hu]; exact atoi_neg_dec u hu (by omega)
end Go.Proofs.YtfeloencepgdlaaGreatDoor.Q
namespace Go.Proofs.YtfeloencepgdlaaGreatDoor.Q
open Go.RowKit Go.Proofs.YtfeloencepgdlaaGreatDoorW.PrintWords Go.Proofs.YtfeloencepgdlaaGreatDoorW.PrintLast Go.Proofs.YtfeloencepgdlaaGreatDoorW.PrintMore
open Go.Proofs.YtfeloencepgdlaaGreatDoor.Open
set_option linter.unusedSimpArgs false
set_option linter.unusedVariables false
def digB (c : UInt8) : Bool := decide (48 ≤ c.toNat) && decide (c.toNat ≤ 57)
theorem digB_iff (c : UInt8) : digB c = true ↔ isDig c := by unfold digB isDig; simp
theorem all_digs (l : List UInt8) : l.all digB = true ↔ ∀ c ∈ l, isDig c := by simp [List.all_eq_true, digB_iff]
theorem s_digit (c : UInt8) : spec_l01Digit.f (c.toNat : Int) = some (digB c) := by
  unfold spec_l01Digit.f digB
  by_cases h : 48 ≤ c.toNat
  · rw [if_pos (by omega)]; simp [h]; omega
  · rw [if_neg (by omega)]; simp [h]
end Go.Proofs.YtfeloencepgdlaaGreatDoor.Q
namespace Go.Proofs.YtfeloencepgdlaaGreatDoor.Q
open Go.RowKit Go.Proofs.YtfeloencepgdlaaGreatDoorW.PrintWords Go.Proofs.YtfeloencepgdlaaGreatDoorW.PrintLast Go.Proofs.YtfeloencepgdlaaGreatDoorW.PrintMore
open Go.Proofs.YtfeloencepgdlaaGreatDoor.Open
set_option linter.unusedSimpArgs false
set_option linter.unusedVariables false
/-- What the text of a number is read as (impl_readNum.f). -/
theorem numOf_itoa (n : Int) (h1 : -1000000 ≤ n) (h2 : n ≤ 1000000) : numOf (Lib.itoa n) = (n, true) := by
  unfold numOf; rw [atoi_itoa n h1 h2]; simp
theorem numOf_true {l : List UInt8} (h : (numOf l).2 = true) : l = Lib.itoa (numOf l).1 := by
  unfold numOf at h ⊢
  cases e : Lib.atoiAll l with
  | ok v => rw [e] at h; simpa using (beq_iff_eq.1 h).symm
  | «syntax» => rw [e] at h; simp at h
  | range => rw [e] at h; simp at h
end Go.Proofs.YtfeloencepgdlaaGreatDoor.Q
namespace Go.Proofs.YtfeloencepgdlaaGreatDoor.Q
open Go.RowKit Go.Proofs.YtfeloencepgdlaaGreatDoorW.PrintWords Go.Proofs.YtfeloencepgdlaaGreatDoorW.PrintLast Go.Proofs.YtfeloencepgdlaaGreatDoorW.PrintMore
open Go.Proofs.YtfeloencepgdlaaGreatDoor.Open
set_option linter.unusedSimpArgs false
set_option linter.unusedVariables false
def hasL (l : List ByteArray) (s : List UInt8) : Bool := l.any fun x => x.data.toList == s
theorem hasL_cons (x : ByteArray) (t : List ByteArray) (s : List UInt8) : hasL (x :: t) s = (x.data.toList == s || hasL t s) := by unfold hasL; rw [List.any_cons]
theorem rdOf_at {α : Type} {d : α} {l : List α} {i : Nat} {x : α} (h : l[i]? = some x) : rdOf d l (i : Int) = x := by
  unfold rdOf; simp [List.getD, h]
theorem s_has_loop (l : List ByteArray) (s : ByteArray) (hl : l.length ≤ 1000) : ∀ (t : List ByteArray) (i k : Nat), l.drop i = t → t.length < k → spec_l01Has.l0 k l s (i : Int) = some (hasL t s.data.toList) := by
  intro t
  induction t with
  | nil =>
    intro i k hd hk
    obtain ⟨k, rfl⟩ : ∃ m, k = m + 1 := ⟨k - 1, by omega⟩
    have := drop_nil hd
    rw [spec_l01Has.l0, if_neg (by omega)]; rfl
  | cons x t ih =>
    intro i k hd hk
    obtain ⟨k, rfl⟩ : ∃ m, k = m + 1 := ⟨k - 1, by omega⟩
    obtain ⟨h1, h2, h3⟩ := drop_cons hd
    rw [spec_l01Has.l0, if_pos (by omega), if_pos (by omega), rdOf_at h2, toL, toL, w64s i (by omega), ih (i + 1) k h3 (by simp at hk; omega)]
    rw [hasL_cons]
    by_cases h : x.data.toList = s.data.toList
    · rw [if_pos h, beq_iff_eq.2 h]; rfl
    · rw [if_neg h, beq_eq_false_iff_ne.2 h]; rfl
theorem s_has (l : List ByteArray) (s : ByteArray) (hl : l.length ≤ 1000) (k : Nat) (hk : l.length < k) : spec_l01Has.f k l s = some (hasL l s.data.toList) :=
  s_has_loop l s hl l 0 k rfl hk
theorem i_index_loop (l : List ByteArray) (s : ByteArray) (hl : l.length ≤ 1000) : ∀ (t : List ByteArray) (i k : Nat), l.drop i = t → t.length < k → ∃ r, slices_Index_string_string.l0 k l s (l.length : Int) (i : Int) = some r ∧ decide (r ≥ 0) = hasL t s.data.toList := by
  intro t
  induction t with
  | nil =>
    intro i k hd hk
    obtain ⟨k, rfl⟩ : ∃ m, k = m + 1 := ⟨k - 1, by omega⟩
    have := drop_nil hd
    rw [slices_Index_string_string.l0, if_neg (by omega)]; exact ⟨_, rfl, rfl⟩
  | cons x t ih =>
    intro i k hd hk
    obtain ⟨k, rfl⟩ : ∃ m, k = m + 1 := ⟨k - 1, by omega⟩
    obtain ⟨h1, h2, h3⟩ := drop_cons hd
    rw [slices_Index_string_string.l0, if_pos (by omega), if_pos (by omega), if_pos (by omega), rdOf_at h2, toL, toL, w64s i (by omega)]
    by_cases h : s.data.toList = x.data.toList
    · rw [if_pos h]; refine ⟨_, rfl, ?_⟩; rw [hasL_cons, beq_iff_eq.2 h.symm]; simp
    · rw [if_neg h]
      obtain ⟨r, e1, e2⟩ := ih (i + 1) k h3 (by simp at hk; omega)
      refine ⟨r, e1, e2.trans ?_⟩
      have h' : ¬ x.data.toList = s.data.toList := fun e => h e.symm
      rw [hasL_cons, beq_eq_false_iff_ne.2 h']; rfl
theorem i_has (l : List ByteArray) (s : ByteArray) (hl : l.length ≤ 1000) (k : Nat) (hk : l.length < k) : slices_Contains_string_string.f k l s = some (hasL l s.data.toList) := by
  obtain ⟨r, e1, e2⟩ := i_index_loop l s hl l 0 k rfl hk
  unfold slices_Contains_string_string.f slices_Index_string_string.f
  rw [show (0 : Int) = ((0 : Nat) : Int) from rfl, e1]
  simp only [Option.bind_some]
  exact congrArg some e2
def letB (c : UInt8) : Bool := decide (97 ≤ c.toNat) && decide (c.toNat ≤ 122)
theorem s_letter (c : UInt8) : spec_l01Letter.f (c.toNat : Int) = some (letB c) := by
  unfold spec_l01Letter.f letB
  by_cases h : 97 ≤ c.toNat
  · rw [if_pos (by omega)]; simp [h]; omega
  · rw [if_neg (by omega)]; simp [h]
theorem i_letter (c : UInt8) : impl_isLetter.f (c.toNat : Int) = some (letB c) := by
  unfold impl_isLetter.f letB
  by_cases h : 97 ≤ c.toNat
  · rw [if_pos (by omega)]; simp [h]; omega
  · rw [if_neg (by omega)]; simp [h]
theorem i_digit (c : UInt8) : impl_isDigit.f (c.toNat : Int) = some (digB c) := by
  unfold impl_isDigit.f digB
  by_cases h : 48 ≤ c.toNat
  · rw [if_pos (by omega)]; simp [h]; omega
  · rw [if_neg (by omega)]; simp [h]
def keys : List ByteArray := [(⟨#[97, 114, 114, 97, 121]⟩ : ByteArray), (⟨#[99, 104, 101, 99, 107]⟩ : ByteArray), (⟨#[101, 108, 115, 101]⟩ : ByteArray), (⟨#[102, 111, 114]⟩ : ByteArray), (⟨#[102, 114, 111, 109]⟩ : ByteArray), (⟨#[105, 102]⟩ : ByteArray), (⟨#[108, 101, 110]⟩ : ByteArray), (⟨#[114, 101, 97, 100]⟩ : ByteArray), (⟨#[115, 107, 105, 112]⟩ : ByteArray), (⟨#[115, 116, 111, 112]⟩ : ByteArray), (⟨#[116, 111]⟩ : ByteArray), (⟨#[118, 97, 114]⟩ : ByteArray), (⟨#[119, 104, 105, 108, 101]⟩ : ByteArray)]
def ones : List ByteArray := [(⟨#[43]⟩ : ByteArray), (⟨#[45]⟩ : ByteArray), (⟨#[42]⟩ : ByteArray), (⟨#[40]⟩ : ByteArray), (⟨#[41]⟩ : ByteArray), (⟨#[91]⟩ : ByteArray), (⟨#[93]⟩ : ByteArray), (⟨#[123]⟩ : ByteArray), (⟨#[125]⟩ : ByteArray), (⟨#[59]⟩ : ByteArray), (⟨#[61]⟩ : ByteArray), (⟨#[60]⟩ : ByteArray), (⟨#[62]⟩ : ByteArray), (⟨#[63]⟩ : ByteArray)]
def twos : List ByteArray := [(⟨#[61, 61]⟩ : ByteArray), (⟨#[33, 61]⟩ : ByteArray), (⟨#[60, 61]⟩ : ByteArray), (⟨#[62, 61]⟩ : ByteArray)]
def wordB (c : UInt8) : Bool := letB c || digB c
def nameB (l : List UInt8) : Bool := decide (l.length ≤ 8) && (l.head?.any letB) && l.all wordB
def numB (l : List UInt8) : Bool := !(l.isEmpty || decide (7 < l.length) || (decide (1 < l.length) && l.head? == some 48)) && (l.all digB && decide (dval 0 l ≤ 1000000))
def kindL (l : List UInt8) : Int := if hasL keys l = true then 4 else if nameB l = true then 1 else if numB l = true then 2 else if hasL (ones ++ twos) l = true then 3 else 0
theorem s_key (s : ByteArray) (k : Nat) (hk : 40 ≤ k) : spec_l01Key.f k s = some (hasL keys s.data.toList) := by
  unfold spec_l01Key.f
  rw [s_has _ _ (by simp) k (by simp; omega)]; rfl
theorem i_key (s : ByteArray) (k : Nat) (hk : 40 ≤ k) : impl_isKey.f k s = some (hasL keys s.data.toList) := by
  unfold impl_isKey.f
  rw [i_has _ _ (by simp) k (by simp; omega)]; rfl
theorem s_name_loop (s : ByteArray) (hl : s.size ≤ 1048576) : ∀ (t : List UInt8) (i k : Nat), s.data.toList.drop i = t → t.length < k → spec_l01Name.l0 k s (i : Int) = some (t.all wordB) := by
  intro t
  induction t with
  | nil =>
    intro i k hd hk
    obtain ⟨k, rfl⟩ : ∃ m, k = m + 1 := ⟨k - 1, by omega⟩
    have := drop_nil hd
    rw [← sizeL] at this
    rw [spec_l01Name.l0, if_neg (by omega)]; rfl
  | cons c t ih =>
    intro i k hd hk
    obtain ⟨k, rfl⟩ : ∃ m, k = m + 1 := ⟨k - 1, by omega⟩
    obtain ⟨h1, h2, h3⟩ := drop_cons hd
    rw [← sizeL] at h1
    rw [spec_l01Name.l0, if_pos (by omega), if_pos (by omega), bt_at_ h2, s_letter, s_digit, w64s i (by omega), ih (i + 1) k h3 (by simp at hk; omega)]
    rw [List.all_cons, wordB]
    simp only [Option.bind_some]
    cases letB c <;> cases digB c <;> simp
theorem s_name (s : ByteArray) (hl : s.size ≤ 1048576) (k : Nat) (hk : s.size + 40 ≤ k) (hkey : hasL keys s.data.toList = false) : spec_l01Name.f k s = some (nameB s.data.toList) := by
  have stop : spec_l01Name.j0 k s true = some false := by
    obtain ⟨k, rfl⟩ : ∃ m, k = m + 1 := ⟨k - 1, by omega⟩
    rw [spec_l01Name.j0, if_pos rfl]
  have go : spec_l01Name.j0 k s false = some (s.data.toList.all wordB) := by
    obtain ⟨k, rfl⟩ : ∃ m, k = m + 1 := ⟨k - 1, by omega⟩
    rw [spec_l01Name.j0, if_neg (by simp)]
    exact s_name_loop s hl _ 0 k rfl (by rw [← sizeL]; omega)
  have hz := sizeL s
  unfold spec_l01Name.f nameB
  rcases e : s.data.toList with _ | ⟨c, r⟩
  · rw [e] at hz
    have hz0 : s.size = 0 := hz
    rw [if_pos (by omega), stop]; rfl
  · rw [e] at hz
    simp only [List.length_cons] at hz
    rw [if_neg (by omega)]
    by_cases h8 : (s.size : Int) > 8
    · rw [if_pos h8, stop]; simp; omega
    · rw [if_neg h8, if_pos (by omega), bt_zero e, s_letter, s_key s k (by omega), hkey]
      simp only [Option.bind_some]
      cases hb : letB c with
      | true =>
        rw [if_pos rfl, go, e]
        have h7 : r.length + 1 ≤ 8 := by omega
        simp [hb, h7]
      | false => rw [if_neg (by simp), stop]; simp [hb]
theorem num_itoa (l : List UInt8) : numB l = true ↔ ∃ u : Nat, u ≤ 1000000 ∧ l = Lib.decDigits u := by
  unfold numB
  simp only [Bool.and_eq_true, Bool.not_eq_true', Bool.or_eq_false_iff, decide_eq_true_eq, decide_eq_false_iff_not, Bool.and_eq_false_iff, beq_eq_false_iff_ne, ne_eq, List.isEmpty_eq_false_iff]
  constructor
  · rintro ⟨⟨⟨h1, h2⟩, h3⟩, h4, h5⟩
    refine ⟨dval 0 l, h5, (dec_of_dval l h1 ((all_digs l).1 h4) ?_).symm⟩
    intro hl c hc e
    rcases h3 with h3 | h3
    · exact h3 hl
    · exact h3 (by rw [hc, show c = 48 from u8_eq e])
  · rintro ⟨u, hu, rfl⟩
    refine ⟨⟨⟨dec_ne u, ?_⟩, ?_⟩, (all_digs _).2 (dec_digs u), by rw [dval_dec]; exact hu⟩
    · have := dec_len10 6 u (by omega); omega
    · rcases Nat.eq_zero_or_pos u with rfl | h
      · left; rw [Lib.decDigits, dif_pos (by omega)]; simp
      · right
        obtain ⟨c, r, e1, _, e2⟩ := dec_head u h
        rw [e1]
        intro h'
        simp only [List.head?_cons, Option.some.injEq] at h'
        rw [h'] at e2; exact e2 rfl
theorem sign_head {c : UInt8} {r : List UInt8} (h : hasL (ones ++ twos) (c :: r) = true) : letB c = false ∧ digB c = false := by
  simp only [hasL, ones, twos, List.cons_append, List.nil_append, List.any_cons, List.any_nil, Bool.or_eq_true, beq_iff_eq, List.cons.injEq, Bool.or_false] at h
  rcases h with h | h | h | h | h | h | h | h | h | h | h | h | h | h | h | h | h | h <;> (rw [← h.1]; decide)
theorem one_fin : ∀ n : Fin 256, Lib.contains [43, 45, 42, 40, 41, 91, 93, 123, 125, 59, 61, 60, 62, 63] [UInt8.ofNat n.val] = hasL ones [UInt8.ofNat n.val] := by decide +kernel
theorem one_sign (c : UInt8) : Lib.contains [43, 45, 42, 40, 41, 91, 93, 123, 125, 59, 61, 60, 62, 63] [c] = hasL ones [c] := by
  have := one_fin ⟨c.toNat, u8_lt c⟩
  simpa using this
theorem ones_len {l : List UInt8} (h : l.length ≠ 1) : hasL ones l = false := by
  cases e : hasL ones l with
  | false => rfl
  | true =>
    simp only [hasL, ones, List.any_cons, List.any_nil, Bool.or_eq_true, beq_iff_eq, Bool.or_false] at e
    rcases e with e | e | e | e | e | e | e | e | e | e | e | e | e | e <;> exact absurd (by rw [← e]; rfl) h
theorem i_kind_loop (s : ByteArray) (hl : s.size ≤ 1048576) : ∀ (t : List UInt8) (i k : Nat), s.data.toList.drop i = t → t.length < k →
    impl_kindOf.l0 k s (s.size : Int) (i : Int) = some (if t.all wordB = true then (if s.size ≤ 8 then 1 else 0) else 0) := by
  intro t
  induction t with
  | nil =>
    intro i k hd hk
    obtain ⟨k, rfl⟩ : ∃ m, k = m + 1 := ⟨k - 1, by omega⟩
    have := drop_nil hd
    rw [← sizeL] at this
    rw [impl_kindOf.l0, if_neg (by omega)]
    simp only [List.all_nil, if_true]
    by_cases h : s.size ≤ 8
    · rw [if_pos (by omega), if_pos h]
    · rw [if_neg (by omega), if_neg h]
  | cons c t ih =>
    intro i k hd hk
    obtain ⟨k, rfl⟩ : ∃ m, k = m + 1 := ⟨k - 1, by omega⟩
    obtain ⟨h1, h2, h3⟩ := drop_cons hd
    rw [← sizeL] at h1
    rw [impl_kindOf.l0, if_pos (by omega), if_pos (by omega), if_pos (by omega), bt_at_ h2, i_letter, i_digit, w64s i (by omega), ih (i + 1) k h3 (by simp at hk; omega)]
    rw [List.all_cons, wordB]
    simp only [Option.bind_some]
    cases letB c <;> cases digB c <;> simp
theorem let_dig {c : UInt8} (h : letB c = true) : digB c = false := by
  unfold letB at h; unfold digB
  simp only [Bool.and_eq_true, decide_eq_true_eq] at h
  simp; omega
theorem i_kind (s : ByteArray) (hl : s.size ≤ 1048576) (k : Nat) (hk : s.size + 40 ≤ k) : impl_kindOf.f k s = some (kindL s.data.toList) := by
  have hz := sizeL s
  unfold impl_kindOf.f
  rw [toL]
  rcases e : s.data.toList with _ | ⟨c, r⟩
  · rw [if_pos rfl]; rfl
  · rw [e] at hz
    simp only [List.length_cons] at hz
    rw [if_neg (List.cons_ne_nil c r), i_key s k (by omega), e]
    simp only [Option.bind_some]
    unfold kindL
    cases hkey : hasL keys (c :: r) with
    | true => simp
    | false =>
      simp only [Bool.false_eq_true, if_false]
      rw [if_pos (by omega), bt_zero e, i_letter, i_digit]
      simp only [Option.bind_some]
      cases hlet : letB c with
      | true =>
        rw [if_pos rfl, show (0 : Int) = ((0 : Nat) : Int) from rfl, i_kind_loop s hl _ 0 k rfl (by simp only [List.drop_zero, ← sizeL]; omega), List.drop_zero, e]
        have hnum : numB (c :: r) = false := by
          unfold numB; simp [let_dig hlet]
        have hsig : hasL (ones ++ twos) (c :: r) = false := by
          cases q : hasL (ones ++ twos) (c :: r) with
          | false => rfl
          | true => rw [(sign_head q).1] at hlet; cases hlet
        rw [hnum, hsig]
        unfold nameB
        by_cases h8 : s.size ≤ 8
        · have : r.length + 1 ≤ 8 := by omega
          rw [if_pos h8]
          simp [this, hlet, wordB]
        · have : ¬ r.length + 1 ≤ 8 := by omega
          rw [if_neg h8]
          simp [this]
      | false =>
        have hname : nameB (c :: r) = false := by unfold nameB; simp [hlet]
        rw [hname]
        simp only [Bool.false_eq_true, if_false]
        cases hdig : digB c with
        | true =>
          have hsig : hasL (ones ++ twos) (c :: r) = false := by
            cases q : hasL (ones ++ twos) (c :: r) with
            | false => rfl
            | true => rw [(sign_head q).2] at hdig; cases hdig
          rw [if_pos rfl, hsig]
          unfold impl_readNum.f
          rw [if_pos (by omega), e]
          simp only [Option.bind_some]
          have key : ((numOf (c :: r)).2 = true ∧ (numOf (c :: r)).1 ≤ 1000000) ↔ numB (c :: r) = true := by
            rw [num_itoa]
            constructor
            · rintro ⟨h1, h2⟩
              have h3 := numOf_true h1
              rcases int_cases (numOf (c :: r)).1 with ⟨u, hu⟩ | ⟨u, hu1, hu⟩
              · rw [hu, itoa_pos] at h3
                exact ⟨u, by omega, h3⟩
              · rw [hu, itoa_neg' u hu1] at h3
                rw [(List.cons.inj h3).1] at hdig
                exact absurd hdig (by decide)
            · rintro ⟨u, hu, h⟩
              rw [h, ← itoa_pos, numOf_itoa _ (by omega) (by omega)]
              exact ⟨rfl, by simp; omega⟩
          by_cases hn : numB (c :: r) = true
          · obtain ⟨k1, k2⟩ := key.2 hn
            rw [if_pos k1, if_pos k2, if_pos hn]
          · have hn' : ¬ ((numOf (c :: r)).2 = true ∧ (numOf (c :: r)).1 ≤ 1000000) := fun h => hn (key.1 h)
            rw [if_neg hn]
            simp only [Bool.false_eq_true, if_false]
            by_cases q : (numOf (c :: r)).2 = true
            · rw [if_pos q, if_neg (fun h => hn' ⟨q, h⟩)]
            · rw [if_neg q]
        | false =>
          have hnum : numB (c :: r) = false := by unfold numB; simp [hdig]
          rw [hnum, i_has _ _ (by simp) k (by simp; omega), e]
          simp only [Option.bind_some, Bool.false_eq_true, if_false]
          have app : hasL (ones ++ twos) (c :: r) = (hasL ones (c :: r) || hasL twos (c :: r)) := by unfold hasL; rw [List.any_append]
          rw [app]
          change (if hasL twos (c :: r) = true then _ else _) = _
          cases htw : hasL twos (c :: r) with
          | true => simp
          | false =>
            rw [Bool.or_false]
            simp only [Bool.false_eq_true, if_false]
            by_cases h1 : (s.size : Int) = 1
            · have hr : r = [] := List.eq_nil_of_length_eq_zero (by omega)
              subst hr
              rw [if_pos h1]
              unfold strings_Contains.f
              rw [if_pos (by decide), e]
              simp only [Option.bind_some]
              rw [one_sign]
              split <;> rfl
            · rw [if_neg h1, ones_len (by simp only [List.length_cons]; omega)]; simp
end Go.Proofs.YtfeloencepgdlaaGreatDoor.Q
namespace Go.Proofs.YtfeloencepgdlaaGreatDoor.Q
open Go.RowKit Go.Proofs.YtfeloencepgdlaaGreatDoorW.PrintWords Go.Proofs.YtfeloencepgdlaaGreatDoorW.PrintLast Go.Proofs.YtfeloencepgdlaaGreatDoorW.PrintMore
open Go.Proofs.YtfeloencepgdlaaGreatDoor.Open
set_option linter.unusedSimpArgs false
set_option linter.unusedVariables false
theorem key_head {c : UInt8} {r : List UInt8} (h : hasL keys (c :: r) = true) : letB c = true := by
  simp only [hasL, keys, List.any_cons, List.any_nil, Bool.or_eq_true, beq_iff_eq, List.cons.injEq, Bool.or_false] at h
  rcases h with h | h | h | h | h | h | h | h | h | h | h | h | h <;> (rw [← h.1]; decide)
end Go.Proofs.YtfeloencepgdlaaGreatDoor.Q
namespace Go.Proofs.YtfeloencepgdlaaGreatDoor.Q
open Go.RowKit Go.Proofs.YtfeloencepgdlaaGreatDoorW.PrintWords Go.Proofs.YtfeloencepgdlaaGreatDoorW.PrintLast Go.Proofs.YtfeloencepgdlaaGreatDoorW.PrintMore
open Go.Proofs.YtfeloencepgdlaaGreatDoor.Open
set_option linter.unusedSimpArgs false
set_option linter.unusedVariables false
def isName (l : List UInt8) : Bool := !hasL keys l && nameB l
theorem kind_name (l : List UInt8) : (kindL l != 1) = !isName l := by
  unfold kindL isName
  cases hasL keys l <;> cases nameB l <;> simp
  repeat' split
  all_goals simp
theorem s_isName (s : ByteArray) (hl : s.size ≤ 1048576) (k : Nat) (hk : s.size + 40 ≤ k) : spec_l01Name.f k s = some (isName s.data.toList) := by
  unfold isName
  cases hkey : hasL keys s.data.toList with
  | false => rw [s_name s hl k hk hkey]; rfl
  | true =>
    have stop : spec_l01Name.j0 k s true = some false := by
      obtain ⟨k, rfl⟩ : ∃ m, k = m + 1 := ⟨k - 1, by omega⟩
      rw [spec_l01Name.j0, if_pos rfl]
    have hz := sizeL s
    unfold spec_l01Name.f
    rcases e : s.data.toList with _ | ⟨c, r⟩
    · rw [e] at hkey; exact absurd hkey (by decide)
    · rw [e] at hz hkey
      simp only [List.length_cons] at hz
      rw [if_neg (by omega)]
      by_cases h8 : (s.size : Int) > 8
      · rw [if_pos h8, stop]; rfl
      · rw [if_neg h8, if_pos (by omega), bt_zero e, s_letter, key_head hkey, Option.bind_some, if_pos rfl, s_key s k (by omega), e, hkey, Option.bind_some, stop]; rfl
abbrev lenP : List UInt8 := [108, 101, 110, 40]
theorem len_noName (x : List UInt8) : isName (lenP ++ x) = false := by
  unfold isName nameB
  have : (lenP ++ x).all wordB = false := by simp [lenP, show wordB 40 = false by decide]
  rw [this]; simp
/-- A label: a name, or the length of one. -/
def labL (l : List UInt8) : Bool := if 5 < l.length ∧ l.take 4 = lenP ∧ l.getLast? = some 41 then isName ((l.drop 4).take (l.length - 5)) else isName l
theorem last_at {l : List UInt8} (h : 0 < l.length) : ∃ c, l[l.length - 1]? = some c ∧ l.getLast? = some c := by
  refine ⟨l[l.length - 1], List.getElem?_eq_getElem (by omega), ?_⟩
  rw [List.getLast?_eq_getElem?, List.getElem?_eq_getElem (by omega)]
theorem s_label (s : ByteArray) (hl : s.size ≤ 1048576) (k : Nat) (hk : s.size + 60 ≤ k) : spec_l07Label.f k s = some (labL s.data.toList) := by
  have hz := sizeL s
  obtain ⟨k, rfl⟩ : ∃ m, k = m + 1 := ⟨k - 1, by omega⟩
  have no : spec_l07Label.j0 (k + 1) s false = some (isName s.data.toList) := by
    rw [spec_l07Label.j0, if_neg (by simp), s_isName s hl k (by omega)]; rfl
  unfold spec_l07Label.f labL
  rw [← hz]
  by_cases h5 : 5 < s.size
  · rw [if_pos (by omega), if_pos (by omega), if_pos (by omega), toL, ext_head]
    by_cases hp : s.data.toList.take 4 = lenP
    · obtain ⟨c, c1, c2⟩ := last_at (l := s.data.toList) (by omega)
      rw [if_pos hp, w64 (by omega) (by omega), if_pos (by omega), if_pos (by omega), show ((s.size : Int) - 1) = ((s.data.toList.length - 1 : Nat) : Int) by omega, bt_at_ c1]
      by_cases hc : c = 41
      · subst hc
        rw [if_pos ⟨h5, hp, c2⟩, show (((41 : UInt8).toNat : Int) == 41) = true by decide]
        rw [spec_l07Label.j0, if_pos rfl, w64 (by omega) (by omega), if_pos (by omega), if_pos (by omega), s_isName _ (by rw [sizeL, extL, List.length_take, List.length_drop]; omega) k (by rw [sizeL, extL, List.length_take, List.length_drop]; omega), extL, Option.bind_some]
        rw [show ((s.size : Int) - 1).toNat - 4 = s.size - 5 by omega]
      · have hc' : (c.toNat : Int) ≠ 41 := fun h => hc (u8_eq (by show c.toNat = 41; omega))
        rw [if_neg (fun q => by rw [c2] at q; exact hc (Option.some.inj q.2.2)), show ((c.toNat : Int) == 41) = false by simpa using hc', no]
    · rw [if_neg hp, if_neg (fun q => hp q.2.1), no]
  · rw [if_neg (by omega), if_neg (fun q => h5 q.1), no]
theorem s_labels_loop (l : List ByteArray) (hl : l.length ≤ 1048576) (hs : ∀ x ∈ l, x.size ≤ 1048576) : ∀ (t : List ByteArray) (i k : Nat), l.drop i = t → 1100000 + t.length < k → spec_l08Labels.l0 k l (i : Int) = some (t.all fun x => labL x.data.toList) := by
  intro t
  induction t with
  | nil =>
    intro i k hd hk
    obtain ⟨k, rfl⟩ : ∃ m, k = m + 1 := ⟨k - 1, by omega⟩
    have := drop_nil hd
    rw [spec_l08Labels.l0, if_neg (by omega)]; rfl
  | cons x t ih =>
    intro i k hd hk
    obtain ⟨k, rfl⟩ : ∃ m, k = m + 1 := ⟨k - 1, by omega⟩
    obtain ⟨h1, h2, h3⟩ := drop_cons hd
    have hx := hs x (List.mem_of_getElem? h2)
    rw [spec_l08Labels.l0, if_pos (by omega), if_pos (by omega), rdOf_at h2, s_label x hx k (by simp at hk; omega), Option.bind_some, w64s i (by omega), ih (i + 1) k h3 (by simp at hk; omega), List.all_cons]
    cases labL x.data.toList <;> simp
def labels (l : List ByteArray) : Bool := l.all fun x => labL x.data.toList
theorem s_labels (l : List ByteArray) (hl : l.length ≤ 1048576) (hs : ∀ x ∈ l, x.size ≤ 1048576) (k : Nat) (hk : 1100000 + l.length < k) : spec_l08Labels.f k l = some (decide (l.length < 13) && labels l) := by
  unfold spec_l08Labels.f
  by_cases h : l.length < 13
  · rw [if_neg (by omega), show (0 : Int) = ((0 : Nat) : Int) from rfl, s_labels_loop l hl hs l 0 k rfl hk]
    simp [h, labels]
  · rw [if_pos (by omega)]; simp [h]
theorem i_haslen (s : ByteArray) (hs : s.size ≤ 1048576) : stringslite_HasPrefix.f s (⟨#[108, 101, 110, 40]⟩ : ByteArray) = some (decide (4 ≤ s.size) && (s.data.toList.take 4 == lenP)) := by
  have z : (⟨#[108, 101, 110, 40]⟩ : ByteArray).size = 4 := rfl
  unfold stringslite_HasPrefix.f
  rw [z]
  by_cases h : 4 ≤ s.size
  · rw [if_pos (by omega), if_pos (by omega), if_pos (by omega), toL, toL, ext_head, decide_eq_true h, Bool.true_and]; rfl
  · rw [if_neg (by omega), decide_eq_false h, Bool.false_and]
theorem i_cutlen (s : ByteArray) (hs : s.size ≤ 1048576) : strings_CutPrefix.f s (⟨#[108, 101, 110, 40]⟩ : ByteArray) = some (if 4 ≤ s.size ∧ s.data.toList.take 4 = lenP then (s.extract 4 s.size, true) else (s, false)) := by
  have z : (⟨#[108, 101, 110, 40]⟩ : ByteArray).size = 4 := rfl
  unfold strings_CutPrefix.f stringslite_CutPrefix.f
  rw [i_haslen s hs, z, Option.bind_some]
  by_cases h : 4 ≤ s.size ∧ s.data.toList.take 4 = lenP
  · rw [if_pos h, decide_eq_true h.1, beq_iff_eq.2 h.2, Bool.and_self, if_pos rfl, if_pos (by omega), if_pos (by omega), Option.bind_some]; rfl
  · have : (decide (4 ≤ s.size) && (s.data.toList.take 4 == lenP)) = false := by
      cases q : (decide (4 ≤ s.size) && (s.data.toList.take 4 == lenP)) with
      | false => rfl
      | true =>
        rw [Bool.and_eq_true, decide_eq_true_eq, beq_iff_eq] at q
        exact absurd q h
    rw [if_neg h, this, if_neg (by simp), Option.bind_some]
theorem i_hasclose (s : ByteArray) (hs : s.size ≤ 1048576) : stringslite_HasSuffix.f s (⟨#[41]⟩ : ByteArray) = some (s.data.toList.getLast? == some 41) := by
  have z : (⟨#[41]⟩ : ByteArray).size = 1 := rfl
  have hz := sizeL s
  unfold stringslite_HasSuffix.f
  rw [z]
  by_cases h : 1 ≤ s.size
  · rw [if_pos (by omega), w64 (by omega) (by omega), if_pos (by omega), if_pos (by omega), toL, toL, ext_all, show ((s.size : Int) - ((1 : Nat) : Int)).toNat = s.size - 1 by omega]
    obtain ⟨c, c1, c2⟩ := last_at (l := s.data.toList) (by omega)
    have ed : s.data.toList.drop (s.size - 1) = [c] := by
      obtain ⟨hlt, e⟩ := List.getElem?_eq_some_iff.1 c1
      rw [hz, List.drop_eq_getElem_cons hlt, e, List.drop_eq_nil_of_le (by omega)]
    rw [ed, c2]
    by_cases hc : c = 41
    · rw [hc]; rfl
    · have q1 : (([c] : List UInt8) == [41]) = false := by simpa using hc
      have q2 : (some c == some (41 : UInt8)) = false := by simpa using hc
      rw [q2]; exact congrArg some q1
  · have : s.data.toList = [] := List.eq_nil_of_length_eq_zero (by omega)
    rw [if_neg (by omega), this]; rfl
theorem i_trim (s : ByteArray) (hs : s.size ≤ 1048576) : strings_TrimSuffix.f s (⟨#[41]⟩ : ByteArray) = some (if s.data.toList.getLast? = some 41 then s.extract 0 (s.size - 1) else s) := by
  have z : (⟨#[41]⟩ : ByteArray).size = 1 := rfl
  have hz := sizeL s
  unfold strings_TrimSuffix.f stringslite_TrimSuffix.f
  rw [i_hasclose s hs, z, Option.bind_some]
  by_cases h : s.data.toList.getLast? = some 41
  · have h1 : 1 ≤ s.size := by
      rcases Nat.eq_zero_or_pos s.size with q | q
      · rw [List.eq_nil_of_length_eq_zero (hz.symm.trans q)] at h; cases h
      · exact q
    rw [if_pos h, h, if_pos (by simp), w64 (by omega) (by omega), if_pos (by omega), if_pos (by omega), show ((s.size : Int) - ((1 : Nat) : Int)).toNat = s.size - 1 by omega, Option.bind_some]
  · rw [if_neg h, if_neg (by simpa using h), Option.bind_some]
theorem i_label (s : ByteArray) (hs : s.size ≤ 1048576) (k : Nat) (hk : s.size + 60 ≤ k) : impl_areLabels_1.f k s = some (!labL s.data.toList) := by
  have hz := sizeL s
  unfold impl_areLabels_1.f
  rw [i_cutlen s hs, Option.bind_some]
  by_cases hp : 4 ≤ s.size ∧ s.data.toList.take 4 = lenP
  · rw [if_pos hp]
    simp only [if_true]
    have hy : (s.extract 4 s.size).data.toList = s.data.toList.drop 4 := ext_all s 4
    have hys : (s.extract 4 s.size).size = s.size - 4 := by rw [sizeL, hy, List.length_drop, ← hz]
    have el : s.data.toList = lenP ++ s.data.toList.drop 4 := by rw [← hp.2, List.take_append_drop]
    rw [i_trim _ (by omega), Option.bind_some, hy]
    generalize s.extract 4 s.size = y at hy hys
    by_cases hl : (s.data.toList.drop 4).getLast? = some 41
    · rw [if_pos hl]
      have hm : (y.extract 0 (y.size - 1)).data.toList = (s.data.toList.drop 4).take (s.size - 5) := by rw [ext_head, hy, hys]; congr 1
      have hms : (y.extract 0 (y.size - 1)).size ≤ s.size := by rw [sizeL, hm, List.length_take, List.length_drop]; omega
      have hne : s.data.toList.drop 4 ≠ [] := by intro e; rw [e] at hl; cases hl
      have hlen := List.length_pos_iff.2 hne
      rw [List.length_drop] at hlen
      have ey : s.data.toList.drop 4 = (s.data.toList.drop 4).take (s.size - 5) ++ [41] := by
        rw [List.getLast?_eq_some_iff] at hl
        obtain ⟨m, e⟩ := hl
        have : m.length = s.size - 5 := by
          have := congrArg List.length e
          rw [List.length_drop, List.length_append, List.length_cons, List.length_nil] at this
          omega
        rw [e, ← this]; simp
      rw [if_pos (by omega), toL, toL, app_mk', hm, hy, if_pos ey, i_kind _ (by omega) k (by omega), Option.bind_some, hm, kind_name]
      unfold labL
      rw [← hz]
      by_cases h5 : 5 < s.size
      · have hll : s.data.toList.getLast? = some 41 := by rw [el, List.getLast?_append, hl]; rfl
        rw [if_pos ⟨h5, hp.2, hll⟩]
      · rw [if_neg (fun q => h5 q.1), show s.size - 5 = 0 by omega, List.take_zero, el, len_noName]; rfl
    · rw [if_neg hl, if_pos (by omega), toL, toL, app_mk', hy, if_neg (fun q => by have := congrArg List.length q; simp at this)]
      unfold labL
      rw [if_neg, el, len_noName]; rfl
      rintro ⟨q1, q2, q3⟩
      rw [el, List.getLast?_append] at q3
      cases q : (s.data.toList.drop 4).getLast? with
      | none =>
        rw [List.getLast?_eq_none_iff] at q
        have := congrArg List.length q
        rw [List.length_drop, List.length_nil] at this
        omega
      | some c =>
        rw [q] at q3 hl
        exact hl q3
  · rw [if_neg hp]
    simp only [Bool.false_eq_true, if_false]
    rw [i_kind s hs k (by omega), Option.bind_some, kind_name]
    unfold labL
    rw [if_neg]
    rintro ⟨q1, q2, _⟩
    exact hp ⟨by omega, q2⟩
theorem i_labels_loop (l : List ByteArray) (hl : l.length ≤ 1048576) (hs : ∀ x ∈ l, x.size ≤ 1048576) : ∀ (t : List ByteArray) (i k : Nat), l.drop i = t → 1100000 + t.length < k →
    ∃ r, slices_IndexFunc__impl_areLabels_1.l0 k l (l.length : Int) (i : Int) = some r ∧ decide (r ≥ 0) = !(t.all fun x => labL x.data.toList) := by
  intro t
  induction t with
  | nil =>
    intro i k hd hk
    obtain ⟨k, rfl⟩ : ∃ m, k = m + 1 := ⟨k - 1, by omega⟩
    have := drop_nil hd
    rw [slices_IndexFunc__impl_areLabels_1.l0, if_neg (by omega)]
    exact ⟨_, rfl, rfl⟩
  | cons x t ih =>
    intro i k hd hk
    obtain ⟨k, rfl⟩ : ∃ m, k = m + 1 := ⟨k - 1, by omega⟩
    obtain ⟨h1, h2, h3⟩ := drop_cons hd
    have hx := hs x (List.mem_of_getElem? h2)
    rw [slices_IndexFunc__impl_areLabels_1.l0, if_pos (by omega), if_pos (by omega), if_pos (by omega), rdOf_at h2, i_label x hx k (by simp at hk; omega), Option.bind_some, w64s i (by omega), List.all_cons]
    cases hq : labL x.data.toList with
    | true =>
      rw [if_neg (by simp)]
      obtain ⟨r, e1, e2⟩ := ih (i + 1) k h3 (by simp at hk; omega)
      exact ⟨r, e1, by rw [e2]; simp⟩
    | false =>
      rw [if_pos (by simp)]
      exact ⟨_, rfl, by simp⟩
theorem i_labels (l : List ByteArray) (hl : l.length ≤ 1048576) (hs : ∀ x ∈ l, x.size ≤ 1048576) (n : Int) (k : Nat) (hk : 1100000 + l.length < k) : impl_areLabels.f k l n = some (decide ((l.length : Int) = n) && labels l) := by
  unfold impl_areLabels.f
  by_cases h : (l.length : Int) = n
  · obtain ⟨r, e1, e2⟩ := i_labels_loop l hl hs l 0 k rfl hk
    rw [if_pos h]
    unfold slices_ContainsFunc__impl_areLabels_1.f slices_IndexFunc__impl_areLabels_1.f
    rw [show (0 : Int) = ((0 : Nat) : Int) from rfl, e1, Option.bind_some]
    rw [show (((0 : Nat) : Int)) = 0 from rfl, e2]
    simp [h, labels]
  · rw [if_neg h]; simp [h]
end Go.Proofs.YtfeloencepgdlaaGreatDoor.Q
namespace Go.Proofs.YtfeloencepgdlaaGreatDoor.Q
open Go.RowKit Go.Proofs.YtfeloencepgdlaaGreatDoorW.PrintWords Go.Proofs.YtfeloencepgdlaaGreatDoorW.PrintLast Go.Proofs.YtfeloencepgdlaaGreatDoorW.PrintMore
open Go.Proofs.YtfeloencepgdlaaGreatDoor.Open
set_option linter.unusedSimpArgs false
set_option linter.unusedVariables false
theorem app_mk (a b : List UInt8) : ((⟨a.toArray⟩ : ByteArray) ++ (⟨b.toArray⟩ : ByteArray)) = ⟨(a ++ b).toArray⟩ := by
  apply ByteArray.ext
  simp [ByteArray.data_append]
theorem size_mk (a : List UInt8) : (⟨a.toArray⟩ : ByteArray).size = a.length := by simp [ByteArray.size]
theorem dec_len (u : Nat) : (Lib.decDigits u).length ≤ u + 1 := by
  induction u using Nat.strongRecOn with
  | _ u ih =>
    rw [Lib.decDigits]
    split
    · simp
    · have := ih (u / 10) (by omega)
      simp; omega
theorem dig1 (u : Nat) (h : u < 10) : strOfNums [(wrap64 (48 + (u : Int))) % 256] = ⟨([UInt8.ofNat (48 + u)] : List UInt8).toArray⟩ := by
  unfold strOfNums
  rw [w64 (by omega) (by omega)]
  simp only [List.map_cons, List.map_nil]
  rw [show ((48 + (u : Int)) % 256).toNat = 48 + u by omega]
theorem dig_pos (u : Nat) (hu : u ≤ 1000000000) : ∀ k, u < k → spec_l01Digits.f k (u : Int) = some ⟨(Lib.decDigits u).toArray⟩ := by
  induction u using Nat.strongRecOn with
  | _ u ih =>
    intro k hk
    obtain ⟨k, rfl⟩ : ∃ m, k = m + 1 := ⟨k - 1, by omega⟩
    rw [spec_l01Digits.f, if_neg (by omega), if_neg (by omega), Lib.decDigits]
    by_cases h : u < 10
    · rw [if_pos (by omega), dif_pos h, dig1 u h]
    · have e1 : Int.tdiv (u : Int) 10 = ((u / 10 : Nat) : Int) := by rw [show (10 : Int) = ((10 : Nat) : Int) from rfl, ← Int.ofNat_tdiv]
      have e2 : Int.tmod (u : Int) 10 = ((u % 10 : Nat) : Int) := by rw [show (10 : Int) = ((10 : Nat) : Int) from rfl, ← Int.ofNat_tmod]
      rw [if_neg (by omega), dif_neg h, e1, e2, w64 (by omega) (by omega), ih (u / 10) (by omega) (by omega) k (by omega)]
      simp only [Option.bind_some]
      rw [dig1 (u % 10) (by omega), size_mk, size_mk, if_pos (by have := dec_len (u / 10); simp; omega), app_mk]
theorem digits (n : Int) (h1 : -2000000 ≤ n) (h2 : n ≤ 2000000) (k : Nat) (hk : n.natAbs + 3 < k) : spec_l01Digits.f k n = some ⟨(Lib.itoa n).toArray⟩ := by
  unfold Lib.itoa
  by_cases hn : n < 0
  · rw [if_pos hn]
    obtain ⟨u, hu⟩ : ∃ u : Nat, n = -(u : Int) := ⟨n.natAbs, by omega⟩
    subst hu
    rw [show (-(u : Int)).natAbs = u by omega]
    obtain ⟨k, rfl⟩ : ∃ m, k = m + 1 := ⟨k - 1, by omega⟩
    have one : (⟨#[45]⟩ : ByteArray) = ⟨([45] : List UInt8).toArray⟩ := rfl
    rw [spec_l01Digits.f, one]
    by_cases h10 : -(u : Int) < -9
    · have e1 : Int.tdiv (-(u : Int)) 10 = -((u / 10 : Nat) : Int) := by rw [Int.neg_tdiv, show (10 : Int) = ((10 : Nat) : Int) from rfl, ← Int.ofNat_tdiv]
      have e2 : Int.tmod (-(u : Int)) 10 = -((u % 10 : Nat) : Int) := by rw [Int.neg_tmod, show (10 : Int) = ((10 : Nat) : Int) from rfl, ← Int.ofNat_tmod]
      rw [if_pos h10, e1, e2, w64 (n := -((u / 10 : Nat) : Int)) (by omega) (by omega), Int.neg_neg, Int.neg_neg, w64 (n := ((u / 10 : Nat) : Int)) (by omega) (by omega), w64 (n := ((u % 10 : Nat) : Int)) (by omega) (by omega), dig_pos (u / 10) (by omega) k (by omega), dig_pos (u % 10) (by omega) k (by omega)]
      simp only [Option.bind_some]
      have l1 := dec_len (u / 10)
      have l2 := dec_len (u % 10)
      rw [if_pos (by rw [size_mk]; first | omega | (simp; omega)), app_mk, size_mk, size_mk, if_pos (by first | omega | (simp; omega)), app_mk]
      have e3 : Lib.decDigits u = Lib.decDigits (u / 10) ++ [UInt8.ofNat (48 + u % 10)] := by rw [Lib.decDigits, dif_neg (by omega)]
      have e4 : Lib.decDigits (u % 10) = [UInt8.ofNat (48 + u % 10)] := by rw [Lib.decDigits, dif_pos (by omega)]
      rw [e3, e4]; rfl
    · rw [if_neg h10, if_pos hn, Int.neg_neg, w64 (by omega) (by omega), dig_pos u (by omega) k (by omega)]
      simp only [Option.bind_some]
      have l1 := dec_len u
      rw [if_pos (by rw [size_mk]; first | omega | (simp; omega)), app_mk]; rfl
  · rw [if_neg hn]
    obtain ⟨u, rfl⟩ : ∃ u : Nat, n = (u : Int) := ⟨n.toNat, by omega⟩
    rw [Int.toNat_natCast]
    exact dig_pos u (by omega) k (by omega)
theorem itoa_i (n : Int) (h1 : -2000000 ≤ n) (h2 : n ≤ 2000000) : strconv_Itoa.f n = some ⟨(Lib.itoa n).toArray⟩ := by
  unfold strconv_Itoa.f; rw [if_pos ⟨by omega, by omega⟩]
theorem itoa_len (n : Int) (h1 : -1000000 ≤ n) (h2 : n ≤ 1000000) : (Lib.itoa n).length ≤ 1000003 := by
  unfold Lib.itoa
  split
  · have := dec_len n.natAbs; simp; omega
  · have := dec_len n.toNat; omega
end Go.Proofs.YtfeloencepgdlaaGreatDoor.Q
namespace Go.Proofs.YtfeloencepgdlaaGreatDoor.Q
open Go.RowKit Go.Proofs.YtfeloencepgdlaaGreatDoorW.PrintWords Go.Proofs.YtfeloencepgdlaaGreatDoorW.PrintLast Go.Proofs.YtfeloencepgdlaaGreatDoorW.PrintMore
open Go.Proofs.YtfeloencepgdlaaGreatDoor.Open
set_option linter.unusedSimpArgs false
set_option linter.unusedVariables false
def okSy (n a b : Int) : Bool := decide (1 ≤ n) && decide (n ≤ 13) && (decide (0 ≤ a) && decide (a ≤ n - 1)) && (decide (-1000 ≤ b) && decide (b ≤ 1000))
theorem okSy_iff (n a b : Int) : okSy n a b = true ↔ (1 ≤ n ∧ n ≤ 13) ∧ (0 ≤ a ∧ a ≤ n - 1) ∧ (-1000 ≤ b ∧ b ≤ 1000) := by
  unfold okSy; simp [and_assoc]
theorem s_symOk (n a b : Int) (hn : 0 ≤ n) (hn2 : n ≤ 10000000) : spec_SymOk.f n a b = some (okSy n a b) := by
  unfold spec_SymOk.f spec_l01Between.f okSy
  rw [w64 (by omega) (by omega)]
  by_cases h1 : n ≥ 1
  · have h1' : 1 ≤ n := h1
    rw [if_pos h1, Option.bind_some, decide_eq_true h1', Bool.true_and]
    by_cases h2 : n ≤ 13
    · rw [decide_eq_true h2, if_pos rfl, Bool.true_and]
      by_cases h3 : a ≥ 0
      · have h3' : 0 ≤ a := h3
        rw [if_pos h3, Option.bind_some, decide_eq_true h3', Bool.true_and]
        by_cases h4 : a ≤ n - 1
        · rw [decide_eq_true h4, if_pos rfl, Bool.true_and]
          by_cases h5 : b ≥ -1000
          · have h5' : -1000 ≤ b := h5
            rw [if_pos h5, Option.bind_some, decide_eq_true h5', Bool.true_and]
          · have h5' : ¬ -1000 ≤ b := h5
            rw [if_neg h5, Option.bind_some, decide_eq_false h5', Bool.false_and]
        · rw [decide_eq_false h4, if_neg (by simp), Bool.false_and]
      · have h3' : ¬ 0 ≤ a := h3
        rw [if_neg h3, Option.bind_some, decide_eq_false h3', if_neg (by simp), Bool.false_and, Bool.false_and]
    · rw [decide_eq_false h2, if_neg (by simp), Bool.false_and, Bool.false_and]
  · have h1' : ¬ 1 ≤ n := h1
    rw [if_neg h1, Option.bind_some, decide_eq_false h1', if_neg (by simp), Bool.false_and, Bool.false_and, Bool.false_and]
def nm (l : List ByteArray) (a : Int) : ByteArray := rdOf ByteArray.empty l (a - 1)
def symT (a b : Int) (l : List ByteArray) : ByteArray :=
  if a = 0 then ⟨(Lib.itoa b).toArray⟩
  else if b > 0 then (nm l a ++ (⟨#[32, 43, 32]⟩ : ByteArray)) ++ ⟨(Lib.itoa b).toArray⟩
  else if b < 0 then (nm l a ++ (⟨#[32, 45, 32]⟩ : ByteArray)) ++ ⟨(Lib.itoa (-b)).toArray⟩
  else nm l a
theorem nm_size (l : List ByteArray) (a : Int) (hs : ∀ x ∈ l, x.size ≤ 1048576) : (nm l a).size ≤ 1048576 := by
  unfold nm rdOf
  rw [List.getD_eq_getElem?_getD]
  cases e : l[(a - 1).toNat]? with
  | none => exact Nat.zero_le _
  | some x => exact hs x (List.mem_of_getElem? e)
theorem itoa_small (b : Int) (h1 : -1000 ≤ b) (h2 : b ≤ 1000) : (⟨(Lib.itoa b).toArray⟩ : ByteArray).size ≤ 1000003 := by
  rw [sizeL]; exact itoa_len b (by omega) (by omega)
theorem i_symT (a b : Int) (l : List ByteArray) (hl : l.length ≤ 1048576) (hs : ∀ x ∈ l, x.size ≤ 1048576) (h0 : 0 ≤ a) (h1 : a ≤ l.length) (h2 : -1000 ≤ b) (h3 : b ≤ 1000) : impl_symText.f a b l = some (symT a b l) := by
  have hn := nm_size l a hs
  unfold nm at hn
  unfold impl_symText.f symT nm
  by_cases e0 : a = 0
  · rw [if_pos e0, if_pos e0, itoa_i b (by omega) (by omega), Option.bind_some]
  · rw [if_neg e0, if_neg e0, w64 (n := a - 1) (by omega) (by omega)]
    have hi1 := itoa_small b h2 h3
    have hi2 := itoa_small (-b) (by omega) (by omega)
    by_cases hneg : b < 0
    · rw [if_pos hneg, if_pos (by omega), if_pos (by omega), if_pos (by omega), w64 (by omega) (by omega), itoa_i (-b) (by omega) (by omega), Option.bind_some, if_pos (by omega), if_neg (by omega), if_pos hneg]
    · rw [if_neg hneg]
      by_cases hpos : b > 0
      · rw [if_pos hpos, if_pos (by omega), if_pos (by omega), if_pos (by omega), itoa_i b (by omega) (by omega), Option.bind_some, if_pos (by omega), if_pos hpos]
      · rw [if_neg hpos, if_pos (by omega), if_pos (by omega), if_neg hpos, if_neg hneg]
def symtext (a b : Int) (l : List ByteArray) : ByteArray := if labels l = true ∧ okSy (l.length + 1) a b = true then symT a b l else ⟨#[]⟩
theorem s_symtext (a b : Int) (l : List ByteArray) (hl : l.length ≤ 1048576) (hs : ∀ x ∈ l, x.size ≤ 1048576) (k : Nat) (hk : 1200000 + l.length < k) : spec_SymText.f k a b l = some (symtext a b l) := by
  obtain ⟨k, rfl⟩ : ∃ m, k = m + 1 := ⟨k - 1, by omega⟩
  unfold spec_SymText.f symtext
  have stop : spec_SymText.j0 (k + 1) l true a b = some ⟨#[]⟩ := by rw [spec_SymText.j0, if_pos rfl]
  rw [s_labels l hl hs _ (by omega), Option.bind_some]
  by_cases h : labels l = true
  · rw [h, Bool.and_true]
    by_cases h13 : l.length < 13
    · rw [decide_eq_true h13, if_pos rfl, w64 (by omega) (by omega), s_symOk _ _ _ (by omega) (by omega), Option.bind_some]
      cases h2 : okSy (l.length + 1) a b with
      | false => rw [show (!false) = true from rfl, stop, if_neg (by simp)]
      | true =>
        obtain ⟨q1, q2, q3⟩ := (okSy_iff _ _ _).1 h2
        have hn := nm_size l a hs
        unfold nm at hn
        have hi1 := itoa_small b (by omega) (by omega)
        have hi2 := itoa_small (-b) (by omega) (by omega)
        rw [if_pos ⟨rfl, rfl⟩, spec_SymText.j0, if_neg (by simp)]
        unfold symT nm
        by_cases e0 : a = 0
        · rw [if_pos e0, if_pos e0, digits b (by omega) (by omega) k (by omega), Option.bind_some]
        · rw [if_neg e0, if_neg e0, w64 (n := a - 1) (by omega) (by omega)]
          by_cases hpos : b > 0
          · rw [if_pos hpos, if_pos (by omega), if_pos (by omega), if_pos (by omega), digits b (by omega) (by omega) k (by omega), Option.bind_some, if_pos (by omega), if_pos hpos]
          · rw [if_neg hpos]
            by_cases hneg : b < 0
            · rw [if_pos hneg, if_pos (by omega), if_pos (by omega), if_pos (by omega), w64 (by omega) (by omega), digits (-b) (by omega) (by omega) k (by omega), Option.bind_some, if_pos (by omega), if_neg hpos, if_pos hneg]
            · rw [if_neg hneg, if_pos (by omega), if_pos (by omega), if_neg hpos, if_neg hneg]
    · rw [decide_eq_false h13, if_neg (by simp), stop, if_neg]
      rintro ⟨_, q⟩
      have := ((okSy_iff _ _ _).1 q).1
      omega
  · rw [Bool.not_eq_true] at h
    rw [h, Bool.and_false, if_neg (by simp), stop, if_neg (by simp)]
end Go.Proofs.YtfeloencepgdlaaGreatDoor.Q
namespace Go.Proofs.YtfeloencepgdlaaGreatDoor.Q
open Go.RowKit Go.Proofs.YtfeloencepgdlaaGreatDoorW.PrintWords Go.Proofs.YtfeloencepgdlaaGreatDoorW.PrintLast Go.Proofs.YtfeloencepgdlaaGreatDoorW.PrintMore
open Go.Proofs.YtfeloencepgdlaaGreatDoor.Open
set_option linter.unusedSimpArgs false
set_option linter.unusedVariables false
theorem copy_loop {α β : Type} (l : List α) (c : α → β) (K0 : Nat) (F : Nat → List β → Int → Option (List β))
    (hs : ∀ (k : Nat) (x3 : List β) (i : Nat) (x : α), l[i]? = some x → x3.length = l.length → K0 ≤ k → F (k + 1) x3 (i : Int) = F k (x3.set i (c x)) ((i + 1 : Nat) : Int))
    (he : ∀ (k : Nat) (x3 : List β), F (k + 1) x3 (l.length : Int) = some x3) :
    ∀ (d i : Nat) (x3 : List β) (k : Nat), i + d = l.length → x3.length = l.length → K0 + d < k → F k x3 (i : Int) = some (x3.take i ++ (l.drop i).map c)
  | 0, i, x3, k, h, hx, hk => by
    obtain ⟨k, rfl⟩ : ∃ m, k = m + 1 := ⟨k - 1, by omega⟩
    obtain rfl : i = l.length := by omega
    rw [he, List.take_of_length_le (by omega), List.drop_of_length_le (by omega)]
    simp
  | d + 1, i, x3, k, h, hx, hk => by
    obtain ⟨k, rfl⟩ : ∃ m, k = m + 1 := ⟨k - 1, by omega⟩
    have hi : i < l.length := by omega
    rw [hs k x3 i l[i] (List.getElem?_eq_getElem hi) hx (by omega), copy_loop l c K0 F hs he d (i + 1) _ k (by omega) (by rw [List.length_set]; exact hx) (by omega)]
    rw [List.take_add_one, List.take_set_of_le (Nat.le_refl i), List.getElem?_set_self (by omega), List.drop_eq_getElem_cons hi, List.append_assoc]
    rfl
theorem copy_all {α β : Type} (l : List α) (c : α → β) (K0 : Nat) (F : Nat → List β → Int → Option (List β))
    (hs : ∀ (k : Nat) (x3 : List β) (i : Nat) (x : α), l[i]? = some x → x3.length = l.length → K0 ≤ k → F (k + 1) x3 (i : Int) = F k (x3.set i (c x)) ((i + 1 : Nat) : Int))
    (he : ∀ (k : Nat) (x3 : List β), F (k + 1) x3 (l.length : Int) = some x3) (x3 : List β) (hx : x3.length = l.length) (k : Nat) (hk : K0 + l.length < k) : F k x3 0 = some (l.map c) := by
  have := copy_loop l c K0 F hs he l.length 0 x3 k (by omega) hx hk
  simpa using this
theorem true_loop (n K0 : Nat) (F : Nat → Int → Option Bool) (hs : ∀ (k i : Nat), i < n → K0 ≤ k → F (k + 1) (i : Int) = F k ((i + 1 : Nat) : Int)) (he : ∀ k, F (k + 1) (n : Int) = some true) :
    ∀ (d i k : Nat), i + d = n → K0 + d < k → F k (i : Int) = some true
  | 0, i, k, h, hk => by
    obtain ⟨k, rfl⟩ : ∃ m, k = m + 1 := ⟨k - 1, by omega⟩
    obtain rfl : i = n := by omega
    exact he k
  | d + 1, i, k, h, hk => by
    obtain ⟨k, rfl⟩ : ∃ m, k = m + 1 := ⟨k - 1, by omega⟩
    rw [hs k i (by omega) (by omega)]
    exact true_loop n K0 F hs he d (i + 1) k (by omega) (by omega)
theorem true_all (n K0 : Nat) (F : Nat → Int → Option Bool) (hs : ∀ (k i : Nat), i < n → K0 ≤ k → F (k + 1) (i : Int) = F k ((i + 1 : Nat) : Int)) (he : ∀ k, F (k + 1) (n : Int) = some true) (k : Nat) (hk : K0 + n < k) : F k 0 = some true :=
  true_loop n K0 F hs he n 0 k (by omega) hk
end Go.Proofs.YtfeloencepgdlaaGreatDoor.Q
namespace Go.Proofs.YtfeloencepgdlaaGreatDoor.Q
open Go.RowKit Go.Proofs.YtfeloencepgdlaaGreatDoorW.PrintWords Go.Proofs.YtfeloencepgdlaaGreatDoorW.PrintLast Go.Proofs.YtfeloencepgdlaaGreatDoorW.PrintMore
open Go.Proofs.YtfeloencepgdlaaGreatDoor.Open
set_option linter.unusedSimpArgs false
set_option linter.unusedVariables false
abbrev LSym := S93
abbrev ISym := S59
abbrev LVal := S74
abbrev IVal := S66
def cSym (x : LSym) : ISym := ⟨x.f0, x.f1⟩
def cVal (x : LVal) : IVal := ⟨⟨x.f0.f0, x.f0.f1⟩, x.f1⟩
theorem rd_lsym {l : List LSym} {i : Nat} {x : LSym} (h : l[i]? = some x) : rd_T93 l (i : Int) = x := by
  unfold rd_T93; simp [List.getD, h]
theorem rd_isym {l : List ISym} {i : Nat} {x : ISym} (h : l[i]? = some x) : rd_T59 l (i : Int) = x := by
  unfold rd_T59; simp [List.getD, h]
theorem rd_lval {l : List LVal} {i : Nat} {x : LVal} (h : l[i]? = some x) : rd_T74 l (i : Int) = x := by
  unfold rd_T74; simp [List.getD, h]
theorem rd_ival {l : List IVal} {i : Nat} {x : IVal} (h : l[i]? = some x) : rd_T66 l (i : Int) = x := by
  unfold rd_T66; simp [List.getD, h]
theorem rd_lrow {l : List (List LSym)} {i : Nat} {x : List LSym} (h : l[i]? = some x) : rd_L2 l (i : Int) = x := by
  unfold rd_L2; simp [List.getD, h]
theorem rd_irow {l : List (List ISym)} {i : Nat} {x : List ISym} (h : l[i]? = some x) : rd_L8 l (i : Int) = x := by
  unfold rd_L8; simp [List.getD, h]
theorem rd_flag {l : List Bool} {i : Nat} {x : Bool} (h : l[i]? = some x) : rdOf false l (i : Int) = x := by
  unfold rdOf; simp [List.getD, h]
theorem lt_of_get {α : Type} {l : List α} {i : Nat} {x : α} (h : l[i]? = some x) : i < l.length := (List.getElem?_eq_some_iff.1 h).1
theorem to_symS (l : List LSym) (hn : l.length ≤ 1048576) (k : Nat) (hk : l.length < k) : laws_toSymS.f k l = some (l.map cSym) := by
  rw [laws_toSymS.f, if_pos (by omega), if_pos (by omega)]
  refine copy_all l cSym 0 (fun k x3 i => laws_toSymS.l0 k l x3 i) (fun k x3 i x h hx _ => ?_) (fun k x3 => ?_) _ (by simp) k (by omega)
  · have hi := lt_of_get h
    show laws_toSymS.l0 (k + 1) l x3 (i : Int) = _
    rw [laws_toSymS.l0, if_pos (by omega), if_pos (by omega), rd_lsym h, laws_toSym.f, Option.bind_some, if_pos (by omega), w64s i (by omega), Int.toNat_natCast]; rfl
  · show laws_toSymS.l0 (k + 1) l x3 (l.length : Int) = _
    rw [laws_toSymS.l0, if_neg (by omega)]
theorem to_symSS (l : List (List LSym)) (hn : l.length ≤ 1048576) (hr : ∀ r ∈ l, r.length ≤ 1048576) (k : Nat) (hk : 1048577 + l.length < k) : laws_toSymSS.f k l = some (l.map (·.map cSym)) := by
  rw [laws_toSymSS.f, if_pos (by omega), if_pos (by omega)]
  refine copy_all l (·.map cSym) 1048577 (fun k x3 i => laws_toSymSS.l0 k l x3 i) (fun k x3 i x h hx hk => ?_) (fun k x3 => ?_) _ (by simp) k (by omega)
  · have hi := lt_of_get h
    show laws_toSymSS.l0 (k + 1) l x3 (i : Int) = _
    have hm := hr x (List.mem_of_getElem? h)
    rw [laws_toSymSS.l0, if_pos (by omega), if_pos (by omega), rd_lrow h, to_symS x hm k (by omega), Option.bind_some, if_pos (by omega), w64s i (by omega), Int.toNat_natCast]
  · show laws_toSymSS.l0 (k + 1) l x3 (l.length : Int) = _
    rw [laws_toSymSS.l0, if_neg (by omega)]
theorem to_valS (l : List LVal) (hn : l.length ≤ 1048576) (k : Nat) (hk : l.length < k) : laws_toValS.f k l = some (l.map cVal) := by
  rw [laws_toValS.f, if_pos (by omega), if_pos (by omega)]
  refine copy_all l cVal 0 (fun k x3 i => laws_toValS.l0 k l x3 i) (fun k x3 i x h hx _ => ?_) (fun k x3 => ?_) _ (by simp) k (by omega)
  · have hi := lt_of_get h
    show laws_toValS.l0 (k + 1) l x3 (i : Int) = _
    rw [laws_toValS.l0, if_pos (by omega), if_pos (by omega), rd_lval h, laws_toVal.f, laws_toRange.f, Option.bind_some, Option.bind_some, if_pos (by omega), w64s i (by omega), Int.toNat_natCast]; rfl
  · show laws_toValS.l0 (k + 1) l x3 (l.length : Int) = _
    rw [laws_toValS.l0, if_neg (by omega)]
theorem to_boolS (l : List Bool) (hn : l.length ≤ 1048576) (k : Nat) (hk : l.length < k) : laws_toBoolS.f k l = some l := by
  rw [laws_toBoolS.f, if_pos (by omega), if_pos (by omega)]
  have := copy_all l (fun b => b) 0 (fun k x3 i => laws_toBoolS.l0 k l x3 i) (fun k x3 i x h hx _ => ?_) (fun k x3 => ?_) (List.replicate ((l.length : Int) : Int).toNat false) (by simp) k (by omega)
  · rw [List.map_id'] at this; exact this
  · have hi := lt_of_get h
    show laws_toBoolS.l0 (k + 1) l x3 (i : Int) = _
    rw [laws_toBoolS.l0, if_pos (by omega), if_pos (by omega), rd_flag h, if_pos (by omega), w64s i (by omega), Int.toNat_natCast]
  · show laws_toBoolS.l0 (k + 1) l x3 (l.length : Int) = _
    rw [laws_toBoolS.l0, if_neg (by omega)]
theorem eq_symS (l : List ISym) (hn : l.length ≤ 1048576) (k : Nat) (hk : l.length < k) : laws_eqSymS.f k l l = some true := by
  rw [laws_eqSymS.f, if_pos rfl]
  refine true_all l.length 0 (fun k i => laws_eqSymS.l0 k l l i) (fun k i hi _ => ?_) (fun k => ?_) k (by omega)
  · show laws_eqSymS.l0 (k + 1) l l (i : Int) = _
    rw [laws_eqSymS.l0, if_pos (by omega), if_pos (by omega), if_pos (by omega), laws_eqSym.f, if_pos rfl, if_pos rfl, Option.bind_some, if_pos rfl, w64s i (by omega)]
  · show laws_eqSymS.l0 (k + 1) l l (l.length : Int) = _
    rw [laws_eqSymS.l0, if_neg (by omega)]
theorem eq_symSS (l : List (List ISym)) (hn : l.length ≤ 1048576) (hr : ∀ r ∈ l, r.length ≤ 1048576) (k : Nat) (hk : 1048577 + l.length < k) : laws_eqSymSS.f k l l = some true := by
  rw [laws_eqSymSS.f, if_pos rfl]
  refine true_all l.length 1048577 (fun k i => laws_eqSymSS.l0 k l l i) (fun k i hi hk => ?_) (fun k => ?_) k (by omega)
  · show laws_eqSymSS.l0 (k + 1) l l (i : Int) = _
    have h : l[i]? = some l[i] := List.getElem?_eq_getElem hi
    have hm := hr l[i] (List.getElem_mem hi)
    rw [laws_eqSymSS.l0, if_pos (by omega), if_pos (by omega), if_pos (by omega), rd_irow h, eq_symS _ hm k (by omega), Option.bind_some, if_pos rfl, w64s i (by omega)]
  · show laws_eqSymSS.l0 (k + 1) l l (l.length : Int) = _
    rw [laws_eqSymSS.l0, if_neg (by omega)]
theorem eq_valS (l : List IVal) (hn : l.length ≤ 1048576) (k : Nat) (hk : l.length < k) : laws_eqValS.f k l l = some true := by
  rw [laws_eqValS.f, if_pos rfl]
  refine true_all l.length 0 (fun k i => laws_eqValS.l0 k l l i) (fun k i hi _ => ?_) (fun k => ?_) k (by omega)
  · show laws_eqValS.l0 (k + 1) l l (i : Int) = _
    rw [laws_eqValS.l0, if_pos (by omega), if_pos (by omega), if_pos (by omega), laws_eqVal.f, laws_eqRange.f, if_pos rfl, if_pos rfl, Option.bind_some, if_pos rfl, if_neg (by simp), Option.bind_some, if_pos rfl, w64s i (by omega)]
  · show laws_eqValS.l0 (k + 1) l l (l.length : Int) = _
    rw [laws_eqValS.l0, if_neg (by omega)]
theorem eq_boolS (l : List Bool) (hn : l.length ≤ 1048576) (k : Nat) (hk : l.length < k) : laws_eqBoolS.f k l l = some true := by
  rw [laws_eqBoolS.f, if_pos rfl]
  refine true_all l.length 0 (fun k i => laws_eqBoolS.l0 k l l i) (fun k i hi _ => ?_) (fun k => ?_) k (by omega)
  · show laws_eqBoolS.l0 (k + 1) l l (i : Int) = _
    rw [laws_eqBoolS.l0, if_pos (by omega), if_pos (by omega), if_pos (by omega), if_neg (by simp), w64s i (by omega)]
  · show laws_eqBoolS.l0 (k + 1) l l (l.length : Int) = _
    rw [laws_eqBoolS.l0, if_neg (by omega)]
/-- A row of segments that isn't too big. -/
structure SmallS (b : List (List ISym)) (v : List IVal) (m : List Bool) : Prop where
  rows : b.length ≤ 1048576
  each : ∀ r ∈ b, r.length ≤ 1048576
  vals : v.length ≤ 1048576
  flags : m.length ≤ 1048576
theorem eq_seg {b : List (List ISym)} {v : List IVal} {m : List Bool} (h : SmallS b v m) (k : Nat) (hk : 2097160 < k) : laws_eqSeg.f k b v m b v m = some true := by
  have h1 := h.rows
  have h3 := h.vals
  have h4 := h.flags
  rw [laws_eqSeg.f, eq_symSS b h1 h.each k (by omega), Option.bind_some, if_pos rfl, eq_valS v h3 k (by omega), Option.bind_some, if_pos rfl, eq_boolS m h4 k (by omega), Option.bind_some, if_pos rfl]
theorem sz_symSS (l : List (List LSym)) (hn : l.length ≤ 1048576) (hr : ∀ r ∈ l, r.length ≤ 9223372036854775807) : ∀ (d i k : Nat) (left : Int), i + d = l.length → 0 ≤ left → left ≤ 1048576 → d < k →
    ∃ r, laws_szSymSS.l0 k l left (i : Int) = some r ∧ r ≤ left ∧ (0 ≤ r → ∀ x ∈ l.drop i, x.length ≤ 1048576)
  | 0, i, k, left, h, h0, h1, hk => by
    obtain ⟨k, rfl⟩ : ∃ m, k = m + 1 := ⟨k - 1, by omega⟩
    refine ⟨left, by rw [laws_szSymSS.l0, if_neg (by omega)], Int.le_refl _, fun _ x hx => ?_⟩
    rw [List.drop_of_length_le (by omega)] at hx; cases hx
  | d + 1, i, k, left, h, h0, h1, hk => by
    obtain ⟨k, rfl⟩ : ∃ m, k = m + 1 := ⟨k - 1, by omega⟩
    have hi : i < l.length := by omega
    have hm := hr l[i] (List.getElem_mem hi)
    have hg : l[i]? = some l[i] := List.getElem?_eq_getElem hi
    have e : wrap64 (left - (l[i].length : Int)) = left - (l[i].length : Int) := w64 (by omega) (by omega)
    by_cases hl : left - (l[i].length : Int) < 0
    · exact ⟨-1, by rw [laws_szSymSS.l0, if_pos (by omega), if_pos (by omega), rd_lrow hg, laws_szSymS.f, e, if_pos hl, Option.bind_some, if_pos (by decide)], by omega, fun h => by omega⟩
    · obtain ⟨r, q1, q2, q3⟩ := sz_symSS l hn hr d (i + 1) k (left - (l[i].length : Int)) (by omega) (by omega) (by omega) (by omega)
      refine ⟨r, by rw [laws_szSymSS.l0, if_pos (by omega), if_pos (by omega), rd_lrow hg, laws_szSymS.f, e, if_neg hl, Option.bind_some, if_neg hl, w64s i (by omega)]; exact q1, by omega, fun hr0 x hx => ?_⟩
      rw [List.drop_eq_getElem_cons hi] at hx
      rcases List.mem_cons.1 hx with rfl | hx
      · omega
      · exact q3 hr0 x hx
theorem size_seg (b : List (List LSym)) (v : List LVal) (m : List Bool) (hb : b.length ≤ maxLen) (hr : ∀ r ∈ b, r.length ≤ maxLen) (hv : v.length ≤ maxLen) (hm : m.length ≤ maxLen) :
    ∃ r, (∀ k, 1048577 < k → laws_szSeg.f k b v m 1048576 = some r) ∧ r ≤ 1048576 ∧ (0 ≤ r → b.length ≤ 1048576 ∧ (∀ x ∈ b, x.length ≤ 1048576) ∧ v.length ≤ 1048576 ∧ m.length ≤ 1048576) := by
  simp only [maxLen] at hb hr hv hm
  have e0 : wrap64 ((1048576 : Int) - (b.length : Int)) = 1048576 - (b.length : Int) := w64 (by omega) (by omega)
  by_cases h1 : (1048576 : Int) - (b.length : Int) < 0
  · exact ⟨-1, fun k _ => by rw [laws_szSeg.f, laws_szSymSS.f, e0, if_pos h1, Option.bind_some, if_pos (by decide)], by omega, fun h => by omega⟩
  · have hs := fun k hk => sz_symSS b (by omega) (fun x hx => by have := hr x hx; omega) b.length 0 k (1048576 - (b.length : Int)) (by omega) (by omega) (by omega) hk
    obtain ⟨r0, q1, q2, q3⟩ := hs (b.length + 1) (by omega)
    have q1' : ∀ k, 1048577 < k → laws_szSymSS.l0 k b (1048576 - (b.length : Int)) 0 = some r0 := by
      intro k hk
      obtain ⟨r', p1, _, _⟩ := hs k (by omega)
      have up : ∀ n, laws_szSymSS.l0 (b.length + 1 + n) b (1048576 - (b.length : Int)) 0 = some r0 := by
        intro n
        induction n with
        | zero => exact q1
        | succ n ih => exact laws_szSymSS.mono_l _ _ _ _ _ ih
      have := up (k - (b.length + 1))
      rwa [show b.length + 1 + (k - (b.length + 1)) = k by omega] at this
    by_cases h2 : r0 < 0
    · exact ⟨-1, fun k hk => by rw [laws_szSeg.f, laws_szSymSS.f, e0, if_neg h1, q1' k hk, Option.bind_some, if_pos h2], by omega, fun h => by omega⟩
    · have e1 : wrap64 (r0 - (v.length : Int)) = r0 - (v.length : Int) := w64 (by omega) (by omega)
      by_cases h3 : r0 - (v.length : Int) < 0
      · exact ⟨-1, fun k hk => by rw [laws_szSeg.f, laws_szSymSS.f, e0, if_neg h1, q1' k hk, Option.bind_some, if_neg h2, laws_szValS.f, e1, if_pos h3, Option.bind_some, if_pos (by decide)], by omega, fun h => by omega⟩
      · have e2 : wrap64 (r0 - (v.length : Int) - (m.length : Int)) = r0 - (v.length : Int) - (m.length : Int) := w64 (by omega) (by omega)
        by_cases h4 : r0 - (v.length : Int) - (m.length : Int) < 0
        · exact ⟨-1, fun k hk => by rw [laws_szSeg.f, laws_szSymSS.f, e0, if_neg h1, q1' k hk, Option.bind_some, if_neg h2, laws_szValS.f, e1, if_neg h3, Option.bind_some, if_neg h3, laws_szBoolS.f, e2, if_pos h4, Option.bind_some, if_pos (by decide)], by omega, fun h => by omega⟩
        · refine ⟨r0 - (v.length : Int) - (m.length : Int), fun k hk => by rw [laws_szSeg.f, laws_szSymSS.f, e0, if_neg h1, q1' k hk, Option.bind_some, if_neg h2, laws_szValS.f, e1, if_neg h3, Option.bind_some, if_neg h3, laws_szBoolS.f, e2, if_neg h4, Option.bind_some, if_neg h4], by omega, fun _ => ⟨by omega, fun x hx => q3 (by omega) x (by simpa using hx), by omega, by omega⟩⟩
theorem to_seg (b : List (List LSym)) (v : List LVal) (m : List Bool) (h1 : b.length ≤ 1048576) (h2 : ∀ x ∈ b, x.length ≤ 1048576) (h3 : v.length ≤ 1048576) (h4 : m.length ≤ 1048576) (k : Nat) (hk : 2097160 < k) :
    laws_toSeg.f k b v m = some (b.map (·.map cSym), v.map cVal, m) := by
  rw [laws_toSeg.f, to_symSS b h1 h2 k (by omega), Option.bind_some, to_valS v h3 k (by omega), Option.bind_some, to_boolS m h4 k (by omega), Option.bind_some]
theorem smallS (b : List (List LSym)) (v : List LVal) (m : List Bool) (h1 : b.length ≤ 1048576) (h2 : ∀ x ∈ b, x.length ≤ 1048576) (h3 : v.length ≤ 1048576) (h4 : m.length ≤ 1048576) : SmallS (b.map (·.map cSym)) (v.map cVal) m :=
  ⟨by simpa using h1, fun r hr => by obtain ⟨x, hx, rfl⟩ := List.mem_map.1 hr; simpa using h2 x hx, by simpa using h3, h4⟩
end Go.Proofs.YtfeloencepgdlaaGreatDoor.Q
namespace Go.Proofs.YtfeloencepgdlaaGreatDoor.Q
open Go.RowKit Go.Proofs.YtfeloencepgdlaaGreatDoorW.PrintWords Go.Proofs.YtfeloencepgdlaaGreatDoorW.PrintLast Go.Proofs.YtfeloencepgdlaaGreatDoorW.PrintMore
open Go.Proofs.YtfeloencepgdlaaGreatDoor.Open
set_option linter.unusedSimpArgs false
set_option linter.unusedVariables false
def okR (lo hi : Int) : Bool := (lo == 1 && hi == 0) || (decide (-1000000 ≤ lo) && decide (hi ≤ 1000000) && decide (lo ≤ hi))
theorem okR_iff (lo hi : Int) : okR lo hi = true ↔ (lo = 1 ∧ hi = 0) ∨ (-1000000 ≤ lo ∧ hi ≤ 1000000 ∧ lo ≤ hi) := by
  simp [okR, and_assoc]
theorem inR (a b c : Int) : impl_inRange.f a b c = some (decide (b ≤ a) && decide (a ≤ c)) := by
  unfold impl_inRange.f
  by_cases h : b ≤ a <;> simp [h]
theorem btw (a b c : Int) : spec_l01Between.f a b c = some (decide (b ≤ a) && decide (a ≤ c)) := by
  unfold spec_l01Between.f
  by_cases h : b ≤ a <;> simp [h]
theorem i_val (a : Int) : impl_isVal.f a = some (decide (-1000000 ≤ a) && decide (a ≤ 1000000)) := by
  unfold impl_isVal.f
  rw [inR]; rfl
theorem s_val (a : Int) : spec_l05Val.f a = some (decide (-1000000 ≤ a) && decide (a ≤ 1000000)) := by
  unfold spec_l05Val.f
  rw [btw]; rfl
theorem i_ok (a b : Int) : impl_RangeOk.f a b = some (okR a b) := by
  unfold impl_RangeOk.f
  simp only [i_val, Option.bind_some]
  by_cases h : (a == 1 && b == 0) = true
  · rw [if_pos h]; simp [okR, h]
  · rw [if_neg h]
    have e : okR a b = (decide (-1000000 ≤ a) && decide (b ≤ 1000000) && decide (a ≤ b)) := by
      unfold okR
      rw [Bool.eq_false_iff.mpr h]; rfl
    rw [e]
    (repeat' split) <;> simp_all <;> omega
theorem s_is (a b : Int) : spec_l06Is.f a b = some (decide (a ≤ b)) := rfl
theorem s_ok (a b : Int) : spec_RangeOk.f a b = some (okR a b) := by
  rw [← i_ok]
  unfold spec_RangeOk.f impl_RangeOk.f
  simp only [s_is, s_val, i_val, Option.bind_some]
  by_cases h1 : a = 1
  · by_cases h2 : b = 0
    · simp [h1, h2]
    · simp only [h1, h2, if_true, if_false]
      (repeat' split) <;> simp_all <;> omega
  · simp only [h1, if_false]
    (repeat' split) <;> simp_all <;> omega
end Go.Proofs.YtfeloencepgdlaaGreatDoor.Q
namespace Go.Proofs.YtfeloencepgdlaaGreatDoor.Q
open Go.RowKit Go.Proofs.YtfeloencepgdlaaGreatDoorW.PrintWords Go.Proofs.YtfeloencepgdlaaGreatDoorW.PrintLast Go.Proofs.YtfeloencepgdlaaGreatDoorW.PrintMore
open Go.Proofs.YtfeloencepgdlaaGreatDoor.Open
set_option linter.unusedSimpArgs false
set_option linter.unusedVariables false
theorem i_vok (a b : Int) (c : Bool) : impl_ValOk.f a b c = some (okR a b) := by unfold impl_ValOk.f; rw [i_ok]; rfl
theorem s_vok (a b : Int) (c : Bool) : spec_ValOk.f a b c = some (okR a b) := by unfold spec_ValOk.f; rw [s_ok]; rfl
end Go.Proofs.YtfeloencepgdlaaGreatDoor.Q
namespace Go.Proofs.YtfeloencepgdlaaGreatDoor.Q
open Go.RowKit Go.Proofs.YtfeloencepgdlaaGreatDoorW.PrintWords Go.Proofs.YtfeloencepgdlaaGreatDoorW.PrintLast Go.Proofs.YtfeloencepgdlaaGreatDoorW.PrintMore
open Go.Proofs.YtfeloencepgdlaaGreatDoor.Open
set_option linter.unusedSimpArgs false
set_option linter.unusedVariables false
def isSym (x : ISym) (a b : Int) : Bool := x.f0 == a && x.f1 == b
def hasS (l : List ISym) (a b : Int) : Bool := l.any fun x => isSym x a b
theorem isSym_iff {x : ISym} {a b : Int} : isSym x a b = true ↔ x = ⟨a, b⟩ := by
  cases x; unfold isSym; simp
theorem hasS_iff {l : List ISym} {a b : Int} : hasS l a b = true ↔ (⟨a, b⟩ : ISym) ∈ l := by
  unfold hasS
  rw [List.any_eq_true]
  constructor
  · rintro ⟨x, hx, h⟩; rw [isSym_iff] at h; subst h; exact hx
  · intro h; exact ⟨_, h, isSym_iff.2 rfl⟩
/-- The first place from i on, -1 without one. -/
def findS (l : List ISym) (a b : Int) (i : Nat) : Int := match l with | [] => -1 | x :: t => if isSym x a b = true then (i : Int) else findS t a b (i + 1)
theorem findS_has (a b : Int) : ∀ (l : List ISym) (i : Nat), (decide (findS l a b i ≥ 0)) = hasS l a b
  | [], i => by unfold findS hasS; rfl
  | x :: t, i => by
    unfold findS hasS
    rw [List.any_cons]
    by_cases h : isSym x a b = true
    · rw [if_pos h, h, Bool.true_or]; exact decide_eq_true (by omega)
    · rw [if_neg h, findS_has a b t (i + 1)]
      simp only [Bool.not_eq_true] at h
      rw [h, Bool.false_or]; rfl
theorem s_find (l : List ISym) (hn : l.length ≤ 100000000000) (a b : Int) : ∀ (t : List ISym) (i k : Nat), l.drop i = t → t.length < k → spec_l10Find.l0 k l (i : Int) a b = some (findS t a b i)
  | [], i, k, h, hk => by
    have h2 := drop_nil h
    obtain ⟨k, rfl⟩ : ∃ m, k = m + 1 := ⟨k - 1, by simp at hk; omega⟩
    rw [spec_l10Find.l0, if_neg (by omega)]; rfl
  | x :: t, i, k, h, hk => by
    haveI : Inhabited ISym := ⟨x⟩
    obtain ⟨h2, h3, h4⟩ := drop_cons h
    obtain ⟨k, rfl⟩ : ∃ m, k = m + 1 := ⟨k - 1, by simp at hk; omega⟩
    rw [spec_l10Find.l0, if_pos (by omega), if_pos (by omega), rd_isym h3, w64s i (by omega), s_find l hn a b t (i + 1) k h4 (by simp at hk; omega), findS]
    unfold isSym
    split <;> rfl
theorem i_find (l : List ISym) (hn : l.length ≤ 100000000000) (a b : Int) : ∀ (t : List ISym) (i k : Nat), l.drop i = t → t.length < k → impl_Sym_66.l0 k l (l.length : Int) (i : Int) a b = some (findS t a b i)
  | [], i, k, h, hk => by
    have h2 := drop_nil h
    obtain ⟨k, rfl⟩ : ∃ m, k = m + 1 := ⟨k - 1, by simp at hk; omega⟩
    rw [impl_Sym_66.l0, if_neg (by omega)]; rfl
  | x :: t, i, k, h, hk => by
    haveI : Inhabited ISym := ⟨x⟩
    obtain ⟨h2, h3, h4⟩ := drop_cons h
    obtain ⟨k, rfl⟩ : ∃ m, k = m + 1 := ⟨k - 1, by simp at hk; omega⟩
    rw [impl_Sym_66.l0, if_pos (by omega), if_pos (by omega), if_pos (by omega), rd_isym h3, w64s i (by omega), i_find l hn a b t (i + 1) k h4 (by simp at hk; omega), findS]
    have e : (a == x.f0 && (b == x.f1)) = isSym x a b := by unfold isSym; rw [Bool.beq_comm, Bool.beq_comm (a := b)]
    rw [e]
    split <;> rfl
theorem i_contains (l : List ISym) (hn : l.length ≤ 100000000000) (a b : Int) (k : Nat) (hk : l.length < k) : impl_Sym_42.f k l a b = some (hasS l a b) := by
  rw [impl_Sym_42.f, impl_Sym_66.f]
  have := i_find l hn a b l 0 k rfl hk
  rw [show ((0 : Nat) : Int) = 0 from rfl] at this
  rw [this, Option.bind_some, findS_has]
/-- The first row from i on in which a term stands, -1 without one. -/
def inS (b : List (List ISym)) (x y : Int) (i : Nat) : Int := match b with | [] => -1 | r :: t => if hasS r x y = true then (i : Int) else inS t x y (i + 1)
theorem s_in_l (b : List (List ISym)) (v : List IVal) (m : List Bool) (h : SmallS b v m) (x y : Int) : ∀ (t : List (List ISym)) (i k : Nat), b.drop i = t → 1048600 + t.length < k → spec_l10In.l0 k (i : Int) b v m x y = some (inS t x y i)
  | [], i, k, hd, hk => by
    have h2 := drop_nil hd
    obtain ⟨k, rfl⟩ : ∃ m, k = m + 1 := ⟨k - 1, by simp at hk; omega⟩
    rw [spec_l10In.l0, if_neg (by omega)]; rfl
  | r :: t, i, k, hd, hk => by
    obtain ⟨h2, h3, h4⟩ := drop_cons hd
    have hn := h.rows
    have hr := h.each r (List.mem_of_getElem? h3)
    obtain ⟨k, rfl⟩ : ∃ m, k = m + 1 := ⟨k - 1, by simp at hk; omega⟩
    simp only [List.length_cons] at hk
    have hf := s_find r (by omega) x y r 0 k rfl (by omega)
    rw [show ((0 : Nat) : Int) = 0 from rfl] at hf
    rw [spec_l10In.l0, if_pos (by omega), if_pos (by omega), rd_irow h3, spec_l10Find.f, hf, Option.bind_some, w64s i (by omega), s_in_l b v m h x y t (i + 1) k h4 (by omega), inS]
    have hh := findS_has x y r 0
    by_cases hp : findS r x y 0 ≥ 0
    · rw [decide_eq_true hp] at hh
      rw [if_pos hp, ← hh, if_pos rfl]
    · rw [decide_eq_false hp] at hh
      rw [if_neg hp, ← hh, if_neg (by decide)]
theorem s_in {b : List (List ISym)} {v : List IVal} {m : List Bool} (h : SmallS b v m) (x y : Int) (k : Nat) (hk : 2097180 < k) : spec_l10In.f k b v m x y = some (inS b x y 0) := by
  have hn := h.rows
  rw [spec_l10In.f]
  exact s_in_l b v m h x y b 0 k rfl (by omega)
/-- A term that stands in a row stands first there just if no row ahead has it. -/
theorem inS_at (x y : Int) : ∀ (pre : List (List ISym)) (r : List ISym) (suf : List (List ISym)) (i : Nat), hasS r x y = true → (inS (pre ++ r :: suf) x y i = ((i + pre.length : Nat) : Int) ↔ hasS pre.flatten x y = false)
  | [], r, suf, i, h => by
    rw [List.nil_append, inS, if_pos h]
    simp [hasS]
  | p :: pre, r, suf, i, h => by
    rw [List.cons_append, inS, List.flatten_cons]
    have e : hasS (p ++ pre.flatten) x y = (hasS p x y || hasS pre.flatten x y) := by unfold hasS; rw [List.any_append]
    rw [e]
    by_cases hp : hasS p x y = true
    · rw [if_pos hp, hp]
      simp; omega
    · rw [if_neg hp]
      simp only [Bool.not_eq_true] at hp
      rw [hp, Bool.false_or, List.length_cons, show i + (pre.length + 1) = i + 1 + pre.length by omega]
      exact inS_at x y pre r suf (i + 1) h
theorem inS_ge (x y : Int) : ∀ (b : List (List ISym)) (i : Nat), inS b x y i = -1 ∨ (i : Int) ≤ inS b x y i
  | [], _ => .inl rfl
  | r :: t, i => by
    rw [inS]
    split
    · right; omega
    · rcases inS_ge x y t (i + 1) with h | h
      · exact .inl h
      · right; omega
/-- A term stands first in the last row: it stands there, and in none ahead. -/
theorem inS_last (x y : Int) : ∀ (pre : List (List ISym)) (r : List ISym) (i : Nat), inS (pre ++ [r]) x y i = ((i + pre.length : Nat) : Int) ↔ hasS pre.flatten x y = false ∧ hasS r x y = true
  | pre, r, i => by
    by_cases h : hasS r x y = true
    · rw [inS_at x y pre r [] i h]; simp [h]
    · simp only [Bool.not_eq_true] at h
      rw [h]
      constructor
      · intro e
        exfalso
        have none : ∀ (p : List (List ISym)) (j : Nat), inS (p ++ [r]) x y j ≠ ((j + p.length : Nat) : Int) := by
          intro p
          induction p with
          | nil => intro j; rw [List.nil_append, inS, if_neg (by rw [h]; decide), inS]; first | (simp; done) | (simp; omega)
          | cons q p ih =>
            intro j
            rw [List.cons_append, inS]
            split
            · first | (simp; done) | (simp; omega)
            · have := ih (j + 1)
              rw [List.length_cons, show j + (p.length + 1) = j + 1 + p.length by omega]
              exact this
        exact none pre i e
      · rintro ⟨_, e⟩; cases e
theorem inS_first (x y : Int) (r : List ISym) (t : List (List ISym)) : inS (r :: t) x y 0 = 0 ↔ hasS r x y = true := by
  rw [inS]
  by_cases h : hasS r x y = true
  · rw [if_pos h, h]; simp
  · rw [if_neg h]
    simp only [Bool.not_eq_true] at h
    rw [h]
    constructor
    · intro e
      exfalso
      rw [Nat.zero_add] at e
      rcases inS_ge x y t 1 with h1 | h1 <;> omega
    · intro e; cases e
def symB (size : Int) (x : ISym) : Bool := (decide (1 ≤ size) && decide (size ≤ 13)) && (decide (0 ≤ x.f0) && decide (x.f0 ≤ wrap64 (size - 1))) && (decide (-1000 ≤ x.f1) && decide (x.f1 ≤ 1000))
def lessB (x y : ISym) : Bool := decide (x.f0 < y.f0) || (decide (x.f0 = y.f0) && decide (x.f1 < y.f1))
theorem s_symB (size : Int) (x : ISym) : spec_SymOk.f size x.f0 x.f1 = some (symB size x) := by
  unfold spec_SymOk.f symB
  rw [btw, Option.bind_some, btw, btw]
  cases (decide (1 ≤ size) && decide (size ≤ 13)) <;> cases (decide (0 ≤ x.f0) && decide (x.f0 ≤ wrap64 (size - 1))) <;> rfl
theorem i_symB (size : Int) (x : ISym) : impl_SymOk.f size x.f0 x.f1 = some (symB size x) := by
  unfold impl_SymOk.f symB impl_isPlace.f
  rw [inR, Option.bind_some, inR, inR]
  cases (decide (1 ≤ size) && decide (size ≤ 13)) <;> cases (decide (0 ≤ x.f0) && decide (x.f0 ≤ wrap64 (size - 1))) <;> rfl
theorem s_lessB (x y : ISym) : spec_SymLess.f x.f0 x.f1 y.f0 y.f1 = some (lessB x y) := by
  unfold spec_SymLess.f lessB
  by_cases h : x.f0 < y.f0
  · rw [if_pos h, decide_eq_true h, Bool.true_or]
  · rw [if_neg h, decide_eq_false h, Bool.false_or]
    by_cases h2 : x.f0 = y.f0
    · rw [if_pos h2, decide_eq_true h2, Bool.true_and]
    · rw [if_neg h2, decide_eq_false h2, Bool.false_and]
theorem i_lessB (x y : ISym) : impl_SymLess.f x.f0 x.f1 y.f0 y.f1 = some (lessB x y) := by
  unfold impl_SymLess.f lessB
  by_cases h : x.f0 < y.f0
  · rw [if_pos h, decide_eq_true h, Bool.true_or]
  · rw [if_neg h, decide_eq_false h, Bool.false_or]
    by_cases h2 : x.f0 = y.f0
    · rw [if_pos h2, decide_eq_true h2, Bool.true_and]
    · rw [if_neg h2, decide_eq_false h2, Bool.false_and]
def prevOk : Option ISym → ISym → Bool
  | none, _ => true
  | some y, x => lessB y x
/-- The terms of a row behind its i-th, held against what stands ahead. -/
def termsB (size : Int) (all : List ISym) : Option ISym → List ISym → Bool
  | _, [] => true
  | p, x :: t => symB size x && prevOk p x && !hasS all x.f0 x.f1 && termsB size all (some x) t
def boundsB (size : Int) : List ISym → List (List ISym) → Bool
  | _, [] => true
  | all, r :: t => decide (r ≠ []) && decide ((all ++ r).length ≤ 40) && termsB size all none r && boundsB size (all ++ r) t
/-- What stands ahead of the i-th term. -/
def prevS (r : List ISym) (i : Nat) : Option ISym := if i = 0 then none else r[i - 1]?
theorem prevS_zero (r : List ISym) : prevS r 0 = none := rfl
theorem prevS_succ {r : List ISym} {i : Nat} {x : ISym} (h : r[i]? = some x) : prevS r (i + 1) = some x := by
  unfold prevS
  rw [if_neg (by omega), Nat.add_sub_cancel, h]
theorem hasS_mem {l : List ISym} {x : ISym} (h : x ∈ l) : hasS l x.f0 x.f1 = true := hasS_iff.2 (by cases x; exact h)
/-- The reference's round over the terms of the row behind 'pre'. -/
theorem s_terms (size : Int) (pre : List (List ISym)) (r : List ISym) (suf : List (List ISym)) (v : List IVal) (m : List Bool) (h : SmallS (pre ++ r :: suf) v m) (l K8 : Int) (all : Int) : ∀ (t : List ISym) (i k : Nat), r.drop i = t → 2097200 + t.length < k →
    spec_SegOk.l1 k size l K8 all (pre.length : Int) r (i : Int) (pre ++ r :: suf) v m = if termsB size pre.flatten (prevS r i) t = true then spec_SegOk.l0 (k - t.length - 1) size l K8 all ((pre.length + 1 : Nat) : Int) (pre ++ r :: suf) v m else some false
  | [], i, k, hd, hk => by
    have h2 := drop_nil hd
    have hn := h.rows
    obtain ⟨k, rfl⟩ : ∃ m, k = m + 1 := ⟨k - 1, by simp at hk; omega⟩
    rw [List.length_append] at hn
    rw [spec_SegOk.l1, if_neg (by omega), w64s pre.length (by omega), termsB, if_pos rfl]; rfl
  | x :: t, i, k, hd, hk => by
    haveI : Inhabited ISym := ⟨x⟩
    obtain ⟨h2, h3, h4⟩ := drop_cons hd
    have hn := h.rows
    have hr := h.each r (by simp)
    simp only [List.length_cons] at hk
    obtain ⟨k, rfl⟩ : ∃ m, k = m + 1 := ⟨k - 1, by omega⟩
    have ih := s_terms size pre r suf v m h l K8 all t (i + 1) k h4 (by omega)
    rw [prevS_succ h3] at ih
    have hin := inS_at x.f0 x.f1 pre r suf 0 (hasS_mem (List.mem_of_getElem? h3))
    rw [Nat.zero_add] at hin
    have hq : ∀ (Y : Option Bool), (if inS (pre ++ r :: suf) x.f0 x.f1 0 = (pre.length : Int) then Y else some false) = if !hasS pre.flatten x.f0 x.f1 then Y else some false := by
      intro Y
      by_cases hp : inS (pre ++ r :: suf) x.f0 x.f1 0 = (pre.length : Int)
      · rw [if_pos hp, hin.1 hp]; rfl
      · rw [if_neg hp]
        cases hh : hasS pre.flatten x.f0 x.f1 with
        | true => rfl
        | false => exact absurd (hin.2 hh) hp
    rw [spec_SegOk.l1, if_pos (by omega), if_pos (by omega), rd_isym h3, s_symB, Option.bind_some, s_in h _ _ k (by omega), Option.bind_some, w64s i (by omega), ih, List.length_cons, show k + 1 - (t.length + 1) - 1 = k - t.length - 1 by omega, hq]
    rw [termsB]
    cases hs : symB size x with
    | false => rw [if_neg (by decide)]; rfl
    | true =>
      rw [if_pos rfl]
      cases i with
      | zero =>
        rw [if_neg (by omega), prevS_zero, prevOk]
        cases hasS pre.flatten x.f0 x.f1 <;> cases termsB size pre.flatten (some x) t <;> rfl
      | succ j =>
        have hj : r[j]? = some r[j] := List.getElem?_eq_getElem (by omega)
        rw [if_pos (by omega), w64 (by omega) (by omega), show (((j + 1 : Nat) : Int) - 1) = (j : Int) by omega, if_pos (by omega), if_pos (by omega), rd_isym hj, s_lessB, Option.bind_some, prevS_succ hj, prevOk]
        cases lessB r[j] x <;> cases hasS pre.flatten x.f0 x.f1 <;> cases termsB size pre.flatten (some x) t <;> rfl
/-- The program's round over the terms of a row. -/
theorem i_terms (size : Int) (l K7 : Int) (all : List ISym) (ha : all.length ≤ 1048576) (r : List ISym) (hr : r.length ≤ 1048576) (B : List (List ISym)) (K46 x47 : Int) (b : List (List ISym)) (v : List IVal) (m : List Bool) (N : Option Bool) (Kn : Nat)
    (hN : ∀ k, Kn ≤ k → (if (r.length : Int) = 0 then (some false) else (if all.length + r.length < 8796093022208 then ((some (all ++ r : List ISym)).bind fun y239 => (if (y239.length : Int) > 40 then (some false) else (impl_SegOk.l0 k size l K7 y239 B K46 (wrap64 (x47 + 1)) b v m))) else (none))) = N) : ∀ (t : List ISym) (i k : Nat), r.drop i = t → Kn + 1048700 + t.length < k →
    impl_SegOk.l1 k size l K7 all r B K46 x47 r (r.length : Int) (i : Int) b v m = if termsB size all (prevS r i) t = true then N else some false
  | [], i, k, hd, hk => by
    have h2 := drop_nil hd
    obtain ⟨k, rfl⟩ : ∃ m, k = m + 1 := ⟨k - 1, by simp at hk; omega⟩
    rw [impl_SegOk.l1, if_neg (by omega), termsB, if_pos rfl]
    exact hN k (by simp at hk; omega)
  | x :: t, i, k, hd, hk => by
    haveI : Inhabited ISym := ⟨x⟩
    obtain ⟨h2, h3, h4⟩ := drop_cons hd
    simp only [List.length_cons] at hk
    obtain ⟨k, rfl⟩ : ∃ m, k = m + 1 := ⟨k - 1, by omega⟩
    have ih := i_terms size l K7 all ha r hr B K46 x47 b v m N Kn hN t (i + 1) k h4 (by omega)
    rw [prevS_succ h3] at ih
    rw [impl_SegOk.l1, if_pos (by omega), if_pos (by omega), if_pos (by omega), rd_isym h3, i_symB, Option.bind_some, i_contains all (by omega) _ _ k (by omega), Option.bind_some, w64s i (by omega), ih]
    rw [termsB]
    cases hs : symB size x with
    | false => rw [if_neg (by decide)]; rfl
    | true =>
      rw [if_pos rfl]
      cases i with
      | zero =>
        rw [if_neg (by omega), prevS_zero, prevOk]
        cases hasS all x.f0 x.f1 <;> cases termsB size all (some x) t <;> rfl
      | succ j =>
        have hj : r[j]? = some r[j] := List.getElem?_eq_getElem (by omega)
        rw [if_pos (by omega), w64 (by omega) (by omega), show (((j + 1 : Nat) : Int) - 1) = (j : Int) by omega, if_pos (by omega), if_pos (by omega), rd_isym hj, i_lessB, Option.bind_some, prevS_succ hj, prevOk]
        cases lessB r[j] x <;> cases hasS all x.f0 x.f1 <;> cases termsB size all (some x) t <;> rfl
theorem flat_snoc (pre : List (List ISym)) (r : List ISym) : (pre ++ [r]).flatten = pre.flatten ++ r := by simp
theorem s_bounds (size l : Int) (v : List IVal) (m : List Bool) (b : List (List ISym)) (h : SmallS b v m) (F : Bool) (K2 : Nat) (hF : ∀ k, K2 ≤ k → spec_SegOk.l2 k l (b.length : Int) 0 b v m = some F) : ∀ (suf pre : List (List ISym)), b = pre ++ suf → pre.flatten.length ≤ 40 →
    ∃ K, ∀ k, K ≤ k → spec_SegOk.l0 k size l (b.length : Int) (pre.flatten.length : Int) (pre.length : Int) b v m = some (boundsB size pre.flatten suf && F)
  | [], pre, hb, hp => by
    refine ⟨K2 + 1, fun k hk => ?_⟩
    obtain ⟨k, rfl⟩ : ∃ n, k = n + 1 := ⟨k - 1, by omega⟩
    have hl : b.length = pre.length := by rw [hb]; simp
    rw [spec_SegOk.l0, if_neg (by omega), hF k (by omega), boundsB, Bool.true_and]
  | r :: suf, pre, hb, hp => by
    have hl : b.length = pre.length + (suf.length + 1) := by rw [hb]; simp
    have hn := h.rows
    have hg : b[pre.length]? = some r := by rw [hb]; simp
    have hr := h.each r (by rw [hb]; simp)
    have st : ∀ k, (pre.length : Int) < (b.length : Int) ∧ (0 : Int) ≤ (pre.length : Int) := fun _ => by omega
    have h' : SmallS (pre ++ r :: suf) v m := hb ▸ h
    by_cases h0 : r = []
    · refine ⟨2, fun k hk => ?_⟩
      obtain ⟨k, rfl⟩ : ∃ n, k = n + 2 := ⟨k - 2, by omega⟩
      rw [spec_SegOk.l0, if_pos (by omega), if_pos (by omega), if_pos (by omega), rd_irow hg, h0, if_pos (show ((([] : List ISym).length : Nat) : Int) = 0 from rfl), spec_SegOk.j2, if_pos rfl, boundsB, decide_eq_false (by simp)]; rfl
    · have hz : ¬ (r.length : Int) = 0 := by
        intro e
        exact h0 (List.eq_nil_of_length_eq_zero (by omega))
      have hw : wrap64 ((pre.flatten.length : Int) + (r.length : Int)) = ((pre ++ [r]).flatten.length : Int) := by
        rw [w64 (by omega) (by omega), flat_snoc, List.length_append]; omega
      by_cases h40 : (pre ++ [r]).flatten.length ≤ 40
      · obtain ⟨K, ih⟩ := s_bounds size l v m b h F K2 hF suf (pre ++ [r]) (by rw [hb]; simp) h40
        refine ⟨K + 2097210 + r.length, fun k hk => ?_⟩
        obtain ⟨k, rfl⟩ : ∃ n, k = n + 2 := ⟨k - 2, by omega⟩
        have tm := s_terms size pre r suf v m h' l (b.length : Int) ((pre ++ [r]).flatten.length : Int) r 0 k rfl (by omega)
        rw [← hb, show ((0 : Nat) : Int) = 0 from rfl] at tm
        rw [spec_SegOk.l0, if_pos (by omega), if_pos (by omega), if_pos (by omega), rd_irow hg, if_neg hz, hw, decide_eq_false (show ¬ ((pre ++ [r]).flatten.length : Int) > 40 by omega), spec_SegOk.j2, if_neg (by decide), tm, prevS_zero]
        have ih' := ih (k - r.length - 1) (by omega)
        rw [show (pre ++ [r]).length = pre.length + 1 by simp] at ih'
        rw [ih', boundsB, decide_eq_true h0, decide_eq_true (show (pre.flatten ++ r).length ≤ 40 by rw [← flat_snoc]; exact h40), flat_snoc]
        cases termsB size pre.flatten none r <;> rfl
      · refine ⟨2, fun k hk => ?_⟩
        obtain ⟨k, rfl⟩ : ∃ n, k = n + 2 := ⟨k - 2, by omega⟩
        rw [spec_SegOk.l0, if_pos (by omega), if_pos (by omega), if_pos (by omega), rd_irow hg, if_neg hz, hw, decide_eq_true (show ((pre ++ [r]).flatten.length : Int) > 40 by omega), spec_SegOk.j2, if_pos rfl, boundsB, decide_eq_true h0, decide_eq_false (show ¬ (pre.flatten ++ r).length ≤ 40 by rw [← flat_snoc]; exact h40)]; rfl
def endI (l : Int) (b : List (List ISym)) (v : List IVal) (FI : Bool) (K2 : Nat) : Prop := ∀ k, K2 ≤ k → ((impl_ends.f l).bind fun bt242 => (if 0 < (b.length : Int) then ((impl_Sym_42.f k (rd_L8 b 0) bt242.1 bt242.2.1).bind fun t249 => (if t249 = true then (if 0 ≤ (wrap64 ((b.length : Int) - 1)) then (if (wrap64 ((b.length : Int) - 1)) < (b.length : Int) then ((impl_Sym_42.f k (rd_L8 b (wrap64 ((b.length : Int) - 1))) bt242.2.2.1 bt242.2.2.2).bind fun t251 => (if t251 = true then ((slices_ContainsFunc__impl_SegOk_1.f k v).bind fun t252 => (some (!t252))) else (some false))) else (none)) else (none)) else (some false))) else (none))) = some FI
theorem i_bounds (size l : Int) (v : List IVal) (m : List Bool) (b : List (List ISym)) (h : SmallS b v m) (FI : Bool) (K2 : Nat) (hF : endI l b v FI K2) : ∀ (suf pre : List (List ISym)), b = pre ++ suf → pre.flatten.length ≤ 40 →
    ∃ K, ∀ k, K ≤ k → impl_SegOk.l0 k size l (b.length : Int) pre.flatten b (b.length : Int) (pre.length : Int) b v m = some (boundsB size pre.flatten suf && FI)
  | [], pre, hb, hp => by
    refine ⟨K2 + 1, fun k hk => ?_⟩
    obtain ⟨k, rfl⟩ : ∃ n, k = n + 1 := ⟨k - 1, by omega⟩
    have hl : b.length = pre.length := by rw [hb]; simp
    rw [impl_SegOk.l0, if_neg (by omega), boundsB, Bool.true_and]
    exact hF k (by omega)
  | r :: suf, pre, hb, hp => by
    have hl : b.length = pre.length + (suf.length + 1) := by rw [hb]; simp
    have hn := h.rows
    have hg : b[pre.length]? = some r := by rw [hb]; simp
    have hr := h.each r (by rw [hb]; simp)
    have go : ∃ K, ∀ k, K ≤ k → (if (r.length : Int) = 0 then (some false) else (if pre.flatten.length + r.length < 8796093022208 then ((some (pre.flatten ++ r : List ISym)).bind fun y239 => (if (y239.length : Int) > 40 then (some false) else (impl_SegOk.l0 k size l (b.length : Int) y239 b (b.length : Int) (wrap64 ((pre.length : Int) + 1)) b v m))) else (none))) = some (decide (r ≠ []) && decide ((pre.flatten ++ r).length ≤ 40) && boundsB size (pre.flatten ++ r) suf && FI) := by
      by_cases h0 : r = []
      · exact ⟨0, fun k _ => by rw [h0, if_pos (show ((([] : List ISym).length : Nat) : Int) = 0 from rfl), decide_eq_false (by simp)]; rfl⟩
      · have hz : ¬ (r.length : Int) = 0 := by
          intro e
          exact h0 (List.eq_nil_of_length_eq_zero (by omega))
        by_cases h40 : (pre.flatten ++ r).length ≤ 40
        · obtain ⟨K, ih⟩ := i_bounds size l v m b h FI K2 hF suf (pre ++ [r]) (by rw [hb]; simp) (by rw [flat_snoc]; exact h40)
          refine ⟨K, fun k hk => ?_⟩
          have ih' := ih k hk
          rw [show (pre ++ [r]).length = pre.length + 1 by simp, flat_snoc] at ih'
          rw [if_neg hz, if_pos (by omega), Option.bind_some, if_neg (by omega), w64s pre.length (by omega), ih', decide_eq_true h0, decide_eq_true h40]; rfl
        · exact ⟨0, fun k _ => by rw [if_neg hz, if_pos (by omega), Option.bind_some, if_pos (by omega), decide_eq_true h0, decide_eq_false h40]; rfl⟩
    obtain ⟨K, hK⟩ := go
    refine ⟨K + 1048710 + r.length, fun k hk => ?_⟩
    obtain ⟨k, rfl⟩ : ∃ n, k = n + 1 := ⟨k - 1, by omega⟩
    have tm := i_terms size l (b.length : Int) pre.flatten (by omega) r hr b (b.length : Int) (pre.length : Int) b v m _ K hK r 0 k rfl (by omega)
    rw [show ((0 : Nat) : Int) = 0 from rfl] at tm
    rw [impl_SegOk.l0, if_pos (by omega), if_pos (by omega), if_pos (by omega), rd_irow hg, tm, prevS_zero, boundsB]
    cases termsB size pre.flatten none r <;> cases decide (r ≠ []) <;> cases decide ((pre.flatten ++ r).length ≤ 40) <;> rfl
def okV (x : IVal) : Bool := okR x.f0.f0 x.f0.f1
theorem s_vloop (l : Int) (v : List IVal) (m : List Bool) (b : List (List ISym)) (h : SmallS b v m) (hv : v.length + 1 = b.length) : ∀ (t : List IVal) (i k : Nat), v.drop i = t → 2097200 + t.length < k →
    spec_SegOk.l2 k l (b.length : Int) (i : Int) b v m = some (t.all okV && (decide (inS b 0 0 0 = 0) && (inS b l 0 0 == (v.length : Int))))
  | [], i, k, hd, hk => by
    have h2 := drop_nil hd
    have hn := h.rows
    obtain ⟨k, rfl⟩ : ∃ n, k = n + 1 := ⟨k - 1, by simp at hk; omega⟩
    simp only [List.length_nil] at hk
    have hw : wrap64 ((b.length : Int) - 1) = (v.length : Int) := by rw [w64 (by omega) (by omega)]; omega
    rw [spec_SegOk.l2, hw, if_neg (by omega), s_in h 0 0 k (by omega), Option.bind_some, s_in h l 0 k (by omega), Option.bind_some, List.all_nil, Bool.true_and]
    by_cases h0 : inS b 0 0 0 = 0
    · rw [if_pos h0, decide_eq_true h0, Bool.true_and]
    · rw [if_neg h0, decide_eq_false h0, Bool.false_and]
  | x :: t, i, k, hd, hk => by
    haveI : Inhabited IVal := ⟨x⟩
    obtain ⟨h2, h3, h4⟩ := drop_cons hd
    have hn := h.rows
    simp only [List.length_cons] at hk
    obtain ⟨k, rfl⟩ : ∃ n, k = n + 1 := ⟨k - 1, by omega⟩
    have hw : wrap64 ((b.length : Int) - 1) = (v.length : Int) := by rw [w64 (by omega) (by omega)]; omega
    rw [spec_SegOk.l2, hw, if_pos (by omega), if_pos (by omega), if_pos (by omega), rd_ival h3, s_vok, Option.bind_some, w64s i (by omega), s_vloop l v m b h hv t (i + 1) k h4 (by omega), List.all_cons]
    unfold okV
    cases okR x.f0.f0 x.f0.f1 <;> rfl
theorem i_vidx (v : List IVal) (hn : v.length ≤ 1048576) : ∀ (t : List IVal) (i k : Nat), v.drop i = t → t.length < k → ∃ r, slices_IndexFunc__impl_SegOk_1.l0 k v (v.length : Int) (i : Int) = some r ∧ decide (r ≥ 0) = !t.all okV
  | [], i, k, hd, hk => by
    have h2 := drop_nil hd
    obtain ⟨k, rfl⟩ : ∃ n, k = n + 1 := ⟨k - 1, by simp at hk; omega⟩
    exact ⟨-1, by rw [slices_IndexFunc__impl_SegOk_1.l0, if_neg (by omega)], rfl⟩
  | x :: t, i, k, hd, hk => by
    haveI : Inhabited IVal := ⟨x⟩
    obtain ⟨h2, h3, h4⟩ := drop_cons hd
    obtain ⟨k, rfl⟩ : ∃ n, k = n + 1 := ⟨k - 1, by simp at hk; omega⟩
    obtain ⟨r, q1, q2⟩ := i_vidx v hn t (i + 1) k h4 (by simp at hk; omega)
    cases ho : okV x with
    | true =>
      refine ⟨r, ?_, by rw [q2, List.all_cons, ho, Bool.true_and]⟩
      rw [slices_IndexFunc__impl_SegOk_1.l0, if_pos (by omega), if_pos (by omega), if_pos (by omega), rd_ival h3, impl_SegOk_1.f, i_vok, Option.bind_some, Option.bind_some, w64s i (by omega)]
      unfold okV at ho
      rw [ho, if_neg (by decide)]; exact q1
    | false =>
      refine ⟨(i : Int), ?_, by rw [List.all_cons, ho, Bool.false_and]; exact decide_eq_true (by omega)⟩
      rw [slices_IndexFunc__impl_SegOk_1.l0, if_pos (by omega), if_pos (by omega), if_pos (by omega), rd_ival h3, impl_SegOk_1.f, i_vok, Option.bind_some, Option.bind_some]
      unfold okV at ho
      rw [ho, if_pos (by decide)]
theorem i_end {l : Int} {v : List IVal} {m : List Bool} {pre : List (List ISym)} {r0 r : List ISym} {b : List (List ISym)} (h : SmallS b v m) (hb : b = pre ++ [r]) (h0 : b[0]? = some r0) :
    endI l b v (hasS r0 0 0 && hasS r l 0 && v.all okV) 1048600 := by
  intro k hk
  have hn := h.rows
  have hl : b.length = pre.length + 1 := by rw [hb]; simp
  have hg : b[pre.length]? = some r := by rw [hb]; simp
  have hw : wrap64 ((b.length : Int) - 1) = (pre.length : Int) := by rw [w64 (by omega) (by omega)]; omega
  have hr := h.each r (by rw [hb]; simp)
  have hr0 := h.each r0 (List.mem_of_getElem? h0)
  have hv := h.vals
  have e0 : rd_L8 b 0 = r0 := rd_irow (i := 0) h0
  obtain ⟨x, q1, q2⟩ := i_vidx v hv v 0 k rfl (by omega)
  rw [show ((0 : Nat) : Int) = 0 from rfl] at q1
  rw [impl_ends.f, Option.bind_some]
  simp only
  rw [if_pos (by omega), e0, i_contains r0 (by omega) _ _ k (by omega), Option.bind_some, hw, if_pos (show (0 : Int) ≤ (pre.length : Int) by omega), if_pos (show (pre.length : Int) < (b.length : Int) by omega), rd_irow hg, i_contains r (by omega) _ _ k (by omega), Option.bind_some, slices_ContainsFunc__impl_SegOk_1.f, slices_IndexFunc__impl_SegOk_1.f, q1, Option.bind_some, Option.bind_some, q2, Bool.not_not]
  cases hasS r0 0 0 <;> cases hasS r l 0 <;> rfl
theorem terms_apart {size : Int} {all : List ISym} {x : ISym} : ∀ {t : List ISym} {p : Option ISym}, termsB size all p t = true → x ∈ t → hasS all x.f0 x.f1 = false
  | [], _, _, hx => by cases hx
  | y :: t, p, h, hx => by
    rw [termsB] at h
    simp only [Bool.and_eq_true, Bool.not_eq_true'] at h
    rcases List.mem_cons.1 hx with rfl | hx
    · exact h.1.2
    · exact terms_apart h.2 hx
theorem bounds_apart {size : Int} {r : List ISym} {x y : Int} (hr : hasS r x y = true) : ∀ (pre : List (List ISym)) (all : List ISym), boundsB size all (pre ++ [r]) = true → hasS (all ++ pre.flatten) x y = false
  | [], all, h => by
    rw [List.nil_append, boundsB] at h
    simp only [Bool.and_eq_true] at h
    rw [List.flatten_nil, List.append_nil]
    have := terms_apart h.1.2 (hasS_iff.1 hr)
    exact this
  | p :: pre, all, h => by
    rw [List.cons_append, boundsB] at h
    simp only [Bool.and_eq_true] at h
    have := bounds_apart hr pre (all ++ p) h.2
    rw [List.flatten_cons, ← List.append_assoc]
    exact this
def shapeB (size l : Int) : Bool := (decide (2 ≤ size) && decide (size ≤ 13)) && (decide (1 ≤ l) && decide (l ≤ wrap64 (size - 1)))
theorem s_shape (size l : Int) : spec_l10Size.f size l = some (shapeB size l) := by
  unfold spec_l10Size.f shapeB
  rw [btw, Option.bind_some, btw]
  cases (decide (2 ≤ size) && decide (size ≤ 13)) <;> rfl
theorem i_shape (size l : Int) : impl_isShape.f size l = some (shapeB size l) := by
  unfold impl_isShape.f shapeB
  rw [inR, Option.bind_some, inR]
  cases (decide (2 ≤ size) && decide (size ≤ 13)) <;> rfl
/-- What holds of a row of segments that is right. -/
structure GoodS (size : Int) (b : List (List ISym)) (v : List IVal) (m : List Bool) : Prop where
  most : 2 ≤ size ∧ size ≤ 13
  rows : b.length ≤ 16
  vals : v.length + 1 = b.length
  flags : m.length + 1 = b.length
  valOk : ∀ x ∈ v, okV x = true
  short : ∀ r ∈ b, r.length ≤ 40
  terms : ∀ r ∈ b, ∀ x ∈ r, (0 ≤ x.f0 ∧ x.f0 ≤ size - 1) ∧ (-1000 ≤ x.f1 ∧ x.f1 ≤ 1000)
theorem termsB_sym {size : Int} {all : List ISym} : ∀ {t : List ISym} {p : Option ISym}, termsB size all p t = true → ∀ x ∈ t, symB size x = true
  | [], _, _, x, hx => by simp at hx
  | y :: t, p, h, x, hx => by
    simp only [termsB, Bool.and_eq_true] at h
    rcases List.mem_cons.1 hx with rfl | hx
    · exact h.1.1.1
    · exact termsB_sym h.2 x hx
theorem boundsB_each {size : Int} : ∀ {b : List (List ISym)} {all : List ISym}, boundsB size all b = true → ∀ r ∈ b, r.length ≤ 40 ∧ ∀ x ∈ r, symB size x = true
  | [], _, _, r, hr => by simp at hr
  | y :: t, all, h, r, hr => by
    simp only [boundsB, Bool.and_eq_true, decide_eq_true_eq] at h
    rcases List.mem_cons.1 hr with rfl | hr
    · have := h.1.1.2
      rw [List.length_append] at this
      exact ⟨by omega, termsB_sym h.1.2⟩
    · exact boundsB_each h.2 r hr
theorem good_of {size l : Int} {b : List (List ISym)} {v : List IVal} {m : List Bool} {X : Bool} (hs : shapeB size l = true) (h2 : b.length ≤ 16) (hv : v.length + 1 = b.length) (hm : m.length + 1 = b.length) (hc : (boundsB size ([] : List (List ISym)).flatten b && (v.all okV && X)) = true) : GoodS size b v m := by
  simp only [Bool.and_eq_true] at hc
  have hs' := hs
  unfold shapeB at hs'
  simp only [Bool.and_eq_true, decide_eq_true_eq] at hs'
  have he := boundsB_each hc.1
  refine ⟨hs'.1, h2, hv, hm, fun x hx => List.all_eq_true.1 hc.2.1 x hx, fun r hr => (he r hr).1, fun r hr x hx => ?_⟩
  have := (he r hr).2 x hx
  unfold symB at this
  simp only [Bool.and_eq_true, decide_eq_true_eq] at this
  rw [w64 (by omega) (by omega)] at this
  exact ⟨this.1.2, this.2⟩
/-- Is a row of segments right? -/
theorem segOk (size l : Int) (b : List (List ISym)) (v : List IVal) (m : List Bool) (h : SmallS b v m) : ∃ K c, (c = true → GoodS size b v m) ∧ ∀ k, K ≤ k → spec_SegOk.f k size l b v m = some c ∧ impl_SegOk.f k size l b v m = some c := by
  have hn := h.rows
  have sbad : ∀ k, 1 ≤ k → spec_SegOk.j0 k size l (b.length : Int) true b v m = some false := fun k hk => by
    obtain ⟨k, rfl⟩ : ∃ n, k = n + 1 := ⟨k - 1, by omega⟩
    rw [spec_SegOk.j0, if_pos rfl]
  have ibad : ∀ k, 1 ≤ k → impl_SegOk.j0 k size l (b.length : Int) true b v m = some false := fun k hk => by
    obtain ⟨k, rfl⟩ : ∃ n, k = n + 1 := ⟨k - 1, by omega⟩
    rw [impl_SegOk.j0, if_pos rfl]
  cases hs : shapeB size l with
  | false =>
    refine ⟨1, false, fun e => by simp at e, fun k hk => ?_⟩
    rw [spec_SegOk.f, impl_SegOk.f, s_shape, i_shape, hs, Option.bind_some, Option.bind_some, if_neg (by decide), if_neg (by decide), sbad k hk, ibad k hk]
    exact ⟨rfl, rfl⟩
  | true =>
    by_cases hk1 : 1 ≤ b.length
    · by_cases hk2 : b.length ≤ 16
      · have hw : wrap64 ((b.length : Int) - 1) = (b.length : Int) - 1 := w64 (by omega) (by omega)
        have hir : (decide ((1 : Int) ≤ (b.length : Int)) && decide ((b.length : Int) ≤ 16)) = true := by rw [decide_eq_true (by omega), decide_eq_true (by omega)]; rfl
        by_cases hv : v.length + 1 = b.length
        · by_cases hm : m.length + 1 = b.length
          · obtain ⟨pre, r, hb⟩ : ∃ pre r, b = pre ++ [r] := ⟨b.dropLast, b.getLast (by intro e; rw [e] at hk1; simp at hk1), (List.dropLast_concat_getLast _).symm⟩
            obtain ⟨r0, t0, hb0⟩ : ∃ r0 t0, b = r0 :: t0 := by
              cases b with
              | nil => simp at hk1
              | cons a t => exact ⟨a, t, rfl⟩
            have hg0 : b[0]? = some r0 := by rw [hb0]; rfl
            have hsF := s_vloop l v m b h hv v 0
            obtain ⟨K1, q1⟩ := s_bounds size l v m b h _ (2097300 + v.length) (fun k hk => by
              have := hsF k rfl (by omega)
              exact this) b [] rfl (by simp)
            obtain ⟨K2, q2⟩ := i_bounds size l v m b h _ 1048600 (i_end (l := l) h hb hg0) b [] rfl (by simp)
            have he : (boundsB size ([] : List (List ISym)).flatten b && (v.all okV && (decide (inS b 0 0 0 = 0) && (inS b l 0 0 == (v.length : Int))))) = (boundsB size ([] : List (List ISym)).flatten b && (hasS r0 0 0 && hasS r l 0 && v.all okV)) := by
              cases hB : boundsB size ([] : List (List ISym)).flatten b with
              | false => rfl
              | true =>
                have e1 : decide (inS b 0 0 0 = 0) = hasS r0 0 0 := by
                  rw [Bool.eq_iff_iff, decide_eq_true_eq, hb0]
                  exact inS_first 0 0 r0 t0
                have e2 : (inS b l 0 0 == (v.length : Int)) = hasS r l 0 := by
                  have hp : (v.length : Int) = ((0 + pre.length : Nat) : Int) := by
                    have : b.length = pre.length + 1 := by rw [hb]; simp
                    omega
                  rw [Bool.eq_iff_iff, beq_iff_eq, hp, hb, inS_last l 0 pre r 0]
                  constructor
                  · exact fun h => h.2
                  · intro hr
                    rw [hb] at hB
                    have := bounds_apart hr pre [] hB
                    rw [List.nil_append] at this
                    exact ⟨this, hr⟩
                rw [e1, e2]
                cases hasS r0 0 0 <;> cases hasS r l 0 <;> cases v.all okV <;> rfl
            refine ⟨K1 + K2 + 2, boundsB size ([] : List (List ISym)).flatten b && (v.all okV && (decide (inS b 0 0 0 = 0) && (inS b l 0 0 == (v.length : Int)))), fun hc => good_of hs hk2 hv hm hc, fun k hk => ⟨?_, ?_⟩⟩
            · obtain ⟨k, rfl⟩ : ∃ n, k = n + 1 := ⟨k - 1, by omega⟩
              rw [spec_SegOk.f, s_shape, hs, Option.bind_some, if_pos rfl, if_neg (by omega), if_neg (by omega), hw, if_pos (by omega), show ((m.length : Int) != (b.length : Int) - 1) = false from bne_eq_false_iff_eq.2 (by omega), spec_SegOk.j0, if_neg (by decide)]
              exact q1 k (by omega)
            · obtain ⟨k, rfl⟩ : ∃ n, k = n + 1 := ⟨k - 1, by omega⟩
              rw [impl_SegOk.f, i_shape, hs, Option.bind_some, if_pos rfl, inR, Option.bind_some, hir, if_pos rfl, hw, if_pos (by omega), show ((m.length : Int) != (b.length : Int) - 1) = false from bne_eq_false_iff_eq.2 (by omega), impl_SegOk.j0, if_neg (by decide), he]
              exact q2 k (by omega)
          · refine ⟨1, false, fun e => by simp at e, fun k hk => ?_⟩
            have e : ((m.length : Int) != (b.length : Int) - 1) = true := bne_iff_ne.2 (by omega)
            rw [spec_SegOk.f, impl_SegOk.f, s_shape, i_shape, hs, Option.bind_some, Option.bind_some, if_pos rfl, if_pos rfl, if_neg (by omega), if_neg (by omega), inR, hir, Option.bind_some, if_pos rfl, hw, if_pos (by omega), if_pos (by omega), e, sbad k hk, ibad k hk]
            exact ⟨rfl, rfl⟩
        · refine ⟨1, false, fun e => by simp at e, fun k hk => ?_⟩
          rw [spec_SegOk.f, impl_SegOk.f, s_shape, i_shape, hs, Option.bind_some, Option.bind_some, if_pos rfl, if_pos rfl, if_neg (by omega), if_neg (by omega), inR, hir, Option.bind_some, if_pos rfl, hw, if_neg (by omega), if_neg (by omega), sbad k hk, ibad k hk]
          exact ⟨rfl, rfl⟩
      · have hir : (decide ((1 : Int) ≤ (b.length : Int)) && decide ((b.length : Int) ≤ 16)) = false := by rw [decide_eq_false (show ¬ (b.length : Int) ≤ 16 by omega), Bool.and_false]
        refine ⟨1, false, fun e => by simp at e, fun k hk => ?_⟩
        rw [spec_SegOk.f, impl_SegOk.f, s_shape, i_shape, hs, Option.bind_some, Option.bind_some, if_pos rfl, if_pos rfl, if_neg (by omega), if_pos (by omega), inR, hir, Option.bind_some, if_neg (by decide), sbad k hk, ibad k hk]
        exact ⟨rfl, rfl⟩
    · have hir : (decide ((1 : Int) ≤ (b.length : Int)) && decide ((b.length : Int) ≤ 16)) = false := by rw [decide_eq_false (show ¬ (1 : Int) ≤ (b.length : Int) by omega), Bool.false_and]
      refine ⟨1, false, fun e => by simp at e, fun k hk => ?_⟩
      rw [spec_SegOk.f, impl_SegOk.f, s_shape, i_shape, hs, Option.bind_some, Option.bind_some, if_pos rfl, if_pos rfl, if_pos (by omega), inR, hir, Option.bind_some, if_neg (by decide), sbad k hk, ibad k hk]
      exact ⟨rfl, rfl⟩
end Go.Proofs.YtfeloencepgdlaaGreatDoor.Q
namespace Go.Proofs.YtfeloencepgdlaaGreatDoor.Q
open Go.RowKit Go.Proofs.YtfeloencepgdlaaGreatDoorW.PrintWords Go.Proofs.YtfeloencepgdlaaGreatDoorW.PrintLast Go.Proofs.YtfeloencepgdlaaGreatDoorW.PrintMore
open Go.Proofs.YtfeloencepgdlaaGreatDoor.Open
set_option linter.unusedSimpArgs false
set_option linter.unusedVariables false
def rtext (a b : Int) : ByteArray := if okR a b = true then (if (a == 1 && b == 0) = true then ⟨#[110, 111, 110, 101]⟩ else (⟨(Lib.itoa a).toArray⟩ ++ (⟨#[46, 46]⟩ : ByteArray)) ++ ⟨(Lib.itoa b).toArray⟩) else ⟨#[]⟩
theorem two_dots : (⟨#[46, 46]⟩ : ByteArray) = ⟨([46, 46] : List UInt8).toArray⟩ := rfl
theorem rtext_len (a b : Int) : (rtext a b).size ≤ 2000010 := by
  unfold rtext
  split
  · rename_i h
    split
    · decide
    · rename_i h2
      rcases (okR_iff a b).1 h with ⟨rfl, rfl⟩ | ⟨p1, p2, p3⟩
      · simp at h2
      · have l1 := itoa_len a (by omega) (by omega)
        have l2 := itoa_len b (by omega) (by omega)
        rw [two_dots, app_mk, app_mk, size_mk]; simp; omega
  · decide
theorem i_rtext (a b : Int) : impl_RangeText.f a b = some (rtext a b) := by
  unfold impl_RangeText.f rtext
  simp only [i_ok, Option.bind_some]
  by_cases h : okR a b = true
  · rw [if_pos h, if_pos h]
    by_cases h2 : (a == 1 && b == 0) = true
    · rw [if_pos h2, if_pos h2]
    · rw [if_neg h2, if_neg h2]
      rcases (okR_iff a b).1 h with ⟨rfl, rfl⟩ | ⟨p1, p2, p3⟩
      · simp at h2
      · have l1 := itoa_len a (by omega) (by omega)
        have l2 := itoa_len b (by omega) (by omega)
        rw [itoa_i a (by omega) (by omega), itoa_i b (by omega) (by omega)]
        simp only [Option.bind_some]
        rw [if_pos (by rw [size_mk]; omega), if_pos (by rw [size_mk, size_mk]; omega)]
  · rw [if_neg h, if_neg h]
theorem s_rtext (a b : Int) (k : Nat) (hk : 1000010 ≤ k) : spec_RangeText.f k a b = some (rtext a b) := by
  unfold spec_RangeText.f rtext
  simp only [s_ok, s_is, Option.bind_some]
  by_cases h : okR a b = true
  · rw [if_pos h, if_pos h]
    rcases (okR_iff a b).1 h with ⟨rfl, rfl⟩ | ⟨p1, p2, p3⟩
    · simp
    · have q1 : decide (a ≤ b) = true := by simpa using p3
      have q2 : (a == 1 && b == 0) = false := by simp; omega
      have l1 := itoa_len a (by omega) (by omega)
      have l2 := itoa_len b (by omega) (by omega)
      rw [q1, q2, digits a (by omega) (by omega) k (by omega), digits b (by omega) (by omega) k (by omega)]
      simp only [Option.bind_some, if_true, Bool.false_eq_true, if_false]
      rw [if_pos (by rw [size_mk]; omega), if_pos (by rw [size_mk, size_mk]; omega)]
  · rw [if_neg h, if_neg h]
end Go.Proofs.YtfeloencepgdlaaGreatDoor.Q
namespace Go.Proofs.YtfeloencepgdlaaGreatDoor.Q
open Go.RowKit Go.Proofs.YtfeloencepgdlaaGreatDoorW.PrintWords Go.Proofs.YtfeloencepgdlaaGreatDoorW.PrintLast Go.Proofs.YtfeloencepgdlaaGreatDoorW.PrintMore
open Go.Proofs.YtfeloencepgdlaaGreatDoor.Open
set_option linter.unusedSimpArgs false
set_option linter.unusedVariables false
abbrev mkB (l : List UInt8) : ByteArray := ⟨l.toArray⟩
def orUn : List UInt8 := [32, 111, 114, 32, 117, 110, 119, 114, 105, 116, 116, 101, 110]
/-- The text of what is said of a segment's cells. -/
def vtx (x : IVal) : ByteArray := if x.f1 = true then rtext x.f0.f0 x.f0.f1 else rtext x.f0.f0 x.f0.f1 ++ mkB orUn
theorem vtx_size (x : IVal) : (vtx x).size ≤ 3000000 := by
  have h := rtext_len x.f0.f0 x.f0.f1
  unfold vtx
  split
  · omega
  · rw [sizeL, app_mk', List.length_append, ← sizeL]
    have : (mkB orUn).data.toList.length = 13 := rfl
    omega
theorem s_vtx (x : IVal) (h : okV x = true) (k : Nat) (hk : 1000010 ≤ k) : spec_ValText.f k x.f0.f0 x.f0.f1 x.f1 = some (vtx x) := by
  unfold okV at h
  have hl := rtext_len x.f0.f0 x.f0.f1
  unfold spec_ValText.f vtx
  rw [s_vok, Option.bind_some, if_pos h]
  by_cases hf : x.f1 = true
  · rw [if_pos hf, if_pos hf, s_rtext _ _ k hk, Option.bind_some]
  · rw [if_neg hf, if_neg hf, s_rtext _ _ k hk, Option.bind_some, if_pos (by omega)]; rfl
theorem i_vtx (x : IVal) (h : okV x = true) (k : Nat) : impl_ValText.f (k + 1) x.f0.f0 x.f0.f1 x.f1 = some (vtx x) := by
  unfold okV at h
  have hl := rtext_len x.f0.f0 x.f0.f1
  unfold impl_ValText.f vtx
  rw [i_vok, Option.bind_some, if_pos h, impl_ValText.j0]
  by_cases hf : x.f1 = true
  · rw [if_pos hf, if_pos hf, i_rtext, Option.bind_some]
  · rw [if_neg hf, if_neg hf, i_rtext, Option.bind_some, if_pos (by omega)]; rfl
/-- A term's text. -/
def tx (names : List ByteArray) (x : ISym) : ByteArray := symT x.f0 x.f1 names
theorem tx_size (names : List ByteArray) (hs : ∀ x ∈ names, x.size ≤ 1048576) (x : ISym) (h : -1000 ≤ x.f1 ∧ x.f1 ≤ 1000) : (tx names x).size ≤ 3000000 := by
  have h1 := nm_size names x.f0 hs
  have h2 := itoa_small x.f1 h.1 h.2
  have h3 := itoa_small (-x.f1) (by omega) (by omega)
  unfold tx symT
  split
  · omega
  · split
    · rw [sizeL] at h1 h2 ⊢
      rw [app_mk', app_mk', List.length_append, List.length_append]
      have : (⟨#[32, 43, 32]⟩ : ByteArray).data.toList.length = 3 := rfl
      omega
    · split
      · rw [sizeL] at h1 h3 ⊢
        rw [app_mk', app_mk', List.length_append, List.length_append]
        have : (⟨#[32, 45, 32]⟩ : ByteArray).data.toList.length = 3 := rfl
        omega
      · omega
def rowL (names : List ByteArray) (r : List ISym) : List UInt8 := 123 :: (jl (r.map (tx names)) [44, 32] ++ [125])
/-- What the i-th bound adds. -/
def addP (names : List ByteArray) (b : List (List ISym)) (v : List IVal) (m : List Bool) : Nat → List ByteArray
  | 0 => [mkB (rowL names (b.getD 0 []))]
  | i + 1 => [vtx (v.getD i ⟨⟨0, 0⟩, false⟩)] ++ (if m.getD i false = true then [mkB [63]] else []) ++ [mkB (rowL names (b.getD (i + 1) []))]
def parts (names : List ByteArray) (b : List (List ISym)) (v : List IVal) (m : List Bool) : Nat → List ByteArray
  | 0 => []
  | i + 1 => parts names b v m i ++ addP names b v m i
/-- What is known of the row and the names here. -/
structure TextOk (names : List ByteArray) (size : Int) (b : List (List ISym)) (v : List IVal) (m : List Bool) : Prop where
  good : GoodS size b v m
  len : (names.length : Int) = size - 1
  each : ∀ x ∈ names, x.size ≤ 1048576
  lab : labels names = true
theorem row_len {names : List ByteArray} {size : Int} {b : List (List ISym)} {v : List IVal} {m : List Bool} (h : TextOk names size b v m) {r : List ISym} (hr : r ∈ b) (j : Nat) : (jl ((r.take j).map (tx names)) [44, 32]).length ≤ 121000000 := by
  have h1 := jl_le 3000000 [44, 32] ((r.take j).map (tx names)) (fun x hx => by
    obtain ⟨y, hy, rfl⟩ := List.mem_map.1 hx
    exact tx_size names h.each y (h.good.terms r hr y (List.mem_of_mem_take hy)).2)
  have h2 := h.good.short r hr
  rw [List.length_map, List.length_take] at h1
  have h3 : min j r.length ≤ 40 := by omega
  generalize min j r.length = n at h1 h3
  generalize (jl ((r.take j).map (tx names)) [44, 32]).length = y at h1 ⊢
  simp only [List.length_cons, List.length_nil] at h1
  omega
theorem row_all {names : List ByteArray} {size : Int} {b : List (List ISym)} {v : List IVal} {m : List Bool} (h : TextOk names size b v m) {r : List ISym} (hr : r ∈ b) : (jl (r.map (tx names)) [44, 32]).length ≤ 121000000 := by
  have := row_len h hr r.length
  rwa [List.take_length] at this
theorem i_tx {names : List ByteArray} {size : Int} {b : List (List ISym)} {v : List IVal} {m : List Bool} (h : TextOk names size b v m) {r : List ISym} (hr : r ∈ b) {x : ISym} (hx : x ∈ r) : impl_symText.f x.f0 x.f1 names = some (tx names x) := by
  have hg := h.good.terms r hr x hx
  have hm := h.good.most
  have hl := h.len
  exact i_symT x.f0 x.f1 names (by omega) h.each hg.1.1 (by omega) hg.2.1 hg.2.2
theorem s_tx {names : List ByteArray} {size : Int} {b : List (List ISym)} {v : List IVal} {m : List Bool} (h : TextOk names size b v m) {r : List ISym} (hr : r ∈ b) {x : ISym} (hx : x ∈ r) (k : Nat) (hk : 1300000 ≤ k) : spec_SymText.f k x.f0 x.f1 names = some (tx names x) := by
  have hg := h.good.terms r hr x hx
  have hm := h.good.most
  have hl := h.len
  rw [s_symtext x.f0 x.f1 names (by omega) h.each k (by omega)]
  unfold symtext tx
  rw [if_pos ⟨h.lab, (okSy_iff _ _ _).2 ⟨by omega, by omega, hg.2⟩⟩]
theorem i_row {names : List ByteArray} {size : Int} {b : List (List ISym)} {v : List IVal} {m : List Bool} (h : TextOk names size b v m) {r : List ISym} (hr : r ∈ b) (P : List ByteArray) (n i : Int) : ∀ (t : List ISym) (j k : Nat) (acc : List ByteArray), r.drop j = t → j + t.length = r.length → acc.length = j →
    impl_segText.l1 (k + t.length) names P acc b n i r (r.length : Int) (j : Int) b v m = impl_segText.l1 k names P (acc ++ t.map (tx names)) b n i r (r.length : Int) (r.length : Int) b v m := by
  have h2 := h.good.short r hr
  intro t
  induction t with
  | nil =>
    intro j k acc hd hj ha
    simp only [List.length_nil, Nat.add_zero] at hj
    subst hj
    simp
  | cons x t ih =>
    intro j k acc hd hj ha
    simp only [List.length_cons] at hj
    obtain ⟨g1, g2, g3⟩ := drop_cons hd
    rw [show k + (x :: t).length = (k + t.length) + 1 by simp; omega, impl_segText.l1, if_pos (by omega), if_pos (by omega), if_pos (by omega), rd_isym g2, i_tx h hr (List.mem_of_getElem? g2), Option.bind_some, if_pos (by omega), w64s j (by omega), ih (j + 1) k (acc ++ [tx names x]) g3 (by omega) (by simp [ha])]
    simp
theorem i_round {names : List ByteArray} {size : Int} {b : List (List ISym)} {v : List IVal} {m : List Bool} (h : TextOk names size b v m) {r : List ISym} (hr : r ∈ b) (P : List ByteArray) (hP : P.length ≤ 1000) (i k : Nat) (hi : i < 1000) :
    impl_segText.j1 (k + 1 + r.length + 1) names P r b (b.length : Int) (i : Int) b v m = impl_segText.l0 k names (P ++ [mkB (rowL names r)]) b (b.length : Int) ((i + 1 : Nat) : Int) b v m := by
  have h2 := h.good.short r hr
  have hl := row_all h hr
  have e := i_row h hr P (b.length : Int) (i : Int) r 0 (k + 1) [] rfl (by omega) rfl
  rw [impl_segText.j1]
  rw [show ((0 : Nat) : Int) = 0 from rfl] at e
  rw [e, impl_segText.l1, if_neg (by omega), List.nil_append, i_join _ _ (by rw [List.length_map]; omega) (by rw [show (⟨#[44, 32]⟩ : ByteArray).data.toList = [44, 32] from rfl]; omega), Option.bind_some]
  rw [show (⟨#[44, 32]⟩ : ByteArray).data.toList = [44, 32] from rfl]
  have hz : (⟨(jl (r.map (tx names)) [44, 32]).toArray⟩ : ByteArray).size ≤ 121000000 := by rw [size_mk]; exact hl
  rw [if_pos (by omega), if_pos (by omega), if_pos (by omega), w64s i (by omega)]
  have er : ((⟨#[123]⟩ : ByteArray) ++ ⟨(jl (r.map (tx names)) [44, 32]).toArray⟩) ++ (⟨#[125]⟩ : ByteArray) = mkB (rowL names r) := by
    refine eqL ?_
    rw [app_mk', app_mk']
    simp [rowL]
  rw [er]
theorem parts_len (names : List ByteArray) (b : List (List ISym)) (v : List IVal) (m : List Bool) : ∀ i, (parts names b v m i).length ≤ 3 * i
  | 0 => by simp [parts]
  | i + 1 => by
    have := parts_len names b v m i
    unfold parts
    rw [List.length_append]
    cases i with
    | zero => simp [addP, parts]
    | succ i =>
      unfold addP
      have : (if m.getD i false = true then [mkB [63]] else []).length ≤ 1 := by split <;> simp
      rw [List.length_append, List.length_append, List.length_singleton, List.length_singleton]
      omega
theorem getD_at {α : Type} {l : List α} {i : Nat} {x d : α} (h : l[i]? = some x) : l.getD i d = x := by simp [List.getD, h]
theorem parts_one (names : List ByteArray) {b : List (List ISym)} (v : List IVal) (m : List Bool) {r : List ISym} (hr : b[0]? = some r) : parts names b v m (0 + 1) = [mkB (rowL names r)] := by
  show [] ++ addP names b v m 0 = _
  unfold addP
  rw [getD_at hr]; rfl
theorem parts_more (names : List ByteArray) {b : List (List ISym)} {v : List IVal} {m : List Bool} {i : Nat} {r : List ISym} {x : IVal} {y : Bool} (hr : b[i + 1]? = some r) (hx : v[i]? = some x) (hy : m[i]? = some y) :
    parts names b v m (i + 1 + 1) = parts names b v m (i + 1) ++ [vtx x] ++ (if y = true then [mkB [63]] else []) ++ [mkB (rowL names r)] := by
  show parts names b v m (i + 1) ++ addP names b v m (i + 1) = _
  simp only [addP, getD_at hr, getD_at hx, getD_at hy, List.append_assoc]
theorem i_step {names : List ByteArray} {size : Int} {b : List (List ISym)} {v : List IVal} {m : List Bool} (h : TextOk names size b v m) (i : Nat) (hi : i < b.length) : ∃ n, n ≤ 50 ∧ ∀ k, impl_segText.l0 (k + n) names (parts names b v m i) b (b.length : Int) (i : Int) b v m = impl_segText.l0 k names (parts names b v m (i + 1)) b (b.length : Int) ((i + 1 : Nat) : Int) b v m := by
  have hb := h.good.rows
  have hv := h.good.vals
  have hm := h.good.flags
  obtain ⟨r, hr⟩ : ∃ r, b[i]? = some r := ⟨_, List.getElem?_eq_getElem hi⟩
  have hrm := List.mem_of_getElem? hr
  have h2 := h.good.short r hrm
  have hp := parts_len names b v m i
  refine ⟨r.length + 3, by omega, fun k => ?_⟩
  rw [show k + (r.length + 3) = (k + 1 + r.length + 1) + 1 by omega, impl_segText.l0, if_pos (by omega), if_pos (by omega), if_pos (by omega), rd_irow hr]
  cases i with
  | zero =>
    rw [if_neg (by omega), i_round h hrm _ (by omega) 0 k (by omega), parts_one names v m hr]
    rfl
  | succ i =>
    obtain ⟨x, hx⟩ : ∃ x, v[i]? = some x := ⟨_, List.getElem?_eq_getElem (by omega)⟩
    obtain ⟨y, hy⟩ : ∃ y, m[i]? = some y := ⟨_, List.getElem?_eq_getElem (by omega)⟩
    have ew : wrap64 (((i + 1 : Nat) : Int) - 1) = (i : Int) := by rw [w64 (by omega) (by omega)]; omega
    rw [if_pos (by omega), ew, if_pos (by omega), if_pos (by omega), rd_ival hx, i_vtx x (h.good.valOk x (List.mem_of_getElem? hx)), Option.bind_some, if_pos (by omega), Option.bind_some, if_pos (by omega), rd_flag hy]
    cases y with
    | true =>
      rw [if_pos rfl, if_pos (by simp; omega), i_round h hrm _ (by simp; omega) (i + 1) k (by omega), parts_more names hr hx hy, if_pos rfl]
    | false =>
      rw [if_neg (by simp), i_round h hrm _ (by simp; omega) (i + 1) k (by omega), parts_more names hr hx hy, if_neg (by simp), List.append_nil]
theorem part_size {names : List ByteArray} {size : Int} {b : List (List ISym)} {v : List IVal} {m : List Bool} (h : TextOk names size b v m) : ∀ i, i ≤ b.length → ∀ x ∈ parts names b v m i, x.size ≤ 200000000
  | 0, _, x, hx => by simp [parts] at hx
  | i + 1, hi, x, hx => by
    unfold parts at hx
    obtain ⟨r, hr⟩ : ∃ r, b[i]? = some r := ⟨_, List.getElem?_eq_getElem (by omega)⟩
    have hl := row_all h (List.mem_of_getElem? hr)
    have hrow : (mkB (rowL names r)).size ≤ 200000000 := by rw [size_mk]; unfold rowL; simp; omega
    rcases List.mem_append.1 hx with hx | hx
    · exact part_size h i (by omega) x hx
    · cases i with
      | zero =>
        simp only [addP, getD_at hr, List.mem_singleton] at hx
        subst hx; exact hrow
      | succ i =>
        simp only [addP, getD_at hr, List.mem_append, List.mem_singleton] at hx
        rcases hx with (hx | hx) | hx
        · subst hx; exact Nat.le_trans (vtx_size _) (by decide)
        · split at hx
          · simp only [List.mem_singleton] at hx; subst hx; decide
          · simp at hx
        · subst hx; exact hrow
theorem text_len {names : List ByteArray} {size : Int} {b : List (List ISym)} {v : List IVal} {m : List Bool} (h : TextOk names size b v m) (i : Nat) (hi : i ≤ b.length) : (jl (parts names b v m i) [32]).length ≤ 10000000000 := by
  have h1 := jl_le 200000000 [32] _ (part_size h i hi)
  have h2 := parts_len names b v m i
  have h3 := h.good.rows
  generalize (parts names b v m i).length = n at h1 h2
  generalize (jl (parts names b v m i) [32]).length = y at h1 ⊢
  simp only [List.length_cons, List.length_nil] at h1
  omega
theorem i_text {names : List ByteArray} {size : Int} {b : List (List ISym)} {v : List IVal} {m : List Bool} (h : TextOk names size b v m) : ∀ (d i k : Nat), i + d = b.length → 50 * d + 1 ≤ k → impl_segText.l0 k names (parts names b v m i) b (b.length : Int) (i : Int) b v m = some (mkB (jl (parts names b v m b.length) [32]))
  | 0, i, k, hi, hk => by
    obtain ⟨k, rfl⟩ : ∃ n, k = n + 1 := ⟨k - 1, by omega⟩
    have hi' : i = b.length := by omega
    subst hi'
    have h1 := parts_len names b v m b.length
    have h2 := h.good.rows
    have h3 := text_len h b.length (Nat.le_refl _)
    rw [impl_segText.l0, if_neg (by omega), i_join _ _ (by omega) (by rw [show (⟨#[32]⟩ : ByteArray).data.toList = [32] from rfl]; omega), Option.bind_some]
  | d + 1, i, k, hi, hk => by
    obtain ⟨n, hn, e⟩ := i_step h i (by omega)
    obtain ⟨k, rfl⟩ : ∃ q, k = q + n := ⟨k - n, by omega⟩
    rw [e]
    exact i_text h d (i + 1) k (by omega) (by omega)
theorem s_row {names : List ByteArray} {size : Int} {b : List (List ISym)} {v : List IVal} {m : List Bool} (h : TextOk names size b v m) {r : List ISym} {i : Nat} (hr : b[i]? = some r) (B : List UInt8) (hB : B.length ≤ 100000000000) : ∀ (t : List ISym) (j k : Nat), r.drop j = t → j + t.length = r.length → 1300000 ≤ k →
    spec_l10Text.l1 (k + t.length) names (mkB (B ++ jl ((r.take j).map (tx names)) [44, 32])) (i : Int) (j : Int) b v m = spec_l10Text.l1 k names (mkB (B ++ jl (r.map (tx names)) [44, 32])) (i : Int) (r.length : Int) b v m := by
  have hrm := List.mem_of_getElem? hr
  have hi := lt_of_get hr
  have hb := h.good.rows
  have h2 := h.good.short r hrm
  intro t
  induction t with
  | nil =>
    intro j k hd hj hk
    simp only [List.length_nil, Nat.add_zero] at hj
    subst hj
    rw [List.take_length]; rfl
  | cons x t ih =>
    intro j k hd hj hk
    simp only [List.length_cons] at hj
    obtain ⟨g1, g2, g3⟩ := drop_cons hd
    have hx := List.mem_of_getElem? g2
    have hsz := row_len h hrm j
    have hxs := tx_size names h.each x (h.good.terms r hrm x hx).2
    have e1 : (r.take (j + 1)).map (tx names) = (r.take j).map (tx names) ++ [tx names x] := by
      rw [List.take_add_one, g2, List.map_append]; rfl
    have hlen : (mkB (B ++ jl ((r.take j).map (tx names)) [44, 32])).size ≤ 200000000000 := by rw [size_mk, List.length_append]; omega
    have ih' := ih (j + 1) k g3 (by omega) hk
    rw [e1] at ih'
    rw [show k + (x :: t).length = (k + t.length) + 1 by simp; omega, spec_l10Text.l1, if_pos (by omega), if_pos (by omega), rd_irow hr, if_pos (by omega)]
    cases j with
    | zero =>
      rw [if_neg (by omega), if_pos (by omega), rd_isym g2, s_tx h hrm hx _ (by omega), Option.bind_some, if_pos (by omega), w64s 0 (by omega), ← ih']
      congr 1
      refine eqL ?_
      rw [app_mk']
      simp [jl_nil, jl_one]
    | succ j =>
      rw [if_pos (by omega), if_pos (by omega), if_pos (by omega), rd_isym g2, s_tx h hrm hx _ (by omega), Option.bind_some, if_pos (by omega), w64s (j + 1) (by omega), ← ih']
      congr 1
      refine eqL ?_
      rw [app_mk', app_mk', jl_snoc _ _ _ (by
        intro q
        have q1 := List.map_eq_nil_iff.1 q
        rcases List.take_eq_nil_iff.1 q1 with q2 | q2
        · omega
        · rw [q2] at g1; simp at g1)]
      simp
theorem s_round {names : List ByteArray} {size : Int} {b : List (List ISym)} {v : List IVal} {m : List Bool} (h : TextOk names size b v m) {r : List ISym} {i : Nat} (hr : b[i]? = some r) (B : List UInt8) (hB : B.length ≤ 50000000000) (k : Nat) (hk : 1300000 ≤ k) :
    spec_l10Text.j1 (k + 1 + r.length + 1) names (mkB B) (i : Int) b v m = spec_l10Text.l0 k names (mkB (B ++ rowL names r)) ((i + 1 : Nat) : Int) b v m := by
  have hrm := List.mem_of_getElem? hr
  have hi := lt_of_get hr
  have hb := h.good.rows
  have h2 := h.good.short r hrm
  have hl := row_all h hrm
  have hz : (mkB B).size ≤ 50000000000 := by rw [size_mk]; exact hB
  have e := s_row h hr (B ++ [123]) (by simp; omega) r 0 (k + 1) rfl (by omega) (by omega)
  have e0 : mkB B ++ (⟨#[123]⟩ : ByteArray) = mkB (B ++ [123] ++ jl ((r.take 0).map (tx names)) [44, 32]) := by
    refine eqL ?_
    rw [app_mk']
    simp [jl_nil]
  rw [spec_l10Text.j1, if_pos (by omega), e0]
  rw [show ((0 : Nat) : Int) = 0 from rfl] at e
  have hz2 : (mkB (B ++ [123] ++ jl (r.map (tx names)) [44, 32])).size ≤ 60000000000 := by rw [size_mk]; simp only [List.length_append, List.length_singleton]; omega
  rw [e, spec_l10Text.l1, if_pos (by omega), if_pos (by omega), rd_irow hr, if_neg (by omega), if_pos (by omega), w64s i (by omega)]
  congr 1
  refine eqL ?_
  rw [app_mk']
  simp [rowL]
theorem s_step {names : List ByteArray} {size : Int} {b : List (List ISym)} {v : List IVal} {m : List Bool} (h : TextOk names size b v m) (i : Nat) (hi : i < b.length) : ∃ n, n ≤ 50 ∧ ∀ k, 1300000 ≤ k → spec_l10Text.l0 (k + n) names (mkB (jl (parts names b v m i) [32])) (i : Int) b v m = spec_l10Text.l0 k names (mkB (jl (parts names b v m (i + 1)) [32])) ((i + 1 : Nat) : Int) b v m := by
  have hb := h.good.rows
  have hv := h.good.vals
  have hm := h.good.flags
  obtain ⟨r, hr⟩ : ∃ r, b[i]? = some r := ⟨_, List.getElem?_eq_getElem hi⟩
  have hrm := List.mem_of_getElem? hr
  have h2 := h.good.short r hrm
  have hl := text_len h i (by omega)
  have hz : (mkB (jl (parts names b v m i) [32])).size ≤ 10000000000 := by rw [size_mk]; exact hl
  refine ⟨r.length + 3, by omega, fun k hk => ?_⟩
  rw [show k + (r.length + 3) = (k + 1 + r.length + 1) + 1 by omega, spec_l10Text.l0, if_pos (by omega)]
  cases i with
  | zero =>
    rw [if_neg (by omega), s_round h hr _ (by omega) k hk]
    rw [parts_one names v m hr, jl_one]
    rfl
  | succ i =>
    obtain ⟨x, hx⟩ : ∃ x, v[i]? = some x := ⟨_, List.getElem?_eq_getElem (by omega)⟩
    obtain ⟨y, hy⟩ : ∃ y, m[i]? = some y := ⟨_, List.getElem?_eq_getElem (by omega)⟩
    have hvs := vtx_size x
    have ew : wrap64 (((i + 1 : Nat) : Int) - 1) = (i : Int) := by rw [w64 (by omega) (by omega)]; omega
    have hne : parts names b v m (i + 1) ≠ [] := by
      unfold parts
      intro q
      have := (List.append_eq_nil_iff.1 q).2
      cases i <;> simp [addP] at this
    rw [if_pos (by omega), if_pos (by omega), ew, if_pos (by omega), if_pos (by omega), rd_ival hx, s_vtx x (h.good.valOk x (List.mem_of_getElem? hx)) _ (by omega), Option.bind_some, if_pos (by omega), if_pos (by omega), if_pos (by omega), rd_flag hy]
    have base : ((mkB (jl (parts names b v m (i + 1)) [32]) ++ (⟨#[32]⟩ : ByteArray)) ++ vtx x) ++ (⟨#[32]⟩ : ByteArray) = mkB (jl (parts names b v m (i + 1)) [32] ++ [32] ++ (vtx x).data.toList ++ [32]) := by
      refine eqL ?_
      rw [app_mk', app_mk', app_mk']
    rw [base]
    rw [sizeL] at hvs
    cases y with
    | true =>
      have more : mkB (jl (parts names b v m (i + 1)) [32] ++ [32] ++ (vtx x).data.toList ++ [32]) ++ (⟨#[63, 32]⟩ : ByteArray) = mkB (jl (parts names b v m (i + 1)) [32] ++ [32] ++ (vtx x).data.toList ++ [32] ++ [63, 32]) := by
        refine eqL ?_
        rw [app_mk']
      rw [if_pos rfl, if_pos (by rw [← sizeL] at hvs; omega), more, s_round h hr _ (by simp only [List.length_append, List.length_cons, List.length_nil]; omega) k hk]
      rw [parts_more names hr hx hy, if_pos rfl, jl_snoc _ _ _ (by simp), jl_snoc _ _ _ (by simp), jl_snoc _ _ _ hne]
      simp
    | false =>
      rw [if_neg (by simp), s_round h hr _ (by simp only [List.length_append, List.length_cons, List.length_nil]; omega) k hk]
      rw [parts_more names hr hx hy, if_neg (by simp), List.append_nil, jl_snoc _ _ _ (by simp), jl_snoc _ _ _ hne]
theorem s_text {names : List ByteArray} {size : Int} {b : List (List ISym)} {v : List IVal} {m : List Bool} (h : TextOk names size b v m) : ∀ (d i k : Nat), i + d = b.length → 50 * d + 1300001 ≤ k → spec_l10Text.l0 k names (mkB (jl (parts names b v m i) [32])) (i : Int) b v m = some (mkB (jl (parts names b v m b.length) [32]))
  | 0, i, k, hi, hk => by
    obtain ⟨k, rfl⟩ : ∃ n, k = n + 1 := ⟨k - 1, by omega⟩
    have hi' : i = b.length := by omega
    subst hi'
    rw [spec_l10Text.l0, if_neg (by omega)]
  | d + 1, i, k, hi, hk => by
    obtain ⟨n, hn, e⟩ := s_step h i (by omega)
    obtain ⟨k, rfl⟩ : ∃ q, k = q + n := ⟨k - n, by omega⟩
    rw [e k (by omega)]
    exact s_text h d (i + 1) k (by omega) (by omega)
/-- Both write the same text. -/
theorem segText (size l : Int) (b : List (List ISym)) (v : List IVal) (m : List Bool) (names : List ByteArray) (h : SmallS b v m) (hn : names.length ≤ 1048576) (hs : ∀ x ∈ names, x.size ≤ 1048576) (hw : (Lit.int .i64 size).wf = true) :
    ∃ K x, ∀ k, K ≤ k → spec_SegText.f k size l b v m names = some x ∧ impl_SegText.f k size l b v m names = some x := by
  obtain ⟨K, c, hc, he⟩ := segOk size l b v m h
  cases c with
  | false =>
    refine ⟨K, ⟨#[]⟩, fun k hk => ?_⟩
    obtain ⟨e1, e2⟩ := he k hk
    unfold spec_SegText.f impl_SegText.f
    rw [e1, e2]
    exact ⟨rfl, rfl⟩
  | true =>
    have good := hc rfl
    have hm := good.most
    have ew : wrap64 (size - 1) = size - 1 := w64 (by omega) (by omega)
    by_cases hlen : (names.length : Int) = size - 1
    · by_cases hlab : labels names = true
      · have ok : TextOk names size b v m := ⟨good, hlen, hs, hlab⟩
        have hr := good.rows
        refine ⟨K + 3000000, mkB (jl (parts names b v m b.length) [32]), fun k hk => ?_⟩
        obtain ⟨e1, e2⟩ := he k (by omega)
        unfold spec_SegText.f impl_SegText.f spec_l10Text.f impl_segText.f
        rw [e1, e2, Option.bind_some, Option.bind_some, if_pos rfl, if_pos rfl, ew, if_pos hlen, s_labels names hn hs k (by omega), i_labels names hn hs _ k (by omega), hlab, decide_eq_true (show names.length < 13 by omega), decide_eq_true hlen, Option.bind_some, Option.bind_some, Bool.and_self, if_pos rfl, if_pos rfl]
        have t1 := s_text ok b.length 0 k (by omega) (by omega)
        have t2 := i_text ok b.length 0 k (by omega) (by omega)
        constructor
        · have : mkB (jl (parts names b v m 0) [32]) = (⟨#[]⟩ : ByteArray) := rfl
          rw [this] at t1
          rw [show (0 : Int) = ((0 : Nat) : Int) from rfl, t1]; rfl
        · rw [show (0 : Int) = ((0 : Nat) : Int) from rfl, show ([] : List ByteArray) = parts names b v m 0 from rfl, t2]; rfl
      · refine ⟨K + 3000000, ⟨#[]⟩, fun k hk => ?_⟩
        obtain ⟨e1, e2⟩ := he k (by omega)
        rw [Bool.not_eq_true] at hlab
        unfold spec_SegText.f impl_SegText.f
        rw [e1, e2, Option.bind_some, Option.bind_some, if_pos rfl, if_pos rfl, ew, if_pos hlen, s_labels names hn hs k (by omega), i_labels names hn hs _ k (by omega), hlab, Bool.and_false, Bool.and_false]
        exact ⟨rfl, rfl⟩
    · refine ⟨K + 3000000, ⟨#[]⟩, fun k hk => ?_⟩
      obtain ⟨e1, e2⟩ := he k (by omega)
      unfold spec_SegText.f impl_SegText.f
      rw [e1, e2, Option.bind_some, Option.bind_some, if_pos rfl, if_pos rfl, ew, if_neg hlen, i_labels names hn hs _ k (by omega), decide_eq_false hlen, Bool.false_and]
      exact ⟨rfl, rfl⟩
end Go.Proofs.YtfeloencepgdlaaGreatDoor.Q
namespace Go.Proofs.YtfeloencepgdlaaGreatDoor.Q
open Go.RowKit Go.Proofs.YtfeloencepgdlaaGreatDoorW.PrintWords Go.Proofs.YtfeloencepgdlaaGreatDoorW.PrintLast Go.Proofs.YtfeloencepgdlaaGreatDoorW.PrintMore
open Go.Proofs.YtfeloencepgdlaaGreatDoor.Open
set_option linter.unusedSimpArgs false
set_option linter.unusedVariables false
def weightS : List ByteArray → Nat
  | [] => 0
  | x :: t => x.size + weightS t
theorem rdS_at {l : List ByteArray} {i : Nat} {x : ByteArray} (h : l[i]? = some x) : rdOf ByteArray.empty l (i : Int) = x := by
  unfold rdOf; simp [List.getD, h]
theorem szS_loop (l : List ByteArray) (hl : l.length ≤ 1048576) : ∀ (t : List ByteArray) (i k : Nat) (left : Int), l.drop i = t → (∀ x ∈ t, x.size ≤ 9223372036854775807) → 0 ≤ left → left ≤ 1048576 → t.length < k →
    ∃ r, laws_szStringS.l0 k l left (i : Int) = some r ∧ r ≤ left ∧ (0 ≤ r → r = left - (weightS t : Int)) := by
  intro t
  induction t with
  | nil =>
    intro i k left hd _ h0 h1 hk
    obtain ⟨k, rfl⟩ : ∃ m, k = m + 1 := ⟨k - 1, by omega⟩
    have := drop_nil hd
    rw [laws_szStringS.l0, if_neg (by omega)]
    exact ⟨_, rfl, by omega, fun _ => by simp [weightS]⟩
  | cons x t ih =>
    intro i k left hd hx h0 h1 hk
    obtain ⟨k, rfl⟩ : ∃ m, k = m + 1 := ⟨k - 1, by omega⟩
    obtain ⟨g1, g2, g3⟩ := drop_cons hd
    have hxs := hx x (by simp)
    rw [laws_szStringS.l0, if_pos (by omega), if_pos (by omega), rdS_at g2, w64 (n := left - (x.size : Int)) (by omega) (by omega)]
    by_cases hn : left - (x.size : Int) < 0
    · rw [if_pos hn]
      exact ⟨_, rfl, by omega, fun h => by omega⟩
    · rw [if_neg hn, w64s i (by omega)]
      obtain ⟨r, e1, e3, e2⟩ := ih (i + 1) k (left - (x.size : Int)) g3 (fun y hy => hx y (by simp [hy])) (by omega) (by omega) (by simp at hk; omega)
      refine ⟨r, e1, by omega, fun h => ?_⟩
      have := e2 h
      simp only [weightS]
      omega
theorem sz_strs (l : List ByteArray) (left : Int) (h0 : 0 ≤ left) (h1 : left ≤ 1048576) (hl : l.length ≤ 9223372036854775807) (hs : ∀ x ∈ l, x.size ≤ 9223372036854775807) (k : Nat) (hk : l.length < k) :
    ∃ r, laws_szStringS.f k l left = some r ∧ r ≤ left ∧ (0 ≤ r → (l.length : Int) + weightS l ≤ left) := by
  unfold laws_szStringS.f
  rw [w64 (by omega) (by omega)]
  by_cases h : left - (l.length : Int) < 0
  · rw [if_pos h]; exact ⟨_, rfl, by omega, fun h => by omega⟩
  · rw [if_neg h]
    obtain ⟨r, e1, e3, e2⟩ := szS_loop l (by omega) l 0 k (left - (l.length : Int)) rfl hs (by omega) (by omega) hk
    exact ⟨r, e1, by omega, fun h => by have := e2 h; omega⟩
theorem toS_loop (l : List ByteArray) (hl : l.length ≤ 1048576) : ∀ (t pre : List ByteArray) (k : Nat) (rest : List ByteArray), l = pre ++ t → rest.length = t.length → t.length < k →
    laws_toStringS.l0 k l (pre ++ rest) (pre.length : Int) = some l := by
  intro t
  induction t with
  | nil =>
    intro pre k rest hd hr hk
    obtain ⟨k, rfl⟩ : ∃ m, k = m + 1 := ⟨k - 1, by omega⟩
    obtain rfl := List.eq_nil_of_length_eq_zero (hr.trans rfl)
    rw [List.append_nil] at hd
    rw [laws_toStringS.l0, if_neg (by rw [hd]; omega), List.append_nil, hd]
  | cons x t ih =>
    intro pre k rest hd hr hk
    obtain ⟨k, rfl⟩ : ∃ m, k = m + 1 := ⟨k - 1, by omega⟩
    have hlen : l.length = pre.length + (t.length + 1) := by rw [hd, List.length_append, List.length_cons]
    match rest, hr with
    | y :: rest, hr =>
      have at_ : l[pre.length]? = some x := by rw [hd, List.getElem?_append_right (Nat.le_refl _)]; simp
      rw [laws_toStringS.l0, if_pos (by omega), if_pos (by omega), rdS_at at_, if_pos (by simp; omega), w64s pre.length (by omega), Int.toNat_natCast]
      have st : (pre ++ y :: rest).set pre.length x = (pre ++ [x]) ++ rest := by
        rw [List.set_append_right _ _ (Nat.le_refl _)]
        simp
      have := ih (pre ++ [x]) k rest (by rw [hd]; simp) (by simpa using hr) (by simp at hk; omega)
      rw [List.length_append, List.length_cons, List.length_nil] at this
      rw [st, this]
theorem to_strs (l : List ByteArray) (hl : l.length ≤ 1048576) (k : Nat) (hk : l.length < k) : laws_toStringS.f k l = some l := by
  unfold laws_toStringS.f
  rw [if_pos (by omega), if_pos (by omega)]
  have := toS_loop l hl l [] k (List.replicate ((l.length : Int)).toNat (⟨#[]⟩ : ByteArray)) rfl (by simp) hk
  simpa using this
theorem weightS_mem : ∀ {l : List ByteArray} {x : ByteArray}, x ∈ l → x.size ≤ weightS l
  | y :: t, x, h => by
    simp only [weightS]
    rcases List.mem_cons.1 h with rfl | h
    · omega
    · have := weightS_mem h; omega
theorem eqSs_loop (l : List ByteArray) (hl : l.length ≤ 9000000) : ∀ (t : List ByteArray) (i k : Nat), l.drop i = t → t.length < k → laws_eqStringS.l0 k l l (i : Int) = some true := by
  intro t
  induction t with
  | nil =>
    intro i k hd hk
    obtain ⟨k, rfl⟩ : ∃ m, k = m + 1 := ⟨k - 1, by omega⟩
    have := drop_nil hd
    rw [laws_eqStringS.l0, if_neg (by omega)]
  | cons x t ih =>
    intro i k hd hk
    obtain ⟨k, rfl⟩ : ∃ m, k = m + 1 := ⟨k - 1, by omega⟩
    obtain ⟨h1, h2, h3⟩ := drop_cons hd
    rw [laws_eqStringS.l0, if_pos (by omega), if_pos (by omega), if_pos (by omega), if_pos rfl, w64s i (by omega)]
    exact ih (i + 1) k h3 (by simp at hk; omega)
theorem eqSs_self (l : List ByteArray) (hl : l.length ≤ 9000000) (k : Nat) (hk : l.length < k) : laws_eqStringS.f k l l = some true := by
  unfold laws_eqStringS.f
  rw [if_pos rfl]
  exact eqSs_loop l hl l 0 k rfl hk
end Go.Proofs.YtfeloencepgdlaaGreatDoor.Q
