/- Decimal numerals: which lists of bytes are numerals, and what number each is. -/
import Derived.Lib.AtoiAll
import Derived.Lib.ItoaNum
import Derived.Test.YtmkppdeoepfpoaaDoorQLists
namespace Go.Proofs.YtmkppdeoepfpoaaDoor.Q
open Go.RowKit Go.Proofs.YtmkppdeoepfpoaaDoorW.PrintWords Go.Proofs.YtmkppdeoepfpoaaDoorW.PrintLast Go.Proofs.YtmkppdeoepfpoaaDoorW.PrintMore
open Go.Proofs.YtmkppdeoepfpoaaDoor.Open
set_option linter.unusedSimpArgs false
set_option linter.unusedVariables false
def isDig (c : UInt8) : Prop := 48 ≤ c.toNat ∧ c.toNat ≤ 57
def dval (acc : Nat) (l : List UInt8) : Nat := l.foldl (fun a c => a * 10 + (c.toNat - 48)) acc
theorem dval_nil (acc : Nat) : dval acc [] = acc := by unfold dval; rw [List.foldl_nil]
theorem dval_cons (acc : Nat) (c : UInt8) (r : List UInt8) : dval acc (c :: r) = dval (acc * 10 + (c.toNat - 48)) r := by
  unfold dval
  rw [List.foldl_cons]
theorem dval_snoc (c : UInt8) (l : List UInt8) (acc : Nat) : dval acc (l ++ [c]) = dval acc l * 10 + (c.toNat - 48) := by
  unfold dval
  rw [List.foldl_append, List.foldl_cons, List.foldl_nil]
theorem dval_ge : ∀ (l : List UInt8) (acc : Nat), acc ≤ dval acc l
  | [], acc => Nat.le_refl _
  | c :: l, acc => by simp only [dval_cons, dval_nil]; have := dval_ge l (acc * 10 + (c.toNat - 48)); omega
theorem dval_lt : ∀ (l : List UInt8) (acc k : Nat), (∀ c ∈ l, isDig c) → acc < k → dval acc l < k * 10 ^ l.length
  | [], acc, k, _, h => by simpa [dval_nil] using h
  | c :: l, acc, k, hd, h => by
    simp only [dval_cons, List.length_cons]
    have hc := hd c (by simp)
    unfold isDig at hc
    have := dval_lt l (acc * 10 + (c.toNat - 48)) (k * 10) (fun x hx => hd x (by simp [hx])) (by omega)
    rwa [Nat.pow_succ', ← Nat.mul_assoc]
theorem ofNat_dig (d : Nat) (h : d < 10) : (UInt8.ofNat (48 + d)).toNat = 48 + d := by simp; omega
theorem isDig_ofNat (d : Nat) (h : d < 10) : isDig (UInt8.ofNat (48 + d)) := by unfold isDig; rw [ofNat_dig d h]; omega
theorem dig_ofNat {c : UInt8} (h : isDig c) : UInt8.ofNat (48 + (c.toNat - 48)) = c := by
  unfold isDig at h
  rw [show 48 + (c.toNat - 48) = c.toNat by omega]
  simp
theorem dec_digs (u : Nat) : ∀ c ∈ Lib.decDigits u, isDig c := by
  induction u using Nat.strongRecOn with
  | _ u ih =>
    rw [Lib.decDigits]
    split
    · rename_i h; intro c hc; simp only [List.mem_singleton] at hc; subst hc; exact isDig_ofNat u h
    · intro c hc
      rcases List.mem_append.1 hc with h | h
      · exact ih (u / 10) (by omega) c h
      · simp only [List.mem_singleton] at h; subst h; exact isDig_ofNat _ (by omega)
theorem dval_dec (u : Nat) : dval 0 (Lib.decDigits u) = u := by
  induction u using Nat.strongRecOn with
  | _ u ih =>
    rw [Lib.decDigits]
    split
    · rename_i h; simp only [dval_cons, dval_nil, ofNat_dig u h]; omega
    · rw [dval_snoc, ih (u / 10) (by omega), ofNat_dig _ (by omega)]; omega
theorem dec_inj {u v : Nat} (h : Lib.decDigits u = Lib.decDigits v) : u = v := by rw [← dval_dec u, h, dval_dec]
theorem dec_ne (u : Nat) : Lib.decDigits u ≠ [] := by rw [Lib.decDigits]; split <;> simp
theorem dec_head (u : Nat) (hu : 1 ≤ u) : ∃ c r, Lib.decDigits u = c :: r ∧ isDig c ∧ c.toNat ≠ 48 := by
  induction u using Nat.strongRecOn with
  | _ u ih =>
    rw [Lib.decDigits]
    split
    · rename_i h; exact ⟨_, [], rfl, isDig_ofNat u h, by rw [ofNat_dig u h]; omega⟩
    · obtain ⟨c, r, e, h1, h2⟩ := ih (u / 10) (by omega) (by omega)
      exact ⟨c, r ++ [_], by rw [e]; rfl, h1, h2⟩
theorem dec_of_dval (l : List UInt8) : l ≠ [] → (∀ c ∈ l, isDig c) → (1 < l.length → ∀ c, l.head? = some c → c.toNat ≠ 48) → Lib.decDigits (dval 0 l) = l := by
  induction h : l.length using Nat.strongRecOn generalizing l with
  | _ n ih =>
    intro h0 hd hz
    have e : l = l.dropLast ++ [l.getLast h0] := (List.dropLast_concat_getLast h0).symm
    have hcd := hd (l.getLast h0) (List.getLast_mem h0)
    generalize l.getLast h0 = c at e hcd
    generalize l.dropLast = p at e
    subst e
    rw [dval_snoc]
    have hcd' := hcd
    unfold isDig at hcd'
    by_cases hp : p = []
    · subst hp
      rw [Lib.decDigits, dif_pos (by simp only [dval_cons, dval_nil]; omega)]
      simp only [dval_cons, dval_nil, Nat.zero_mul, Nat.zero_add, List.nil_append, dig_ofNat hcd]
    · have hpl : 0 < p.length := List.length_pos_iff.2 hp
      have hhead : ∀ x, p.head? = some x → x.toNat ≠ 48 := fun x hx => hz (by simp at h ⊢; omega) x (by rw [List.head?_append, hx]; rfl)
      have i1 := ih p.length (by simp at h; omega) p rfl hp (fun x hx => hd x (by simp [hx])) (fun _ => hhead)
      have pos : 1 ≤ dval 0 p := by
        cases p with
        | nil => exact absurd rfl hp
        | cons x r =>
          have a := hhead x rfl
          have b := hd x (by simp)
          unfold isDig at b
          have := dval_ge r (0 * 10 + (x.toNat - 48))
          simp only [dval_cons, dval_nil]; omega
      rw [Lib.decDigits, dif_neg (by omega), show (dval 0 p * 10 + (c.toNat - 48)) / 10 = dval 0 p by omega, show (dval 0 p * 10 + (c.toNat - 48)) % 10 = c.toNat - 48 by omega, i1, dig_ofNat hcd]
theorem dec_len10 (k : Nat) : ∀ u, u < 10 ^ (k + 1) → (Lib.decDigits u).length ≤ k + 1 := by
  induction k with
  | zero => intro u hu; rw [Lib.decDigits, dif_pos (by simpa using hu)]; simp
  | succ k ih =>
    intro u hu
    rw [Lib.decDigits]
    split
    · simp
    · have := ih (u / 10) (by rw [Nat.pow_succ] at hu; omega)
      simp; omega
theorem parse_digs : ∀ (l : List UInt8) (acc : Nat), (∀ c ∈ l, isDig c) → dval acc l < 1000000000 → Lib.parseUint10 acc l = .ok (dval acc l)
  | [], acc, _, _ => rfl
  | c :: l, acc, hd, hv => by
    have hc := hd c (by simp)
    unfold isDig at hc
    rw [dval_cons] at hv ⊢
    have hge := dval_ge l (acc * 10 + (c.toNat - 48))
    rw [Lib.parseUint10, if_pos hc, if_neg (by omega), if_neg (by omega)]
    exact parse_digs l _ (fun x hx => hd x (by simp [hx])) hv
theorem atoi_dec (u : Nat) (hu : u < 1000000000) : Lib.atoiAll (Lib.decDigits u) = .ok (u : Int) := by
  have hp := parse_digs (Lib.decDigits u) 0 (dec_digs u) (by rw [dval_dec]; omega)
  rw [dval_dec] at hp
  have hd := dec_digs u
  have hne := dec_ne u
  cases e : Lib.decDigits u with
  | nil => exact absurd e hne
  | cons c r =>
    rw [e] at hp hd
    have hc := hd c (by simp)
    unfold isDig at hc
    unfold Lib.atoiAll
    simp only
    rw [if_neg (by omega)]
    unfold Lib.parseMag
    rw [if_neg (by simp), hp]
    simp only
    rw [if_neg (by omega), if_neg (by omega), if_neg (by omega)]
theorem atoi_neg_dec (u : Nat) (h1 : 1 ≤ u) (hu : u < 1000000000) : Lib.atoiAll (45 :: Lib.decDigits u) = .ok (-(u : Int)) := by
  have hp := parse_digs (Lib.decDigits u) 0 (dec_digs u) (by rw [dval_dec]; omega)
  rw [dval_dec] at hp
  unfold Lib.atoiAll
  simp only
  rw [if_pos (by decide)]
  unfold Lib.parseMag
  rw [if_neg (dec_ne u), hp]
  simp only
  rw [if_neg (by simp), if_neg (by omega), if_pos (by decide)]
theorem itoa_pos (u : Nat) : Lib.itoa (u : Int) = Lib.decDigits u := by unfold Lib.itoa; rw [if_neg (by omega)]; simp
theorem itoa_neg' (u : Nat) (h : 1 ≤ u) : Lib.itoa (-(u : Int)) = 45 :: Lib.decDigits u := by unfold Lib.itoa; rw [if_pos (by omega)]; simp
theorem int_cases (n : Int) : (∃ u : Nat, n = (u : Int)) ∨ ∃ u : Nat, 1 ≤ u ∧ n = -(u : Int) := by
  by_cases h : 0 ≤ n
  · exact .inl ⟨n.toNat, by omega⟩
  · exact .inr ⟨n.natAbs, by omega, by omega⟩
theorem atoi_itoa (n : Int) (h1 : -1000000 ≤ n) (h2 : n ≤ 1000000) : Lib.atoiAll (Lib.itoa n) = .ok n := by
  rcases int_cases n with ⟨u, rfl⟩ | ⟨u, hu, rfl⟩
  · rw [itoa_pos]; exact atoi_dec u (by omega)
  · rw [itoa_neg' u hu]; exact atoi_neg_dec u hu (by omega)
theorem itoa_inj {m n : Int} (h : Lib.itoa m = Lib.itoa n) : m = n := by
  have no : ∀ u v : Nat, Lib.decDigits u ≠ 45 :: Lib.decDigits v := fun u v e => by
    have := dec_digs u 45 (by rw [e]; simp)
    unfold isDig at this
    simp at this
  rcases int_cases m with ⟨u, rfl⟩ | ⟨u, hu, rfl⟩ <;> rcases int_cases n with ⟨v, rfl⟩ | ⟨v, hv, rfl⟩
  · rw [itoa_pos, itoa_pos] at h; rw [dec_inj h]
  · rw [itoa_pos, itoa_neg' v hv] at h; exact absurd h (no u v)
  · rw [itoa_pos, itoa_neg' u hu] at h; exact absurd h.symm (no v u)
  · rw [itoa_neg' v hv, itoa_neg' u hu] at h; rw [dec_inj (List.cons.inj h).2]
end Go.Proofs.YtmkppdeoepfpoaaDoor.Q
