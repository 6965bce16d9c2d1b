/- Rows of texts: their weight, their copies, and that rows that are alike are told so. -/
import Derived.Test.YtmkppdeoepfpoaaDoorQTxt
import Derived.Test.YtmkppdeoepfpoaaDoorQOpen
import Derived.Test.YtmkppdeoepfpoaaDoorQx1
import Derived.Test.YtmkppdeoepfpoaaDoorQx4
namespace Go.Proofs.YtmkppdeoepfpoaaDoor.Q
open Go.RowKit Go.Proofs.YtmkppdeoepfpoaaDoorW.PrintWords Go.Proofs.YtmkppdeoepfpoaaDoorW.PrintLast Go.Proofs.YtmkppdeoepfpoaaDoorW.PrintMore
open Go.Proofs.YtmkppdeoepfpoaaDoor.Open
set_option linter.unusedSimpArgs false
set_option linter.unusedVariables false
def weightS : List ByteArray → Nat
  | [] => 0
  | x :: t => x.size + weightS t
theorem rdS_at {l : List ByteArray} {i : Nat} {x : ByteArray} (h : l[i]? = some x) : rdOf ByteArray.empty l (i : Int) = x := by
  unfold rdOf; simp [List.getD, h]
theorem szS_loop (l : List ByteArray) (hl : l.length ≤ 1048576) : ∀ (t : List ByteArray) (i k : Nat) (left : Int), l.drop i = t → (∀ x ∈ t, x.size ≤ 9223372036854775807) → 0 ≤ left → left ≤ 1048576 → t.length < k →
    ∃ r, laws_szStringS.l0 k l left (i : Int) = some r ∧ r ≤ left ∧ (0 ≤ r → r = left - (weightS t : Int)) := by
  intro t
  induction t with
  | nil =>
    intro i k left hd _ h0 h1 hk
    obtain ⟨k, rfl⟩ : ∃ m, k = m + 1 := ⟨k - 1, by omega⟩
    have := drop_nil hd
    rw [laws_szStringS.l0, if_neg (by omega)]
    exact ⟨_, rfl, by omega, fun _ => by simp [weightS]⟩
  | cons x t ih =>
    intro i k left hd hx h0 h1 hk
    obtain ⟨k, rfl⟩ : ∃ m, k = m + 1 := ⟨k - 1, by omega⟩
    obtain ⟨g1, g2, g3⟩ := drop_cons hd
    have hxs := hx x (by simp)
    rw [laws_szStringS.l0, if_pos (by omega), if_pos (by omega), rdS_at g2, w64 (n := left - (x.size : Int)) (by omega) (by omega)]
    by_cases hn : left - (x.size : Int) < 0
    · rw [if_pos hn]
      exact ⟨_, rfl, by omega, fun h => by omega⟩
    · rw [if_neg hn, w64s i (by omega)]
      obtain ⟨r, e1, e3, e2⟩ := ih (i + 1) k (left - (x.size : Int)) g3 (fun y hy => hx y (by simp [hy])) (by omega) (by omega) (by simp at hk; omega)
      refine ⟨r, e1, by omega, fun h => ?_⟩
      have := e2 h
      simp only [weightS]
      omega
theorem sz_strs (l : List ByteArray) (left : Int) (h0 : 0 ≤ left) (h1 : left ≤ 1048576) (hl : l.length ≤ 9223372036854775807) (hs : ∀ x ∈ l, x.size ≤ 9223372036854775807) (k : Nat) (hk : l.length < k) :
    ∃ r, laws_szStringS.f k l left = some r ∧ r ≤ left ∧ (0 ≤ r → (l.length : Int) + weightS l ≤ left) := by
  unfold laws_szStringS.f
  rw [w64 (by omega) (by omega)]
  by_cases h : left - (l.length : Int) < 0
  · rw [if_pos h]; exact ⟨_, rfl, by omega, fun h => by omega⟩
  · rw [if_neg h]
    obtain ⟨r, e1, e3, e2⟩ := szS_loop l (by omega) l 0 k (left - (l.length : Int)) rfl hs (by omega) (by omega) hk
    exact ⟨r, e1, by omega, fun h => by have := e2 h; omega⟩
theorem toS_loop (l : List ByteArray) (hl : l.length ≤ 1048576) : ∀ (t pre : List ByteArray) (k : Nat) (rest : List ByteArray), l = pre ++ t → rest.length = t.length → t.length < k →
    laws_toStringS.l0 k l (pre ++ rest) (pre.length : Int) = some l := by
  intro t
  induction t with
  | nil =>
    intro pre k rest hd hr hk
    obtain ⟨k, rfl⟩ : ∃ m, k = m + 1 := ⟨k - 1, by omega⟩
    obtain rfl := List.eq_nil_of_length_eq_zero (hr.trans rfl)
    rw [List.append_nil] at hd
    rw [laws_toStringS.l0, if_neg (by rw [hd]; omega), List.append_nil, hd]
  | cons x t ih =>
    intro pre k rest hd hr hk
    obtain ⟨k, rfl⟩ : ∃ m, k = m + 1 := ⟨k - 1, by omega⟩
    have hlen : l.length = pre.length + (t.length + 1) := by rw [hd, List.length_append, List.length_cons]
    match rest, hr with
    | y :: rest, hr =>
      have at_ : l[pre.length]? = some x := by rw [hd, List.getElem?_append_right (Nat.le_refl _)]; simp
      rw [laws_toStringS.l0, if_pos (by omega), if_pos (by omega), rdS_at at_, if_pos (by simp; omega), w64s pre.length (by omega), Int.toNat_natCast]
      have st : (pre ++ y :: rest).set pre.length x = (pre ++ [x]) ++ rest := by
        rw [List.set_append_right _ _ (Nat.le_refl _)]
        simp
      have := ih (pre ++ [x]) k rest (by rw [hd]; simp) (by simpa using hr) (by simp at hk; omega)
      rw [List.length_append, List.length_cons, List.length_nil] at this
      rw [st, this]
theorem to_strs (l : List ByteArray) (hl : l.length ≤ 1048576) (k : Nat) (hk : l.length < k) : laws_toStringS.f k l = some l := by
  unfold laws_toStringS.f
  rw [if_pos (by omega), if_pos (by omega)]
  have := toS_loop l hl l [] k (List.replicate ((l.length : Int)).toNat (⟨#[]⟩ : ByteArray)) rfl (by simp) hk
  simpa using this
theorem weightS_mem : ∀ {l : List ByteArray} {x : ByteArray}, x ∈ l → x.size ≤ weightS l
  | y :: t, x, h => by
    simp only [weightS]
    rcases List.mem_cons.1 h with rfl | h
    · omega
    · have := weightS_mem h; omega
theorem eqSs_loop (l : List ByteArray) (hl : l.length ≤ 9000000) : ∀ (t : List ByteArray) (i k : Nat), l.drop i = t → t.length < k → laws_eqStringS.l0 k l l (i : Int) = some true := by
  intro t
  induction t with
  | nil =>
    intro i k hd hk
    obtain ⟨k, rfl⟩ : ∃ m, k = m + 1 := ⟨k - 1, by omega⟩
    have := drop_nil hd
    rw [laws_eqStringS.l0, if_neg (by omega)]
  | cons x t ih =>
    intro i k hd hk
    obtain ⟨k, rfl⟩ : ∃ m, k = m + 1 := ⟨k - 1, by omega⟩
    obtain ⟨h1, h2, h3⟩ := drop_cons hd
    rw [laws_eqStringS.l0, if_pos (by omega), if_pos (by omega), if_pos (by omega), if_pos rfl, w64s i (by omega)]
    exact ih (i + 1) k h3 (by simp at hk; omega)
theorem eqSs_self (l : List ByteArray) (hl : l.length ≤ 9000000) (k : Nat) (hk : l.length < k) : laws_eqStringS.f k l l = some true := by
  unfold laws_eqStringS.f
  rw [if_pos rfl]
  exact eqSs_loop l hl l 0 k rfl hk
end Go.Proofs.YtmkppdeoepfpoaaDoor.Q
