/- Plain laws over numbers, lists and texts, for the law FnExactSegOk: no program in sight. -/
import Derived.Test.YtfeloencepgdlaaDoorWLast
import Derived.Test.YtfeloencepgdlaaDoorWMore
import Derived.Test.YtfeloencepgdlaaDoorWWords
import Derived.Test.YtfeloencepgdlaaDoorQOpen
import Derived.Test.YtfeloencepgdlaaDoorQKinds
import Derived.Test.YtfeloencepgdlaaDoorQx10
import Derived.Test.YtfeloencepgdlaaDoorQx11
import Derived.Test.YtfeloencepgdlaaDoorQx12
import Derived.Test.YtfeloencepgdlaaDoorQx13
import Derived.Test.YtfeloencepgdlaaDoorQx14
import Derived.Test.YtfeloencepgdlaaDoorQx15
import Derived.Test.YtfeloencepgdlaaDoorQx16
import Derived.Test.YtfeloencepgdlaaDoorQx17
import Derived.Test.YtfeloencepgdlaaDoorQx18
import Derived.Test.YtfeloencepgdlaaDoorQx3
import Derived.Test.YtfeloencepgdlaaDoorQx4
import Derived.Test.YtfeloencepgdlaaDoorQx5
import Derived.Test.YtfeloencepgdlaaDoorQx6
import Derived.Test.YtfeloencepgdlaaDoorQx7
import Derived.Test.YtfeloencepgdlaaDoorQx8
import Derived.Test.YtfeloencepgdlaaDoorQx9
namespace Go.Proofs.YtfeloencepgdlaaDoor.Q
open Go.RowKit Go.Proofs.YtfeloencepgdlaaDoorW.PrintWords Go.Proofs.YtfeloencepgdlaaDoorW.PrintLast Go.Proofs.YtfeloencepgdlaaDoorW.PrintMore
open Go.Proofs.YtfeloencepgdlaaDoor.Open
set_option linter.unusedSimpArgs false
set_option linter.unusedVariables false
theorem drop_cons {α : Type} {l : List α} {i : Nat} {x : α} {t : List α} (h : l.drop i = x :: t) : i < l.length ∧ l[i]? = some x ∧ l.drop (i + 1) = t := by
  have h1 : i < l.length := by
    rcases Nat.lt_or_ge i l.length with h1 | h1
    · exact h1
    · rw [List.drop_eq_nil_of_le h1] at h; simp at h
  refine ⟨h1, ?_, ?_⟩
  · have := congrArg (fun z => z[0]?) h
    simpa using this
  · have := congrArg List.tail h
    simpa using this
theorem drop_nil {α : Type} {l : List α} {i : Nat} (h : l.drop i = []) : l.length ≤ i := by simpa using h
theorem w64 {n : Int} (h1 : -9223372036854775808 ≤ n) (h2 : n ≤ 9223372036854775807) : wrap64 n = n := by unfold wrap64; omega
theorem w64s (i : Nat) (h : i < 9223372036854775807) : wrap64 ((i : Int) + 1) = ((i + 1 : Nat) : Int) := by
  rw [w64 (by omega) (by omega)]; omega
end Go.Proofs.YtfeloencepgdlaaDoor.Q
namespace Go.Proofs.YtfeloencepgdlaaDoor.Q
open Go.RowKit Go.Proofs.YtfeloencepgdlaaDoorW.PrintWords Go.Proofs.YtfeloencepgdlaaDoorW.PrintLast Go.Proofs.YtfeloencepgdlaaDoorW.PrintMore
open Go.Proofs.YtfeloencepgdlaaDoor.Open
set_option linter.unusedSimpArgs false
set_option linter.unusedVariables false
theorem copy_loop {α β : Type} (l : List α) (c : α → β) (K0 : Nat) (F : Nat → List β → Int → Option (List β))
    (hs : ∀ (k : Nat) (x3 : List β) (i : Nat) (x : α), l[i]? = some x → x3.length = l.length → K0 ≤ k → F (k + 1) x3 (i : Int) = F k (x3.set i (c x)) ((i + 1 : Nat) : Int))
    (he : ∀ (k : Nat) (x3 : List β), F (k + 1) x3 (l.length : Int) = some x3) :
    ∀ (d i : Nat) (x3 : List β) (k : Nat), i + d = l.length → x3.length = l.length → K0 + d < k → F k x3 (i : Int) = some (x3.take i ++ (l.drop i).map c)
  | 0, i, x3, k, h, hx, hk => by
    obtain ⟨k, rfl⟩ : ∃ m, k = m + 1 := ⟨k - 1, by omega⟩
    obtain rfl : i = l.length := by omega
    rw [he, List.take_of_length_le (by omega), List.drop_of_length_le (by omega)]
    simp
  | d + 1, i, x3, k, h, hx, hk => by
    obtain ⟨k, rfl⟩ : ∃ m, k = m + 1 := ⟨k - 1, by omega⟩
    have hi : i < l.length := by omega
    rw [hs k x3 i l[i] (List.getElem?_eq_getElem hi) hx (by omega), copy_loop l c K0 F hs he d (i + 1) _ k (by omega) (by rw [List.length_set]; exact hx) (by omega)]
    rw [List.take_add_one, List.take_set_of_le (Nat.le_refl i), List.getElem?_set_self (by omega), List.drop_eq_getElem_cons hi, List.append_assoc]
    rfl
theorem copy_all {α β : Type} (l : List α) (c : α → β) (K0 : Nat) (F : Nat → List β → Int → Option (List β))
    (hs : ∀ (k : Nat) (x3 : List β) (i : Nat) (x : α), l[i]? = some x → x3.length = l.length → K0 ≤ k → F (k + 1) x3 (i : Int) = F k (x3.set i (c x)) ((i + 1 : Nat) : Int))
    (he : ∀ (k : Nat) (x3 : List β), F (k + 1) x3 (l.length : Int) = some x3) (x3 : List β) (hx : x3.length = l.length) (k : Nat) (hk : K0 + l.length < k) : F k x3 0 = some (l.map c) := by
  have := copy_loop l c K0 F hs he l.length 0 x3 k (by omega) hx hk
  simpa using this
theorem true_loop (n K0 : Nat) (F : Nat → Int → Option Bool) (hs : ∀ (k i : Nat), i < n → K0 ≤ k → F (k + 1) (i : Int) = F k ((i + 1 : Nat) : Int)) (he : ∀ k, F (k + 1) (n : Int) = some true) :
    ∀ (d i k : Nat), i + d = n → K0 + d < k → F k (i : Int) = some true
  | 0, i, k, h, hk => by
    obtain ⟨k, rfl⟩ : ∃ m, k = m + 1 := ⟨k - 1, by omega⟩
    obtain rfl : i = n := by omega
    exact he k
  | d + 1, i, k, h, hk => by
    obtain ⟨k, rfl⟩ : ∃ m, k = m + 1 := ⟨k - 1, by omega⟩
    rw [hs k i (by omega) (by omega)]
    exact true_loop n K0 F hs he d (i + 1) k (by omega) (by omega)
theorem true_all (n K0 : Nat) (F : Nat → Int → Option Bool) (hs : ∀ (k i : Nat), i < n → K0 ≤ k → F (k + 1) (i : Int) = F k ((i + 1 : Nat) : Int)) (he : ∀ k, F (k + 1) (n : Int) = some true) (k : Nat) (hk : K0 + n < k) : F k 0 = some true :=
  true_loop n K0 F hs he n 0 k (by omega) hk
end Go.Proofs.YtfeloencepgdlaaDoor.Q
namespace Go.Proofs.YtfeloencepgdlaaDoor.Q
open Go.RowKit Go.Proofs.YtfeloencepgdlaaDoorW.PrintWords Go.Proofs.YtfeloencepgdlaaDoorW.PrintLast Go.Proofs.YtfeloencepgdlaaDoorW.PrintMore
open Go.Proofs.YtfeloencepgdlaaDoor.Open
set_option linter.unusedSimpArgs false
set_option linter.unusedVariables false
abbrev LSym := S110
abbrev ISym := S55
abbrev LVal := S95
abbrev IVal := S62
def cSym (x : LSym) : ISym := ⟨x.f0, x.f1⟩
def cVal (x : LVal) : IVal := ⟨⟨x.f0.f0, x.f0.f1⟩, x.f1⟩
theorem rd_lsym {l : List LSym} {i : Nat} {x : LSym} (h : l[i]? = some x) : rd_T110 l (i : Int) = x := by
  unfold rd_T110; simp [List.getD, h]
theorem rd_isym {l : List ISym} {i : Nat} {x : ISym} (h : l[i]? = some x) : rd_T55 l (i : Int) = x := by
  unfold rd_T55; simp [List.getD, h]
theorem rd_lval {l : List LVal} {i : Nat} {x : LVal} (h : l[i]? = some x) : rd_T95 l (i : Int) = x := by
  unfold rd_T95; simp [List.getD, h]
theorem rd_ival {l : List IVal} {i : Nat} {x : IVal} (h : l[i]? = some x) : rd_T62 l (i : Int) = x := by
  unfold rd_T62; simp [List.getD, h]
theorem rd_lrow {l : List (List LSym)} {i : Nat} {x : List LSym} (h : l[i]? = some x) : rd_L2 l (i : Int) = x := by
  unfold rd_L2; simp [List.getD, h]
theorem rd_irow {l : List (List ISym)} {i : Nat} {x : List ISym} (h : l[i]? = some x) : rd_L7 l (i : Int) = x := by
  unfold rd_L7; simp [List.getD, h]
theorem rd_flag {l : List Bool} {i : Nat} {x : Bool} (h : l[i]? = some x) : rdOf false l (i : Int) = x := by
  unfold rdOf; simp [List.getD, h]
theorem lt_of_get {α : Type} {l : List α} {i : Nat} {x : α} (h : l[i]? = some x) : i < l.length := (List.getElem?_eq_some_iff.1 h).1
theorem to_symS (l : List LSym) (hn : l.length ≤ 1048576) (k : Nat) (hk : l.length < k) : laws_toSymS.f k l = some (l.map cSym) := by
  rw [laws_toSymS.f, if_pos (by omega), if_pos (by omega)]
  refine copy_all l cSym 0 (fun k x3 i => laws_toSymS.l0 k l x3 i) (fun k x3 i x h hx _ => ?_) (fun k x3 => ?_) _ (by simp) k (by omega)
  · have hi := lt_of_get h
    show laws_toSymS.l0 (k + 1) l x3 (i : Int) = _
    rw [laws_toSymS.l0, if_pos (by omega), if_pos (by omega), rd_lsym h, laws_toSym.f, Option.bind_some, if_pos (by omega), w64s i (by omega), Int.toNat_natCast]; rfl
  · show laws_toSymS.l0 (k + 1) l x3 (l.length : Int) = _
    rw [laws_toSymS.l0, if_neg (by omega)]
theorem to_symSS (l : List (List LSym)) (hn : l.length ≤ 1048576) (hr : ∀ r ∈ l, r.length ≤ 1048576) (k : Nat) (hk : 1048577 + l.length < k) : laws_toSymSS.f k l = some (l.map (·.map cSym)) := by
  rw [laws_toSymSS.f, if_pos (by omega), if_pos (by omega)]
  refine copy_all l (·.map cSym) 1048577 (fun k x3 i => laws_toSymSS.l0 k l x3 i) (fun k x3 i x h hx hk => ?_) (fun k x3 => ?_) _ (by simp) k (by omega)
  · have hi := lt_of_get h
    show laws_toSymSS.l0 (k + 1) l x3 (i : Int) = _
    have hm := hr x (List.mem_of_getElem? h)
    rw [laws_toSymSS.l0, if_pos (by omega), if_pos (by omega), rd_lrow h, to_symS x hm k (by omega), Option.bind_some, if_pos (by omega), w64s i (by omega), Int.toNat_natCast]
  · show laws_toSymSS.l0 (k + 1) l x3 (l.length : Int) = _
    rw [laws_toSymSS.l0, if_neg (by omega)]
theorem to_valS (l : List LVal) (hn : l.length ≤ 1048576) (k : Nat) (hk : l.length < k) : laws_toValS.f k l = some (l.map cVal) := by
  rw [laws_toValS.f, if_pos (by omega), if_pos (by omega)]
  refine copy_all l cVal 0 (fun k x3 i => laws_toValS.l0 k l x3 i) (fun k x3 i x h hx _ => ?_) (fun k x3 => ?_) _ (by simp) k (by omega)
  · have hi := lt_of_get h
    show laws_toValS.l0 (k + 1) l x3 (i : Int) = _
    rw [laws_toValS.l0, if_pos (by omega), if_pos (by omega), rd_lval h, laws_toVal.f, laws_toRange.f, Option.bind_some, Option.bind_some, if_pos (by omega), w64s i (by omega), Int.toNat_natCast]; rfl
  · show laws_toValS.l0 (k + 1) l x3 (l.length : Int) = _
    rw [laws_toValS.l0, if_neg (by omega)]
theorem to_boolS (l : List Bool) (hn : l.length ≤ 1048576) (k : Nat) (hk : l.length < k) : laws_toBoolS.f k l = some l := by
  rw [laws_toBoolS.f, if_pos (by omega), if_pos (by omega)]
  have := copy_all l (fun b => b) 0 (fun k x3 i => laws_toBoolS.l0 k l x3 i) (fun k x3 i x h hx _ => ?_) (fun k x3 => ?_) (List.replicate ((l.length : Int) : Int).toNat false) (by simp) k (by omega)
  · rw [List.map_id'] at this; exact this
  · have hi := lt_of_get h
    show laws_toBoolS.l0 (k + 1) l x3 (i : Int) = _
    rw [laws_toBoolS.l0, if_pos (by omega), if_pos (by omega), rd_flag h, if_pos (by omega), w64s i (by omega), Int.toNat_natCast]
  · show laws_toBoolS.l0 (k + 1) l x3 (l.length : Int) = _
    rw [laws_toBoolS.l0, if_neg (by omega)]
theorem eq_symS (l : List ISym) (hn : l.length ≤ 1048576) (k : Nat) (hk : l.length < k) : laws_eqSymS.f k l l = some true := by
  rw [laws_eqSymS.f, if_pos rfl]
  refine true_all l.length 0 (fun k i => laws_eqSymS.l0 k l l i) (fun k i hi _ => ?_) (fun k => ?_) k (by omega)
  · show laws_eqSymS.l0 (k + 1) l l (i : Int) = _
    rw [laws_eqSymS.l0, if_pos (by omega), if_pos (by omega), if_pos (by omega), laws_eqSym.f, if_pos rfl, if_pos rfl, Option.bind_some, if_pos rfl, w64s i (by omega)]
  · show laws_eqSymS.l0 (k + 1) l l (l.length : Int) = _
    rw [laws_eqSymS.l0, if_neg (by omega)]
theorem eq_symSS (l : List (List ISym)) (hn : l.length ≤ 1048576) (hr : ∀ r ∈ l, r.length ≤ 1048576) (k : Nat) (hk : 1048577 + l.length < k) : laws_eqSymSS.f k l l = some true := by
  rw [laws_eqSymSS.f, if_pos rfl]
  refine true_all l.length 1048577 (fun k i => laws_eqSymSS.l0 k l l i) (fun k i hi hk => ?_) (fun k => ?_) k (by omega)
  · show laws_eqSymSS.l0 (k + 1) l l (i : Int) = _
    have h : l[i]? = some l[i] := List.getElem?_eq_getElem hi
    have hm := hr l[i] (List.getElem_mem hi)
    rw [laws_eqSymSS.l0, if_pos (by omega), if_pos (by omega), if_pos (by omega), rd_irow h, eq_symS _ hm k (by omega), Option.bind_some, if_pos rfl, w64s i (by omega)]
  · show laws_eqSymSS.l0 (k + 1) l l (l.length : Int) = _
    rw [laws_eqSymSS.l0, if_neg (by omega)]
theorem eq_valS (l : List IVal) (hn : l.length ≤ 1048576) (k : Nat) (hk : l.length < k) : laws_eqValS.f k l l = some true := by
  rw [laws_eqValS.f, if_pos rfl]
  refine true_all l.length 0 (fun k i => laws_eqValS.l0 k l l i) (fun k i hi _ => ?_) (fun k => ?_) k (by omega)
  · show laws_eqValS.l0 (k + 1) l l (i : Int) = _
    rw [laws_eqValS.l0, if_pos (by omega), if_pos (by omega), if_pos (by omega), laws_eqVal.f, laws_eqRange.f, if_pos rfl, if_pos rfl, Option.bind_some, if_pos rfl, if_neg (by simp), Option.bind_some, if_pos rfl, w64s i (by omega)]
  · show laws_eqValS.l0 (k + 1) l l (l.length : Int) = _
    rw [laws_eqValS.l0, if_neg (by omega)]
theorem eq_boolS (l : List Bool) (hn : l.length ≤ 1048576) (k : Nat) (hk : l.length < k) : laws_eqBoolS.f k l l = some true := by
  rw [laws_eqBoolS.f, if_pos rfl]
  refine true_all l.length 0 (fun k i => laws_eqBoolS.l0 k l l i) (fun k i hi _ => ?_) (fun k => ?_) k (by omega)
  · show laws_eqBoolS.l0 (k + 1) l l (i : Int) = _
    rw [laws_eqBoolS.l0, if_pos (by omega), if_pos (by omega), if_pos (by omega), if_neg (by simp), w64s i (by omega)]
  · show laws_eqBoolS.l0 (k + 1) l l (l.length : Int) = _
    rw [laws_eqBoolS.l0, if_neg (by omega)]
/-- A row of segments that isn't too big. -/
structure SmallS (b : List (List ISym)) (v : List IVal) (m : List Bool) : Prop where
  rows : b.length ≤ 1048576
  each : ∀ r ∈ b, r.length ≤ 1048576
  vals : v.length ≤ 1048576
  flags : m.length ≤ 1048576
theorem eq_seg {b : List (List ISym)} {v : List IVal} {m : List Bool} (h : SmallS b v m) (k : Nat) (hk : 2097160 < k) : laws_eqSeg.f k b v m b v m = some true := by
  have h1 := h.rows
  have h3 := h.vals
  have h4 := h.flags
  rw [laws_eqSeg.f, eq_symSS b h1 h.each k (by omega), Option.bind_some, if_pos rfl, eq_valS v h3 k (by omega), Option.bind_some, if_pos rfl, eq_boolS m h4 k (by omega), Option.bind_some, if_pos rfl]
theorem sz_symSS (l : List (List LSym)) (hn : l.length ≤ 1048576) (hr : ∀ r ∈ l, r.length ≤ 9223372036854775807) : ∀ (d i k : Nat) (left : Int), i + d = l.length → 0 ≤ left → left ≤ 1048576 → d < k →
    ∃ r, laws_szSymSS.l0 k l left (i : Int) = some r ∧ r ≤ left ∧ (0 ≤ r → ∀ x ∈ l.drop i, x.length ≤ 1048576)
  | 0, i, k, left, h, h0, h1, hk => by
    obtain ⟨k, rfl⟩ : ∃ m, k = m + 1 := ⟨k - 1, by omega⟩
    refine ⟨left, by rw [laws_szSymSS.l0, if_neg (by omega)], Int.le_refl _, fun _ x hx => ?_⟩
    rw [List.drop_of_length_le (by omega)] at hx; cases hx
  | d + 1, i, k, left, h, h0, h1, hk => by
    obtain ⟨k, rfl⟩ : ∃ m, k = m + 1 := ⟨k - 1, by omega⟩
    have hi : i < l.length := by omega
    have hm := hr l[i] (List.getElem_mem hi)
    have hg : l[i]? = some l[i] := List.getElem?_eq_getElem hi
    have e : wrap64 (left - (l[i].length : Int)) = left - (l[i].length : Int) := w64 (by omega) (by omega)
    by_cases hl : left - (l[i].length : Int) < 0
    · exact ⟨-1, by rw [laws_szSymSS.l0, if_pos (by omega), if_pos (by omega), rd_lrow hg, laws_szSymS.f, e, if_pos hl, Option.bind_some, if_pos (by decide)], by omega, fun h => by omega⟩
    · obtain ⟨r, q1, q2, q3⟩ := sz_symSS l hn hr d (i + 1) k (left - (l[i].length : Int)) (by omega) (by omega) (by omega) (by omega)
      refine ⟨r, by rw [laws_szSymSS.l0, if_pos (by omega), if_pos (by omega), rd_lrow hg, laws_szSymS.f, e, if_neg hl, Option.bind_some, if_neg hl, w64s i (by omega)]; exact q1, by omega, fun hr0 x hx => ?_⟩
      rw [List.drop_eq_getElem_cons hi] at hx
      rcases List.mem_cons.1 hx with rfl | hx
      · omega
      · exact q3 hr0 x hx
theorem size_seg (b : List (List LSym)) (v : List LVal) (m : List Bool) (hb : b.length ≤ maxLen) (hr : ∀ r ∈ b, r.length ≤ maxLen) (hv : v.length ≤ maxLen) (hm : m.length ≤ maxLen) :
    ∃ r, (∀ k, 1048577 < k → laws_szSeg.f k b v m 1048576 = some r) ∧ (0 ≤ r → b.length ≤ 1048576 ∧ (∀ x ∈ b, x.length ≤ 1048576) ∧ v.length ≤ 1048576 ∧ m.length ≤ 1048576) := by
  simp only [maxLen] at hb hr hv hm
  have e0 : wrap64 ((1048576 : Int) - (b.length : Int)) = 1048576 - (b.length : Int) := w64 (by omega) (by omega)
  by_cases h1 : (1048576 : Int) - (b.length : Int) < 0
  · exact ⟨-1, fun k _ => by rw [laws_szSeg.f, laws_szSymSS.f, e0, if_pos h1, Option.bind_some, if_pos (by decide)], fun h => by omega⟩
  · have hs := fun k hk => sz_symSS b (by omega) (fun x hx => by have := hr x hx; omega) b.length 0 k (1048576 - (b.length : Int)) (by omega) (by omega) (by omega) hk
    obtain ⟨r0, q1, q2, q3⟩ := hs (b.length + 1) (by omega)
    have q1' : ∀ k, 1048577 < k → laws_szSymSS.l0 k b (1048576 - (b.length : Int)) 0 = some r0 := by
      intro k hk
      obtain ⟨r', p1, _, _⟩ := hs k (by omega)
      have up : ∀ n, laws_szSymSS.l0 (b.length + 1 + n) b (1048576 - (b.length : Int)) 0 = some r0 := by
        intro n
        induction n with
        | zero => exact q1
        | succ n ih => exact laws_szSymSS.mono_l _ _ _ _ _ ih
      have := up (k - (b.length + 1))
      rwa [show b.length + 1 + (k - (b.length + 1)) = k by omega] at this
    by_cases h2 : r0 < 0
    · exact ⟨-1, fun k hk => by rw [laws_szSeg.f, laws_szSymSS.f, e0, if_neg h1, q1' k hk, Option.bind_some, if_pos h2], fun h => by omega⟩
    · have e1 : wrap64 (r0 - (v.length : Int)) = r0 - (v.length : Int) := w64 (by omega) (by omega)
      by_cases h3 : r0 - (v.length : Int) < 0
      · exact ⟨-1, fun k hk => by rw [laws_szSeg.f, laws_szSymSS.f, e0, if_neg h1, q1' k hk, Option.bind_some, if_neg h2, laws_szValS.f, e1, if_pos h3, Option.bind_some, if_pos (by decide)], fun h => by omega⟩
      · have e2 : wrap64 (r0 - (v.length : Int) - (m.length : Int)) = r0 - (v.length : Int) - (m.length : Int) := w64 (by omega) (by omega)
        by_cases h4 : r0 - (v.length : Int) - (m.length : Int) < 0
        · exact ⟨-1, fun k hk => by rw [laws_szSeg.f, laws_szSymSS.f, e0, if_neg h1, q1' k hk, Option.bind_some, if_neg h2, laws_szValS.f, e1, if_neg h3, Option.bind_some, if_neg h3, laws_szBoolS.f, e2, if_pos h4, Option.bind_some, if_pos (by decide)], fun h => by omega⟩
        · refine ⟨r0 - (v.length : Int) - (m.length : Int), fun k hk => by rw [laws_szSeg.f, laws_szSymSS.f, e0, if_neg h1, q1' k hk, Option.bind_some, if_neg h2, laws_szValS.f, e1, if_neg h3, Option.bind_some, if_neg h3, laws_szBoolS.f, e2, if_neg h4, Option.bind_some, if_neg h4], fun _ => ⟨by omega, fun x hx => q3 (by omega) x (by simpa using hx), by omega, by omega⟩⟩
theorem to_seg (b : List (List LSym)) (v : List LVal) (m : List Bool) (h1 : b.length ≤ 1048576) (h2 : ∀ x ∈ b, x.length ≤ 1048576) (h3 : v.length ≤ 1048576) (h4 : m.length ≤ 1048576) (k : Nat) (hk : 2097160 < k) :
    laws_toSeg.f k b v m = some (b.map (·.map cSym), v.map cVal, m) := by
  rw [laws_toSeg.f, to_symSS b h1 h2 k (by omega), Option.bind_some, to_valS v h3 k (by omega), Option.bind_some, to_boolS m h4 k (by omega), Option.bind_some]
theorem smallS (b : List (List LSym)) (v : List LVal) (m : List Bool) (h1 : b.length ≤ 1048576) (h2 : ∀ x ∈ b, x.length ≤ 1048576) (h3 : v.length ≤ 1048576) (h4 : m.length ≤ 1048576) : SmallS (b.map (·.map cSym)) (v.map cVal) m :=
  ⟨by simpa using h1, fun r hr => by obtain ⟨x, hx, rfl⟩ := List.mem_map.1 hr; simpa using h2 x hx, by simpa using h3, h4⟩
end Go.Proofs.YtfeloencepgdlaaDoor.Q
namespace Go.Proofs.YtfeloencepgdlaaDoor.Q
open Go.RowKit Go.Proofs.YtfeloencepgdlaaDoorW.PrintWords Go.Proofs.YtfeloencepgdlaaDoorW.PrintLast Go.Proofs.YtfeloencepgdlaaDoorW.PrintMore
open Go.Proofs.YtfeloencepgdlaaDoor.Open
set_option linter.unusedSimpArgs false
set_option linter.unusedVariables false
def okR (lo hi : Int) : Bool := (lo == 1 && hi == 0) || (decide (-1000000 ≤ lo) && decide (hi ≤ 1000000) && decide (lo ≤ hi))
theorem inR (a b c : Int) : impl_inRange.f a b c = some (decide (b ≤ a) && decide (a ≤ c)) := by
  unfold impl_inRange.f
  by_cases h : b ≤ a <;> simp [h]
theorem btw (a b c : Int) : spec_l01Between.f a b c = some (decide (b ≤ a) && decide (a ≤ c)) := by
  unfold spec_l01Between.f
  by_cases h : b ≤ a <;> simp [h]
theorem i_val (a : Int) : impl_isVal.f a = some (decide (-1000000 ≤ a) && decide (a ≤ 1000000)) := by
  unfold impl_isVal.f
  rw [inR]; rfl
theorem s_val (a : Int) : spec_l05Val.f a = some (decide (-1000000 ≤ a) && decide (a ≤ 1000000)) := by
  unfold spec_l05Val.f
  rw [btw]; rfl
theorem i_ok (a b : Int) : impl_RangeOk.f a b = some (okR a b) := by
  unfold impl_RangeOk.f
  simp only [i_val, Option.bind_some]
  by_cases h : (a == 1 && b == 0) = true
  · rw [if_pos h]; simp [okR, h]
  · rw [if_neg h]
    have e : okR a b = (decide (-1000000 ≤ a) && decide (b ≤ 1000000) && decide (a ≤ b)) := by
      unfold okR
      rw [Bool.eq_false_iff.mpr h]; rfl
    rw [e]
    (repeat' split) <;> simp_all <;> omega
theorem s_is (a b : Int) : spec_l06Is.f a b = some (decide (a ≤ b)) := rfl
theorem s_ok (a b : Int) : spec_RangeOk.f a b = some (okR a b) := by
  rw [← i_ok]
  unfold spec_RangeOk.f impl_RangeOk.f
  simp only [s_is, s_val, i_val, Option.bind_some]
  by_cases h1 : a = 1
  · by_cases h2 : b = 0
    · simp [h1, h2]
    · simp only [h1, h2, if_true, if_false]
      (repeat' split) <;> simp_all <;> omega
  · simp only [h1, if_false]
    (repeat' split) <;> simp_all <;> omega
end Go.Proofs.YtfeloencepgdlaaDoor.Q
namespace Go.Proofs.YtfeloencepgdlaaDoor.Q
open Go.RowKit Go.Proofs.YtfeloencepgdlaaDoorW.PrintWords Go.Proofs.YtfeloencepgdlaaDoorW.PrintLast Go.Proofs.YtfeloencepgdlaaDoorW.PrintMore
open Go.Proofs.YtfeloencepgdlaaDoor.Open
set_option linter.unusedSimpArgs false
set_option linter.unusedVariables false
theorem i_vok (a b : Int) (c : Bool) : impl_ValOk.f a b c = some (okR a b) := by unfold impl_ValOk.f; rw [i_ok]; rfl
theorem s_vok (a b : Int) (c : Bool) : spec_ValOk.f a b c = some (okR a b) := by unfold spec_ValOk.f; rw [s_ok]; rfl
end Go.Proofs.YtfeloencepgdlaaDoor.Q
namespace Go.Proofs.YtfeloencepgdlaaDoor.Q
open Go.RowKit Go.Proofs.YtfeloencepgdlaaDoorW.PrintWords Go.Proofs.YtfeloencepgdlaaDoorW.PrintLast Go.Proofs.YtfeloencepgdlaaDoorW.PrintMore
open Go.Proofs.YtfeloencepgdlaaDoor.Open
set_option linter.unusedSimpArgs false
set_option linter.unusedVariables false
def isSym (x : ISym) (a b : Int) : Bool := x.f0 == a && x.f1 == b
def hasS (l : List ISym) (a b : Int) : Bool := l.any fun x => isSym x a b
theorem isSym_iff {x : ISym} {a b : Int} : isSym x a b = true ↔ x = ⟨a, b⟩ := by
  cases x; unfold isSym; simp
theorem hasS_iff {l : List ISym} {a b : Int} : hasS l a b = true ↔ (⟨a, b⟩ : ISym) ∈ l := by
  unfold hasS
  rw [List.any_eq_true]
  constructor
  · rintro ⟨x, hx, h⟩; rw [isSym_iff] at h; subst h; exact hx
  · intro h; exact ⟨_, h, isSym_iff.2 rfl⟩
/-- The first place from i on, -1 without one. -/
def findS (l : List ISym) (a b : Int) (i : Nat) : Int := match l with | [] => -1 | x :: t => if isSym x a b = true then (i : Int) else findS t a b (i + 1)
theorem findS_has (a b : Int) : ∀ (l : List ISym) (i : Nat), (decide (findS l a b i ≥ 0)) = hasS l a b
  | [], i => by unfold findS hasS; rfl
  | x :: t, i => by
    unfold findS hasS
    rw [List.any_cons]
    by_cases h : isSym x a b = true
    · rw [if_pos h, h, Bool.true_or]; exact decide_eq_true (by omega)
    · rw [if_neg h, findS_has a b t (i + 1)]
      simp only [Bool.not_eq_true] at h
      rw [h, Bool.false_or]; rfl
theorem s_find (l : List ISym) (hn : l.length ≤ 100000000000) (a b : Int) : ∀ (t : List ISym) (i k : Nat), l.drop i = t → t.length < k → spec_l10Find.l0 k l (i : Int) a b = some (findS t a b i)
  | [], i, k, h, hk => by
    have h2 := drop_nil h
    obtain ⟨k, rfl⟩ : ∃ m, k = m + 1 := ⟨k - 1, by simp at hk; omega⟩
    rw [spec_l10Find.l0, if_neg (by omega)]; rfl
  | x :: t, i, k, h, hk => by
    haveI : Inhabited ISym := ⟨x⟩
    obtain ⟨h2, h3, h4⟩ := drop_cons h
    obtain ⟨k, rfl⟩ : ∃ m, k = m + 1 := ⟨k - 1, by simp at hk; omega⟩
    rw [spec_l10Find.l0, if_pos (by omega), if_pos (by omega), rd_isym h3, w64s i (by omega), s_find l hn a b t (i + 1) k h4 (by simp at hk; omega), findS]
    unfold isSym
    split <;> rfl
theorem i_find (l : List ISym) (hn : l.length ≤ 100000000000) (a b : Int) : ∀ (t : List ISym) (i k : Nat), l.drop i = t → t.length < k → impl_Sym_62.l0 k l (l.length : Int) (i : Int) a b = some (findS t a b i)
  | [], i, k, h, hk => by
    have h2 := drop_nil h
    obtain ⟨k, rfl⟩ : ∃ m, k = m + 1 := ⟨k - 1, by simp at hk; omega⟩
    rw [impl_Sym_62.l0, if_neg (by omega)]; rfl
  | x :: t, i, k, h, hk => by
    haveI : Inhabited ISym := ⟨x⟩
    obtain ⟨h2, h3, h4⟩ := drop_cons h
    obtain ⟨k, rfl⟩ : ∃ m, k = m + 1 := ⟨k - 1, by simp at hk; omega⟩
    rw [impl_Sym_62.l0, if_pos (by omega), if_pos (by omega), if_pos (by omega), rd_isym h3, w64s i (by omega), i_find l hn a b t (i + 1) k h4 (by simp at hk; omega), findS]
    have e : (a == x.f0 && (b == x.f1)) = isSym x a b := by unfold isSym; rw [Bool.beq_comm, Bool.beq_comm (a := b)]
    rw [e]
    split <;> rfl
theorem i_contains (l : List ISym) (hn : l.length ≤ 100000000000) (a b : Int) (k : Nat) (hk : l.length < k) : impl_Sym_35.f k l a b = some (hasS l a b) := by
  rw [impl_Sym_35.f, impl_Sym_62.f]
  have := i_find l hn a b l 0 k rfl hk
  rw [show ((0 : Nat) : Int) = 0 from rfl] at this
  rw [this, Option.bind_some, findS_has]
/-- The first row from i on in which a term stands, -1 without one. -/
def inS (b : List (List ISym)) (x y : Int) (i : Nat) : Int := match b with | [] => -1 | r :: t => if hasS r x y = true then (i : Int) else inS t x y (i + 1)
theorem s_in_l (b : List (List ISym)) (v : List IVal) (m : List Bool) (h : SmallS b v m) (x y : Int) : ∀ (t : List (List ISym)) (i k : Nat), b.drop i = t → 1048600 + t.length < k → spec_l10In.l0 k (i : Int) b v m x y = some (inS t x y i)
  | [], i, k, hd, hk => by
    have h2 := drop_nil hd
    obtain ⟨k, rfl⟩ : ∃ m, k = m + 1 := ⟨k - 1, by simp at hk; omega⟩
    rw [spec_l10In.l0, if_neg (by omega)]; rfl
  | r :: t, i, k, hd, hk => by
    obtain ⟨h2, h3, h4⟩ := drop_cons hd
    have hn := h.rows
    have hr := h.each r (List.mem_of_getElem? h3)
    obtain ⟨k, rfl⟩ : ∃ m, k = m + 1 := ⟨k - 1, by simp at hk; omega⟩
    simp only [List.length_cons] at hk
    have hf := s_find r (by omega) x y r 0 k rfl (by omega)
    rw [show ((0 : Nat) : Int) = 0 from rfl] at hf
    rw [spec_l10In.l0, if_pos (by omega), if_pos (by omega), rd_irow h3, spec_l10Find.f, hf, Option.bind_some, w64s i (by omega), s_in_l b v m h x y t (i + 1) k h4 (by omega), inS]
    have hh := findS_has x y r 0
    by_cases hp : findS r x y 0 ≥ 0
    · rw [decide_eq_true hp] at hh
      rw [if_pos hp, ← hh, if_pos rfl]
    · rw [decide_eq_false hp] at hh
      rw [if_neg hp, ← hh, if_neg (by decide)]
theorem s_in {b : List (List ISym)} {v : List IVal} {m : List Bool} (h : SmallS b v m) (x y : Int) (k : Nat) (hk : 2097180 < k) : spec_l10In.f k b v m x y = some (inS b x y 0) := by
  have hn := h.rows
  rw [spec_l10In.f]
  exact s_in_l b v m h x y b 0 k rfl (by omega)
/-- A term that stands in a row stands first there just if no row ahead has it. -/
theorem inS_at (x y : Int) : ∀ (pre : List (List ISym)) (r : List ISym) (suf : List (List ISym)) (i : Nat), hasS r x y = true → (inS (pre ++ r :: suf) x y i = ((i + pre.length : Nat) : Int) ↔ hasS pre.flatten x y = false)
  | [], r, suf, i, h => by
    rw [List.nil_append, inS, if_pos h]
    simp [hasS]
  | p :: pre, r, suf, i, h => by
    rw [List.cons_append, inS, List.flatten_cons]
    have e : hasS (p ++ pre.flatten) x y = (hasS p x y || hasS pre.flatten x y) := by unfold hasS; rw [List.any_append]
    rw [e]
    by_cases hp : hasS p x y = true
    · rw [if_pos hp, hp]
      simp; omega
    · rw [if_neg hp]
      simp only [Bool.not_eq_true] at hp
      rw [hp, Bool.false_or, List.length_cons, show i + (pre.length + 1) = i + 1 + pre.length by omega]
      exact inS_at x y pre r suf (i + 1) h
theorem inS_ge (x y : Int) : ∀ (b : List (List ISym)) (i : Nat), inS b x y i = -1 ∨ (i : Int) ≤ inS b x y i
  | [], _ => .inl rfl
  | r :: t, i => by
    rw [inS]
    split
    · right; omega
    · rcases inS_ge x y t (i + 1) with h | h
      · exact .inl h
      · right; omega
/-- A term stands first in the last row: it stands there, and in none ahead. -/
theorem inS_last (x y : Int) : ∀ (pre : List (List ISym)) (r : List ISym) (i : Nat), inS (pre ++ [r]) x y i = ((i + pre.length : Nat) : Int) ↔ hasS pre.flatten x y = false ∧ hasS r x y = true
  | pre, r, i => by
    by_cases h : hasS r x y = true
    · rw [inS_at x y pre r [] i h]; simp [h]
    · simp only [Bool.not_eq_true] at h
      rw [h]
      constructor
      · intro e
        exfalso
        have none : ∀ (p : List (List ISym)) (j : Nat), inS (p ++ [r]) x y j ≠ ((j + p.length : Nat) : Int) := by
          intro p
          induction p with
          | nil => intro j; rw [List.nil_append, inS, if_neg (by rw [h]; decide), inS]; first | (simp; done) | (simp; omega)
          | cons q p ih =>
            intro j
            rw [List.cons_append, inS]
            split
            · first | (simp; done) | (simp; omega)
            · have := ih (j + 1)
              rw [List.length_cons, show j + (p.length + 1) = j + 1 + p.length by omega]
              exact this
        exact none pre i e
      · rintro ⟨_, e⟩; cases e
theorem inS_first (x y : Int) (r : List ISym) (t : List (List ISym)) : inS (r :: t) x y 0 = 0 ↔ hasS r x y = true := by
  rw [inS]
  by_cases h : hasS r x y = true
  · rw [if_pos h, h]; simp
  · rw [if_neg h]
    simp only [Bool.not_eq_true] at h
    rw [h]
    constructor
    · intro e
      exfalso
      rw [Nat.zero_add] at e
      rcases inS_ge x y t 1 with h1 | h1 <;> omega
    · intro e; cases e
def symB (size : Int) (x : ISym) : Bool := (decide (1 ≤ size) && decide (size ≤ 13)) && (decide (0 ≤ x.f0) && decide (x.f0 ≤ wrap64 (size - 1))) && (decide (-1000 ≤ x.f1) && decide (x.f1 ≤ 1000))
def lessB (x y : ISym) : Bool := decide (x.f0 < y.f0) || (decide (x.f0 = y.f0) && decide (x.f1 < y.f1))
theorem s_symB (size : Int) (x : ISym) : spec_SymOk.f size x.f0 x.f1 = some (symB size x) := by
  unfold spec_SymOk.f symB
  rw [btw, Option.bind_some, btw, btw]
  cases (decide (1 ≤ size) && decide (size ≤ 13)) <;> cases (decide (0 ≤ x.f0) && decide (x.f0 ≤ wrap64 (size - 1))) <;> rfl
theorem i_symB (size : Int) (x : ISym) : impl_SymOk.f size x.f0 x.f1 = some (symB size x) := by
  unfold impl_SymOk.f symB impl_isPlace.f
  rw [inR, Option.bind_some, inR, inR]
  cases (decide (1 ≤ size) && decide (size ≤ 13)) <;> cases (decide (0 ≤ x.f0) && decide (x.f0 ≤ wrap64 (size - 1))) <;> rfl
theorem s_lessB (x y : ISym) : spec_SymLess.f x.f0 x.f1 y.f0 y.f1 = some (lessB x y) := by
  unfold spec_SymLess.f lessB
  by_cases h : x.f0 < y.f0
  · rw [if_pos h, decide_eq_true h, Bool.true_or]
  · rw [if_neg h, decide_eq_false h, Bool.false_or]
    by_cases h2 : x.f0 = y.f0
    · rw [if_pos h2, decide_eq_true h2, Bool.true_and]
    · rw [if_neg h2, decide_eq_false h2, Bool.false_and]
theorem i_lessB (x y : ISym) : impl_SymLess.f x.f0 x.f1 y.f0 y.f1 = some (lessB x y) := by
  unfold impl_SymLess.f lessB
  by_cases h : x.f0 < y.f0
  · rw [if_pos h, decide_eq_true h, Bool.true_or]
  · rw [if_neg h, decide_eq_false h, Bool.false_or]
    by_cases h2 : x.f0 = y.f0
    · rw [if_pos h2, decide_eq_true h2, Bool.true_and]
    · rw [if_neg h2, decide_eq_false h2, Bool.false_and]
def prevOk : Option ISym → ISym → Bool
  | none, _ => true
  | some y, x => lessB y x
/-- The terms of a row behind its i-th, held against what stands ahead. -/
def termsB (size : Int) (all : List ISym) : Option ISym → List ISym → Bool
  | _, [] => true
  | p, x :: t => symB size x && prevOk p x && !hasS all x.f0 x.f1 && termsB size all (some x) t
def boundsB (size : Int) : List ISym → List (List ISym) → Bool
  | _, [] => true
  | all, r :: t => decide (r ≠ []) && decide ((all ++ r).length ≤ 40) && termsB size all none r && boundsB size (all ++ r) t
/-- What stands ahead of the i-th term. -/
def prevS (r : List ISym) (i : Nat) : Option ISym := if i = 0 then none else r[i - 1]?
theorem prevS_zero (r : List ISym) : prevS r 0 = none := rfl
theorem prevS_succ {r : List ISym} {i : Nat} {x : ISym} (h : r[i]? = some x) : prevS r (i + 1) = some x := by
  unfold prevS
  rw [if_neg (by omega), Nat.add_sub_cancel, h]
theorem hasS_mem {l : List ISym} {x : ISym} (h : x ∈ l) : hasS l x.f0 x.f1 = true := hasS_iff.2 (by cases x; exact h)
/-- The reference's round over the terms of the row behind 'pre'. -/
theorem s_terms (size : Int) (pre : List (List ISym)) (r : List ISym) (suf : List (List ISym)) (v : List IVal) (m : List Bool) (h : SmallS (pre ++ r :: suf) v m) (l K8 : Int) (all : Int) : ∀ (t : List ISym) (i k : Nat), r.drop i = t → 2097200 + t.length < k →
    spec_SegOk.l1 k size l K8 all (pre.length : Int) r (i : Int) (pre ++ r :: suf) v m = if termsB size pre.flatten (prevS r i) t = true then spec_SegOk.l0 (k - t.length - 1) size l K8 all ((pre.length + 1 : Nat) : Int) (pre ++ r :: suf) v m else some false
  | [], i, k, hd, hk => by
    have h2 := drop_nil hd
    have hn := h.rows
    obtain ⟨k, rfl⟩ : ∃ m, k = m + 1 := ⟨k - 1, by simp at hk; omega⟩
    rw [List.length_append] at hn
    rw [spec_SegOk.l1, if_neg (by omega), w64s pre.length (by omega), termsB, if_pos rfl]; rfl
  | x :: t, i, k, hd, hk => by
    haveI : Inhabited ISym := ⟨x⟩
    obtain ⟨h2, h3, h4⟩ := drop_cons hd
    have hn := h.rows
    have hr := h.each r (by simp)
    simp only [List.length_cons] at hk
    obtain ⟨k, rfl⟩ : ∃ m, k = m + 1 := ⟨k - 1, by omega⟩
    have ih := s_terms size pre r suf v m h l K8 all t (i + 1) k h4 (by omega)
    rw [prevS_succ h3] at ih
    have hin := inS_at x.f0 x.f1 pre r suf 0 (hasS_mem (List.mem_of_getElem? h3))
    rw [Nat.zero_add] at hin
    have hq : ∀ (Y : Option Bool), (if inS (pre ++ r :: suf) x.f0 x.f1 0 = (pre.length : Int) then Y else some false) = if !hasS pre.flatten x.f0 x.f1 then Y else some false := by
      intro Y
      by_cases hp : inS (pre ++ r :: suf) x.f0 x.f1 0 = (pre.length : Int)
      · rw [if_pos hp, hin.1 hp]; rfl
      · rw [if_neg hp]
        cases hh : hasS pre.flatten x.f0 x.f1 with
        | true => rfl
        | false => exact absurd (hin.2 hh) hp
    rw [spec_SegOk.l1, if_pos (by omega), if_pos (by omega), rd_isym h3, s_symB, Option.bind_some, s_in h _ _ k (by omega), Option.bind_some, w64s i (by omega), ih, List.length_cons, show k + 1 - (t.length + 1) - 1 = k - t.length - 1 by omega, hq]
    rw [termsB]
    cases hs : symB size x with
    | false => rw [if_neg (by decide)]; rfl
    | true =>
      rw [if_pos rfl]
      cases i with
      | zero =>
        rw [if_neg (by omega), prevS_zero, prevOk]
        cases hasS pre.flatten x.f0 x.f1 <;> cases termsB size pre.flatten (some x) t <;> rfl
      | succ j =>
        have hj : r[j]? = some r[j] := List.getElem?_eq_getElem (by omega)
        rw [if_pos (by omega), w64 (by omega) (by omega), show (((j + 1 : Nat) : Int) - 1) = (j : Int) by omega, if_pos (by omega), if_pos (by omega), rd_isym hj, s_lessB, Option.bind_some, prevS_succ hj, prevOk]
        cases lessB r[j] x <;> cases hasS pre.flatten x.f0 x.f1 <;> cases termsB size pre.flatten (some x) t <;> rfl
/-- The program's round over the terms of a row. -/
theorem i_terms (size : Int) (l K7 : Int) (all : List ISym) (ha : all.length ≤ 1048576) (r : List ISym) (hr : r.length ≤ 1048576) (B : List (List ISym)) (K46 x47 : Int) (b : List (List ISym)) (v : List IVal) (m : List Bool) (N : Option Bool) (Kn : Nat)
    (hN : ∀ k, Kn ≤ k → (if (r.length : Int) = 0 then (some false) else (if all.length + r.length < 8796093022208 then ((some (all ++ r : List ISym)).bind fun y239 => (if (y239.length : Int) > 40 then (some false) else (impl_SegOk.l0 k size l K7 y239 B K46 (wrap64 (x47 + 1)) b v m))) else (none))) = N) : ∀ (t : List ISym) (i k : Nat), r.drop i = t → Kn + 1048700 + t.length < k →
    impl_SegOk.l1 k size l K7 all r B K46 x47 r (r.length : Int) (i : Int) b v m = if termsB size all (prevS r i) t = true then N else some false
  | [], i, k, hd, hk => by
    have h2 := drop_nil hd
    obtain ⟨k, rfl⟩ : ∃ m, k = m + 1 := ⟨k - 1, by simp at hk; omega⟩
    rw [impl_SegOk.l1, if_neg (by omega), termsB, if_pos rfl]
    exact hN k (by simp at hk; omega)
  | x :: t, i, k, hd, hk => by
    haveI : Inhabited ISym := ⟨x⟩
    obtain ⟨h2, h3, h4⟩ := drop_cons hd
    simp only [List.length_cons] at hk
    obtain ⟨k, rfl⟩ : ∃ m, k = m + 1 := ⟨k - 1, by omega⟩
    have ih := i_terms size l K7 all ha r hr B K46 x47 b v m N Kn hN t (i + 1) k h4 (by omega)
    rw [prevS_succ h3] at ih
    rw [impl_SegOk.l1, if_pos (by omega), if_pos (by omega), if_pos (by omega), rd_isym h3, i_symB, Option.bind_some, i_contains all (by omega) _ _ k (by omega), Option.bind_some, w64s i (by omega), ih]
    rw [termsB]
    cases hs : symB size x with
    | false => rw [if_neg (by decide)]; rfl
    | true =>
      rw [if_pos rfl]
      cases i with
      | zero =>
        rw [if_neg (by omega), prevS_zero, prevOk]
        cases hasS all x.f0 x.f1 <;> cases termsB size all (some x) t <;> rfl
      | succ j =>
        have hj : r[j]? = some r[j] := List.getElem?_eq_getElem (by omega)
        rw [if_pos (by omega), w64 (by omega) (by omega), show (((j + 1 : Nat) : Int) - 1) = (j : Int) by omega, if_pos (by omega), if_pos (by omega), rd_isym hj, i_lessB, Option.bind_some, prevS_succ hj, prevOk]
        cases lessB r[j] x <;> cases hasS all x.f0 x.f1 <;> cases termsB size all (some x) t <;> rfl
theorem flat_snoc (pre : List (List ISym)) (r : List ISym) : (pre ++ [r]).flatten = pre.flatten ++ r := by simp
theorem s_bounds (size l : Int) (v : List IVal) (m : List Bool) (b : List (List ISym)) (h : SmallS b v m) (F : Bool) (K2 : Nat) (hF : ∀ k, K2 ≤ k → spec_SegOk.l2 k l (b.length : Int) 0 b v m = some F) : ∀ (suf pre : List (List ISym)), b = pre ++ suf → pre.flatten.length ≤ 40 →
    ∃ K, ∀ k, K ≤ k → spec_SegOk.l0 k size l (b.length : Int) (pre.flatten.length : Int) (pre.length : Int) b v m = some (boundsB size pre.flatten suf && F)
  | [], pre, hb, hp => by
    refine ⟨K2 + 1, fun k hk => ?_⟩
    obtain ⟨k, rfl⟩ : ∃ n, k = n + 1 := ⟨k - 1, by omega⟩
    have hl : b.length = pre.length := by rw [hb]; simp
    rw [spec_SegOk.l0, if_neg (by omega), hF k (by omega), boundsB, Bool.true_and]
  | r :: suf, pre, hb, hp => by
    have hl : b.length = pre.length + (suf.length + 1) := by rw [hb]; simp
    have hn := h.rows
    have hg : b[pre.length]? = some r := by rw [hb]; simp
    have hr := h.each r (by rw [hb]; simp)
    have st : ∀ k, (pre.length : Int) < (b.length : Int) ∧ (0 : Int) ≤ (pre.length : Int) := fun _ => by omega
    have h' : SmallS (pre ++ r :: suf) v m := hb ▸ h
    by_cases h0 : r = []
    · refine ⟨2, fun k hk => ?_⟩
      obtain ⟨k, rfl⟩ : ∃ n, k = n + 2 := ⟨k - 2, by omega⟩
      rw [spec_SegOk.l0, if_pos (by omega), if_pos (by omega), if_pos (by omega), rd_irow hg, h0, if_pos (show ((([] : List ISym).length : Nat) : Int) = 0 from rfl), spec_SegOk.j2, if_pos rfl, boundsB, decide_eq_false (by simp)]; rfl
    · have hz : ¬ (r.length : Int) = 0 := by
        intro e
        exact h0 (List.eq_nil_of_length_eq_zero (by omega))
      have hw : wrap64 ((pre.flatten.length : Int) + (r.length : Int)) = ((pre ++ [r]).flatten.length : Int) := by
        rw [w64 (by omega) (by omega), flat_snoc, List.length_append]; omega
      by_cases h40 : (pre ++ [r]).flatten.length ≤ 40
      · obtain ⟨K, ih⟩ := s_bounds size l v m b h F K2 hF suf (pre ++ [r]) (by rw [hb]; simp) h40
        refine ⟨K + 2097210 + r.length, fun k hk => ?_⟩
        obtain ⟨k, rfl⟩ : ∃ n, k = n + 2 := ⟨k - 2, by omega⟩
        have tm := s_terms size pre r suf v m h' l (b.length : Int) ((pre ++ [r]).flatten.length : Int) r 0 k rfl (by omega)
        rw [← hb, show ((0 : Nat) : Int) = 0 from rfl] at tm
        rw [spec_SegOk.l0, if_pos (by omega), if_pos (by omega), if_pos (by omega), rd_irow hg, if_neg hz, hw, decide_eq_false (show ¬ ((pre ++ [r]).flatten.length : Int) > 40 by omega), spec_SegOk.j2, if_neg (by decide), tm, prevS_zero]
        have ih' := ih (k - r.length - 1) (by omega)
        rw [show (pre ++ [r]).length = pre.length + 1 by simp] at ih'
        rw [ih', boundsB, decide_eq_true h0, decide_eq_true (show (pre.flatten ++ r).length ≤ 40 by rw [← flat_snoc]; exact h40), flat_snoc]
        cases termsB size pre.flatten none r <;> rfl
      · refine ⟨2, fun k hk => ?_⟩
        obtain ⟨k, rfl⟩ : ∃ n, k = n + 2 := ⟨k - 2, by omega⟩
        rw [spec_SegOk.l0, if_pos (by omega), if_pos (by omega), if_pos (by omega), rd_irow hg, if_neg hz, hw, decide_eq_true (show ((pre ++ [r]).flatten.length : Int) > 40 by omega), spec_SegOk.j2, if_pos rfl, boundsB, decide_eq_true h0, decide_eq_false (show ¬ (pre.flatten ++ r).length ≤ 40 by rw [← flat_snoc]; exact h40)]; rfl
def endI (l : Int) (b : List (List ISym)) (v : List IVal) (FI : Bool) (K2 : Nat) : Prop := ∀ k, K2 ≤ k → ((impl_ends.f l).bind fun bt242 => (if 0 < (b.length : Int) then ((impl_Sym_35.f k (rd_L7 b 0) bt242.1 bt242.2.1).bind fun t249 => (if t249 = true then (if 0 ≤ (wrap64 ((b.length : Int) - 1)) then (if (wrap64 ((b.length : Int) - 1)) < (b.length : Int) then ((impl_Sym_35.f k (rd_L7 b (wrap64 ((b.length : Int) - 1))) bt242.2.2.1 bt242.2.2.2).bind fun t251 => (if t251 = true then ((slices_ContainsFunc__impl_SegOk_1.f k v).bind fun t252 => (some (!t252))) else (some false))) else (none)) else (none)) else (some false))) else (none))) = some FI
theorem i_bounds (size l : Int) (v : List IVal) (m : List Bool) (b : List (List ISym)) (h : SmallS b v m) (FI : Bool) (K2 : Nat) (hF : endI l b v FI K2) : ∀ (suf pre : List (List ISym)), b = pre ++ suf → pre.flatten.length ≤ 40 →
    ∃ K, ∀ k, K ≤ k → impl_SegOk.l0 k size l (b.length : Int) pre.flatten b (b.length : Int) (pre.length : Int) b v m = some (boundsB size pre.flatten suf && FI)
  | [], pre, hb, hp => by
    refine ⟨K2 + 1, fun k hk => ?_⟩
    obtain ⟨k, rfl⟩ : ∃ n, k = n + 1 := ⟨k - 1, by omega⟩
    have hl : b.length = pre.length := by rw [hb]; simp
    rw [impl_SegOk.l0, if_neg (by omega), boundsB, Bool.true_and]
    exact hF k (by omega)
  | r :: suf, pre, hb, hp => by
    have hl : b.length = pre.length + (suf.length + 1) := by rw [hb]; simp
    have hn := h.rows
    have hg : b[pre.length]? = some r := by rw [hb]; simp
    have hr := h.each r (by rw [hb]; simp)
    have go : ∃ K, ∀ k, K ≤ k → (if (r.length : Int) = 0 then (some false) else (if pre.flatten.length + r.length < 8796093022208 then ((some (pre.flatten ++ r : List ISym)).bind fun y239 => (if (y239.length : Int) > 40 then (some false) else (impl_SegOk.l0 k size l (b.length : Int) y239 b (b.length : Int) (wrap64 ((pre.length : Int) + 1)) b v m))) else (none))) = some (decide (r ≠ []) && decide ((pre.flatten ++ r).length ≤ 40) && boundsB size (pre.flatten ++ r) suf && FI) := by
      by_cases h0 : r = []
      · exact ⟨0, fun k _ => by rw [h0, if_pos (show ((([] : List ISym).length : Nat) : Int) = 0 from rfl), decide_eq_false (by simp)]; rfl⟩
      · have hz : ¬ (r.length : Int) = 0 := by
          intro e
          exact h0 (List.eq_nil_of_length_eq_zero (by omega))
        by_cases h40 : (pre.flatten ++ r).length ≤ 40
        · obtain ⟨K, ih⟩ := i_bounds size l v m b h FI K2 hF suf (pre ++ [r]) (by rw [hb]; simp) (by rw [flat_snoc]; exact h40)
          refine ⟨K, fun k hk => ?_⟩
          have ih' := ih k hk
          rw [show (pre ++ [r]).length = pre.length + 1 by simp, flat_snoc] at ih'
          rw [if_neg hz, if_pos (by omega), Option.bind_some, if_neg (by omega), w64s pre.length (by omega), ih', decide_eq_true h0, decide_eq_true h40]; rfl
        · exact ⟨0, fun k _ => by rw [if_neg hz, if_pos (by omega), Option.bind_some, if_pos (by omega), decide_eq_true h0, decide_eq_false h40]; rfl⟩
    obtain ⟨K, hK⟩ := go
    refine ⟨K + 1048710 + r.length, fun k hk => ?_⟩
    obtain ⟨k, rfl⟩ : ∃ n, k = n + 1 := ⟨k - 1, by omega⟩
    have tm := i_terms size l (b.length : Int) pre.flatten (by omega) r hr b (b.length : Int) (pre.length : Int) b v m _ K hK r 0 k rfl (by omega)
    rw [show ((0 : Nat) : Int) = 0 from rfl] at tm
    rw [impl_SegOk.l0, if_pos (by omega), if_pos (by omega), if_pos (by omega), rd_irow hg, tm, prevS_zero, boundsB]
    cases termsB size pre.flatten none r <;> cases decide (r ≠ []) <;> cases decide ((pre.flatten ++ r).length ≤ 40) <;> rfl
def okV (x : IVal) : Bool := okR x.f0.f0 x.f0.f1
theorem s_vloop (l : Int) (v : List IVal) (m : List Bool) (b : List (List ISym)) (h : SmallS b v m) (hv : v.length + 1 = b.length) : ∀ (t : List IVal) (i k : Nat), v.drop i = t → 2097200 + t.length < k →
    spec_SegOk.l2 k l (b.length : Int) (i : Int) b v m = some (t.all okV && (decide (inS b 0 0 0 = 0) && (inS b l 0 0 == (v.length : Int))))
  | [], i, k, hd, hk => by
    have h2 := drop_nil hd
    have hn := h.rows
    obtain ⟨k, rfl⟩ : ∃ n, k = n + 1 := ⟨k - 1, by simp at hk; omega⟩
    simp only [List.length_nil] at hk
    have hw : wrap64 ((b.length : Int) - 1) = (v.length : Int) := by rw [w64 (by omega) (by omega)]; omega
    rw [spec_SegOk.l2, hw, if_neg (by omega), s_in h 0 0 k (by omega), Option.bind_some, s_in h l 0 k (by omega), Option.bind_some, List.all_nil, Bool.true_and]
    by_cases h0 : inS b 0 0 0 = 0
    · rw [if_pos h0, decide_eq_true h0, Bool.true_and]
    · rw [if_neg h0, decide_eq_false h0, Bool.false_and]
  | x :: t, i, k, hd, hk => by
    haveI : Inhabited IVal := ⟨x⟩
    obtain ⟨h2, h3, h4⟩ := drop_cons hd
    have hn := h.rows
    simp only [List.length_cons] at hk
    obtain ⟨k, rfl⟩ : ∃ n, k = n + 1 := ⟨k - 1, by omega⟩
    have hw : wrap64 ((b.length : Int) - 1) = (v.length : Int) := by rw [w64 (by omega) (by omega)]; omega
    rw [spec_SegOk.l2, hw, if_pos (by omega), if_pos (by omega), if_pos (by omega), rd_ival h3, s_vok, Option.bind_some, w64s i (by omega), s_vloop l v m b h hv t (i + 1) k h4 (by omega), List.all_cons]
    unfold okV
    cases okR x.f0.f0 x.f0.f1 <;> rfl
theorem i_vidx (v : List IVal) (hn : v.length ≤ 1048576) : ∀ (t : List IVal) (i k : Nat), v.drop i = t → t.length < k → ∃ r, slices_IndexFunc__impl_SegOk_1.l0 k v (v.length : Int) (i : Int) = some r ∧ decide (r ≥ 0) = !t.all okV
  | [], i, k, hd, hk => by
    have h2 := drop_nil hd
    obtain ⟨k, rfl⟩ : ∃ n, k = n + 1 := ⟨k - 1, by simp at hk; omega⟩
    exact ⟨-1, by rw [slices_IndexFunc__impl_SegOk_1.l0, if_neg (by omega)], rfl⟩
  | x :: t, i, k, hd, hk => by
    haveI : Inhabited IVal := ⟨x⟩
    obtain ⟨h2, h3, h4⟩ := drop_cons hd
    obtain ⟨k, rfl⟩ : ∃ n, k = n + 1 := ⟨k - 1, by simp at hk; omega⟩
    obtain ⟨r, q1, q2⟩ := i_vidx v hn t (i + 1) k h4 (by simp at hk; omega)
    cases ho : okV x with
    | true =>
      refine ⟨r, ?_, by rw [q2, List.all_cons, ho, Bool.true_and]⟩
      rw [slices_IndexFunc__impl_SegOk_1.l0, if_pos (by omega), if_pos (by omega), if_pos (by omega), rd_ival h3, impl_SegOk_1.f, i_vok, Option.bind_some, Option.bind_some, w64s i (by omega)]
      unfold okV at ho
      rw [ho, if_neg (by decide)]; exact q1
    | false =>
      refine ⟨(i : Int), ?_, by rw [List.all_cons, ho, Bool.false_and]; exact decide_eq_true (by omega)⟩
      rw [slices_IndexFunc__impl_SegOk_1.l0, if_pos (by omega), if_pos (by omega), if_pos (by omega), rd_ival h3, impl_SegOk_1.f, i_vok, Option.bind_some, Option.bind_some]
      unfold okV at ho
      rw [ho, if_pos (by decide)]
theorem i_end {l : Int} {v : List IVal} {m : List Bool} {pre : List (List ISym)} {r0 r : List ISym} {b : List (List ISym)} (h : SmallS b v m) (hb : b = pre ++ [r]) (h0 : b[0]? = some r0) :
    endI l b v (hasS r0 0 0 && hasS r l 0 && v.all okV) 1048600 := by
  intro k hk
  have hn := h.rows
  have hl : b.length = pre.length + 1 := by rw [hb]; simp
  have hg : b[pre.length]? = some r := by rw [hb]; simp
  have hw : wrap64 ((b.length : Int) - 1) = (pre.length : Int) := by rw [w64 (by omega) (by omega)]; omega
  have hr := h.each r (by rw [hb]; simp)
  have hr0 := h.each r0 (List.mem_of_getElem? h0)
  have hv := h.vals
  have e0 : rd_L7 b 0 = r0 := rd_irow (i := 0) h0
  obtain ⟨x, q1, q2⟩ := i_vidx v hv v 0 k rfl (by omega)
  rw [show ((0 : Nat) : Int) = 0 from rfl] at q1
  rw [impl_ends.f, Option.bind_some]
  simp only
  rw [if_pos (by omega), e0, i_contains r0 (by omega) _ _ k (by omega), Option.bind_some, hw, if_pos (show (0 : Int) ≤ (pre.length : Int) by omega), if_pos (show (pre.length : Int) < (b.length : Int) by omega), rd_irow hg, i_contains r (by omega) _ _ k (by omega), Option.bind_some, slices_ContainsFunc__impl_SegOk_1.f, slices_IndexFunc__impl_SegOk_1.f, q1, Option.bind_some, Option.bind_some, q2, Bool.not_not]
  cases hasS r0 0 0 <;> cases hasS r l 0 <;> rfl
theorem terms_apart {size : Int} {all : List ISym} {x : ISym} : ∀ {t : List ISym} {p : Option ISym}, termsB size all p t = true → x ∈ t → hasS all x.f0 x.f1 = false
  | [], _, _, hx => by cases hx
  | y :: t, p, h, hx => by
    rw [termsB] at h
    simp only [Bool.and_eq_true, Bool.not_eq_true'] at h
    rcases List.mem_cons.1 hx with rfl | hx
    · exact h.1.2
    · exact terms_apart h.2 hx
theorem bounds_apart {size : Int} {r : List ISym} {x y : Int} (hr : hasS r x y = true) : ∀ (pre : List (List ISym)) (all : List ISym), boundsB size all (pre ++ [r]) = true → hasS (all ++ pre.flatten) x y = false
  | [], all, h => by
    rw [List.nil_append, boundsB] at h
    simp only [Bool.and_eq_true] at h
    rw [List.flatten_nil, List.append_nil]
    have := terms_apart h.1.2 (hasS_iff.1 hr)
    exact this
  | p :: pre, all, h => by
    rw [List.cons_append, boundsB] at h
    simp only [Bool.and_eq_true] at h
    have := bounds_apart hr pre (all ++ p) h.2
    rw [List.flatten_cons, ← List.append_assoc]
    exact this
def shapeB (size l : Int) : Bool := (decide (2 ≤ size) && decide (size ≤ 13)) && (decide (1 ≤ l) && decide (l ≤ wrap64 (size - 1)))
theorem s_shape (size l : Int) : spec_l10Size.f size l = some (shapeB size l) := by
  unfold spec_l10Size.f shapeB
  rw [btw, Option.bind_some, btw]
  cases (decide (2 ≤ size) && decide (size ≤ 13)) <;> rfl
theorem i_shape (size l : Int) : impl_isShape.f size l = some (shapeB size l) := by
  unfold impl_isShape.f shapeB
  rw [inR, Option.bind_some, inR]
  cases (decide (2 ≤ size) && decide (size ≤ 13)) <;> rfl
/-- Is a row of segments right? -/
theorem segOk (size l : Int) (b : List (List ISym)) (v : List IVal) (m : List Bool) (h : SmallS b v m) : ∃ K c, ∀ k, K ≤ k → spec_SegOk.f k size l b v m = some c ∧ impl_SegOk.f k size l b v m = some c := by
  have hn := h.rows
  have sbad : ∀ k, 1 ≤ k → spec_SegOk.j0 k size l (b.length : Int) true b v m = some false := fun k hk => by
    obtain ⟨k, rfl⟩ : ∃ n, k = n + 1 := ⟨k - 1, by omega⟩
    rw [spec_SegOk.j0, if_pos rfl]
  have ibad : ∀ k, 1 ≤ k → impl_SegOk.j0 k size l (b.length : Int) true b v m = some false := fun k hk => by
    obtain ⟨k, rfl⟩ : ∃ n, k = n + 1 := ⟨k - 1, by omega⟩
    rw [impl_SegOk.j0, if_pos rfl]
  cases hs : shapeB size l with
  | false =>
    refine ⟨1, false, fun k hk => ?_⟩
    rw [spec_SegOk.f, impl_SegOk.f, s_shape, i_shape, hs, Option.bind_some, Option.bind_some, if_neg (by decide), if_neg (by decide), sbad k hk, ibad k hk]
    exact ⟨rfl, rfl⟩
  | true =>
    by_cases hk1 : 1 ≤ b.length
    · by_cases hk2 : b.length ≤ 16
      · have hw : wrap64 ((b.length : Int) - 1) = (b.length : Int) - 1 := w64 (by omega) (by omega)
        have hir : (decide ((1 : Int) ≤ (b.length : Int)) && decide ((b.length : Int) ≤ 16)) = true := by rw [decide_eq_true (by omega), decide_eq_true (by omega)]; rfl
        by_cases hv : v.length + 1 = b.length
        · by_cases hm : m.length + 1 = b.length
          · obtain ⟨pre, r, hb⟩ : ∃ pre r, b = pre ++ [r] := ⟨b.dropLast, b.getLast (by intro e; rw [e] at hk1; simp at hk1), (List.dropLast_concat_getLast _).symm⟩
            obtain ⟨r0, t0, hb0⟩ : ∃ r0 t0, b = r0 :: t0 := by
              cases b with
              | nil => simp at hk1
              | cons a t => exact ⟨a, t, rfl⟩
            have hg0 : b[0]? = some r0 := by rw [hb0]; rfl
            have hsF := s_vloop l v m b h hv v 0
            obtain ⟨K1, q1⟩ := s_bounds size l v m b h _ (2097300 + v.length) (fun k hk => by
              have := hsF k rfl (by omega)
              exact this) b [] rfl (by simp)
            obtain ⟨K2, q2⟩ := i_bounds size l v m b h _ 1048600 (i_end (l := l) h hb hg0) b [] rfl (by simp)
            have he : (boundsB size ([] : List (List ISym)).flatten b && (v.all okV && (decide (inS b 0 0 0 = 0) && (inS b l 0 0 == (v.length : Int))))) = (boundsB size ([] : List (List ISym)).flatten b && (hasS r0 0 0 && hasS r l 0 && v.all okV)) := by
              cases hB : boundsB size ([] : List (List ISym)).flatten b with
              | false => rfl
              | true =>
                have e1 : decide (inS b 0 0 0 = 0) = hasS r0 0 0 := by
                  rw [Bool.eq_iff_iff, decide_eq_true_eq, hb0]
                  exact inS_first 0 0 r0 t0
                have e2 : (inS b l 0 0 == (v.length : Int)) = hasS r l 0 := by
                  have hp : (v.length : Int) = ((0 + pre.length : Nat) : Int) := by
                    have : b.length = pre.length + 1 := by rw [hb]; simp
                    omega
                  rw [Bool.eq_iff_iff, beq_iff_eq, hp, hb, inS_last l 0 pre r 0]
                  constructor
                  · exact fun h => h.2
                  · intro hr
                    rw [hb] at hB
                    have := bounds_apart hr pre [] hB
                    rw [List.nil_append] at this
                    exact ⟨this, hr⟩
                rw [e1, e2]
                cases hasS r0 0 0 <;> cases hasS r l 0 <;> cases v.all okV <;> rfl
            refine ⟨K1 + K2 + 2, boundsB size ([] : List (List ISym)).flatten b && (v.all okV && (decide (inS b 0 0 0 = 0) && (inS b l 0 0 == (v.length : Int)))), fun k hk => ⟨?_, ?_⟩⟩
            · obtain ⟨k, rfl⟩ : ∃ n, k = n + 1 := ⟨k - 1, by omega⟩
              rw [spec_SegOk.f, s_shape, hs, Option.bind_some, if_pos rfl, if_neg (by omega), if_neg (by omega), hw, if_pos (by omega), show ((m.length : Int) != (b.length : Int) - 1) = false from bne_eq_false_iff_eq.2 (by omega), spec_SegOk.j0, if_neg (by decide)]
              exact q1 k (by omega)
            · obtain ⟨k, rfl⟩ : ∃ n, k = n + 1 := ⟨k - 1, by omega⟩
              rw [impl_SegOk.f, i_shape, hs, Option.bind_some, if_pos rfl, inR, Option.bind_some, hir, if_pos rfl, hw, if_pos (by omega), show ((m.length : Int) != (b.length : Int) - 1) = false from bne_eq_false_iff_eq.2 (by omega), impl_SegOk.j0, if_neg (by decide), he]
              exact q2 k (by omega)
          · refine ⟨1, false, fun k hk => ?_⟩
            have e : ((m.length : Int) != (b.length : Int) - 1) = true := bne_iff_ne.2 (by omega)
            rw [spec_SegOk.f, impl_SegOk.f, s_shape, i_shape, hs, Option.bind_some, Option.bind_some, if_pos rfl, if_pos rfl, if_neg (by omega), if_neg (by omega), inR, hir, Option.bind_some, if_pos rfl, hw, if_pos (by omega), if_pos (by omega), e, sbad k hk, ibad k hk]
            exact ⟨rfl, rfl⟩
        · refine ⟨1, false, fun k hk => ?_⟩
          rw [spec_SegOk.f, impl_SegOk.f, s_shape, i_shape, hs, Option.bind_some, Option.bind_some, if_pos rfl, if_pos rfl, if_neg (by omega), if_neg (by omega), inR, hir, Option.bind_some, if_pos rfl, hw, if_neg (by omega), if_neg (by omega), sbad k hk, ibad k hk]
          exact ⟨rfl, rfl⟩
      · have hir : (decide ((1 : Int) ≤ (b.length : Int)) && decide ((b.length : Int) ≤ 16)) = false := by rw [decide_eq_false (show ¬ (b.length : Int) ≤ 16 by omega), Bool.and_false]
        refine ⟨1, false, fun k hk => ?_⟩
        rw [spec_SegOk.f, impl_SegOk.f, s_shape, i_shape, hs, Option.bind_some, Option.bind_some, if_pos rfl, if_pos rfl, if_neg (by omega), if_pos (by omega), inR, hir, Option.bind_some, if_neg (by decide), sbad k hk, ibad k hk]
        exact ⟨rfl, rfl⟩
    · have hir : (decide ((1 : Int) ≤ (b.length : Int)) && decide ((b.length : Int) ≤ 16)) = false := by rw [decide_eq_false (show ¬ (1 : Int) ≤ (b.length : Int) by omega), Bool.false_and]
      refine ⟨1, false, fun k hk => ?_⟩
      rw [spec_SegOk.f, impl_SegOk.f, s_shape, i_shape, hs, Option.bind_some, Option.bind_some, if_pos rfl, if_pos rfl, if_pos (by omega), inR, hir, Option.bind_some, if_neg (by decide), sbad k hk, ibad k hk]
      exact ⟨rfl, rfl⟩
end Go.Proofs.YtfeloencepgdlaaDoor.Q
