/- Plain laws over numbers, lists and texts, for the law FnExactSegHas: no program in sight. -/
import Derived.Test.YtfeloencepgdlaaDoorWLast
import Derived.Test.YtfeloencepgdlaaDoorWMore
import Derived.Test.YtfeloencepgdlaaDoorWWords
import Derived.Test.YtfeloencepgdlaaDoorQOpen
import Derived.Test.YtfeloencepgdlaaDoorQKinds
import Derived.Test.YtfeloencepgdlaaDoorQx10
import Derived.Test.YtfeloencepgdlaaDoorQx11
import Derived.Test.YtfeloencepgdlaaDoorQx12
import Derived.Test.YtfeloencepgdlaaDoorQx13
import Derived.Test.YtfeloencepgdlaaDoorQx14
import Derived.Test.YtfeloencepgdlaaDoorQx15
import Derived.Test.YtfeloencepgdlaaDoorQx16
import Derived.Test.YtfeloencepgdlaaDoorQx17
import Derived.Test.YtfeloencepgdlaaDoorQx18
import Derived.Test.YtfeloencepgdlaaDoorQx28
import Derived.Test.YtfeloencepgdlaaDoorQx29
import Derived.Test.YtfeloencepgdlaaDoorQx3
import Derived.Test.YtfeloencepgdlaaDoorQx30
import Derived.Test.YtfeloencepgdlaaDoorQx31
import Derived.Test.YtfeloencepgdlaaDoorQx32
import Derived.Test.YtfeloencepgdlaaDoorQx33
import Derived.Test.YtfeloencepgdlaaDoorQx34
import Derived.Test.YtfeloencepgdlaaDoorQx35
import Derived.Test.YtfeloencepgdlaaDoorQXFnExactSegHas
import Derived.Test.YtfeloencepgdlaaDoorQx4
import Derived.Test.YtfeloencepgdlaaDoorQx5
import Derived.Test.YtfeloencepgdlaaDoorQx6
import Derived.Test.YtfeloencepgdlaaDoorQx7
import Derived.Test.YtfeloencepgdlaaDoorQx8
import Derived.Test.YtfeloencepgdlaaDoorQx9
namespace Go.Proofs.YtfeloencepgdlaaDoor.Q
open Go.RowKit Go.Proofs.YtfeloencepgdlaaDoorW.PrintWords Go.Proofs.YtfeloencepgdlaaDoorW.PrintLast Go.Proofs.YtfeloencepgdlaaDoorW.PrintMore
open Go.Proofs.YtfeloencepgdlaaDoor.Open
set_option linter.unusedSimpArgs false
set_option linter.unusedVariables false
theorem drop_cons {α : Type} {l : List α} {i : Nat} {x : α} {t : List α} (h : l.drop i = x :: t) : i < l.length ∧ l[i]? = some x ∧ l.drop (i + 1) = t := by
  have h1 : i < l.length := by
    rcases Nat.lt_or_ge i l.length with h1 | h1
    · exact h1
    · rw [List.drop_eq_nil_of_le h1] at h; simp at h
  refine ⟨h1, ?_, ?_⟩
  · have := congrArg (fun z => z[0]?) h
    simpa using this
  · have := congrArg List.tail h
    simpa using this
theorem drop_nil {α : Type} {l : List α} {i : Nat} (h : l.drop i = []) : l.length ≤ i := by simpa using h
theorem rd_at {l : List Int} {i : Nat} {x : Int} (h : l[i]? = some x) : rd l (i : Int) = x := by
  unfold rd; simp [List.getD, h]
theorem w64 {n : Int} (h1 : -9223372036854775808 ≤ n) (h2 : n ≤ 9223372036854775807) : wrap64 n = n := by unfold wrap64; omega
theorem w64s (i : Nat) (h : i < 9223372036854775807) : wrap64 ((i : Int) + 1) = ((i + 1 : Nat) : Int) := by
  rw [w64 (by omega) (by omega)]; omega
end Go.Proofs.YtfeloencepgdlaaDoor.Q
namespace Go.Proofs.YtfeloencepgdlaaDoor.Q
open Go.RowKit Go.Proofs.YtfeloencepgdlaaDoorW.PrintWords Go.Proofs.YtfeloencepgdlaaDoorW.PrintLast Go.Proofs.YtfeloencepgdlaaDoorW.PrintMore
open Go.Proofs.YtfeloencepgdlaaDoor.Open
set_option linter.unusedSimpArgs false
set_option linter.unusedVariables false
theorem copy_loop {α β : Type} (l : List α) (c : α → β) (K0 : Nat) (F : Nat → List β → Int → Option (List β))
    (hs : ∀ (k : Nat) (x3 : List β) (i : Nat) (x : α), l[i]? = some x → x3.length = l.length → K0 ≤ k → F (k + 1) x3 (i : Int) = F k (x3.set i (c x)) ((i + 1 : Nat) : Int))
    (he : ∀ (k : Nat) (x3 : List β), F (k + 1) x3 (l.length : Int) = some x3) :
    ∀ (d i : Nat) (x3 : List β) (k : Nat), i + d = l.length → x3.length = l.length → K0 + d < k → F k x3 (i : Int) = some (x3.take i ++ (l.drop i).map c)
  | 0, i, x3, k, h, hx, hk => by
    obtain ⟨k, rfl⟩ : ∃ m, k = m + 1 := ⟨k - 1, by omega⟩
    obtain rfl : i = l.length := by omega
    rw [he, List.take_of_length_le (by omega), List.drop_of_length_le (by omega)]
    simp
  | d + 1, i, x3, k, h, hx, hk => by
    obtain ⟨k, rfl⟩ : ∃ m, k = m + 1 := ⟨k - 1, by omega⟩
    have hi : i < l.length := by omega
    rw [hs k x3 i l[i] (List.getElem?_eq_getElem hi) hx (by omega), copy_loop l c K0 F hs he d (i + 1) _ k (by omega) (by rw [List.length_set]; exact hx) (by omega)]
    rw [List.take_add_one, List.take_set_of_le (Nat.le_refl i), List.getElem?_set_self (by omega), List.drop_eq_getElem_cons hi, List.append_assoc]
    rfl
theorem copy_all {α β : Type} (l : List α) (c : α → β) (K0 : Nat) (F : Nat → List β → Int → Option (List β))
    (hs : ∀ (k : Nat) (x3 : List β) (i : Nat) (x : α), l[i]? = some x → x3.length = l.length → K0 ≤ k → F (k + 1) x3 (i : Int) = F k (x3.set i (c x)) ((i + 1 : Nat) : Int))
    (he : ∀ (k : Nat) (x3 : List β), F (k + 1) x3 (l.length : Int) = some x3) (x3 : List β) (hx : x3.length = l.length) (k : Nat) (hk : K0 + l.length < k) : F k x3 0 = some (l.map c) := by
  have := copy_loop l c K0 F hs he l.length 0 x3 k (by omega) hx hk
  simpa using this
theorem true_loop (n K0 : Nat) (F : Nat → Int → Option Bool) (hs : ∀ (k i : Nat), i < n → K0 ≤ k → F (k + 1) (i : Int) = F k ((i + 1 : Nat) : Int)) (he : ∀ k, F (k + 1) (n : Int) = some true) :
    ∀ (d i k : Nat), i + d = n → K0 + d < k → F k (i : Int) = some true
  | 0, i, k, h, hk => by
    obtain ⟨k, rfl⟩ : ∃ m, k = m + 1 := ⟨k - 1, by omega⟩
    obtain rfl : i = n := by omega
    exact he k
  | d + 1, i, k, h, hk => by
    obtain ⟨k, rfl⟩ : ∃ m, k = m + 1 := ⟨k - 1, by omega⟩
    rw [hs k i (by omega) (by omega)]
    exact true_loop n K0 F hs he d (i + 1) k (by omega) (by omega)
theorem true_all (n K0 : Nat) (F : Nat → Int → Option Bool) (hs : ∀ (k i : Nat), i < n → K0 ≤ k → F (k + 1) (i : Int) = F k ((i + 1 : Nat) : Int)) (he : ∀ k, F (k + 1) (n : Int) = some true) (k : Nat) (hk : K0 + n < k) : F k 0 = some true :=
  true_loop n K0 F hs he n 0 k (by omega) hk
end Go.Proofs.YtfeloencepgdlaaDoor.Q
namespace Go.Proofs.YtfeloencepgdlaaDoor.Q
open Go.RowKit Go.Proofs.YtfeloencepgdlaaDoorW.PrintWords Go.Proofs.YtfeloencepgdlaaDoorW.PrintLast Go.Proofs.YtfeloencepgdlaaDoorW.PrintMore
open Go.Proofs.YtfeloencepgdlaaDoor.Open
set_option linter.unusedSimpArgs false
set_option linter.unusedVariables false
abbrev LSym := S110
abbrev ISym := S55
abbrev LVal := S95
abbrev IVal := S62
def cSym (x : LSym) : ISym := ⟨x.f0, x.f1⟩
def cVal (x : LVal) : IVal := ⟨⟨x.f0.f0, x.f0.f1⟩, x.f1⟩
theorem rd_lsym {l : List LSym} {i : Nat} {x : LSym} (h : l[i]? = some x) : rd_T110 l (i : Int) = x := by
  unfold rd_T110; simp [List.getD, h]
theorem rd_isym {l : List ISym} {i : Nat} {x : ISym} (h : l[i]? = some x) : rd_T55 l (i : Int) = x := by
  unfold rd_T55; simp [List.getD, h]
theorem rd_lval {l : List LVal} {i : Nat} {x : LVal} (h : l[i]? = some x) : rd_T95 l (i : Int) = x := by
  unfold rd_T95; simp [List.getD, h]
theorem rd_ival {l : List IVal} {i : Nat} {x : IVal} (h : l[i]? = some x) : rd_T62 l (i : Int) = x := by
  unfold rd_T62; simp [List.getD, h]
theorem rd_lrow {l : List (List LSym)} {i : Nat} {x : List LSym} (h : l[i]? = some x) : rd_L2 l (i : Int) = x := by
  unfold rd_L2; simp [List.getD, h]
theorem rd_irow {l : List (List ISym)} {i : Nat} {x : List ISym} (h : l[i]? = some x) : rd_L7 l (i : Int) = x := by
  unfold rd_L7; simp [List.getD, h]
theorem rd_flag {l : List Bool} {i : Nat} {x : Bool} (h : l[i]? = some x) : rdOf false l (i : Int) = x := by
  unfold rdOf; simp [List.getD, h]
theorem lt_of_get {α : Type} {l : List α} {i : Nat} {x : α} (h : l[i]? = some x) : i < l.length := (List.getElem?_eq_some_iff.1 h).1
theorem to_symS (l : List LSym) (hn : l.length ≤ 1048576) (k : Nat) (hk : l.length < k) : laws_toSymS.f k l = some (l.map cSym) := by
  rw [laws_toSymS.f, if_pos (by omega), if_pos (by omega)]
  refine copy_all l cSym 0 (fun k x3 i => laws_toSymS.l0 k l x3 i) (fun k x3 i x h hx _ => ?_) (fun k x3 => ?_) _ (by simp) k (by omega)
  · have hi := lt_of_get h
    show laws_toSymS.l0 (k + 1) l x3 (i : Int) = _
    rw [laws_toSymS.l0, if_pos (by omega), if_pos (by omega), rd_lsym h, laws_toSym.f, Option.bind_some, if_pos (by omega), w64s i (by omega), Int.toNat_natCast]; rfl
  · show laws_toSymS.l0 (k + 1) l x3 (l.length : Int) = _
    rw [laws_toSymS.l0, if_neg (by omega)]
theorem to_symSS (l : List (List LSym)) (hn : l.length ≤ 1048576) (hr : ∀ r ∈ l, r.length ≤ 1048576) (k : Nat) (hk : 1048577 + l.length < k) : laws_toSymSS.f k l = some (l.map (·.map cSym)) := by
  rw [laws_toSymSS.f, if_pos (by omega), if_pos (by omega)]
  refine copy_all l (·.map cSym) 1048577 (fun k x3 i => laws_toSymSS.l0 k l x3 i) (fun k x3 i x h hx hk => ?_) (fun k x3 => ?_) _ (by simp) k (by omega)
  · have hi := lt_of_get h
    show laws_toSymSS.l0 (k + 1) l x3 (i : Int) = _
    have hm := hr x (List.mem_of_getElem? h)
    rw [laws_toSymSS.l0, if_pos (by omega), if_pos (by omega), rd_lrow h, to_symS x hm k (by omega), Option.bind_some, if_pos (by omega), w64s i (by omega), Int.toNat_natCast]
  · show laws_toSymSS.l0 (k + 1) l x3 (l.length : Int) = _
    rw [laws_toSymSS.l0, if_neg (by omega)]
theorem to_valS (l : List LVal) (hn : l.length ≤ 1048576) (k : Nat) (hk : l.length < k) : laws_toValS.f k l = some (l.map cVal) := by
  rw [laws_toValS.f, if_pos (by omega), if_pos (by omega)]
  refine copy_all l cVal 0 (fun k x3 i => laws_toValS.l0 k l x3 i) (fun k x3 i x h hx _ => ?_) (fun k x3 => ?_) _ (by simp) k (by omega)
  · have hi := lt_of_get h
    show laws_toValS.l0 (k + 1) l x3 (i : Int) = _
    rw [laws_toValS.l0, if_pos (by omega), if_pos (by omega), rd_lval h, laws_toVal.f, laws_toRange.f, Option.bind_some, Option.bind_some, if_pos (by omega), w64s i (by omega), Int.toNat_natCast]; rfl
  · show laws_toValS.l0 (k + 1) l x3 (l.length : Int) = _
    rw [laws_toValS.l0, if_neg (by omega)]
theorem to_boolS (l : List Bool) (hn : l.length ≤ 1048576) (k : Nat) (hk : l.length < k) : laws_toBoolS.f k l = some l := by
  rw [laws_toBoolS.f, if_pos (by omega), if_pos (by omega)]
  have := copy_all l (fun b => b) 0 (fun k x3 i => laws_toBoolS.l0 k l x3 i) (fun k x3 i x h hx _ => ?_) (fun k x3 => ?_) (List.replicate ((l.length : Int) : Int).toNat false) (by simp) k (by omega)
  · rw [List.map_id'] at this; exact this
  · have hi := lt_of_get h
    show laws_toBoolS.l0 (k + 1) l x3 (i : Int) = _
    rw [laws_toBoolS.l0, if_pos (by omega), if_pos (by omega), rd_flag h, if_pos (by omega), w64s i (by omega), Int.toNat_natCast]
  · show laws_toBoolS.l0 (k + 1) l x3 (l.length : Int) = _
    rw [laws_toBoolS.l0, if_neg (by omega)]
theorem eq_symS (l : List ISym) (hn : l.length ≤ 1048576) (k : Nat) (hk : l.length < k) : laws_eqSymS.f k l l = some true := by
  rw [laws_eqSymS.f, if_pos rfl]
  refine true_all l.length 0 (fun k i => laws_eqSymS.l0 k l l i) (fun k i hi _ => ?_) (fun k => ?_) k (by omega)
  · show laws_eqSymS.l0 (k + 1) l l (i : Int) = _
    rw [laws_eqSymS.l0, if_pos (by omega), if_pos (by omega), if_pos (by omega), laws_eqSym.f, if_pos rfl, if_pos rfl, Option.bind_some, if_pos rfl, w64s i (by omega)]
  · show laws_eqSymS.l0 (k + 1) l l (l.length : Int) = _
    rw [laws_eqSymS.l0, if_neg (by omega)]
theorem eq_symSS (l : List (List ISym)) (hn : l.length ≤ 1048576) (hr : ∀ r ∈ l, r.length ≤ 1048576) (k : Nat) (hk : 1048577 + l.length < k) : laws_eqSymSS.f k l l = some true := by
  rw [laws_eqSymSS.f, if_pos rfl]
  refine true_all l.length 1048577 (fun k i => laws_eqSymSS.l0 k l l i) (fun k i hi hk => ?_) (fun k => ?_) k (by omega)
  · show laws_eqSymSS.l0 (k + 1) l l (i : Int) = _
    have h : l[i]? = some l[i] := List.getElem?_eq_getElem hi
    have hm := hr l[i] (List.getElem_mem hi)
    rw [laws_eqSymSS.l0, if_pos (by omega), if_pos (by omega), if_pos (by omega), rd_irow h, eq_symS _ hm k (by omega), Option.bind_some, if_pos rfl, w64s i (by omega)]
  · show laws_eqSymSS.l0 (k + 1) l l (l.length : Int) = _
    rw [laws_eqSymSS.l0, if_neg (by omega)]
theorem eq_valS (l : List IVal) (hn : l.length ≤ 1048576) (k : Nat) (hk : l.length < k) : laws_eqValS.f k l l = some true := by
  rw [laws_eqValS.f, if_pos rfl]
  refine true_all l.length 0 (fun k i => laws_eqValS.l0 k l l i) (fun k i hi _ => ?_) (fun k => ?_) k (by omega)
  · show laws_eqValS.l0 (k + 1) l l (i : Int) = _
    rw [laws_eqValS.l0, if_pos (by omega), if_pos (by omega), if_pos (by omega), laws_eqVal.f, laws_eqRange.f, if_pos rfl, if_pos rfl, Option.bind_some, if_pos rfl, if_neg (by simp), Option.bind_some, if_pos rfl, w64s i (by omega)]
  · show laws_eqValS.l0 (k + 1) l l (l.length : Int) = _
    rw [laws_eqValS.l0, if_neg (by omega)]
theorem eq_boolS (l : List Bool) (hn : l.length ≤ 1048576) (k : Nat) (hk : l.length < k) : laws_eqBoolS.f k l l = some true := by
  rw [laws_eqBoolS.f, if_pos rfl]
  refine true_all l.length 0 (fun k i => laws_eqBoolS.l0 k l l i) (fun k i hi _ => ?_) (fun k => ?_) k (by omega)
  · show laws_eqBoolS.l0 (k + 1) l l (i : Int) = _
    rw [laws_eqBoolS.l0, if_pos (by omega), if_pos (by omega), if_pos (by omega), if_neg (by simp), w64s i (by omega)]
  · show laws_eqBoolS.l0 (k + 1) l l (l.length : Int) = _
    rw [laws_eqBoolS.l0, if_neg (by omega)]
/-- A row of segments that isn't too big. -/
structure SmallS (b : List (List ISym)) (v : List IVal) (m : List Bool) : Prop where
  rows : b.length ≤ 1048576
  each : ∀ r ∈ b, r.length ≤ 1048576
  vals : v.length ≤ 1048576
  flags : m.length ≤ 1048576
theorem eq_seg {b : List (List ISym)} {v : List IVal} {m : List Bool} (h : SmallS b v m) (k : Nat) (hk : 2097160 < k) : laws_eqSeg.f k b v m b v m = some true := by
  have h1 := h.rows
  have h3 := h.vals
  have h4 := h.flags
  rw [laws_eqSeg.f, eq_symSS b h1 h.each k (by omega), Option.bind_some, if_pos rfl, eq_valS v h3 k (by omega), Option.bind_some, if_pos rfl, eq_boolS m h4 k (by omega), Option.bind_some, if_pos rfl]
theorem sz_symSS (l : List (List LSym)) (hn : l.length ≤ 1048576) (hr : ∀ r ∈ l, r.length ≤ 9223372036854775807) : ∀ (d i k : Nat) (left : Int), i + d = l.length → 0 ≤ left → left ≤ 1048576 → d < k →
    ∃ r, laws_szSymSS.l0 k l left (i : Int) = some r ∧ r ≤ left ∧ (0 ≤ r → ∀ x ∈ l.drop i, x.length ≤ 1048576)
  | 0, i, k, left, h, h0, h1, hk => by
    obtain ⟨k, rfl⟩ : ∃ m, k = m + 1 := ⟨k - 1, by omega⟩
    refine ⟨left, by rw [laws_szSymSS.l0, if_neg (by omega)], Int.le_refl _, fun _ x hx => ?_⟩
    rw [List.drop_of_length_le (by omega)] at hx; cases hx
  | d + 1, i, k, left, h, h0, h1, hk => by
    obtain ⟨k, rfl⟩ : ∃ m, k = m + 1 := ⟨k - 1, by omega⟩
    have hi : i < l.length := by omega
    have hm := hr l[i] (List.getElem_mem hi)
    have hg : l[i]? = some l[i] := List.getElem?_eq_getElem hi
    have e : wrap64 (left - (l[i].length : Int)) = left - (l[i].length : Int) := w64 (by omega) (by omega)
    by_cases hl : left - (l[i].length : Int) < 0
    · exact ⟨-1, by rw [laws_szSymSS.l0, if_pos (by omega), if_pos (by omega), rd_lrow hg, laws_szSymS.f, e, if_pos hl, Option.bind_some, if_pos (by decide)], by omega, fun h => by omega⟩
    · obtain ⟨r, q1, q2, q3⟩ := sz_symSS l hn hr d (i + 1) k (left - (l[i].length : Int)) (by omega) (by omega) (by omega) (by omega)
      refine ⟨r, by rw [laws_szSymSS.l0, if_pos (by omega), if_pos (by omega), rd_lrow hg, laws_szSymS.f, e, if_neg hl, Option.bind_some, if_neg hl, w64s i (by omega)]; exact q1, by omega, fun hr0 x hx => ?_⟩
      rw [List.drop_eq_getElem_cons hi] at hx
      rcases List.mem_cons.1 hx with rfl | hx
      · omega
      · exact q3 hr0 x hx
theorem size_seg (b : List (List LSym)) (v : List LVal) (m : List Bool) (hb : b.length ≤ maxLen) (hr : ∀ r ∈ b, r.length ≤ maxLen) (hv : v.length ≤ maxLen) (hm : m.length ≤ maxLen) :
    ∃ r, (∀ k, 1048577 < k → laws_szSeg.f k b v m 1048576 = some r) ∧ r ≤ 1048576 ∧ (0 ≤ r → b.length ≤ 1048576 ∧ (∀ x ∈ b, x.length ≤ 1048576) ∧ v.length ≤ 1048576 ∧ m.length ≤ 1048576) := by
  simp only [maxLen] at hb hr hv hm
  have e0 : wrap64 ((1048576 : Int) - (b.length : Int)) = 1048576 - (b.length : Int) := w64 (by omega) (by omega)
  by_cases h1 : (1048576 : Int) - (b.length : Int) < 0
  · exact ⟨-1, fun k _ => by rw [laws_szSeg.f, laws_szSymSS.f, e0, if_pos h1, Option.bind_some, if_pos (by decide)], by omega, fun h => by omega⟩
  · have hs := fun k hk => sz_symSS b (by omega) (fun x hx => by have := hr x hx; omega) b.length 0 k (1048576 - (b.length : Int)) (by omega) (by omega) (by omega) hk
    obtain ⟨r0, q1, q2, q3⟩ := hs (b.length + 1) (by omega)
    have q1' : ∀ k, 1048577 < k → laws_szSymSS.l0 k b (1048576 - (b.length : Int)) 0 = some r0 := by
      intro k hk
      obtain ⟨r', p1, _, _⟩ := hs k (by omega)
      have up : ∀ n, laws_szSymSS.l0 (b.length + 1 + n) b (1048576 - (b.length : Int)) 0 = some r0 := by
        intro n
        induction n with
        | zero => exact q1
        | succ n ih => exact laws_szSymSS.mono_l _ _ _ _ _ ih
      have := up (k - (b.length + 1))
      rwa [show b.length + 1 + (k - (b.length + 1)) = k by omega] at this
    by_cases h2 : r0 < 0
    · exact ⟨-1, fun k hk => by rw [laws_szSeg.f, laws_szSymSS.f, e0, if_neg h1, q1' k hk, Option.bind_some, if_pos h2], by omega, fun h => by omega⟩
    · have e1 : wrap64 (r0 - (v.length : Int)) = r0 - (v.length : Int) := w64 (by omega) (by omega)
      by_cases h3 : r0 - (v.length : Int) < 0
      · exact ⟨-1, fun k hk => by rw [laws_szSeg.f, laws_szSymSS.f, e0, if_neg h1, q1' k hk, Option.bind_some, if_neg h2, laws_szValS.f, e1, if_pos h3, Option.bind_some, if_pos (by decide)], by omega, fun h => by omega⟩
      · have e2 : wrap64 (r0 - (v.length : Int) - (m.length : Int)) = r0 - (v.length : Int) - (m.length : Int) := w64 (by omega) (by omega)
        by_cases h4 : r0 - (v.length : Int) - (m.length : Int) < 0
        · exact ⟨-1, fun k hk => by rw [laws_szSeg.f, laws_szSymSS.f, e0, if_neg h1, q1' k hk, Option.bind_some, if_neg h2, laws_szValS.f, e1, if_neg h3, Option.bind_some, if_neg h3, laws_szBoolS.f, e2, if_pos h4, Option.bind_some, if_pos (by decide)], by omega, fun h => by omega⟩
        · refine ⟨r0 - (v.length : Int) - (m.length : Int), fun k hk => by rw [laws_szSeg.f, laws_szSymSS.f, e0, if_neg h1, q1' k hk, Option.bind_some, if_neg h2, laws_szValS.f, e1, if_neg h3, Option.bind_some, if_neg h3, laws_szBoolS.f, e2, if_neg h4, Option.bind_some, if_neg h4], by omega, fun _ => ⟨by omega, fun x hx => q3 (by omega) x (by simpa using hx), by omega, by omega⟩⟩
theorem to_seg (b : List (List LSym)) (v : List LVal) (m : List Bool) (h1 : b.length ≤ 1048576) (h2 : ∀ x ∈ b, x.length ≤ 1048576) (h3 : v.length ≤ 1048576) (h4 : m.length ≤ 1048576) (k : Nat) (hk : 2097160 < k) :
    laws_toSeg.f k b v m = some (b.map (·.map cSym), v.map cVal, m) := by
  rw [laws_toSeg.f, to_symSS b h1 h2 k (by omega), Option.bind_some, to_valS v h3 k (by omega), Option.bind_some, to_boolS m h4 k (by omega), Option.bind_some]
theorem smallS (b : List (List LSym)) (v : List LVal) (m : List Bool) (h1 : b.length ≤ 1048576) (h2 : ∀ x ∈ b, x.length ≤ 1048576) (h3 : v.length ≤ 1048576) (h4 : m.length ≤ 1048576) : SmallS (b.map (·.map cSym)) (v.map cVal) m :=
  ⟨by simpa using h1, fun r hr => by obtain ⟨x, hx, rfl⟩ := List.mem_map.1 hr; simpa using h2 x hx, by simpa using h3, h4⟩
end Go.Proofs.YtfeloencepgdlaaDoor.Q
namespace Go.Proofs.YtfeloencepgdlaaDoor.Q
open Go.RowKit Go.Proofs.YtfeloencepgdlaaDoorW.PrintWords Go.Proofs.YtfeloencepgdlaaDoorW.PrintLast Go.Proofs.YtfeloencepgdlaaDoorW.PrintMore
open Go.Proofs.YtfeloencepgdlaaDoor.Open
set_option linter.unusedSimpArgs false
set_option linter.unusedVariables false
def okR (lo hi : Int) : Bool := (lo == 1 && hi == 0) || (decide (-1000000 ≤ lo) && decide (hi ≤ 1000000) && decide (lo ≤ hi))
theorem inR (a b c : Int) : impl_inRange.f a b c = some (decide (b ≤ a) && decide (a ≤ c)) := by
  unfold impl_inRange.f
  by_cases h : b ≤ a <;> simp [h]
theorem btw (a b c : Int) : spec_l01Between.f a b c = some (decide (b ≤ a) && decide (a ≤ c)) := by
  unfold spec_l01Between.f
  by_cases h : b ≤ a <;> simp [h]
theorem i_val (a : Int) : impl_isVal.f a = some (decide (-1000000 ≤ a) && decide (a ≤ 1000000)) := by
  unfold impl_isVal.f
  rw [inR]; rfl
theorem s_val (a : Int) : spec_l05Val.f a = some (decide (-1000000 ≤ a) && decide (a ≤ 1000000)) := by
  unfold spec_l05Val.f
  rw [btw]; rfl
theorem i_ok (a b : Int) : impl_RangeOk.f a b = some (okR a b) := by
  unfold impl_RangeOk.f
  simp only [i_val, Option.bind_some]
  by_cases h : (a == 1 && b == 0) = true
  · rw [if_pos h]; simp [okR, h]
  · rw [if_neg h]
    have e : okR a b = (decide (-1000000 ≤ a) && decide (b ≤ 1000000) && decide (a ≤ b)) := by
      unfold okR
      rw [Bool.eq_false_iff.mpr h]; rfl
    rw [e]
    (repeat' split) <;> simp_all <;> omega
theorem s_is (a b : Int) : spec_l06Is.f a b = some (decide (a ≤ b)) := rfl
theorem s_ok (a b : Int) : spec_RangeOk.f a b = some (okR a b) := by
  rw [← i_ok]
  unfold spec_RangeOk.f impl_RangeOk.f
  simp only [s_is, s_val, i_val, Option.bind_some]
  by_cases h1 : a = 1
  · by_cases h2 : b = 0
    · simp [h1, h2]
    · simp only [h1, h2, if_true, if_false]
      (repeat' split) <;> simp_all <;> omega
  · simp only [h1, if_false]
    (repeat' split) <;> simp_all <;> omega
theorem s_has (a b x : Int) : spec_RangeHas.f a b x = some (okR a b && decide (a ≤ x) && decide (x ≤ b)) := by
  unfold spec_RangeHas.f
  rw [s_ok]; simp only [Option.bind_some]
  grind
theorem i_has (a b x : Int) : impl_RangeHas.f a b x = some (okR a b && decide (a ≤ x) && decide (x ≤ b)) := by
  unfold impl_RangeHas.f
  rw [i_ok]; simp only [Option.bind_some]
  grind
end Go.Proofs.YtfeloencepgdlaaDoor.Q
namespace Go.Proofs.YtfeloencepgdlaaDoor.Q
open Go.RowKit Go.Proofs.YtfeloencepgdlaaDoorW.PrintWords Go.Proofs.YtfeloencepgdlaaDoorW.PrintLast Go.Proofs.YtfeloencepgdlaaDoorW.PrintMore
open Go.Proofs.YtfeloencepgdlaaDoor.Open
set_option linter.unusedSimpArgs false
set_option linter.unusedVariables false
theorem i_vok (a b : Int) (c : Bool) : impl_ValOk.f a b c = some (okR a b) := by unfold impl_ValOk.f; rw [i_ok]; rfl
theorem s_vok (a b : Int) (c : Bool) : spec_ValOk.f a b c = some (okR a b) := by unfold spec_ValOk.f; rw [s_ok]; rfl
theorem i_vhas (a b : Int) (s : Bool) (w : Bool) (n : Int) : impl_ValHas.f a b s w n = some (okR a b && (if w then decide (a ≤ n) && decide (n ≤ b) else !s && n == 0)) := by
  unfold impl_ValHas.f
  simp only [i_vok, i_has, Option.bind_some]
  (repeat' split) <;> simp_all [and_assoc, Bool.and_assoc]
theorem s_vhas (a b : Int) (s : Bool) (w : Bool) (n : Int) : spec_ValHas.f a b s w n = some (okR a b && (if w then decide (a ≤ n) && decide (n ≤ b) else !s && n == 0)) := by
  unfold spec_ValHas.f
  simp only [s_vok, s_has, Option.bind_some]
  (repeat' split) <;> simp_all [and_assoc, Bool.and_assoc]
end Go.Proofs.YtfeloencepgdlaaDoor.Q
namespace Go.Proofs.YtfeloencepgdlaaDoor.Q
open Go.RowKit Go.Proofs.YtfeloencepgdlaaDoorW.PrintWords Go.Proofs.YtfeloencepgdlaaDoorW.PrintLast Go.Proofs.YtfeloencepgdlaaDoorW.PrintMore
open Go.Proofs.YtfeloencepgdlaaDoor.Open
set_option linter.unusedSimpArgs false
set_option linter.unusedVariables false
def isSym (x : ISym) (a b : Int) : Bool := x.f0 == a && x.f1 == b
def hasS (l : List ISym) (a b : Int) : Bool := l.any fun x => isSym x a b
theorem isSym_iff {x : ISym} {a b : Int} : isSym x a b = true ↔ x = ⟨a, b⟩ := by
  cases x; unfold isSym; simp
theorem hasS_iff {l : List ISym} {a b : Int} : hasS l a b = true ↔ (⟨a, b⟩ : ISym) ∈ l := by
  unfold hasS
  rw [List.any_eq_true]
  constructor
  · rintro ⟨x, hx, h⟩; rw [isSym_iff] at h; subst h; exact hx
  · intro h; exact ⟨_, h, isSym_iff.2 rfl⟩
/-- The first place from i on, -1 without one. -/
def findS (l : List ISym) (a b : Int) (i : Nat) : Int := match l with | [] => -1 | x :: t => if isSym x a b = true then (i : Int) else findS t a b (i + 1)
theorem findS_has (a b : Int) : ∀ (l : List ISym) (i : Nat), (decide (findS l a b i ≥ 0)) = hasS l a b
  | [], i => by unfold findS hasS; rfl
  | x :: t, i => by
    unfold findS hasS
    rw [List.any_cons]
    by_cases h : isSym x a b = true
    · rw [if_pos h, h, Bool.true_or]; exact decide_eq_true (by omega)
    · rw [if_neg h, findS_has a b t (i + 1)]
      simp only [Bool.not_eq_true] at h
      rw [h, Bool.false_or]; rfl
theorem s_find (l : List ISym) (hn : l.length ≤ 100000000000) (a b : Int) : ∀ (t : List ISym) (i k : Nat), l.drop i = t → t.length < k → spec_l10Find.l0 k l (i : Int) a b = some (findS t a b i)
  | [], i, k, h, hk => by
    have h2 := drop_nil h
    obtain ⟨k, rfl⟩ : ∃ m, k = m + 1 := ⟨k - 1, by simp at hk; omega⟩
    rw [spec_l10Find.l0, if_neg (by omega)]; rfl
  | x :: t, i, k, h, hk => by
    haveI : Inhabited ISym := ⟨x⟩
    obtain ⟨h2, h3, h4⟩ := drop_cons h
    obtain ⟨k, rfl⟩ : ∃ m, k = m + 1 := ⟨k - 1, by simp at hk; omega⟩
    rw [spec_l10Find.l0, if_pos (by omega), if_pos (by omega), rd_isym h3, w64s i (by omega), s_find l hn a b t (i + 1) k h4 (by simp at hk; omega), findS]
    unfold isSym
    split <;> rfl
theorem i_find (l : List ISym) (hn : l.length ≤ 100000000000) (a b : Int) : ∀ (t : List ISym) (i k : Nat), l.drop i = t → t.length < k → impl_Sym_62.l0 k l (l.length : Int) (i : Int) a b = some (findS t a b i)
  | [], i, k, h, hk => by
    have h2 := drop_nil h
    obtain ⟨k, rfl⟩ : ∃ m, k = m + 1 := ⟨k - 1, by simp at hk; omega⟩
    rw [impl_Sym_62.l0, if_neg (by omega)]; rfl
  | x :: t, i, k, h, hk => by
    haveI : Inhabited ISym := ⟨x⟩
    obtain ⟨h2, h3, h4⟩ := drop_cons h
    obtain ⟨k, rfl⟩ : ∃ m, k = m + 1 := ⟨k - 1, by simp at hk; omega⟩
    rw [impl_Sym_62.l0, if_pos (by omega), if_pos (by omega), if_pos (by omega), rd_isym h3, w64s i (by omega), i_find l hn a b t (i + 1) k h4 (by simp at hk; omega), findS]
    have e : (a == x.f0 && (b == x.f1)) = isSym x a b := by unfold isSym; rw [Bool.beq_comm, Bool.beq_comm (a := b)]
    rw [e]
    split <;> rfl
theorem i_contains (l : List ISym) (hn : l.length ≤ 100000000000) (a b : Int) (k : Nat) (hk : l.length < k) : impl_Sym_35.f k l a b = some (hasS l a b) := by
  rw [impl_Sym_35.f, impl_Sym_62.f]
  have := i_find l hn a b l 0 k rfl hk
  rw [show ((0 : Nat) : Int) = 0 from rfl] at this
  rw [this, Option.bind_some, findS_has]
/-- The first row from i on in which a term stands, -1 without one. -/
def inS (b : List (List ISym)) (x y : Int) (i : Nat) : Int := match b with | [] => -1 | r :: t => if hasS r x y = true then (i : Int) else inS t x y (i + 1)
theorem s_in_l (b : List (List ISym)) (v : List IVal) (m : List Bool) (h : SmallS b v m) (x y : Int) : ∀ (t : List (List ISym)) (i k : Nat), b.drop i = t → 1048600 + t.length < k → spec_l10In.l0 k (i : Int) b v m x y = some (inS t x y i)
  | [], i, k, hd, hk => by
    have h2 := drop_nil hd
    obtain ⟨k, rfl⟩ : ∃ m, k = m + 1 := ⟨k - 1, by simp at hk; omega⟩
    rw [spec_l10In.l0, if_neg (by omega)]; rfl
  | r :: t, i, k, hd, hk => by
    obtain ⟨h2, h3, h4⟩ := drop_cons hd
    have hn := h.rows
    have hr := h.each r (List.mem_of_getElem? h3)
    obtain ⟨k, rfl⟩ : ∃ m, k = m + 1 := ⟨k - 1, by simp at hk; omega⟩
    simp only [List.length_cons] at hk
    have hf := s_find r (by omega) x y r 0 k rfl (by omega)
    rw [show ((0 : Nat) : Int) = 0 from rfl] at hf
    rw [spec_l10In.l0, if_pos (by omega), if_pos (by omega), rd_irow h3, spec_l10Find.f, hf, Option.bind_some, w64s i (by omega), s_in_l b v m h x y t (i + 1) k h4 (by omega), inS]
    have hh := findS_has x y r 0
    by_cases hp : findS r x y 0 ≥ 0
    · rw [decide_eq_true hp] at hh
      rw [if_pos hp, ← hh, if_pos rfl]
    · rw [decide_eq_false hp] at hh
      rw [if_neg hp, ← hh, if_neg (by decide)]
theorem s_in {b : List (List ISym)} {v : List IVal} {m : List Bool} (h : SmallS b v m) (x y : Int) (k : Nat) (hk : 2097180 < k) : spec_l10In.f k b v m x y = some (inS b x y 0) := by
  have hn := h.rows
  rw [spec_l10In.f]
  exact s_in_l b v m h x y b 0 k rfl (by omega)
/-- A term that stands in a row stands first there just if no row ahead has it. -/
theorem inS_at (x y : Int) : ∀ (pre : List (List ISym)) (r : List ISym) (suf : List (List ISym)) (i : Nat), hasS r x y = true → (inS (pre ++ r :: suf) x y i = ((i + pre.length : Nat) : Int) ↔ hasS pre.flatten x y = false)
  | [], r, suf, i, h => by
    rw [List.nil_append, inS, if_pos h]
    simp [hasS]
  | p :: pre, r, suf, i, h => by
    rw [List.cons_append, inS, List.flatten_cons]
    have e : hasS (p ++ pre.flatten) x y = (hasS p x y || hasS pre.flatten x y) := by unfold hasS; rw [List.any_append]
    rw [e]
    by_cases hp : hasS p x y = true
    · rw [if_pos hp, hp]
      simp; omega
    · rw [if_neg hp]
      simp only [Bool.not_eq_true] at hp
      rw [hp, Bool.false_or, List.length_cons, show i + (pre.length + 1) = i + 1 + pre.length by omega]
      exact inS_at x y pre r suf (i + 1) h
theorem inS_ge (x y : Int) : ∀ (b : List (List ISym)) (i : Nat), inS b x y i = -1 ∨ (i : Int) ≤ inS b x y i
  | [], _ => .inl rfl
  | r :: t, i => by
    rw [inS]
    split
    · right; omega
    · rcases inS_ge x y t (i + 1) with h | h
      · exact .inl h
      · right; omega
/-- A term stands first in the last row: it stands there, and in none ahead. -/
theorem inS_last (x y : Int) : ∀ (pre : List (List ISym)) (r : List ISym) (i : Nat), inS (pre ++ [r]) x y i = ((i + pre.length : Nat) : Int) ↔ hasS pre.flatten x y = false ∧ hasS r x y = true
  | pre, r, i => by
    by_cases h : hasS r x y = true
    · rw [inS_at x y pre r [] i h]; simp [h]
    · simp only [Bool.not_eq_true] at h
      rw [h]
      constructor
      · intro e
        exfalso
        have none : ∀ (p : List (List ISym)) (j : Nat), inS (p ++ [r]) x y j ≠ ((j + p.length : Nat) : Int) := by
          intro p
          induction p with
          | nil => intro j; rw [List.nil_append, inS, if_neg (by rw [h]; decide), inS]; first | (simp; done) | (simp; omega)
          | cons q p ih =>
            intro j
            rw [List.cons_append, inS]
            split
            · first | (simp; done) | (simp; omega)
            · have := ih (j + 1)
              rw [List.length_cons, show j + (p.length + 1) = j + 1 + p.length by omega]
              exact this
        exact none pre i e
      · rintro ⟨_, e⟩; cases e
theorem inS_first (x y : Int) (r : List ISym) (t : List (List ISym)) : inS (r :: t) x y 0 = 0 ↔ hasS r x y = true := by
  rw [inS]
  by_cases h : hasS r x y = true
  · rw [if_pos h, h]; simp
  · rw [if_neg h]
    simp only [Bool.not_eq_true] at h
    rw [h]
    constructor
    · intro e
      exfalso
      rw [Nat.zero_add] at e
      rcases inS_ge x y t 1 with h1 | h1 <;> omega
    · intro e; cases e
def symB (size : Int) (x : ISym) : Bool := (decide (1 ≤ size) && decide (size ≤ 13)) && (decide (0 ≤ x.f0) && decide (x.f0 ≤ wrap64 (size - 1))) && (decide (-1000 ≤ x.f1) && decide (x.f1 ≤ 1000))
def lessB (x y : ISym) : Bool := decide (x.f0 < y.f0) || (decide (x.f0 = y.f0) && decide (x.f1 < y.f1))
theorem s_symB (size : Int) (x : ISym) : spec_SymOk.f size x.f0 x.f1 = some (symB size x) := by
  unfold spec_SymOk.f symB
  rw [btw, Option.bind_some, btw, btw]
  cases (decide (1 ≤ size) && decide (size ≤ 13)) <;> cases (decide (0 ≤ x.f0) && decide (x.f0 ≤ wrap64 (size - 1))) <;> rfl
theorem i_symB (size : Int) (x : ISym) : impl_SymOk.f size x.f0 x.f1 = some (symB size x) := by
  unfold impl_SymOk.f symB impl_isPlace.f
  rw [inR, Option.bind_some, inR, inR]
  cases (decide (1 ≤ size) && decide (size ≤ 13)) <;> cases (decide (0 ≤ x.f0) && decide (x.f0 ≤ wrap64 (size - 1))) <;> rfl
theorem s_lessB (x y : ISym) : spec_SymLess.f x.f0 x.f1 y.f0 y.f1 = some (lessB x y) := by
  unfold spec_SymLess.f lessB
  by_cases h : x.f0 < y.f0
  · rw [if_pos h, decide_eq_true h, Bool.true_or]
  · rw [if_neg h, decide_eq_false h, Bool.false_or]
    by_cases h2 : x.f0 = y.f0
    · rw [if_pos h2, decide_eq_true h2, Bool.true_and]
    · rw [if_neg h2, decide_eq_false h2, Bool.false_and]
theorem i_lessB (x y : ISym) : impl_SymLess.f x.f0 x.f1 y.f0 y.f1 = some (lessB x y) := by
  unfold impl_SymLess.f lessB
  by_cases h : x.f0 < y.f0
  · rw [if_pos h, decide_eq_true h, Bool.true_or]
  · rw [if_neg h, decide_eq_false h, Bool.false_or]
    by_cases h2 : x.f0 = y.f0
    · rw [if_pos h2, decide_eq_true h2, Bool.true_and]
    · rw [if_neg h2, decide_eq_false h2, Bool.false_and]
def prevOk : Option ISym → ISym → Bool
  | none, _ => true
  | some y, x => lessB y x
/-- The terms of a row behind its i-th, held against what stands ahead. -/
def termsB (size : Int) (all : List ISym) : Option ISym → List ISym → Bool
  | _, [] => true
  | p, x :: t => symB size x && prevOk p x && !hasS all x.f0 x.f1 && termsB size all (some x) t
def boundsB (size : Int) : List ISym → List (List ISym) → Bool
  | _, [] => true
  | all, r :: t => decide (r ≠ []) && decide ((all ++ r).length ≤ 40) && termsB size all none r && boundsB size (all ++ r) t
/-- What stands ahead of the i-th term. -/
def prevS (r : List ISym) (i : Nat) : Option ISym := if i = 0 then none else r[i - 1]?
theorem prevS_zero (r : List ISym) : prevS r 0 = none := rfl
theorem prevS_succ {r : List ISym} {i : Nat} {x : ISym} (h : r[i]? = some x) : prevS r (i + 1) = some x := by
  unfold prevS
  rw [if_neg (by omega), Nat.add_sub_cancel, h]
theorem hasS_mem {l : List ISym} {x : ISym} (h : x ∈ l) : hasS l x.f0 x.f1 = true := hasS_iff.2 (by cases x; exact h)
/-- The reference's round over the terms of the row behind 'pre'. -/
theorem s_terms (size : Int) (pre : List (List ISym)) (r : List ISym) (suf : List (List ISym)) (v : List IVal) (m : List Bool) (h : SmallS (pre ++ r :: suf) v m) (l K8 : Int) (all : Int) : ∀ (t : List ISym) (i k : Nat), r.drop i = t → 2097200 + t.length < k →
    spec_SegOk.l1 k size l K8 all (pre.length : Int) r (i : Int) (pre ++ r :: suf) v m = if termsB size pre.flatten (prevS r i) t = true then spec_SegOk.l0 (k - t.length - 1) size l K8 all ((pre.length + 1 : Nat) : Int) (pre ++ r :: suf) v m else some false
  | [], i, k, hd, hk => by
    have h2 := drop_nil hd
    have hn := h.rows
    obtain ⟨k, rfl⟩ : ∃ m, k = m + 1 := ⟨k - 1, by simp at hk; omega⟩
    rw [List.length_append] at hn
    rw [spec_SegOk.l1, if_neg (by omega), w64s pre.length (by omega), termsB, if_pos rfl]; rfl
  | x :: t, i, k, hd, hk => by
    haveI : Inhabited ISym := ⟨x⟩
    obtain ⟨h2, h3, h4⟩ := drop_cons hd
    have hn := h.rows
    have hr := h.each r (by simp)
    simp only [List.length_cons] at hk
    obtain ⟨k, rfl⟩ : ∃ m, k = m + 1 := ⟨k - 1, by omega⟩
    have ih := s_terms size pre r suf v m h l K8 all t (i + 1) k h4 (by omega)
    rw [prevS_succ h3] at ih
    have hin := inS_at x.f0 x.f1 pre r suf 0 (hasS_mem (List.mem_of_getElem? h3))
    rw [Nat.zero_add] at hin
    have hq : ∀ (Y : Option Bool), (if inS (pre ++ r :: suf) x.f0 x.f1 0 = (pre.length : Int) then Y else some false) = if !hasS pre.flatten x.f0 x.f1 then Y else some false := by
      intro Y
      by_cases hp : inS (pre ++ r :: suf) x.f0 x.f1 0 = (pre.length : Int)
      · rw [if_pos hp, hin.1 hp]; rfl
      · rw [if_neg hp]
        cases hh : hasS pre.flatten x.f0 x.f1 with
        | true => rfl
        | false => exact absurd (hin.2 hh) hp
    rw [spec_SegOk.l1, if_pos (by omega), if_pos (by omega), rd_isym h3, s_symB, Option.bind_some, s_in h _ _ k (by omega), Option.bind_some, w64s i (by omega), ih, List.length_cons, show k + 1 - (t.length + 1) - 1 = k - t.length - 1 by omega, hq]
    rw [termsB]
    cases hs : symB size x with
    | false => rw [if_neg (by decide)]; rfl
    | true =>
      rw [if_pos rfl]
      cases i with
      | zero =>
        rw [if_neg (by omega), prevS_zero, prevOk]
        cases hasS pre.flatten x.f0 x.f1 <;> cases termsB size pre.flatten (some x) t <;> rfl
      | succ j =>
        have hj : r[j]? = some r[j] := List.getElem?_eq_getElem (by omega)
        rw [if_pos (by omega), w64 (by omega) (by omega), show (((j + 1 : Nat) : Int) - 1) = (j : Int) by omega, if_pos (by omega), if_pos (by omega), rd_isym hj, s_lessB, Option.bind_some, prevS_succ hj, prevOk]
        cases lessB r[j] x <;> cases hasS pre.flatten x.f0 x.f1 <;> cases termsB size pre.flatten (some x) t <;> rfl
/-- The program's round over the terms of a row. -/
theorem i_terms (size : Int) (l K7 : Int) (all : List ISym) (ha : all.length ≤ 1048576) (r : List ISym) (hr : r.length ≤ 1048576) (B : List (List ISym)) (K46 x47 : Int) (b : List (List ISym)) (v : List IVal) (m : List Bool) (N : Option Bool) (Kn : Nat)
    (hN : ∀ k, Kn ≤ k → (if (r.length : Int) = 0 then (some false) else (if all.length + r.length < 8796093022208 then ((some (all ++ r : List ISym)).bind fun y239 => (if (y239.length : Int) > 40 then (some false) else (impl_SegOk.l0 k size l K7 y239 B K46 (wrap64 (x47 + 1)) b v m))) else (none))) = N) : ∀ (t : List ISym) (i k : Nat), r.drop i = t → Kn + 1048700 + t.length < k →
    impl_SegOk.l1 k size l K7 all r B K46 x47 r (r.length : Int) (i : Int) b v m = if termsB size all (prevS r i) t = true then N else some false
  | [], i, k, hd, hk => by
    have h2 := drop_nil hd
    obtain ⟨k, rfl⟩ : ∃ m, k = m + 1 := ⟨k - 1, by simp at hk; omega⟩
    rw [impl_SegOk.l1, if_neg (by omega), termsB, if_pos rfl]
    exact hN k (by simp at hk; omega)
  | x :: t, i, k, hd, hk => by
    haveI : Inhabited ISym := ⟨x⟩
    obtain ⟨h2, h3, h4⟩ := drop_cons hd
    simp only [List.length_cons] at hk
    obtain ⟨k, rfl⟩ : ∃ m, k = m + 1 := ⟨k - 1, by omega⟩
    have ih := i_terms size l K7 all ha r hr B K46 x47 b v m N Kn hN t (i + 1) k h4 (by omega)
    rw [prevS_succ h3] at ih
    rw [impl_SegOk.l1, if_pos (by omega), if_pos (by omega), if_pos (by omega), rd_isym h3, i_symB, Option.bind_some, i_contains all (by omega) _ _ k (by omega), Option.bind_some, w64s i (by omega), ih]
    rw [termsB]
    cases hs : symB size x with
    | false => rw [if_neg (by decide)]; rfl
    | true =>
      rw [if_pos rfl]
      cases i with
      | zero =>
        rw [if_neg (by omega), prevS_zero, prevOk]
        cases hasS all x.f0 x.f1 <;> cases termsB size all (some x) t <;> rfl
      | succ j =>
        have hj : r[j]? = some r[j] := List.getElem?_eq_getElem (by omega)
        rw [if_pos (by omega), w64 (by omega) (by omega), show (((j + 1 : Nat) : Int) - 1) = (j : Int) by omega, if_pos (by omega), if_pos (by omega), rd_isym hj, i_lessB, Option.bind_some, prevS_succ hj, prevOk]
        cases lessB r[j] x <;> cases hasS all x.f0 x.f1 <;> cases termsB size all (some x) t <;> rfl
theorem flat_snoc (pre : List (List ISym)) (r : List ISym) : (pre ++ [r]).flatten = pre.flatten ++ r := by simp
theorem s_bounds (size l : Int) (v : List IVal) (m : List Bool) (b : List (List ISym)) (h : SmallS b v m) (F : Bool) (K2 : Nat) (hF : ∀ k, K2 ≤ k → spec_SegOk.l2 k l (b.length : Int) 0 b v m = some F) : ∀ (suf pre : List (List ISym)), b = pre ++ suf → pre.flatten.length ≤ 40 →
    ∃ K, ∀ k, K ≤ k → spec_SegOk.l0 k size l (b.length : Int) (pre.flatten.length : Int) (pre.length : Int) b v m = some (boundsB size pre.flatten suf && F)
  | [], pre, hb, hp => by
    refine ⟨K2 + 1, fun k hk => ?_⟩
    obtain ⟨k, rfl⟩ : ∃ n, k = n + 1 := ⟨k - 1, by omega⟩
    have hl : b.length = pre.length := by rw [hb]; simp
    rw [spec_SegOk.l0, if_neg (by omega), hF k (by omega), boundsB, Bool.true_and]
  | r :: suf, pre, hb, hp => by
    have hl : b.length = pre.length + (suf.length + 1) := by rw [hb]; simp
    have hn := h.rows
    have hg : b[pre.length]? = some r := by rw [hb]; simp
    have hr := h.each r (by rw [hb]; simp)
    have st : ∀ k, (pre.length : Int) < (b.length : Int) ∧ (0 : Int) ≤ (pre.length : Int) := fun _ => by omega
    have h' : SmallS (pre ++ r :: suf) v m := hb ▸ h
    by_cases h0 : r = []
    · refine ⟨2, fun k hk => ?_⟩
      obtain ⟨k, rfl⟩ : ∃ n, k = n + 2 := ⟨k - 2, by omega⟩
      rw [spec_SegOk.l0, if_pos (by omega), if_pos (by omega), if_pos (by omega), rd_irow hg, h0, if_pos (show ((([] : List ISym).length : Nat) : Int) = 0 from rfl), spec_SegOk.j2, if_pos rfl, boundsB, decide_eq_false (by simp)]; rfl
    · have hz : ¬ (r.length : Int) = 0 := by
        intro e
        exact h0 (List.eq_nil_of_length_eq_zero (by omega))
      have hw : wrap64 ((pre.flatten.length : Int) + (r.length : Int)) = ((pre ++ [r]).flatten.length : Int) := by
        rw [w64 (by omega) (by omega), flat_snoc, List.length_append]; omega
      by_cases h40 : (pre ++ [r]).flatten.length ≤ 40
      · obtain ⟨K, ih⟩ := s_bounds size l v m b h F K2 hF suf (pre ++ [r]) (by rw [hb]; simp) h40
        refine ⟨K + 2097210 + r.length, fun k hk => ?_⟩
        obtain ⟨k, rfl⟩ : ∃ n, k = n + 2 := ⟨k - 2, by omega⟩
        have tm := s_terms size pre r suf v m h' l (b.length : Int) ((pre ++ [r]).flatten.length : Int) r 0 k rfl (by omega)
        rw [← hb, show ((0 : Nat) : Int) = 0 from rfl] at tm
        rw [spec_SegOk.l0, if_pos (by omega), if_pos (by omega), if_pos (by omega), rd_irow hg, if_neg hz, hw, decide_eq_false (show ¬ ((pre ++ [r]).flatten.length : Int) > 40 by omega), spec_SegOk.j2, if_neg (by decide), tm, prevS_zero]
        have ih' := ih (k - r.length - 1) (by omega)
        rw [show (pre ++ [r]).length = pre.length + 1 by simp] at ih'
        rw [ih', boundsB, decide_eq_true h0, decide_eq_true (show (pre.flatten ++ r).length ≤ 40 by rw [← flat_snoc]; exact h40), flat_snoc]
        cases termsB size pre.flatten none r <;> rfl
      · refine ⟨2, fun k hk => ?_⟩
        obtain ⟨k, rfl⟩ : ∃ n, k = n + 2 := ⟨k - 2, by omega⟩
        rw [spec_SegOk.l0, if_pos (by omega), if_pos (by omega), if_pos (by omega), rd_irow hg, if_neg hz, hw, decide_eq_true (show ((pre ++ [r]).flatten.length : Int) > 40 by omega), spec_SegOk.j2, if_pos rfl, boundsB, decide_eq_true h0, decide_eq_false (show ¬ (pre.flatten ++ r).length ≤ 40 by rw [← flat_snoc]; exact h40)]; rfl
def endI (l : Int) (b : List (List ISym)) (v : List IVal) (FI : Bool) (K2 : Nat) : Prop := ∀ k, K2 ≤ k → ((impl_ends.f l).bind fun bt242 => (if 0 < (b.length : Int) then ((impl_Sym_35.f k (rd_L7 b 0) bt242.1 bt242.2.1).bind fun t249 => (if t249 = true then (if 0 ≤ (wrap64 ((b.length : Int) - 1)) then (if (wrap64 ((b.length : Int) - 1)) < (b.length : Int) then ((impl_Sym_35.f k (rd_L7 b (wrap64 ((b.length : Int) - 1))) bt242.2.2.1 bt242.2.2.2).bind fun t251 => (if t251 = true then ((slices_ContainsFunc__impl_SegOk_1.f k v).bind fun t252 => (some (!t252))) else (some false))) else (none)) else (none)) else (some false))) else (none))) = some FI
theorem i_bounds (size l : Int) (v : List IVal) (m : List Bool) (b : List (List ISym)) (h : SmallS b v m) (FI : Bool) (K2 : Nat) (hF : endI l b v FI K2) : ∀ (suf pre : List (List ISym)), b = pre ++ suf → pre.flatten.length ≤ 40 →
    ∃ K, ∀ k, K ≤ k → impl_SegOk.l0 k size l (b.length : Int) pre.flatten b (b.length : Int) (pre.length : Int) b v m = some (boundsB size pre.flatten suf && FI)
  | [], pre, hb, hp => by
    refine ⟨K2 + 1, fun k hk => ?_⟩
    obtain ⟨k, rfl⟩ : ∃ n, k = n + 1 := ⟨k - 1, by omega⟩
    have hl : b.length = pre.length := by rw [hb]; simp
    rw [impl_SegOk.l0, if_neg (by omega), boundsB, Bool.true_and]
    exact hF k (by omega)
  | r :: suf, pre, hb, hp => by
    have hl : b.length = pre.length + (suf.length + 1) := by rw [hb]; simp
    have hn := h.rows
    have hg : b[pre.length]? = some r := by rw [hb]; simp
    have hr := h.each r (by rw [hb]; simp)
    have go : ∃ K, ∀ k, K ≤ k → (if (r.length : Int) = 0 then (some false) else (if pre.flatten.length + r.length < 8796093022208 then ((some (pre.flatten ++ r : List ISym)).bind fun y239 => (if (y239.length : Int) > 40 then (some false) else (impl_SegOk.l0 k size l (b.length : Int) y239 b (b.length : Int) (wrap64 ((pre.length : Int) + 1)) b v m))) else (none))) = some (decide (r ≠ []) && decide ((pre.flatten ++ r).length ≤ 40) && boundsB size (pre.flatten ++ r) suf && FI) := by
      by_cases h0 : r = []
      · exact ⟨0, fun k _ => by rw [h0, if_pos (show ((([] : List ISym).length : Nat) : Int) = 0 from rfl), decide_eq_false (by simp)]; rfl⟩
      · have hz : ¬ (r.length : Int) = 0 := by
          intro e
          exact h0 (List.eq_nil_of_length_eq_zero (by omega))
        by_cases h40 : (pre.flatten ++ r).length ≤ 40
        · obtain ⟨K, ih⟩ := i_bounds size l v m b h FI K2 hF suf (pre ++ [r]) (by rw [hb]; simp) (by rw [flat_snoc]; exact h40)
          refine ⟨K, fun k hk => ?_⟩
          have ih' := ih k hk
          rw [show (pre ++ [r]).length = pre.length + 1 by simp, flat_snoc] at ih'
          rw [if_neg hz, if_pos (by omega), Option.bind_some, if_neg (by omega), w64s pre.length (by omega), ih', decide_eq_true h0, decide_eq_true h40]; rfl
        · exact ⟨0, fun k _ => by rw [if_neg hz, if_pos (by omega), Option.bind_some, if_pos (by omega), decide_eq_true h0, decide_eq_false h40]; rfl⟩
    obtain ⟨K, hK⟩ := go
    refine ⟨K + 1048710 + r.length, fun k hk => ?_⟩
    obtain ⟨k, rfl⟩ : ∃ n, k = n + 1 := ⟨k - 1, by omega⟩
    have tm := i_terms size l (b.length : Int) pre.flatten (by omega) r hr b (b.length : Int) (pre.length : Int) b v m _ K hK r 0 k rfl (by omega)
    rw [show ((0 : Nat) : Int) = 0 from rfl] at tm
    rw [impl_SegOk.l0, if_pos (by omega), if_pos (by omega), if_pos (by omega), rd_irow hg, tm, prevS_zero, boundsB]
    cases termsB size pre.flatten none r <;> cases decide (r ≠ []) <;> cases decide ((pre.flatten ++ r).length ≤ 40) <;> rfl
def okV (x : IVal) : Bool := okR x.f0.f0 x.f0.f1
theorem s_vloop (l : Int) (v : List IVal) (m : List Bool) (b : List (List ISym)) (h : SmallS b v m) (hv : v.length + 1 = b.length) : ∀ (t : List IVal) (i k : Nat), v.drop i = t → 2097200 + t.length < k →
    spec_SegOk.l2 k l (b.length : Int) (i : Int) b v m = some (t.all okV && (decide (inS b 0 0 0 = 0) && (inS b l 0 0 == (v.length : Int))))
  | [], i, k, hd, hk => by
    have h2 := drop_nil hd
    have hn := h.rows
    obtain ⟨k, rfl⟩ : ∃ n, k = n + 1 := ⟨k - 1, by simp at hk; omega⟩
    simp only [List.length_nil] at hk
    have hw : wrap64 ((b.length : Int) - 1) = (v.length : Int) := by rw [w64 (by omega) (by omega)]; omega
    rw [spec_SegOk.l2, hw, if_neg (by omega), s_in h 0 0 k (by omega), Option.bind_some, s_in h l 0 k (by omega), Option.bind_some, List.all_nil, Bool.true_and]
    by_cases h0 : inS b 0 0 0 = 0
    · rw [if_pos h0, decide_eq_true h0, Bool.true_and]
    · rw [if_neg h0, decide_eq_false h0, Bool.false_and]
  | x :: t, i, k, hd, hk => by
    haveI : Inhabited IVal := ⟨x⟩
    obtain ⟨h2, h3, h4⟩ := drop_cons hd
    have hn := h.rows
    simp only [List.length_cons] at hk
    obtain ⟨k, rfl⟩ : ∃ n, k = n + 1 := ⟨k - 1, by omega⟩
    have hw : wrap64 ((b.length : Int) - 1) = (v.length : Int) := by rw [w64 (by omega) (by omega)]; omega
    rw [spec_SegOk.l2, hw, if_pos (by omega), if_pos (by omega), if_pos (by omega), rd_ival h3, s_vok, Option.bind_some, w64s i (by omega), s_vloop l v m b h hv t (i + 1) k h4 (by omega), List.all_cons]
    unfold okV
    cases okR x.f0.f0 x.f0.f1 <;> rfl
theorem i_vidx (v : List IVal) (hn : v.length ≤ 1048576) : ∀ (t : List IVal) (i k : Nat), v.drop i = t → t.length < k → ∃ r, slices_IndexFunc__impl_SegOk_1.l0 k v (v.length : Int) (i : Int) = some r ∧ decide (r ≥ 0) = !t.all okV
  | [], i, k, hd, hk => by
    have h2 := drop_nil hd
    obtain ⟨k, rfl⟩ : ∃ n, k = n + 1 := ⟨k - 1, by simp at hk; omega⟩
    exact ⟨-1, by rw [slices_IndexFunc__impl_SegOk_1.l0, if_neg (by omega)], rfl⟩
  | x :: t, i, k, hd, hk => by
    haveI : Inhabited IVal := ⟨x⟩
    obtain ⟨h2, h3, h4⟩ := drop_cons hd
    obtain ⟨k, rfl⟩ : ∃ n, k = n + 1 := ⟨k - 1, by simp at hk; omega⟩
    obtain ⟨r, q1, q2⟩ := i_vidx v hn t (i + 1) k h4 (by simp at hk; omega)
    cases ho : okV x with
    | true =>
      refine ⟨r, ?_, by rw [q2, List.all_cons, ho, Bool.true_and]⟩
      rw [slices_IndexFunc__impl_SegOk_1.l0, if_pos (by omega), if_pos (by omega), if_pos (by omega), rd_ival h3, impl_SegOk_1.f, i_vok, Option.bind_some, Option.bind_some, w64s i (by omega)]
      unfold okV at ho
      rw [ho, if_neg (by decide)]; exact q1
    | false =>
      refine ⟨(i : Int), ?_, by rw [List.all_cons, ho, Bool.false_and]; exact decide_eq_true (by omega)⟩
      rw [slices_IndexFunc__impl_SegOk_1.l0, if_pos (by omega), if_pos (by omega), if_pos (by omega), rd_ival h3, impl_SegOk_1.f, i_vok, Option.bind_some, Option.bind_some]
      unfold okV at ho
      rw [ho, if_pos (by decide)]
theorem i_end {l : Int} {v : List IVal} {m : List Bool} {pre : List (List ISym)} {r0 r : List ISym} {b : List (List ISym)} (h : SmallS b v m) (hb : b = pre ++ [r]) (h0 : b[0]? = some r0) :
    endI l b v (hasS r0 0 0 && hasS r l 0 && v.all okV) 1048600 := by
  intro k hk
  have hn := h.rows
  have hl : b.length = pre.length + 1 := by rw [hb]; simp
  have hg : b[pre.length]? = some r := by rw [hb]; simp
  have hw : wrap64 ((b.length : Int) - 1) = (pre.length : Int) := by rw [w64 (by omega) (by omega)]; omega
  have hr := h.each r (by rw [hb]; simp)
  have hr0 := h.each r0 (List.mem_of_getElem? h0)
  have hv := h.vals
  have e0 : rd_L7 b 0 = r0 := rd_irow (i := 0) h0
  obtain ⟨x, q1, q2⟩ := i_vidx v hv v 0 k rfl (by omega)
  rw [show ((0 : Nat) : Int) = 0 from rfl] at q1
  rw [impl_ends.f, Option.bind_some]
  simp only
  rw [if_pos (by omega), e0, i_contains r0 (by omega) _ _ k (by omega), Option.bind_some, hw, if_pos (show (0 : Int) ≤ (pre.length : Int) by omega), if_pos (show (pre.length : Int) < (b.length : Int) by omega), rd_irow hg, i_contains r (by omega) _ _ k (by omega), Option.bind_some, slices_ContainsFunc__impl_SegOk_1.f, slices_IndexFunc__impl_SegOk_1.f, q1, Option.bind_some, Option.bind_some, q2, Bool.not_not]
  cases hasS r0 0 0 <;> cases hasS r l 0 <;> rfl
theorem terms_apart {size : Int} {all : List ISym} {x : ISym} : ∀ {t : List ISym} {p : Option ISym}, termsB size all p t = true → x ∈ t → hasS all x.f0 x.f1 = false
  | [], _, _, hx => by cases hx
  | y :: t, p, h, hx => by
    rw [termsB] at h
    simp only [Bool.and_eq_true, Bool.not_eq_true'] at h
    rcases List.mem_cons.1 hx with rfl | hx
    · exact h.1.2
    · exact terms_apart h.2 hx
theorem bounds_apart {size : Int} {r : List ISym} {x y : Int} (hr : hasS r x y = true) : ∀ (pre : List (List ISym)) (all : List ISym), boundsB size all (pre ++ [r]) = true → hasS (all ++ pre.flatten) x y = false
  | [], all, h => by
    rw [List.nil_append, boundsB] at h
    simp only [Bool.and_eq_true] at h
    rw [List.flatten_nil, List.append_nil]
    have := terms_apart h.1.2 (hasS_iff.1 hr)
    exact this
  | p :: pre, all, h => by
    rw [List.cons_append, boundsB] at h
    simp only [Bool.and_eq_true] at h
    have := bounds_apart hr pre (all ++ p) h.2
    rw [List.flatten_cons, ← List.append_assoc]
    exact this
def shapeB (size l : Int) : Bool := (decide (2 ≤ size) && decide (size ≤ 13)) && (decide (1 ≤ l) && decide (l ≤ wrap64 (size - 1)))
theorem s_shape (size l : Int) : spec_l10Size.f size l = some (shapeB size l) := by
  unfold spec_l10Size.f shapeB
  rw [btw, Option.bind_some, btw]
  cases (decide (2 ≤ size) && decide (size ≤ 13)) <;> rfl
theorem i_shape (size l : Int) : impl_isShape.f size l = some (shapeB size l) := by
  unfold impl_isShape.f shapeB
  rw [inR, Option.bind_some, inR]
  cases (decide (2 ≤ size) && decide (size ≤ 13)) <;> rfl
/-- What holds of a row of segments that is right. -/
structure GoodS (size : Int) (b : List (List ISym)) (v : List IVal) (m : List Bool) : Prop where
  most : 2 ≤ size ∧ size ≤ 13
  rows : b.length ≤ 16
  vals : v.length + 1 = b.length
  flags : m.length + 1 = b.length
  valOk : ∀ x ∈ v, okV x = true
  short : ∀ r ∈ b, r.length ≤ 40
  terms : ∀ r ∈ b, ∀ x ∈ r, (0 ≤ x.f0 ∧ x.f0 ≤ size - 1) ∧ (-1000 ≤ x.f1 ∧ x.f1 ≤ 1000)
theorem termsB_sym {size : Int} {all : List ISym} : ∀ {t : List ISym} {p : Option ISym}, termsB size all p t = true → ∀ x ∈ t, symB size x = true
  | [], _, _, x, hx => by simp at hx
  | y :: t, p, h, x, hx => by
    simp only [termsB, Bool.and_eq_true] at h
    rcases List.mem_cons.1 hx with rfl | hx
    · exact h.1.1.1
    · exact termsB_sym h.2 x hx
theorem boundsB_each {size : Int} : ∀ {b : List (List ISym)} {all : List ISym}, boundsB size all b = true → ∀ r ∈ b, r.length ≤ 40 ∧ ∀ x ∈ r, symB size x = true
  | [], _, _, r, hr => by simp at hr
  | y :: t, all, h, r, hr => by
    simp only [boundsB, Bool.and_eq_true, decide_eq_true_eq] at h
    rcases List.mem_cons.1 hr with rfl | hr
    · have := h.1.1.2
      rw [List.length_append] at this
      exact ⟨by omega, termsB_sym h.1.2⟩
    · exact boundsB_each h.2 r hr
theorem good_of {size l : Int} {b : List (List ISym)} {v : List IVal} {m : List Bool} {X : Bool} (hs : shapeB size l = true) (h2 : b.length ≤ 16) (hv : v.length + 1 = b.length) (hm : m.length + 1 = b.length) (hc : (boundsB size ([] : List (List ISym)).flatten b && (v.all okV && X)) = true) : GoodS size b v m := by
  simp only [Bool.and_eq_true] at hc
  have hs' := hs
  unfold shapeB at hs'
  simp only [Bool.and_eq_true, decide_eq_true_eq] at hs'
  have he := boundsB_each hc.1
  refine ⟨hs'.1, h2, hv, hm, fun x hx => List.all_eq_true.1 hc.2.1 x hx, fun r hr => (he r hr).1, fun r hr x hx => ?_⟩
  have := (he r hr).2 x hx
  unfold symB at this
  simp only [Bool.and_eq_true, decide_eq_true_eq] at this
  rw [w64 (by omega) (by omega)] at this
  exact ⟨this.1.2, this.2⟩
/-- What holds besides: the ends stand in the first and in the last bound. -/
structure EndS (size l : Int) (b : List (List ISym)) : Prop where
  len : 1 ≤ l ∧ l ≤ size - 1
  full : ∀ r ∈ b, r ≠ []
  first : ∃ r t, b = r :: t ∧ (⟨0, 0⟩ : ISym) ∈ r
  last : ∃ p r, b = p ++ [r] ∧ (⟨l, 0⟩ : ISym) ∈ r
theorem boundsB_full {size : Int} : ∀ {b : List (List ISym)} {all : List ISym}, boundsB size all b = true → ∀ r ∈ b, r ≠ []
  | [], _, _, r, hr => by simp at hr
  | y :: t, all, h, r, hr => by
    simp only [boundsB, Bool.and_eq_true, decide_eq_true_eq] at h
    rcases List.mem_cons.1 hr with rfl | hr
    · exact h.1.1.1
    · exact boundsB_full h.2 r hr
theorem ends_of {size l : Int} {b : List (List ISym)} {v : List IVal} {pre : List (List ISym)} {r0 r : List ISym} {t0 : List (List ISym)} (hs : shapeB size l = true) (hb : b = pre ++ [r]) (hb0 : b = r0 :: t0) (hc : (boundsB size ([] : List (List ISym)).flatten b && (hasS r0 0 0 && hasS r l 0 && v.all okV)) = true) : EndS size l b := by
  simp only [Bool.and_eq_true] at hc
  unfold shapeB at hs
  simp only [Bool.and_eq_true, decide_eq_true_eq] at hs
  rw [w64 (by omega) (by omega)] at hs
  exact ⟨hs.2, boundsB_full hc.1, ⟨r0, t0, hb0, hasS_iff.1 hc.2.1.1⟩, ⟨pre, r, hb, hasS_iff.1 hc.2.1.2⟩⟩
/-- Is a row of segments right? -/
theorem segOkE (size l : Int) (b : List (List ISym)) (v : List IVal) (m : List Bool) (h : SmallS b v m) : ∃ K c, (c = true → GoodS size b v m ∧ EndS size l b) ∧ ∀ k, K ≤ k → spec_SegOk.f k size l b v m = some c ∧ impl_SegOk.f k size l b v m = some c := by
  have hn := h.rows
  have sbad : ∀ k, 1 ≤ k → spec_SegOk.j0 k size l (b.length : Int) true b v m = some false := fun k hk => by
    obtain ⟨k, rfl⟩ : ∃ n, k = n + 1 := ⟨k - 1, by omega⟩
    rw [spec_SegOk.j0, if_pos rfl]
  have ibad : ∀ k, 1 ≤ k → impl_SegOk.j0 k size l (b.length : Int) true b v m = some false := fun k hk => by
    obtain ⟨k, rfl⟩ : ∃ n, k = n + 1 := ⟨k - 1, by omega⟩
    rw [impl_SegOk.j0, if_pos rfl]
  cases hs : shapeB size l with
  | false =>
    refine ⟨1, false, fun e => by simp at e, fun k hk => ?_⟩
    rw [spec_SegOk.f, impl_SegOk.f, s_shape, i_shape, hs, Option.bind_some, Option.bind_some, if_neg (by decide), if_neg (by decide), sbad k hk, ibad k hk]
    exact ⟨rfl, rfl⟩
  | true =>
    by_cases hk1 : 1 ≤ b.length
    · by_cases hk2 : b.length ≤ 16
      · have hw : wrap64 ((b.length : Int) - 1) = (b.length : Int) - 1 := w64 (by omega) (by omega)
        have hir : (decide ((1 : Int) ≤ (b.length : Int)) && decide ((b.length : Int) ≤ 16)) = true := by rw [decide_eq_true (by omega), decide_eq_true (by omega)]; rfl
        by_cases hv : v.length + 1 = b.length
        · by_cases hm : m.length + 1 = b.length
          · obtain ⟨pre, r, hb⟩ : ∃ pre r, b = pre ++ [r] := ⟨b.dropLast, b.getLast (by intro e; rw [e] at hk1; simp at hk1), (List.dropLast_concat_getLast _).symm⟩
            obtain ⟨r0, t0, hb0⟩ : ∃ r0 t0, b = r0 :: t0 := by
              cases b with
              | nil => simp at hk1
              | cons a t => exact ⟨a, t, rfl⟩
            have hg0 : b[0]? = some r0 := by rw [hb0]; rfl
            have hsF := s_vloop l v m b h hv v 0
            obtain ⟨K1, q1⟩ := s_bounds size l v m b h _ (2097300 + v.length) (fun k hk => by
              have := hsF k rfl (by omega)
              exact this) b [] rfl (by simp)
            obtain ⟨K2, q2⟩ := i_bounds size l v m b h _ 1048600 (i_end (l := l) h hb hg0) b [] rfl (by simp)
            have he : (boundsB size ([] : List (List ISym)).flatten b && (v.all okV && (decide (inS b 0 0 0 = 0) && (inS b l 0 0 == (v.length : Int))))) = (boundsB size ([] : List (List ISym)).flatten b && (hasS r0 0 0 && hasS r l 0 && v.all okV)) := by
              cases hB : boundsB size ([] : List (List ISym)).flatten b with
              | false => rfl
              | true =>
                have e1 : decide (inS b 0 0 0 = 0) = hasS r0 0 0 := by
                  rw [Bool.eq_iff_iff, decide_eq_true_eq, hb0]
                  exact inS_first 0 0 r0 t0
                have e2 : (inS b l 0 0 == (v.length : Int)) = hasS r l 0 := by
                  have hp : (v.length : Int) = ((0 + pre.length : Nat) : Int) := by
                    have : b.length = pre.length + 1 := by rw [hb]; simp
                    omega
                  rw [Bool.eq_iff_iff, beq_iff_eq, hp, hb, inS_last l 0 pre r 0]
                  constructor
                  · exact fun h => h.2
                  · intro hr
                    rw [hb] at hB
                    have := bounds_apart hr pre [] hB
                    rw [List.nil_append] at this
                    exact ⟨this, hr⟩
                rw [e1, e2]
                cases hasS r0 0 0 <;> cases hasS r l 0 <;> cases v.all okV <;> rfl
            refine ⟨K1 + K2 + 2, boundsB size ([] : List (List ISym)).flatten b && (v.all okV && (decide (inS b 0 0 0 = 0) && (inS b l 0 0 == (v.length : Int)))), fun hc => ⟨good_of hs hk2 hv hm hc, ends_of hs hb hb0 (he.symm.trans hc)⟩, fun k hk => ⟨?_, ?_⟩⟩
            · obtain ⟨k, rfl⟩ : ∃ n, k = n + 1 := ⟨k - 1, by omega⟩
              rw [spec_SegOk.f, s_shape, hs, Option.bind_some, if_pos rfl, if_neg (by omega), if_neg (by omega), hw, if_pos (by omega), show ((m.length : Int) != (b.length : Int) - 1) = false from bne_eq_false_iff_eq.2 (by omega), spec_SegOk.j0, if_neg (by decide)]
              exact q1 k (by omega)
            · obtain ⟨k, rfl⟩ : ∃ n, k = n + 1 := ⟨k - 1, by omega⟩
              rw [impl_SegOk.f, i_shape, hs, Option.bind_some, if_pos rfl, inR, Option.bind_some, hir, if_pos rfl, hw, if_pos (by omega), show ((m.length : Int) != (b.length : Int) - 1) = false from bne_eq_false_iff_eq.2 (by omega), impl_SegOk.j0, if_neg (by decide), he]
              exact q2 k (by omega)
          · refine ⟨1, false, fun e => by simp at e, fun k hk => ?_⟩
            have e : ((m.length : Int) != (b.length : Int) - 1) = true := bne_iff_ne.2 (by omega)
            rw [spec_SegOk.f, impl_SegOk.f, s_shape, i_shape, hs, Option.bind_some, Option.bind_some, if_pos rfl, if_pos rfl, if_neg (by omega), if_neg (by omega), inR, hir, Option.bind_some, if_pos rfl, hw, if_pos (by omega), if_pos (by omega), e, sbad k hk, ibad k hk]
            exact ⟨rfl, rfl⟩
        · refine ⟨1, false, fun e => by simp at e, fun k hk => ?_⟩
          rw [spec_SegOk.f, impl_SegOk.f, s_shape, i_shape, hs, Option.bind_some, Option.bind_some, if_pos rfl, if_pos rfl, if_neg (by omega), if_neg (by omega), inR, hir, Option.bind_some, if_pos rfl, hw, if_neg (by omega), if_neg (by omega), sbad k hk, ibad k hk]
          exact ⟨rfl, rfl⟩
      · have hir : (decide ((1 : Int) ≤ (b.length : Int)) && decide ((b.length : Int) ≤ 16)) = false := by rw [decide_eq_false (show ¬ (b.length : Int) ≤ 16 by omega), Bool.and_false]
        refine ⟨1, false, fun e => by simp at e, fun k hk => ?_⟩
        rw [spec_SegOk.f, impl_SegOk.f, s_shape, i_shape, hs, Option.bind_some, Option.bind_some, if_pos rfl, if_pos rfl, if_neg (by omega), if_pos (by omega), inR, hir, Option.bind_some, if_neg (by decide), sbad k hk, ibad k hk]
        exact ⟨rfl, rfl⟩
    · have hir : (decide ((1 : Int) ≤ (b.length : Int)) && decide ((b.length : Int) ≤ 16)) = false := by rw [decide_eq_false (show ¬ (1 : Int) ≤ (b.length : Int) by omega), Bool.false_and]
      refine ⟨1, false, fun e => by simp at e, fun k hk => ?_⟩
      rw [spec_SegOk.f, impl_SegOk.f, s_shape, i_shape, hs, Option.bind_some, Option.bind_some, if_pos rfl, if_pos rfl, if_pos (by omega), inR, hir, Option.bind_some, if_neg (by decide), sbad k hk, ibad k hk]
      exact ⟨rfl, rfl⟩
end Go.Proofs.YtfeloencepgdlaaDoor.Q
namespace Go.Proofs.YtfeloencepgdlaaDoor.Q
open Go.RowKit Go.Proofs.YtfeloencepgdlaaDoorW.PrintWords Go.Proofs.YtfeloencepgdlaaDoorW.PrintLast Go.Proofs.YtfeloencepgdlaaDoorW.PrintMore
open Go.Proofs.YtfeloencepgdlaaDoor.Open
set_option linter.unusedSimpArgs false
set_option linter.unusedVariables false
theorem inR_V (a b c : Int) : impl_inRange.f a b c = some (decide (b ≤ a) && decide (a ≤ c)) := by
  unfold impl_inRange.f
  by_cases h : b ≤ a <;> simp [h]
theorem btw_V (a b c : Int) : spec_l01Between.f a b c = some (decide (b ≤ a) && decide (a ≤ c)) := by
  unfold spec_l01Between.f
  by_cases h : b ≤ a <;> simp [h]
def isV (x : Int) : Bool := decide (-1000000 ≤ x) && decide (x ≤ 1000000)
theorem i_isV (x : Int) : impl_isVal.f x = some (isV x) := by unfold impl_isVal.f; rw [inR_V]; rfl
theorem s_isV (x : Int) : spec_l05Val.f x = some (isV x) := by unfold spec_l05Val.f; rw [btw_V]; rfl
theorem idx_V (l : List Int) (hn : l.length < 9223372036854775807) : ∀ t k i, l.drop i = t → t.length < k → ∃ r, slices_IndexFunc__impl_valsOk_1.l0 k l (l.length : Int) (i : Int) = some r ∧ decide (r ≥ 0) = !t.all isV
  | [], k + 1, i, h, hk => by
    have := drop_nil h
    unfold slices_IndexFunc__impl_valsOk_1.l0
    rw [if_neg (by omega)]
    exact ⟨-1, rfl, rfl⟩
  | x :: t, k + 1, i, h, hk => by
    obtain ⟨h1, h2, h3⟩ := drop_cons h
    obtain ⟨r, hr, hd⟩ := idx_V l hn t k (i + 1) h3 (by simp at hk; omega)
    unfold slices_IndexFunc__impl_valsOk_1.l0 impl_valsOk_1.f
    rw [if_pos (by omega), if_pos (by omega), if_pos (by omega), rd_at h2, i_isV, w64s i (by omega), hr]
    simp only [Option.bind_some]
    cases hv : isV x
    · exact ⟨(i : Int), by simp, by simp [hv]⟩
    · exact ⟨r, by simp, by simp only [List.all_cons, hv, Bool.true_and]; exact hd⟩
theorem all_V (l : List Int) (hn : l.length < 9223372036854775807) : ∀ t k i, l.drop i = t → t.length < k → spec_l07Vals.l0 k (l.length : Int) l (i : Int) = some (t.all isV)
  | [], k + 1, i, h, hk => by
    have := drop_nil h
    unfold spec_l07Vals.l0
    rw [if_neg (by omega)]; rfl
  | x :: t, k + 1, i, h, hk => by
    obtain ⟨h1, h2, h3⟩ := drop_cons h
    have ih := all_V l hn t k (i + 1) h3 (by simp at hk; omega)
    unfold spec_l07Vals.l0
    rw [if_pos (by omega), if_pos (by omega), if_pos (by omega), rd_at h2, s_isV, w64s i (by omega), ih]
    simp only [Option.bind_some, List.all_cons]
    cases isV x <;> simp
def valsP (l : List Int) : Bool := decide (1 ≤ l.length) && (rd l 0 == 0) && l.all isV
theorem s_vals (k : Nat) (l : List Int) (hn : l.length ≤ 1048576) (hk : l.length < k) : spec_l07Vals.f (k + 1) (l.length : Int) l = some (valsP l) := by
  unfold spec_l07Vals.f spec_l07Vals.j0 valsP
  rw [if_pos rfl]
  by_cases h1 : 1 ≤ l.length
  · rw [if_neg (by omega), if_pos (by omega)]
    have := all_V l (by omega) l k 0 rfl hk
    by_cases h0 : rd l 0 = 0
    · simp only [h0, bne_self_eq_false, Bool.false_eq_true, if_false]
      simp only [h1, decide_true, Bool.true_and, beq_self_eq_true]
      exact this
    · simp [h0]
  · rw [if_pos (by omega)]; simp; omega
theorem i_vals (k : Nat) (l : List Int) (hn : l.length ≤ 1048576) (hk : l.length < k) : impl_valsOk.f k l (l.length : Int) = some (decide (l.length ≤ 13) && valsP l) := by
  unfold impl_valsOk.f valsP slices_ContainsFunc__impl_valsOk_1.f slices_IndexFunc__impl_valsOk_1.f
  rw [if_pos rfl, inR_V]
  obtain ⟨r, hr, hd⟩ := idx_V l (by omega) l k 0 rfl hk
  have hr' : slices_IndexFunc__impl_valsOk_1.l0 k l (l.length : Int) 0 = some r := hr
  simp only [Option.bind_some, hr', hd, Bool.not_not]
  by_cases h1 : 1 ≤ l.length
  · have e1 : decide ((1 : Int) ≤ (l.length : Int)) = true := by simp; omega
    have e2 : decide ((l.length : Int) ≤ 13) = decide (l.length ≤ 13) := by rw [decide_eq_decide]; omega
    rw [e1, e2, if_pos (show (0 : Int) < (l.length : Int) by omega)]
    by_cases h0 : rd l 0 = 0
    · simp only [h0, h1, Bool.true_and, decide_true, beq_self_eq_true, if_true]
      cases decide (l.length ≤ 13) <;> simp
    · simp [h0]
  · have e1 : decide ((1 : Int) ≤ (l.length : Int)) = false := by simp; omega
    rw [e1]; simp [h1]
theorem s_valsN (k : Nat) (n : Int) (l : List Int) (hn : l.length ≤ 1048576) (hk : l.length < k) : spec_l07Vals.f (k + 1) n l = some (decide ((l.length : Int) = n) && valsP l) := by
  by_cases h : (l.length : Int) = n
  · subst h; rw [s_vals k l hn hk]; simp
  · unfold spec_l07Vals.f spec_l07Vals.j0
    rw [if_neg h]; simp [h]
theorem i_valsN (k : Nat) (n : Int) (l : List Int) (hn : l.length ≤ 1048576) (hk : l.length < k) : impl_valsOk.f k l n = some (decide ((l.length : Int) = n) && (decide (l.length ≤ 13) && valsP l)) := by
  by_cases h : (l.length : Int) = n
  · subst h; rw [i_vals k l hn hk]; simp
  · unfold impl_valsOk.f
    rw [if_neg h]; simp [h]
end Go.Proofs.YtfeloencepgdlaaDoor.Q
namespace Go.Proofs.YtfeloencepgdlaaDoor.Q
open Go.RowKit Go.Proofs.YtfeloencepgdlaaDoorW.PrintWords Go.Proofs.YtfeloencepgdlaaDoorW.PrintLast Go.Proofs.YtfeloencepgdlaaDoorW.PrintMore
open Go.Proofs.YtfeloencepgdlaaDoor.Open
set_option linter.unusedSimpArgs false
set_option linter.unusedVariables false
abbrev LCell := S79
abbrev ICell := S77
theorem rd_lcell {l : List LCell} {i : Nat} {x : LCell} (h : l[i]? = some x) : rd_T79 l (i : Int) = x := by
  unfold rd_T79; simp [List.getD, h]
theorem rd_icell {l : List ICell} {i : Nat} {x : ICell} (h : l[i]? = some x) : rd_T77 l (i : Int) = x := by
  unfold rd_T77; simp [List.getD, h]
/-- The number of a term. -/
def numT (vals : List Int) (x : ISym) : Int := wrap64 (rd vals x.f0 + x.f1)
def hdT (r : List ISym) : ISym := rd_T55 r 0
theorem hdT_mem {r : List ISym} (h : r ≠ []) : hdT r ∈ r := by
  cases r with
  | nil => exact absurd rfl h
  | cons x t => exact List.mem_cons_self
def sameB (vals : List Int) (r : List ISym) : Bool := r.all fun x => decide (numT vals x = numT vals (hdT r))
def atS (vals : List Int) (b : List (List ISym)) : List Int := b.map fun r => numT vals (hdT r)
/-- The symbols of a row's terms have numbers. -/
def InV (vals : List Int) (r : List ISym) : Prop := r ≠ [] ∧ r.length ≤ 40 ∧ ∀ x ∈ r, 0 ≤ x.f0 ∧ x.f0 < vals.length
theorem s_h1 (vals : List Int) (cells : List ICell) (b : List (List ISym)) (v : List IVal) (m : List Bool) (r : List ISym) (bi : Nat) (hb : b[bi]? = some r) (hbn : b.length ≤ 16) (hr : InV vals r) (acc : List Int) (hacc : acc.length ≤ 1048576) (X : Int) : ∀ (t : List ISym) (j k : Nat), r.drop j = t → t.length < k →
    spec_SegHas.l1 k vals cells acc (bi : Int) X (j : Int) b v m = if t.all (fun x => decide (numT vals x = X)) = true then spec_SegHas.l0 (k - t.length - 1) vals cells (acc ++ [X]) ((bi + 1 : Nat) : Int) b v m else some false
  | [], j, k, h, hk => by
    have h1 := drop_nil h
    have hi := lt_of_get hb
    obtain ⟨k, rfl⟩ : ∃ n, k = n + 1 := ⟨k - 1, by omega⟩
    rw [spec_SegHas.l1, if_pos (by omega), if_pos (by omega), rd_irow hb, if_neg (by omega), if_pos (by omega), w64s bi (by omega)]
    rfl
  | x :: t, j, k, h, hk => by
    haveI : Inhabited ISym := ⟨x⟩
    obtain ⟨h1, h2, h3⟩ := drop_cons h
    have hi := lt_of_get hb
    have hl := hr.2.1
    obtain ⟨k, rfl⟩ : ∃ n, k = n + 1 := ⟨k - 1, by omega⟩
    have hx := hr.2.2 x (List.mem_of_getElem? h2)
    have ih := s_h1 vals cells b v m r bi hb hbn hr acc hacc X t (j + 1) k h3 (by simp at hk; omega)
    rw [spec_SegHas.l1, if_pos (by omega), if_pos (by omega), rd_irow hb, if_pos (by omega), if_pos (by omega), rd_isym h2, if_pos hx.1, if_pos hx.2, w64s j (by omega), ih, List.all_cons]
    by_cases e : numT vals x = X
    · rw [if_pos (show wrap64 (rd vals x.f0 + x.f1) = X from e), decide_eq_true e, Bool.true_and, List.length_cons, show k + 1 - (t.length + 1) - 1 = k - t.length - 1 by omega]
    · rw [if_neg (show ¬ wrap64 (rd vals x.f0 + x.f1) = X from e), decide_eq_false e, Bool.false_and, if_neg (by decide)]
theorem s_h0 (vals : List Int) (cells : List ICell) (b : List (List ISym)) (v : List IVal) (m : List Bool) (hbn : b.length ≤ 16) (hr : ∀ r ∈ b, InV vals r) (K2 : Nat) : ∀ (suf : List (List ISym)) (i : Nat) (acc : List Int) (k : Nat), b.drop i = suf → acc.length ≤ i → K2 + 60 * suf.length + 1 ≤ k →
    ∃ k', K2 ≤ k' ∧ spec_SegHas.l0 k vals cells acc (i : Int) b v m = if suf.all (sameB vals) = true then spec_SegHas.l2 k' cells (acc ++ atS vals suf) 0 b v m else some false
  | [], i, acc, k, h, ha, hk => by
    have h1 := drop_nil h
    obtain ⟨k, rfl⟩ : ∃ n, k = n + 1 := ⟨k - 1, by omega⟩
    refine ⟨k, by simp at hk; omega, ?_⟩
    rw [spec_SegHas.l0, if_neg (by omega)]
    simp [atS]
  | r :: suf, i, acc, k, h, ha, hk => by
    haveI : Inhabited (List ISym) := ⟨r⟩
    obtain ⟨h1, h2, h3⟩ := drop_cons h
    rw [List.length_cons] at hk
    obtain ⟨k, rfl⟩ : ∃ n, k = n + 1 := ⟨k - 1, by omega⟩
    have hv := hr r (List.mem_of_getElem? h2)
    have hl := hv.2.1
    have hp : 0 < r.length := List.length_pos_iff.2 hv.1
    have hx := hv.2.2 (hdT r) (hdT_mem hv.1)
    obtain ⟨k', q1, q2⟩ := s_h0 vals cells b v m hbn hr K2 suf (i + 1) (acc ++ [numT vals (hdT r)]) (k - r.length - 1) h3 (by simp; omega) (by omega)
    refine ⟨k', q1, ?_⟩
    have hx' := hx
    unfold hdT at hx'
    rw [spec_SegHas.l0, if_pos (by omega), if_pos (by omega), rd_irow h2, if_pos (by omega), if_pos hx'.1, if_pos hx'.2]
    have e := s_h1 vals cells b v m r i h2 hbn hv acc (by omega) (numT vals (hdT r)) r 0 k rfl (by omega)
    refine e.trans ?_
    rw [q2, List.all_cons]
    show (if sameB vals r = true then _ else _) = _
    cases sameB vals r with
    | false => rfl
    | true => rw [if_pos rfl, Bool.true_and, List.append_assoc]; rfl
theorem i_h1 (vals : List Int) (b : List (List ISym)) (r : List ISym) (bi : Nat) (hbi : bi < b.length) (hbn : b.length ≤ 16) (hr : InV vals r) (acc : List Int) (hacc : acc.length ≤ 1048576) : ∀ (t : List ISym) (j k : Nat), r.drop j = t → t.length < k →
    impl_Seg_numbersOf.l1 k vals acc r b (b.length : Int) (bi : Int) r (r.length : Int) (j : Int) = if t.all (fun x => decide (numT vals x = numT vals (hdT r))) = true then impl_Seg_numbersOf.l0 (k - t.length - 1) vals (acc ++ [numT vals (hdT r)]) b (b.length : Int) ((bi + 1 : Nat) : Int) else some ([], false)
  | [], j, k, h, hk => by
    have h1 := drop_nil h
    obtain ⟨k, rfl⟩ : ∃ n, k = n + 1 := ⟨k - 1, by omega⟩
    have hp : 0 < r.length := List.length_pos_iff.2 hr.1
    have hx := hr.2.2 (hdT r) (hdT_mem hr.1)
    unfold hdT at hx
    rw [impl_Seg_numbersOf.l1, if_neg (by omega), if_pos (by omega), if_pos hx.1, if_pos hx.2, if_pos (by omega), w64s bi (by omega)]
    rfl
  | x :: t, j, k, h, hk => by
    haveI : Inhabited ISym := ⟨x⟩
    obtain ⟨h1, h2, h3⟩ := drop_cons h
    have hl := hr.2.1
    obtain ⟨k, rfl⟩ : ∃ n, k = n + 1 := ⟨k - 1, by omega⟩
    have hx := hr.2.2 x (List.mem_of_getElem? h2)
    have hp : 0 < r.length := List.length_pos_iff.2 hr.1
    have hx0 := hr.2.2 (hdT r) (hdT_mem hr.1)
    unfold hdT at hx0
    have ih := i_h1 vals b r bi hbi hbn hr acc hacc t (j + 1) k h3 (by simp at hk; omega)
    rw [impl_Seg_numbersOf.l1, if_pos (by omega), if_pos (by omega), if_pos (by omega), rd_isym h2, if_pos hx.1, if_pos hx.2, if_pos (by omega), if_pos hx0.1, if_pos hx0.2, w64s j (by omega), ih, List.all_cons]
    by_cases e : wrap64 (rd vals x.f0 + x.f1) = wrap64 (rd vals (rd_T55 r 0).f0 + (rd_T55 r 0).f1)
    · rw [if_pos e, decide_eq_true (show numT vals x = numT vals (hdT r) from e), Bool.true_and, List.length_cons, show k + 1 - (t.length + 1) - 1 = k - t.length - 1 by omega]
    · rw [if_neg e, decide_eq_false (show ¬ numT vals x = numT vals (hdT r) from e), Bool.false_and, if_neg (by decide)]
theorem i_h0 (vals : List Int) (b : List (List ISym)) (hbn : b.length ≤ 16) (hr : ∀ r ∈ b, InV vals r) : ∀ (suf : List (List ISym)) (i : Nat) (acc : List Int) (k : Nat), b.drop i = suf → acc.length ≤ i → 60 * suf.length + 1 ≤ k →
    impl_Seg_numbersOf.l0 k vals acc b (b.length : Int) (i : Int) = if suf.all (sameB vals) = true then some (acc ++ atS vals suf, true) else some ([], false)
  | [], i, acc, k, h, ha, hk => by
    have h1 := drop_nil h
    obtain ⟨k, rfl⟩ : ∃ n, k = n + 1 := ⟨k - 1, by omega⟩
    rw [impl_Seg_numbersOf.l0, if_neg (by omega)]
    simp [atS]
  | r :: suf, i, acc, k, h, ha, hk => by
    haveI : Inhabited (List ISym) := ⟨r⟩
    obtain ⟨h1, h2, h3⟩ := drop_cons h
    rw [List.length_cons] at hk
    obtain ⟨k, rfl⟩ : ∃ n, k = n + 1 := ⟨k - 1, by omega⟩
    have hv := hr r (List.mem_of_getElem? h2)
    have hl := hv.2.1
    have q2 := i_h0 vals b hbn hr suf (i + 1) (acc ++ [numT vals (hdT r)]) (k - r.length - 1) h3 (by simp; omega) (by omega)
    rw [impl_Seg_numbersOf.l0, if_pos (by omega), if_pos (by omega), if_pos (by omega), rd_irow h2]
    have e := i_h1 vals b r i h1 hbn hv acc (by omega) r 0 k rfl (by omega)
    refine e.trans ?_
    rw [q2, List.all_cons]
    show (if sameB vals r = true then _ else _) = _
    cases sameB vals r with
    | false => rfl
    | true => rw [if_pos rfl, Bool.true_and, List.append_assoc]; rfl
/-- Whether what is said is so of a cell. -/
def hasC (x : IVal) (c : ICell) : Bool := okR x.f0.f0 x.f0.f1 && (if c.f0 then decide (x.f0.f0 ≤ c.f1) && decide (c.f1 ≤ x.f0.f1) else !x.f1 && c.f1 == 0)
/-- Are the bounds' numbers in order? -/
def ordL : List IVal → List Bool → List Int → Bool
  | _ :: v, y :: m, a :: b :: at' => (decide (a < b) || (decide (a = b) && y)) && ordL v m (b :: at')
  | _, _, _ => true
/-- Is what is said of the segments so of the cells? -/
def hasL (cells : List ICell) : List IVal → List Int → Bool
  | x :: v, a :: b :: at' => ((cells.take b.toNat).drop a.toNat).all (hasC x) && hasL cells v (b :: at')
  | _, _ => true
theorem ordL_le : ∀ (v : List IVal) (m : List Bool) (a : Int) (at' : List Int) (z : Int), m.length = v.length → at'.length = v.length → ordL v m (a :: at') = true → (a :: at').getLast? = some z → a ≤ z
  | [], m, a, at', z, hm, ht, _, hz => by
    obtain rfl := List.eq_nil_of_length_eq_zero ht
    simp at hz; omega
  | x :: v, m, a, at', z, hm, ht, h, hz => by
    match m, at', hm, ht with
    | y :: m, b :: at'', hm, ht =>
      simp only [ordL, Bool.and_eq_true] at h
      rw [List.getLast?_cons_cons] at hz
      have := ordL_le v m b at'' z (by simpa using hm) (by simpa using ht) h.2 hz
      simp only [Bool.or_eq_true, Bool.and_eq_true, decide_eq_true_eq] at h
      omega
theorem drop_pair {l : List Int} {i : Nat} (h : i + 1 < l.length) : ∃ t, l.drop i = rd l (i : Int) :: rd l ((i + 1 : Nat) : Int) :: t ∧ l.drop (i + 1) = rd l ((i + 1 : Nat) : Int) :: t := by
  refine ⟨l.drop (i + 2), ?_, ?_⟩
  · rw [List.drop_eq_getElem_cons (by omega), List.drop_eq_getElem_cons h, rd_at (List.getElem?_eq_getElem (by omega)), rd_at (List.getElem?_eq_getElem h)]
  · rw [List.drop_eq_getElem_cons h, rd_at (List.getElem?_eq_getElem h)]
theorem drop_flag {l : List Bool} {i : Nat} (h : i < l.length) : l.drop i = rdOf false l (i : Int) :: l.drop (i + 1) := by
  rw [List.drop_eq_getElem_cons h, rd_flag (List.getElem?_eq_getElem h)]
theorem s_h2 (cells : List ICell) (b : List (List ISym)) (v : List IVal) (m : List Bool) (at' : List Int) (hn : v.length ≤ 16) (hm : m.length = v.length) (ha : at'.length = v.length + 1) : ∀ (t : List IVal) (i k : Nat), v.drop i = t → t.length < k →
    spec_SegHas.l2 k cells at' (i : Int) b v m = if ordL t (m.drop i) (at'.drop i) = true then spec_SegHas.l3 (k - t.length - 1) cells at' 0 b v m else some false
  | [], i, k, h, hk => by
    have h1 := drop_nil h
    obtain ⟨k, rfl⟩ : ∃ n, k = n + 1 := ⟨k - 1, by omega⟩
    rw [spec_SegHas.l2, if_neg (by omega)]
    simp [ordL]
  | x :: t, i, k, h, hk => by
    haveI : Inhabited IVal := ⟨x⟩
    obtain ⟨h1, h2, h3⟩ := drop_cons h
    rw [List.length_cons] at hk
    obtain ⟨k, rfl⟩ : ∃ n, k = n + 1 := ⟨k - 1, by omega⟩
    have ih := s_h2 cells b v m at' hn hm ha t (i + 1) k h3 (by omega)
    obtain ⟨u, e1, e2⟩ := drop_pair (l := at') (i := i) (by omega)
    have em := drop_flag (l := m) (i := i) (by omega)
    rw [spec_SegHas.l2, if_pos (by omega), if_pos (by omega), if_pos (by omega), w64s i (by omega), if_pos (by omega), if_pos (by omega), ih, em, e1, e2, List.length_cons, show k + 1 - (t.length + 1) - 1 = k - t.length - 1 by omega]
    show _ = if ((decide (rd at' (i : Int) < rd at' ((i + 1 : Nat) : Int)) || (decide (rd at' (i : Int) = rd at' ((i + 1 : Nat) : Int)) && rdOf false m (i : Int))) && ordL t (m.drop (i + 1)) (rd at' ((i + 1 : Nat) : Int) :: u)) = true then _ else _
    generalize rd at' (i : Int) = p
    generalize rd at' ((i + 1 : Nat) : Int) = q
    by_cases g1 : p > q
    · rw [if_pos g1, decide_eq_false (show ¬ p < q by omega), decide_eq_false (show ¬ p = q by omega)]; rfl
    · rw [if_neg g1]
      by_cases g2 : p = q
      · rw [if_pos g2, if_pos (by omega), decide_eq_false (show ¬ p < q by omega), decide_eq_true g2]
        cases rdOf false m (i : Int) <;> rfl
      · rw [if_neg g2, decide_eq_true (show p < q by omega)]; rfl
theorem s_h4 (cells : List ICell) (hc : cells.length ≤ 1048576) (b : List (List ISym)) (v : List IVal) (m : List Bool) (at' : List Int) (hn : v.length ≤ 16) (i : Nat) (x : IVal) (hx : v[i]? = some x) (ha : i + 1 < at'.length) (q : Nat) (hq : rd at' ((i + 1 : Nat) : Int) = (q : Int)) (hqc : q ≤ cells.length) (K2 : Nat) (F : Bool)
    (hF : ∀ k, K2 ≤ k → spec_SegHas.l3 k cells at' ((i + 1 : Nat) : Int) b v m = some F) : ∀ (d c k : Nat), c + d = max c q → K2 + d + 1 ≤ k →
    spec_SegHas.l4 k cells at' (i : Int) (c : Int) b v m = some (((cells.take q).drop c).all (hasC x) && F)
  | 0, c, k, h, hk => by
    obtain ⟨k, rfl⟩ : ∃ n, k = n + 1 := ⟨k - 1, by omega⟩
    have hi := lt_of_get hx
    rw [spec_SegHas.l4, w64s i (by omega), if_pos (by omega), if_pos (by omega), hq, if_neg (by omega), hF k (by omega), List.drop_of_length_le (by rw [List.length_take]; omega)]
    rfl
  | d + 1, c, k, h, hk => by
    obtain ⟨k, rfl⟩ : ∃ n, k = n + 1 := ⟨k - 1, by omega⟩
    have hi := lt_of_get hx
    have hlt : c < cells.length := by omega
    have ih := s_h4 cells hc b v m at' hn i x hx ha q hq hqc K2 F hF d (c + 1) k (by omega) (by omega)
    rw [spec_SegHas.l4, w64s i (by omega), if_pos (by omega), if_pos (by omega), hq, if_pos (by omega), if_pos (by omega), if_pos (by omega), if_pos (by omega), if_pos (by omega), rd_ival hx, rd_icell (List.getElem?_eq_getElem hlt), s_vhas, Option.bind_some, w64s c (by omega), ih]
    have e : (cells.take q).drop c = cells[c] :: (cells.take q).drop (c + 1) := by
      rw [List.drop_eq_getElem_cons (by rw [List.length_take]; omega), List.getElem_take]
    rw [e, List.all_cons]
    show (if hasC x cells[c] = true then _ else _) = _
    cases hasC x cells[c] <;> rfl
theorem s_h3 (cells : List ICell) (hc : cells.length ≤ 1048576) (b : List (List ISym)) (v : List IVal) (m : List Bool) (at' : List Int) (hn : v.length ≤ 16) (ha : at'.length = v.length + 1) (hin : ∀ y ∈ at', 0 ≤ y ∧ y ≤ cells.length) : ∀ (t : List IVal) (i k : Nat), v.drop i = t → t.length * (cells.length + 2) + 1 ≤ k →
    spec_SegHas.l3 k cells at' (i : Int) b v m = some (hasL cells t (at'.drop i))
  | [], i, k, h, hk => by
    have h1 := drop_nil h
    obtain ⟨k, rfl⟩ : ∃ n, k = n + 1 := ⟨k - 1, by omega⟩
    rw [spec_SegHas.l3, if_neg (by omega)]
    simp [hasL]
  | x :: t, i, k, h, hk => by
    haveI : Inhabited IVal := ⟨x⟩
    obtain ⟨h1, h2, h3⟩ := drop_cons h
    rw [List.length_cons, Nat.add_mul, Nat.one_mul] at hk
    obtain ⟨k, rfl⟩ : ∃ n, k = n + 1 := ⟨k - 1, by omega⟩
    obtain ⟨u, e1, e2⟩ := drop_pair (l := at') (i := i) (by omega)
    have hF := fun k hk => s_h3 cells hc b v m at' hn ha hin t (i + 1) k h3 hk
    have hp := hin (rd at' (i : Int)) (by have : rd at' (i : Int) ∈ at'.drop i := by rw [e1]; simp
                                          exact List.mem_of_mem_drop this)
    have hq := hin (rd at' ((i + 1 : Nat) : Int)) (by have : rd at' ((i + 1 : Nat) : Int) ∈ at'.drop (i + 1) := by rw [e2]; simp
                                                      exact List.mem_of_mem_drop this)
    rw [spec_SegHas.l3, if_pos (by omega), if_pos (by omega), if_pos (by omega)]
    obtain ⟨p, ep⟩ := Int.eq_ofNat_of_zero_le hp.1
    obtain ⟨q, eq⟩ := Int.eq_ofNat_of_zero_le hq.1
    have h4 := s_h4 cells hc b v m at' hn i x h2 (by omega) q eq (by omega) (t.length * (cells.length + 2) + 1) _ hF (max p q - p) p k (by omega) (by omega)
    rw [ep, h4, e1, e2, ep, eq]
    rfl
theorem i_h (cells : List ICell) (hc : cells.length ≤ 1048576) (b : List (List ISym)) (v : List IVal) (m : List Bool) (at' : List Int) (hn : v.length ≤ 16) (hm : m.length = v.length) (ha : at'.length = v.length + 1) (hz : at'.getLast? = some (cells.length : Int)) : ∀ (t : List IVal) (i k : Nat), v.drop i = t → (t ≠ [] → 0 ≤ rd at' (i : Int)) → 2 * t.length + 1 ≤ k →
    impl_SegHas.l0 k cells at' v (v.length : Int) (i : Int) b v m = some (ordL t (m.drop i) (at'.drop i) && hasL cells t (at'.drop i))
  | [], i, k, h, _, hk => by
    have h1 := drop_nil h
    obtain ⟨k, rfl⟩ : ∃ n, k = n + 1 := ⟨k - 1, by omega⟩
    rw [impl_SegHas.l0, if_neg (by omega)]
    simp [hasL, ordL]
  | x :: t, i, k, h, h0, hk => by
    haveI : Inhabited IVal := ⟨x⟩
    obtain ⟨h1, h2, h3⟩ := drop_cons h
    have h0 := h0 (by simp)
    rw [List.length_cons] at hk
    obtain ⟨k, rfl⟩ : ∃ n, k = n + 2 := ⟨k - 2, by omega⟩
    obtain ⟨u, e1, e2⟩ := drop_pair (l := at') (i := i) (by omega)
    have em := drop_flag (l := m) (i := i) (by omega)
    have hz2 : (rd at' ((i + 1 : Nat) : Int) :: u).getLast? = some (cells.length : Int) := by
      rw [← e2, List.getLast?_drop, if_neg (by omega)]; exact hz
    have hle := ordL_le t (m.drop (i + 1)) (rd at' ((i + 1 : Nat) : Int)) u (cells.length : Int) (by rw [List.length_drop, hm, ← h3, List.length_drop]) (by
      have := congrArg List.length e2
      rw [List.length_drop, List.length_cons, ha] at this
      rw [← h3, List.length_drop]; omega)
    have ih := fun h => i_h cells hc b v m at' hn hm ha hz t (i + 1) k h3 h (by omega)
    rw [impl_SegHas.l0, if_pos (by omega), if_pos (by omega), if_pos (by omega), if_pos (by omega), w64s i (by omega), if_pos (by omega), if_pos (by omega), rd_ival h2, em, e1]
    rw [e2] at ih
    show _ = some (((decide (rd at' (i : Int) < rd at' ((i + 1 : Nat) : Int)) || (decide (rd at' (i : Int) = rd at' ((i + 1 : Nat) : Int)) && rdOf false m (i : Int))) && ordL t (m.drop (i + 1)) (rd at' ((i + 1 : Nat) : Int) :: u)) && (((cells.take (rd at' ((i + 1 : Nat) : Int)).toNat).drop (rd at' (i : Int)).toNat).all (hasC x) && hasL cells t (rd at' ((i + 1 : Nat) : Int) :: u)))
    generalize rd at' (i : Int) = p at *
    generalize rd at' ((i + 1 : Nat) : Int) = q at *
    have J : p ≤ q → impl_SegHas.j2 (k + 1) cells at' p q v (v.length : Int) (i : Int) false b v m x.f0.f0 x.f0.f1 x.f1 = some (ordL t (m.drop (i + 1)) (q :: u) && (((cells.take q.toNat).drop p.toNat).all (hasC x) && hasL cells t (q :: u))) := by
      intro hpq
      rw [impl_SegHas.j2, if_neg (by decide), if_neg (by omega)]
      by_cases g : q > (cells.length : Int)
      · rw [if_pos g]
        cases ho : ordL t (m.drop (i + 1)) (q :: u) with
        | false => rfl
        | true => have := hle ho hz2; omega
      · rw [if_neg g, if_pos (by omega), if_pos hpq, if_pos (by omega), w64s i (by omega)]
        have ee : impl_Cell.f ((cells.take q.toNat).drop p.toNat) x.f0.f0 x.f0.f1 x.f1 = some (!((cells.take q.toNat).drop p.toNat).all (hasC x)) := by
          unfold impl_Cell.f
          rw [if_pos (by rw [List.length_drop, List.length_take]; omega), List.not_all_eq_any_not]
          congr 2
          funext c
          unfold impl_Cell.q
          rw [i_vhas]; rfl
        rw [ee, Option.bind_some, ih (fun _ => by omega)]
        cases ((cells.take q.toNat).drop p.toNat).all (hasC x) <;> cases ordL t (m.drop (i + 1)) (q :: u) <;> simp
    have T : ∀ p q, impl_SegHas.j2 (k + 1) cells at' p q v (v.length : Int) (i : Int) true b v m x.f0.f0 x.f0.f1 x.f1 = some false := fun p q => by
      rw [impl_SegHas.j2, if_pos rfl]
    by_cases g1 : p > q
    · rw [if_pos g1, T, decide_eq_false (show ¬ p < q by omega), decide_eq_false (show ¬ p = q by omega)]; rfl
    · rw [if_neg g1]
      by_cases g2 : p = q
      · rw [if_pos g2, if_pos (by omega), decide_eq_false (show ¬ p < q by omega), decide_eq_true g2]
        cases hf : rdOf false m (i : Int) with
        | false => rw [Bool.not_false, T]; rfl
        | true => rw [Bool.not_true, J (by omega)]; rfl
      · rw [if_neg g2, J (by omega), decide_eq_true (show p < q by omega)]; rfl
theorem ordL_ge : ∀ (v : List IVal) (m : List Bool) (a : Int) (at' : List Int), m.length = v.length → at'.length = v.length → ordL v m (a :: at') = true → ∀ y ∈ a :: at', a ≤ y
  | [], m, a, at', hm, ht, _, y, hy => by
    obtain rfl := List.eq_nil_of_length_eq_zero ht
    simp at hy; omega
  | x :: v, m, a, at', hm, ht, h, y, hy => by
    match m, at', hm, ht with
    | f :: m, b :: at'', hm, ht =>
      simp only [ordL, Bool.and_eq_true] at h
      rcases List.mem_cons.1 hy with rfl | hy
      · omega
      · have := ordL_ge v m b at'' (by simpa using hm) (by simpa using ht) h.2 y hy
        simp only [Bool.or_eq_true, Bool.and_eq_true, decide_eq_true_eq] at h
        omega
theorem ordL_max : ∀ (v : List IVal) (m : List Bool) (a : Int) (at' : List Int) (z : Int), m.length = v.length → at'.length = v.length → ordL v m (a :: at') = true → (a :: at').getLast? = some z → ∀ y ∈ a :: at', y ≤ z
  | [], m, a, at', z, hm, ht, _, hz, y, hy => by
    obtain rfl := List.eq_nil_of_length_eq_zero ht
    simp at hz hy; omega
  | x :: v, m, a, at', z, hm, ht, h, hz, y, hy => by
    have h1 := ordL_le (x :: v) m a at' z hm ht h hz
    match m, at', hm, ht with
    | f :: m, b :: at'', hm, ht =>
      simp only [ordL, Bool.and_eq_true] at h
      rw [List.getLast?_cons_cons] at hz
      rcases List.mem_cons.1 hy with rfl | hy
      · exact h1
      · exact ordL_max v m b at'' z (by simpa using hm) (by simpa using ht) h.2 hz y hy
theorem valsP_zero {vals : List Int} (h : valsP vals = true) : rd vals 0 = 0 := by
  unfold valsP at h
  simp only [Bool.and_eq_true, beq_iff_eq] at h
  exact h.1.2
theorem same_num {vals : List Int} {r : List ISym} (h : sameB vals r = true) {x : ISym} (hx : x ∈ r) : numT vals (hdT r) = numT vals x :=
  (of_decide_eq_true (List.all_eq_true.1 h x hx)).symm
theorem segHas (size l : Int) (b : List (List ISym)) (v : List IVal) (m : List Bool) (vals : List Int) (cells : List ICell) (h : SmallS b v m) (hv : vals.length ≤ 1048576) (hc : cells.length ≤ 1048576) :
    ∃ K r, ∀ k, K ≤ k → spec_SegHas.f k size l b v m vals cells = some r ∧ impl_SegHas.f k size l b v m vals cells = some r := by
  obtain ⟨K, c, hG, hS⟩ := segOkE size l b v m h
  have bad : ∀ k, 1 ≤ k → spec_SegHas.j0 k vals cells true b v m = some false ∧ impl_SegHas.j0 k vals cells true b v m = some false := fun k hk => by
    obtain ⟨k, rfl⟩ : ∃ n, k = n + 1 := ⟨k - 1, by omega⟩
    rw [spec_SegHas.j0, impl_SegHas.j0, if_pos rfl, if_pos rfl]
    exact ⟨rfl, rfl⟩
  cases c with
  | false =>
    refine ⟨K + 1, false, fun k hk => ?_⟩
    obtain ⟨e1, e2⟩ := hS k (by omega)
    rw [spec_SegHas.f, impl_SegHas.f, e1, e2, Option.bind_some, Option.bind_some, if_neg (by decide), if_neg (by decide)]
    exact bad k (by omega)
  | true =>
    obtain ⟨hg, he⟩ := hG rfl
    have hsz := hg.most
    cases hV : (decide ((vals.length : Int) = size) && valsP vals) with
    | false =>
      refine ⟨K + vals.length + 2, false, fun k hk => ?_⟩
      obtain ⟨e1, e2⟩ := hS k (by omega)
      have e4 : (decide ((vals.length : Int) = size) && (decide (vals.length ≤ 13) && valsP vals)) = false := by
        rw [← hV]
        by_cases g : (vals.length : Int) = size
        · rw [decide_eq_true (show vals.length ≤ 13 by omega)]; rfl
        · rw [decide_eq_false g]; rfl
      obtain ⟨k, rfl⟩ : ∃ n, k = n + 1 := ⟨k - 1, by omega⟩
      rw [spec_SegHas.f, impl_SegHas.f, e1, e2, Option.bind_some, Option.bind_some, if_pos rfl, if_pos rfl, s_valsN k size vals hv (by omega), i_valsN (k + 1) size vals hv (by omega), hV, e4, Option.bind_some, Option.bind_some, if_neg (by decide), if_neg (by decide)]
      exact bad (k + 1) (by omega)
    | true =>
      have e4 : (decide ((vals.length : Int) = size) && (decide (vals.length ≤ 13) && valsP vals)) = true := by
        rw [← hV]
        by_cases g : (vals.length : Int) = size
        · rw [decide_eq_true (show vals.length ≤ 13 by omega)]; rfl
        · rw [decide_eq_false g]; rfl
      have hV' := hV
      rw [Bool.and_eq_true, decide_eq_true_eq] at hV'
      obtain ⟨hlen, hP⟩ := hV'
      have hl := he.len
      by_cases hcl : (cells.length : Int) = rd vals l
      · have hin : ∀ r ∈ b, InV vals r := fun r hr => ⟨he.full r hr, hg.short r hr, fun x hx => by have := (hg.terms r hr x hx).1; omega⟩
        have hb := hg.rows
        have hvl := hg.vals
        have hml := hg.flags
        have hal : (atS vals b).length = v.length + 1 := by rw [atS, List.length_map]; omega
        obtain ⟨r0, t0, hb0, hm0⟩ := he.first
        obtain ⟨pr, rl, hbl, hml2⟩ := he.last
        have hmul : v.length * (cells.length + 2) ≤ 15 * (cells.length + 2) := Nat.mul_le_mul_right _ (by omega)
        refine ⟨K + vals.length + 20000000, b.all (sameB vals) && (ordL v m (atS vals b) && hasL cells v (atS vals b)), fun k hk => ?_⟩
        obtain ⟨e1, e2⟩ := hS k (by omega)
        obtain ⟨k, rfl⟩ : ∃ n, k = n + 1 := ⟨k - 1, by omega⟩
        have hne : ((cells.length : Int) != rd vals l) = false := bne_eq_false_iff_eq.2 hcl
        rw [spec_SegHas.f, impl_SegHas.f, e1, e2, Option.bind_some, Option.bind_some, if_pos rfl, if_pos rfl, s_valsN k size vals hv (by omega), i_valsN (k + 1) size vals hv (by omega), hV, e4, Option.bind_some, Option.bind_some, if_pos rfl, if_pos rfl, if_pos (by omega), if_pos (by omega), if_pos (by omega), if_pos (by omega), hne, spec_SegHas.j0, impl_SegHas.j0, if_neg (by decide), if_neg (by decide), impl_Seg_numbersOf.f]
        obtain ⟨k', q1, q2⟩ := s_h0 vals cells b v m hb hin 15728700 b 0 [] k rfl (by simp) (by omega)
        have q3 := i_h0 vals b hb hin b 0 [] k rfl (by simp) (by omega)
        have q2' : spec_SegHas.l0 k vals cells [] 0 b v m = _ := q2
        have q3' : impl_Seg_numbersOf.l0 k vals [] b (b.length : Int) 0 = _ := q3
        rw [q2', q3']
        cases hA : b.all (sameB vals) with
        | false => exact ⟨rfl, rfl⟩
        | true =>
          have hsame := List.all_eq_true.1 hA
          have hz0 : rd vals 0 = 0 := valsP_zero hP
          have f0 : numT vals (hdT r0) = 0 := by
            rw [same_num (hsame r0 (by rw [hb0]; exact List.mem_cons_self)) hm0]
            show wrap64 (rd vals 0 + 0) = 0
            rw [hz0]; unfold wrap64; omega
          have fl : numT vals (hdT rl) = (cells.length : Int) := by
            rw [same_num (hsame rl (by rw [hbl]; simp)) hml2]
            show wrap64 (rd vals l + 0) = _
            rw [w64 (by omega) (by omega)]; omega
          have ea : atS vals b = 0 :: atS vals t0 := by rw [hb0]; show numT vals (hdT r0) :: atS vals t0 = _; rw [f0]
          have hz : (atS vals b).getLast? = some (cells.length : Int) := by rw [hbl, atS, List.map_append, List.map_singleton, List.getLast?_concat, fl]
          have hal' : (atS vals t0).length = v.length := by rw [ea, List.length_cons] at hal; omega
          rw [if_pos rfl, if_pos rfl, Option.bind_some, List.nil_append, Bool.true_and]
          simp only
          rw [if_pos trivial]
          constructor
          · have e5 := s_h2 cells b v m (atS vals b) (by omega) (by omega) hal v 0 k' rfl (by omega)
            refine e5.trans ?_
            rw [List.drop_zero, List.drop_zero]
            cases hO : ordL v m (atS vals b) with
            | false => rfl
            | true =>
              rw [if_pos rfl, Bool.true_and]
              have hO' := hO
              have hz' := hz
              rw [ea] at hO' hz'
              have g1 := ordL_ge v m 0 _ (by omega) hal' hO'
              have g2 := ordL_max v m 0 _ _ (by omega) hal' hO' hz'
              exact s_h3 cells hc b v m (atS vals b) (by omega) hal (fun y hy => by rw [ea] at hy; exact ⟨g1 y hy, g2 y hy⟩) v 0 _ rfl (by omega)
          · have e6 := i_h cells hc b v m (atS vals b) (by omega) (by omega) hal hz v 0 k rfl (fun _ => by rw [ea]; exact Int.le_refl 0) (by omega)
            exact e6
      · have hne : ((cells.length : Int) != rd vals l) = true := bne_iff_ne.2 hcl
        refine ⟨K + vals.length + 2, false, fun k hk => ?_⟩
        obtain ⟨e1, e2⟩ := hS k (by omega)
        obtain ⟨k, rfl⟩ : ∃ n, k = n + 1 := ⟨k - 1, by omega⟩
        rw [spec_SegHas.f, impl_SegHas.f, e1, e2, Option.bind_some, Option.bind_some, if_pos rfl, if_pos rfl, s_valsN k size vals hv (by omega), i_valsN (k + 1) size vals hv (by omega), hV, e4, Option.bind_some, Option.bind_some, if_pos rfl, if_pos rfl, if_pos (by omega), if_pos (by omega), if_pos (by omega), if_pos (by omega), hne]
        exact bad (k + 1) (by omega)
end Go.Proofs.YtfeloencepgdlaaDoor.Q
namespace Go.Proofs.YtfeloencepgdlaaDoor.Q
open Go.RowKit Go.Proofs.YtfeloencepgdlaaDoorW.PrintWords Go.Proofs.YtfeloencepgdlaaDoorW.PrintLast Go.Proofs.YtfeloencepgdlaaDoorW.PrintMore
open Go.Proofs.YtfeloencepgdlaaDoor.Open
set_option linter.unusedSimpArgs false
set_option linter.unusedVariables false
theorem toInts_l (x0 : List Int) (hn : x0.length < 9223372036854775807) : ∀ n k i (x3 : List Int), x0.length - i = n → n < k → i ≤ x0.length → x3.length = x0.length → x3.take i = x0.take i →
    laws_toIntS.l0 k x0 x3 (i : Int) = some x0
  | 0, k + 1, i, x3, h1, h2, h3, h4, h5 => by
    unfold laws_toIntS.l0
    rw [if_neg (by omega)]
    rw [show i = x0.length by omega] at h5
    rw [List.take_length, ← h4, List.take_length] at h5
    rw [h5]
  | n + 1, k + 1, i, x3, h1, h2, h3, h4, h5 => by
    unfold laws_toIntS.l0
    rw [if_pos (by omega), if_pos (by omega), if_pos (by omega), w64s i (by omega), Int.toNat_natCast]
    refine toInts_l x0 hn n k (i + 1) _ (by omega) (by omega) (by omega) (by simpa using h4) ?_
    have e : x0[i]? = some (rd x0 i) := by unfold rd; simp [show i < x0.length by omega]
    rw [List.take_add_one, List.take_add_one, e, List.take_set_of_le (Nat.le_refl i), h5, List.getElem?_set_self (by omega)]
theorem toInts (k : Nat) (l : List Int) (h : l.length < k) (hn : l.length ≤ 1048576) : laws_toIntS.f k l = some l := by
  unfold laws_toIntS.f
  rw [if_pos (by omega), if_pos (by omega)]
  exact toInts_l l (by omega) l.length k 0 _ (by omega) h (by omega) (by simp) (by simp)
theorem eqInts_l (x : List Int) (hn : x.length < 9223372036854775807) : ∀ n k i, x.length - i = n → n < k → i ≤ x.length → laws_eqIntS.l0 k x x (i : Int) = some true
  | 0, k + 1, i, h1, h2, h3 => by
    unfold laws_eqIntS.l0
    rw [if_neg (by omega)]
  | n + 1, k + 1, i, h1, h2, h3 => by
    unfold laws_eqIntS.l0
    rw [if_pos (by omega), if_pos (by omega), if_pos (by omega), if_pos rfl, w64s i (by omega)]
    exact eqInts_l x hn n k (i + 1) (by omega) (by omega) (by omega)
theorem eqInts (k : Nat) (l : List Int) (h : l.length < k) (hn : l.length ≤ 1048576) : laws_eqIntS.f k l l = some true := by
  unfold laws_eqIntS.f
  rw [if_pos rfl]
  exact eqInts_l l (by omega) l.length k 0 (by omega) h (by omega)
end Go.Proofs.YtfeloencepgdlaaDoor.Q
