/- Plain laws over numbers, lists and texts, for the law FnExactSegDrop: no program in sight. -/
import Derived.Test.YtdmdalapckcobaaDoorWLast
import Derived.Test.YtdmdalapckcobaaDoorWMore
import Derived.Test.YtdmdalapckcobaaDoorWWords
import Derived.Test.YtdmdalapckcobaaDoorQOpen
import Derived.Test.YtdmdalapckcobaaDoorQKinds
import Derived.Test.YtdmdalapckcobaaDoorQx10
import Derived.Test.YtdmdalapckcobaaDoorQx11
import Derived.Test.YtdmdalapckcobaaDoorQx12
import Derived.Test.YtdmdalapckcobaaDoorQx13
import Derived.Test.YtdmdalapckcobaaDoorQx14
import Derived.Test.YtdmdalapckcobaaDoorQx15
import Derived.Test.YtdmdalapckcobaaDoorQx16
import Derived.Test.YtdmdalapckcobaaDoorQx17
import Derived.Test.YtdmdalapckcobaaDoorQx18
import Derived.Test.YtdmdalapckcobaaDoorQx19
import Derived.Test.YtdmdalapckcobaaDoorQx20
import Derived.Test.YtdmdalapckcobaaDoorQx21
import Derived.Test.YtdmdalapckcobaaDoorQx22
import Derived.Test.YtdmdalapckcobaaDoorQx23
import Derived.Test.YtdmdalapckcobaaDoorQx24
import Derived.Test.YtdmdalapckcobaaDoorQx25
import Derived.Test.YtdmdalapckcobaaDoorQXFnExactSegDrop
import Derived.Test.YtdmdalapckcobaaDoorQx4
import Derived.Test.YtdmdalapckcobaaDoorQx5
import Derived.Test.YtdmdalapckcobaaDoorQx6
import Derived.Test.YtdmdalapckcobaaDoorQx7
import Derived.Test.YtdmdalapckcobaaDoorQx8
import Derived.Test.YtdmdalapckcobaaDoorQx9
namespace Go.Proofs.YtdmdalapckcobaaDoor.Q
open Go.RowKit Go.Proofs.YtdmdalapckcobaaDoorW.PrintWords Go.Proofs.YtdmdalapckcobaaDoorW.PrintLast Go.Proofs.YtdmdalapckcobaaDoorW.PrintMore
open Go.Proofs.YtdmdalapckcobaaDoor.Open
set_option linter.unusedSimpArgs false
set_option linter.unusedVariables false
theorem drop_cons {α : Type} {l : List α} {i : Nat} {x : α} {t : List α} (h : l.drop i = x :: t) : i < l.length ∧ l[i]? = some x ∧ l.drop (i + 1) = t := by
  have h1 : i < l.length := by
    rcases Nat.lt_or_ge i l.length with h1 | h1
    · exact h1
    · rw [List.drop_eq_nil_of_le h1] at h; simp at h
  refine ⟨h1, ?_, ?_⟩
  · have := congrArg (fun z => z[0]?) h
    simpa using this
  · have := congrArg List.tail h
    simpa using this
theorem drop_nil {α : Type} {l : List α} {i : Nat} (h : l.drop i = []) : l.length ≤ i := by simpa using h
theorem w64 {n : Int} (h1 : -9223372036854775808 ≤ n) (h2 : n ≤ 9223372036854775807) : wrap64 n = n := by unfold wrap64; omega
theorem w64s (i : Nat) (h : i < 9223372036854775807) : wrap64 ((i : Int) + 1) = ((i + 1 : Nat) : Int) := by
  rw [w64 (by omega) (by omega)]; omega
end Go.Proofs.YtdmdalapckcobaaDoor.Q
namespace Go.Proofs.YtdmdalapckcobaaDoor.Q
open Go.RowKit Go.Proofs.YtdmdalapckcobaaDoorW.PrintWords Go.Proofs.YtdmdalapckcobaaDoorW.PrintLast Go.Proofs.YtdmdalapckcobaaDoorW.PrintMore
open Go.Proofs.YtdmdalapckcobaaDoor.Open
set_option linter.unusedSimpArgs false
set_option linter.unusedVariables false
theorem copy_loop {α β : Type} (l : List α) (c : α → β) (K0 : Nat) (F : Nat → List β → Int → Option (List β))
    (hs : ∀ (k : Nat) (x3 : List β) (i : Nat) (x : α), l[i]? = some x → x3.length = l.length → K0 ≤ k → F (k + 1) x3 (i : Int) = F k (x3.set i (c x)) ((i + 1 : Nat) : Int))
    (he : ∀ (k : Nat) (x3 : List β), F (k + 1) x3 (l.length : Int) = some x3) :
    ∀ (d i : Nat) (x3 : List β) (k : Nat), i + d = l.length → x3.length = l.length → K0 + d < k → F k x3 (i : Int) = some (x3.take i ++ (l.drop i).map c)
  | 0, i, x3, k, h, hx, hk => by
    obtain ⟨k, rfl⟩ : ∃ m, k = m + 1 := ⟨k - 1, by omega⟩
    obtain rfl : i = l.length := by omega
    rw [he, List.take_of_length_le (by omega), List.drop_of_length_le (by omega)]
    simp
  | d + 1, i, x3, k, h, hx, hk => by
    obtain ⟨k, rfl⟩ : ∃ m, k = m + 1 := ⟨k - 1, by omega⟩
    have hi : i < l.length := by omega
    rw [hs k x3 i l[i] (List.getElem?_eq_getElem hi) hx (by omega), copy_loop l c K0 F hs he d (i + 1) _ k (by omega) (by rw [List.length_set]; exact hx) (by omega)]
    rw [List.take_add_one, List.take_set_of_le (Nat.le_refl i), List.getElem?_set_self (by omega), List.drop_eq_getElem_cons hi, List.append_assoc]
    rfl
theorem copy_all {α β : Type} (l : List α) (c : α → β) (K0 : Nat) (F : Nat → List β → Int → Option (List β))
    (hs : ∀ (k : Nat) (x3 : List β) (i : Nat) (x : α), l[i]? = some x → x3.length = l.length → K0 ≤ k → F (k + 1) x3 (i : Int) = F k (x3.set i (c x)) ((i + 1 : Nat) : Int))
    (he : ∀ (k : Nat) (x3 : List β), F (k + 1) x3 (l.length : Int) = some x3) (x3 : List β) (hx : x3.length = l.length) (k : Nat) (hk : K0 + l.length < k) : F k x3 0 = some (l.map c) := by
  have := copy_loop l c K0 F hs he l.length 0 x3 k (by omega) hx hk
  simpa using this
theorem true_loop (n K0 : Nat) (F : Nat → Int → Option Bool) (hs : ∀ (k i : Nat), i < n → K0 ≤ k → F (k + 1) (i : Int) = F k ((i + 1 : Nat) : Int)) (he : ∀ k, F (k + 1) (n : Int) = some true) :
    ∀ (d i k : Nat), i + d = n → K0 + d < k → F k (i : Int) = some true
  | 0, i, k, h, hk => by
    obtain ⟨k, rfl⟩ : ∃ m, k = m + 1 := ⟨k - 1, by omega⟩
    obtain rfl : i = n := by omega
    exact he k
  | d + 1, i, k, h, hk => by
    obtain ⟨k, rfl⟩ : ∃ m, k = m + 1 := ⟨k - 1, by omega⟩
    rw [hs k i (by omega) (by omega)]
    exact true_loop n K0 F hs he d (i + 1) k (by omega) (by omega)
theorem true_all (n K0 : Nat) (F : Nat → Int → Option Bool) (hs : ∀ (k i : Nat), i < n → K0 ≤ k → F (k + 1) (i : Int) = F k ((i + 1 : Nat) : Int)) (he : ∀ k, F (k + 1) (n : Int) = some true) (k : Nat) (hk : K0 + n < k) : F k 0 = some true :=
  true_loop n K0 F hs he n 0 k (by omega) hk
end Go.Proofs.YtdmdalapckcobaaDoor.Q
namespace Go.Proofs.YtdmdalapckcobaaDoor.Q
open Go.RowKit Go.Proofs.YtdmdalapckcobaaDoorW.PrintWords Go.Proofs.YtdmdalapckcobaaDoorW.PrintLast Go.Proofs.YtdmdalapckcobaaDoorW.PrintMore
open Go.Proofs.YtdmdalapckcobaaDoor.Open
set_option linter.unusedSimpArgs false
set_option linter.unusedVariables false
abbrev LSym := S65
abbrev ISym := S54
abbrev LVal := S111
abbrev IVal := S90
def cSym (x : LSym) : ISym := ⟨x.f0, x.f1⟩
def cVal (x : LVal) : IVal := ⟨⟨x.f0.f0, x.f0.f1⟩, x.f1⟩
theorem rd_lsym {l : List LSym} {i : Nat} {x : LSym} (h : l[i]? = some x) : rd_T65 l (i : Int) = x := by
  unfold rd_T65; simp [List.getD, h]
theorem rd_isym {l : List ISym} {i : Nat} {x : ISym} (h : l[i]? = some x) : rd_T54 l (i : Int) = x := by
  unfold rd_T54; simp [List.getD, h]
theorem rd_lval {l : List LVal} {i : Nat} {x : LVal} (h : l[i]? = some x) : rd_T111 l (i : Int) = x := by
  unfold rd_T111; simp [List.getD, h]
theorem rd_ival {l : List IVal} {i : Nat} {x : IVal} (h : l[i]? = some x) : rd_T90 l (i : Int) = x := by
  unfold rd_T90; simp [List.getD, h]
theorem rd_lrow {l : List (List LSym)} {i : Nat} {x : List LSym} (h : l[i]? = some x) : rd_L2 l (i : Int) = x := by
  unfold rd_L2; simp [List.getD, h]
theorem rd_irow {l : List (List ISym)} {i : Nat} {x : List ISym} (h : l[i]? = some x) : rd_L7 l (i : Int) = x := by
  unfold rd_L7; simp [List.getD, h]
theorem rd_flag {l : List Bool} {i : Nat} {x : Bool} (h : l[i]? = some x) : rdOf false l (i : Int) = x := by
  unfold rdOf; simp [List.getD, h]
theorem lt_of_get {α : Type} {l : List α} {i : Nat} {x : α} (h : l[i]? = some x) : i < l.length := (List.getElem?_eq_some_iff.1 h).1
theorem to_symS (l : List LSym) (hn : l.length ≤ 1048576) (k : Nat) (hk : l.length < k) : laws_toSymS.f k l = some (l.map cSym) := by
  rw [laws_toSymS.f, if_pos (by omega), if_pos (by omega)]
  refine copy_all l cSym 0 (fun k x3 i => laws_toSymS.l0 k l x3 i) (fun k x3 i x h hx _ => ?_) (fun k x3 => ?_) _ (by simp) k (by omega)
  · have hi := lt_of_get h
    show laws_toSymS.l0 (k + 1) l x3 (i : Int) = _
    rw [laws_toSymS.l0, if_pos (by omega), if_pos (by omega), rd_lsym h, laws_toSym.f, Option.bind_some, if_pos (by omega), w64s i (by omega), Int.toNat_natCast]; rfl
  · show laws_toSymS.l0 (k + 1) l x3 (l.length : Int) = _
    rw [laws_toSymS.l0, if_neg (by omega)]
theorem to_symSS (l : List (List LSym)) (hn : l.length ≤ 1048576) (hr : ∀ r ∈ l, r.length ≤ 1048576) (k : Nat) (hk : 1048577 + l.length < k) : laws_toSymSS.f k l = some (l.map (·.map cSym)) := by
  rw [laws_toSymSS.f, if_pos (by omega), if_pos (by omega)]
  refine copy_all l (·.map cSym) 1048577 (fun k x3 i => laws_toSymSS.l0 k l x3 i) (fun k x3 i x h hx hk => ?_) (fun k x3 => ?_) _ (by simp) k (by omega)
  · have hi := lt_of_get h
    show laws_toSymSS.l0 (k + 1) l x3 (i : Int) = _
    have hm := hr x (List.mem_of_getElem? h)
    rw [laws_toSymSS.l0, if_pos (by omega), if_pos (by omega), rd_lrow h, to_symS x hm k (by omega), Option.bind_some, if_pos (by omega), w64s i (by omega), Int.toNat_natCast]
  · show laws_toSymSS.l0 (k + 1) l x3 (l.length : Int) = _
    rw [laws_toSymSS.l0, if_neg (by omega)]
theorem to_valS (l : List LVal) (hn : l.length ≤ 1048576) (k : Nat) (hk : l.length < k) : laws_toValS.f k l = some (l.map cVal) := by
  rw [laws_toValS.f, if_pos (by omega), if_pos (by omega)]
  refine copy_all l cVal 0 (fun k x3 i => laws_toValS.l0 k l x3 i) (fun k x3 i x h hx _ => ?_) (fun k x3 => ?_) _ (by simp) k (by omega)
  · have hi := lt_of_get h
    show laws_toValS.l0 (k + 1) l x3 (i : Int) = _
    rw [laws_toValS.l0, if_pos (by omega), if_pos (by omega), rd_lval h, laws_toVal.f, laws_toRange.f, Option.bind_some, Option.bind_some, if_pos (by omega), w64s i (by omega), Int.toNat_natCast]; rfl
  · show laws_toValS.l0 (k + 1) l x3 (l.length : Int) = _
    rw [laws_toValS.l0, if_neg (by omega)]
theorem to_boolS (l : List Bool) (hn : l.length ≤ 1048576) (k : Nat) (hk : l.length < k) : laws_toBoolS.f k l = some l := by
  rw [laws_toBoolS.f, if_pos (by omega), if_pos (by omega)]
  have := copy_all l (fun b => b) 0 (fun k x3 i => laws_toBoolS.l0 k l x3 i) (fun k x3 i x h hx _ => ?_) (fun k x3 => ?_) (List.replicate ((l.length : Int) : Int).toNat false) (by simp) k (by omega)
  · rw [List.map_id'] at this; exact this
  · have hi := lt_of_get h
    show laws_toBoolS.l0 (k + 1) l x3 (i : Int) = _
    rw [laws_toBoolS.l0, if_pos (by omega), if_pos (by omega), rd_flag h, if_pos (by omega), w64s i (by omega), Int.toNat_natCast]
  · show laws_toBoolS.l0 (k + 1) l x3 (l.length : Int) = _
    rw [laws_toBoolS.l0, if_neg (by omega)]
theorem eq_symS (l : List ISym) (hn : l.length ≤ 1048576) (k : Nat) (hk : l.length < k) : laws_eqSymS.f k l l = some true := by
  rw [laws_eqSymS.f, if_pos rfl]
  refine true_all l.length 0 (fun k i => laws_eqSymS.l0 k l l i) (fun k i hi _ => ?_) (fun k => ?_) k (by omega)
  · show laws_eqSymS.l0 (k + 1) l l (i : Int) = _
    rw [laws_eqSymS.l0, if_pos (by omega), if_pos (by omega), if_pos (by omega), laws_eqSym.f, if_pos rfl, if_pos rfl, Option.bind_some, if_pos rfl, w64s i (by omega)]
  · show laws_eqSymS.l0 (k + 1) l l (l.length : Int) = _
    rw [laws_eqSymS.l0, if_neg (by omega)]
theorem eq_symSS (l : List (List ISym)) (hn : l.length ≤ 1048576) (hr : ∀ r ∈ l, r.length ≤ 1048576) (k : Nat) (hk : 1048577 + l.length < k) : laws_eqSymSS.f k l l = some true := by
  rw [laws_eqSymSS.f, if_pos rfl]
  refine true_all l.length 1048577 (fun k i => laws_eqSymSS.l0 k l l i) (fun k i hi hk => ?_) (fun k => ?_) k (by omega)
  · show laws_eqSymSS.l0 (k + 1) l l (i : Int) = _
    have h : l[i]? = some l[i] := List.getElem?_eq_getElem hi
    have hm := hr l[i] (List.getElem_mem hi)
    rw [laws_eqSymSS.l0, if_pos (by omega), if_pos (by omega), if_pos (by omega), rd_irow h, eq_symS _ hm k (by omega), Option.bind_some, if_pos rfl, w64s i (by omega)]
  · show laws_eqSymSS.l0 (k + 1) l l (l.length : Int) = _
    rw [laws_eqSymSS.l0, if_neg (by omega)]
theorem eq_valS (l : List IVal) (hn : l.length ≤ 1048576) (k : Nat) (hk : l.length < k) : laws_eqValS.f k l l = some true := by
  rw [laws_eqValS.f, if_pos rfl]
  refine true_all l.length 0 (fun k i => laws_eqValS.l0 k l l i) (fun k i hi _ => ?_) (fun k => ?_) k (by omega)
  · show laws_eqValS.l0 (k + 1) l l (i : Int) = _
    rw [laws_eqValS.l0, if_pos (by omega), if_pos (by omega), if_pos (by omega), laws_eqVal.f, laws_eqRange.f, if_pos rfl, if_pos rfl, Option.bind_some, if_pos rfl, if_neg (by simp), Option.bind_some, if_pos rfl, w64s i (by omega)]
  · show laws_eqValS.l0 (k + 1) l l (l.length : Int) = _
    rw [laws_eqValS.l0, if_neg (by omega)]
theorem eq_boolS (l : List Bool) (hn : l.length ≤ 1048576) (k : Nat) (hk : l.length < k) : laws_eqBoolS.f k l l = some true := by
  rw [laws_eqBoolS.f, if_pos rfl]
  refine true_all l.length 0 (fun k i => laws_eqBoolS.l0 k l l i) (fun k i hi _ => ?_) (fun k => ?_) k (by omega)
  · show laws_eqBoolS.l0 (k + 1) l l (i : Int) = _
    rw [laws_eqBoolS.l0, if_pos (by omega), if_pos (by omega), if_pos (by omega), if_neg (by simp), w64s i (by omega)]
  · show laws_eqBoolS.l0 (k + 1) l l (l.length : Int) = _
    rw [laws_eqBoolS.l0, if_neg (by omega)]
/-- A row of segments that isn't too big. -/
structure SmallS (b : List (List ISym)) (v : List IVal) (m : List Bool) : Prop where
  rows : b.length ≤ 1048576
  each : ∀ r ∈ b, r.length ≤ 1048576
  vals : v.length ≤ 1048576
  flags : m.length ≤ 1048576
theorem eq_seg {b : List (List ISym)} {v : List IVal} {m : List Bool} (h : SmallS b v m) (k : Nat) (hk : 2097160 < k) : laws_eqSeg.f k b v m b v m = some true := by
  have h1 := h.rows
  have h3 := h.vals
  have h4 := h.flags
  rw [laws_eqSeg.f, eq_symSS b h1 h.each k (by omega), Option.bind_some, if_pos rfl, eq_valS v h3 k (by omega), Option.bind_some, if_pos rfl, eq_boolS m h4 k (by omega), Option.bind_some, if_pos rfl]
theorem sz_symSS (l : List (List LSym)) (hn : l.length ≤ 1048576) (hr : ∀ r ∈ l, r.length ≤ 9223372036854775807) : ∀ (d i k : Nat) (left : Int), i + d = l.length → 0 ≤ left → left ≤ 1048576 → d < k →
    ∃ r, laws_szSymSS.l0 k l left (i : Int) = some r ∧ r ≤ left ∧ (0 ≤ r → ∀ x ∈ l.drop i, x.length ≤ 1048576)
  | 0, i, k, left, h, h0, h1, hk => by
    obtain ⟨k, rfl⟩ : ∃ m, k = m + 1 := ⟨k - 1, by omega⟩
    refine ⟨left, by rw [laws_szSymSS.l0, if_neg (by omega)], Int.le_refl _, fun _ x hx => ?_⟩
    rw [List.drop_of_length_le (by omega)] at hx; cases hx
  | d + 1, i, k, left, h, h0, h1, hk => by
    obtain ⟨k, rfl⟩ : ∃ m, k = m + 1 := ⟨k - 1, by omega⟩
    have hi : i < l.length := by omega
    have hm := hr l[i] (List.getElem_mem hi)
    have hg : l[i]? = some l[i] := List.getElem?_eq_getElem hi
    have e : wrap64 (left - (l[i].length : Int)) = left - (l[i].length : Int) := w64 (by omega) (by omega)
    by_cases hl : left - (l[i].length : Int) < 0
    · exact ⟨-1, by rw [laws_szSymSS.l0, if_pos (by omega), if_pos (by omega), rd_lrow hg, laws_szSymS.f, e, if_pos hl, Option.bind_some, if_pos (by decide)], by omega, fun h => by omega⟩
    · obtain ⟨r, q1, q2, q3⟩ := sz_symSS l hn hr d (i + 1) k (left - (l[i].length : Int)) (by omega) (by omega) (by omega) (by omega)
      refine ⟨r, by rw [laws_szSymSS.l0, if_pos (by omega), if_pos (by omega), rd_lrow hg, laws_szSymS.f, e, if_neg hl, Option.bind_some, if_neg hl, w64s i (by omega)]; exact q1, by omega, fun hr0 x hx => ?_⟩
      rw [List.drop_eq_getElem_cons hi] at hx
      rcases List.mem_cons.1 hx with rfl | hx
      · omega
      · exact q3 hr0 x hx
theorem size_seg (b : List (List LSym)) (v : List LVal) (m : List Bool) (hb : b.length ≤ maxLen) (hr : ∀ r ∈ b, r.length ≤ maxLen) (hv : v.length ≤ maxLen) (hm : m.length ≤ maxLen) :
    ∃ r, (∀ k, 1048577 < k → laws_szSeg.f k b v m 1048576 = some r) ∧ r ≤ 1048576 ∧ (0 ≤ r → b.length ≤ 1048576 ∧ (∀ x ∈ b, x.length ≤ 1048576) ∧ v.length ≤ 1048576 ∧ m.length ≤ 1048576) := by
  simp only [maxLen] at hb hr hv hm
  have e0 : wrap64 ((1048576 : Int) - (b.length : Int)) = 1048576 - (b.length : Int) := w64 (by omega) (by omega)
  by_cases h1 : (1048576 : Int) - (b.length : Int) < 0
  · exact ⟨-1, fun k _ => by rw [laws_szSeg.f, laws_szSymSS.f, e0, if_pos h1, Option.bind_some, if_pos (by decide)], by omega, fun h => by omega⟩
  · have hs := fun k hk => sz_symSS b (by omega) (fun x hx => by have := hr x hx; omega) b.length 0 k (1048576 - (b.length : Int)) (by omega) (by omega) (by omega) hk
    obtain ⟨r0, q1, q2, q3⟩ := hs (b.length + 1) (by omega)
    have q1' : ∀ k, 1048577 < k → laws_szSymSS.l0 k b (1048576 - (b.length : Int)) 0 = some r0 := by
      intro k hk
      obtain ⟨r', p1, _, _⟩ := hs k (by omega)
      have up : ∀ n, laws_szSymSS.l0 (b.length + 1 + n) b (1048576 - (b.length : Int)) 0 = some r0 := by
        intro n
        induction n with
        | zero => exact q1
        | succ n ih => exact laws_szSymSS.mono_l _ _ _ _ _ ih
      have := up (k - (b.length + 1))
      rwa [show b.length + 1 + (k - (b.length + 1)) = k by omega] at this
    by_cases h2 : r0 < 0
    · exact ⟨-1, fun k hk => by rw [laws_szSeg.f, laws_szSymSS.f, e0, if_neg h1, q1' k hk, Option.bind_some, if_pos h2], by omega, fun h => by omega⟩
    · have e1 : wrap64 (r0 - (v.length : Int)) = r0 - (v.length : Int) := w64 (by omega) (by omega)
      by_cases h3 : r0 - (v.length : Int) < 0
      · exact ⟨-1, fun k hk => by rw [laws_szSeg.f, laws_szSymSS.f, e0, if_neg h1, q1' k hk, Option.bind_some, if_neg h2, laws_szValS.f, e1, if_pos h3, Option.bind_some, if_pos (by decide)], by omega, fun h => by omega⟩
      · have e2 : wrap64 (r0 - (v.length : Int) - (m.length : Int)) = r0 - (v.length : Int) - (m.length : Int) := w64 (by omega) (by omega)
        by_cases h4 : r0 - (v.length : Int) - (m.length : Int) < 0
        · exact ⟨-1, fun k hk => by rw [laws_szSeg.f, laws_szSymSS.f, e0, if_neg h1, q1' k hk, Option.bind_some, if_neg h2, laws_szValS.f, e1, if_neg h3, Option.bind_some, if_neg h3, laws_szBoolS.f, e2, if_pos h4, Option.bind_some, if_pos (by decide)], by omega, fun h => by omega⟩
        · refine ⟨r0 - (v.length : Int) - (m.length : Int), fun k hk => by rw [laws_szSeg.f, laws_szSymSS.f, e0, if_neg h1, q1' k hk, Option.bind_some, if_neg h2, laws_szValS.f, e1, if_neg h3, Option.bind_some, if_neg h3, laws_szBoolS.f, e2, if_neg h4, Option.bind_some, if_neg h4], by omega, fun _ => ⟨by omega, fun x hx => q3 (by omega) x (by simpa using hx), by omega, by omega⟩⟩
theorem to_seg (b : List (List LSym)) (v : List LVal) (m : List Bool) (h1 : b.length ≤ 1048576) (h2 : ∀ x ∈ b, x.length ≤ 1048576) (h3 : v.length ≤ 1048576) (h4 : m.length ≤ 1048576) (k : Nat) (hk : 2097160 < k) :
    laws_toSeg.f k b v m = some (b.map (·.map cSym), v.map cVal, m) := by
  rw [laws_toSeg.f, to_symSS b h1 h2 k (by omega), Option.bind_some, to_valS v h3 k (by omega), Option.bind_some, to_boolS m h4 k (by omega), Option.bind_some]
theorem smallS (b : List (List LSym)) (v : List LVal) (m : List Bool) (h1 : b.length ≤ 1048576) (h2 : ∀ x ∈ b, x.length ≤ 1048576) (h3 : v.length ≤ 1048576) (h4 : m.length ≤ 1048576) : SmallS (b.map (·.map cSym)) (v.map cVal) m :=
  ⟨by simpa using h1, fun r hr => by obtain ⟨x, hx, rfl⟩ := List.mem_map.1 hr; simpa using h2 x hx, by simpa using h3, h4⟩
end Go.Proofs.YtdmdalapckcobaaDoor.Q
namespace Go.Proofs.YtdmdalapckcobaaDoor.Q
open Go.RowKit Go.Proofs.YtdmdalapckcobaaDoorW.PrintWords Go.Proofs.YtdmdalapckcobaaDoorW.PrintLast Go.Proofs.YtdmdalapckcobaaDoorW.PrintMore
open Go.Proofs.YtdmdalapckcobaaDoor.Open
set_option linter.unusedSimpArgs false
set_option linter.unusedVariables false
def okR (lo hi : Int) : Bool := (lo == 1 && hi == 0) || (decide (-1000000 ≤ lo) && decide (hi ≤ 1000000) && decide (lo ≤ hi))
theorem okR_iff (lo hi : Int) : okR lo hi = true ↔ (lo = 1 ∧ hi = 0) ∨ (-1000000 ≤ lo ∧ hi ≤ 1000000 ∧ lo ≤ hi) := by
  simp [okR, and_assoc]
theorem inR (a b c : Int) : impl_inRange.f a b c = some (decide (b ≤ a) && decide (a ≤ c)) := by
  unfold impl_inRange.f
  by_cases h : b ≤ a <;> simp [h]
theorem btw (a b c : Int) : spec_l01Between.f a b c = some (decide (b ≤ a) && decide (a ≤ c)) := by
  unfold spec_l01Between.f
  by_cases h : b ≤ a <;> simp [h]
theorem i_val (a : Int) : impl_isVal.f a = some (decide (-1000000 ≤ a) && decide (a ≤ 1000000)) := by
  unfold impl_isVal.f
  rw [inR]; rfl
theorem s_val (a : Int) : spec_l05Val.f a = some (decide (-1000000 ≤ a) && decide (a ≤ 1000000)) := by
  unfold spec_l05Val.f
  rw [btw]; rfl
theorem i_ok (a b : Int) : impl_RangeOk.f a b = some (okR a b) := by
  unfold impl_RangeOk.f
  simp only [i_val, Option.bind_some]
  by_cases h : (a == 1 && b == 0) = true
  · rw [if_pos h]; simp [okR, h]
  · rw [if_neg h]
    have e : okR a b = (decide (-1000000 ≤ a) && decide (b ≤ 1000000) && decide (a ≤ b)) := by
      unfold okR
      rw [Bool.eq_false_iff.mpr h]; rfl
    rw [e]
    (repeat' split) <;> simp_all <;> omega
theorem s_is (a b : Int) : spec_l06Is.f a b = some (decide (a ≤ b)) := rfl
theorem s_ok (a b : Int) : spec_RangeOk.f a b = some (okR a b) := by
  rw [← i_ok]
  unfold spec_RangeOk.f impl_RangeOk.f
  simp only [s_is, s_val, i_val, Option.bind_some]
  by_cases h1 : a = 1
  · by_cases h2 : b = 0
    · simp [h1, h2]
    · simp only [h1, h2, if_true, if_false]
      (repeat' split) <;> simp_all <;> omega
  · simp only [h1, if_false]
    (repeat' split) <;> simp_all <;> omega
/-- A range between two ends, cut down. -/
def mkR (lo hi : Int) : Int × Int := if mx lo (-1000000) > mn hi 1000000 then (1, 0) else (mx lo (-1000000), mn hi 1000000)
theorem mkR_in {lo hi : Int} (h1 : -1000000 ≤ lo) (h2 : hi ≤ 1000000) (h3 : lo ≤ hi) : mkR lo hi = (lo, hi) := by
  unfold mkR mx mn
  (repeat' split) <;> first | omega | (simp; omega) | simp_all
end Go.Proofs.YtdmdalapckcobaaDoor.Q
namespace Go.Proofs.YtdmdalapckcobaaDoor.Q
open Go.RowKit Go.Proofs.YtdmdalapckcobaaDoorW.PrintWords Go.Proofs.YtdmdalapckcobaaDoorW.PrintLast Go.Proofs.YtdmdalapckcobaaDoorW.PrintMore
open Go.Proofs.YtdmdalapckcobaaDoor.Open
set_option linter.unusedSimpArgs false
set_option linter.unusedVariables false
theorem i_vok (a b : Int) (c : Bool) : impl_ValOk.f a b c = some (okR a b) := by unfold impl_ValOk.f; rw [i_ok]; rfl
theorem s_vok (a b : Int) (c : Bool) : spec_ValOk.f a b c = some (okR a b) := by unfold spec_ValOk.f; rw [s_ok]; rfl
end Go.Proofs.YtdmdalapckcobaaDoor.Q
namespace Go.Proofs.YtdmdalapckcobaaDoor.Q
open Go.RowKit Go.Proofs.YtdmdalapckcobaaDoorW.PrintWords Go.Proofs.YtdmdalapckcobaaDoorW.PrintLast Go.Proofs.YtdmdalapckcobaaDoorW.PrintMore
open Go.Proofs.YtdmdalapckcobaaDoor.Open
set_option linter.unusedSimpArgs false
set_option linter.unusedVariables false
def isSym (x : ISym) (a b : Int) : Bool := x.f0 == a && x.f1 == b
def hasS (l : List ISym) (a b : Int) : Bool := l.any fun x => isSym x a b
theorem isSym_iff {x : ISym} {a b : Int} : isSym x a b = true ↔ x = ⟨a, b⟩ := by
  cases x; unfold isSym; simp
theorem hasS_iff {l : List ISym} {a b : Int} : hasS l a b = true ↔ (⟨a, b⟩ : ISym) ∈ l := by
  unfold hasS
  rw [List.any_eq_true]
  constructor
  · rintro ⟨x, hx, h⟩; rw [isSym_iff] at h; subst h; exact hx
  · intro h; exact ⟨_, h, isSym_iff.2 rfl⟩
/-- The first place from i on, -1 without one. -/
def findS (l : List ISym) (a b : Int) (i : Nat) : Int := match l with | [] => -1 | x :: t => if isSym x a b = true then (i : Int) else findS t a b (i + 1)
theorem findS_has (a b : Int) : ∀ (l : List ISym) (i : Nat), (decide (findS l a b i ≥ 0)) = hasS l a b
  | [], i => by unfold findS hasS; rfl
  | x :: t, i => by
    unfold findS hasS
    rw [List.any_cons]
    by_cases h : isSym x a b = true
    · rw [if_pos h, h, Bool.true_or]; exact decide_eq_true (by omega)
    · rw [if_neg h, findS_has a b t (i + 1)]
      simp only [Bool.not_eq_true] at h
      rw [h, Bool.false_or]; rfl
theorem s_find (l : List ISym) (hn : l.length ≤ 100000000000) (a b : Int) : ∀ (t : List ISym) (i k : Nat), l.drop i = t → t.length < k → spec_l10Find.l0 k l (i : Int) a b = some (findS t a b i)
  | [], i, k, h, hk => by
    have h2 := drop_nil h
    obtain ⟨k, rfl⟩ : ∃ m, k = m + 1 := ⟨k - 1, by simp at hk; omega⟩
    rw [spec_l10Find.l0, if_neg (by omega)]; rfl
  | x :: t, i, k, h, hk => by
    haveI : Inhabited ISym := ⟨x⟩
    obtain ⟨h2, h3, h4⟩ := drop_cons h
    obtain ⟨k, rfl⟩ : ∃ m, k = m + 1 := ⟨k - 1, by simp at hk; omega⟩
    rw [spec_l10Find.l0, if_pos (by omega), if_pos (by omega), rd_isym h3, w64s i (by omega), s_find l hn a b t (i + 1) k h4 (by simp at hk; omega), findS]
    unfold isSym
    split <;> rfl
theorem i_find (l : List ISym) (hn : l.length ≤ 100000000000) (a b : Int) : ∀ (t : List ISym) (i k : Nat), l.drop i = t → t.length < k → impl_Sym_81.l0 k l (l.length : Int) (i : Int) a b = some (findS t a b i)
  | [], i, k, h, hk => by
    have h2 := drop_nil h
    obtain ⟨k, rfl⟩ : ∃ m, k = m + 1 := ⟨k - 1, by simp at hk; omega⟩
    rw [impl_Sym_81.l0, if_neg (by omega)]; rfl
  | x :: t, i, k, h, hk => by
    haveI : Inhabited ISym := ⟨x⟩
    obtain ⟨h2, h3, h4⟩ := drop_cons h
    obtain ⟨k, rfl⟩ : ∃ m, k = m + 1 := ⟨k - 1, by simp at hk; omega⟩
    rw [impl_Sym_81.l0, if_pos (by omega), if_pos (by omega), if_pos (by omega), rd_isym h3, w64s i (by omega), i_find l hn a b t (i + 1) k h4 (by simp at hk; omega), findS]
    have e : (a == x.f0 && (b == x.f1)) = isSym x a b := by unfold isSym; rw [Bool.beq_comm, Bool.beq_comm (a := b)]
    rw [e]
    split <;> rfl
theorem i_contains (l : List ISym) (hn : l.length ≤ 100000000000) (a b : Int) (k : Nat) (hk : l.length < k) : impl_Sym_35.f k l a b = some (hasS l a b) := by
  rw [impl_Sym_35.f, impl_Sym_81.f]
  have := i_find l hn a b l 0 k rfl hk
  rw [show ((0 : Nat) : Int) = 0 from rfl] at this
  rw [this, Option.bind_some, findS_has]
/-- The first row from i on in which a term stands, -1 without one. -/
def inS (b : List (List ISym)) (x y : Int) (i : Nat) : Int := match b with | [] => -1 | r :: t => if hasS r x y = true then (i : Int) else inS t x y (i + 1)
theorem s_in_l (b : List (List ISym)) (v : List IVal) (m : List Bool) (h : SmallS b v m) (x y : Int) : ∀ (t : List (List ISym)) (i k : Nat), b.drop i = t → 1048600 + t.length < k → spec_l10In.l0 k (i : Int) b v m x y = some (inS t x y i)
  | [], i, k, hd, hk => by
    have h2 := drop_nil hd
    obtain ⟨k, rfl⟩ : ∃ m, k = m + 1 := ⟨k - 1, by simp at hk; omega⟩
    rw [spec_l10In.l0, if_neg (by omega)]; rfl
  | r :: t, i, k, hd, hk => by
    obtain ⟨h2, h3, h4⟩ := drop_cons hd
    have hn := h.rows
    have hr := h.each r (List.mem_of_getElem? h3)
    obtain ⟨k, rfl⟩ : ∃ m, k = m + 1 := ⟨k - 1, by simp at hk; omega⟩
    simp only [List.length_cons] at hk
    have hf := s_find r (by omega) x y r 0 k rfl (by omega)
    rw [show ((0 : Nat) : Int) = 0 from rfl] at hf
    rw [spec_l10In.l0, if_pos (by omega), if_pos (by omega), rd_irow h3, spec_l10Find.f, hf, Option.bind_some, w64s i (by omega), s_in_l b v m h x y t (i + 1) k h4 (by omega), inS]
    have hh := findS_has x y r 0
    by_cases hp : findS r x y 0 ≥ 0
    · rw [decide_eq_true hp] at hh
      rw [if_pos hp, ← hh, if_pos rfl]
    · rw [decide_eq_false hp] at hh
      rw [if_neg hp, ← hh, if_neg (by decide)]
theorem s_in {b : List (List ISym)} {v : List IVal} {m : List Bool} (h : SmallS b v m) (x y : Int) (k : Nat) (hk : 2097180 < k) : spec_l10In.f k b v m x y = some (inS b x y 0) := by
  have hn := h.rows
  rw [spec_l10In.f]
  exact s_in_l b v m h x y b 0 k rfl (by omega)
/-- A term that stands in a row stands first there just if no row ahead has it. -/
theorem inS_at (x y : Int) : ∀ (pre : List (List ISym)) (r : List ISym) (suf : List (List ISym)) (i : Nat), hasS r x y = true → (inS (pre ++ r :: suf) x y i = ((i + pre.length : Nat) : Int) ↔ hasS pre.flatten x y = false)
  | [], r, suf, i, h => by
    rw [List.nil_append, inS, if_pos h]
    simp [hasS]
  | p :: pre, r, suf, i, h => by
    rw [List.cons_append, inS, List.flatten_cons]
    have e : hasS (p ++ pre.flatten) x y = (hasS p x y || hasS pre.flatten x y) := by unfold hasS; rw [List.any_append]
    rw [e]
    by_cases hp : hasS p x y = true
    · rw [if_pos hp, hp]
      simp; omega
    · rw [if_neg hp]
      simp only [Bool.not_eq_true] at hp
      rw [hp, Bool.false_or, List.length_cons, show i + (pre.length + 1) = i + 1 + pre.length by omega]
      exact inS_at x y pre r suf (i + 1) h
theorem inS_ge (x y : Int) : ∀ (b : List (List ISym)) (i : Nat), inS b x y i = -1 ∨ (i : Int) ≤ inS b x y i
  | [], _ => .inl rfl
  | r :: t, i => by
    rw [inS]
    split
    · right; omega
    · rcases inS_ge x y t (i + 1) with h | h
      · exact .inl h
      · right; omega
/-- A term stands first in the last row: it stands there, and in none ahead. -/
theorem inS_last (x y : Int) : ∀ (pre : List (List ISym)) (r : List ISym) (i : Nat), inS (pre ++ [r]) x y i = ((i + pre.length : Nat) : Int) ↔ hasS pre.flatten x y = false ∧ hasS r x y = true
  | pre, r, i => by
    by_cases h : hasS r x y = true
    · rw [inS_at x y pre r [] i h]; simp [h]
    · simp only [Bool.not_eq_true] at h
      rw [h]
      constructor
      · intro e
        exfalso
        have none : ∀ (p : List (List ISym)) (j : Nat), inS (p ++ [r]) x y j ≠ ((j + p.length : Nat) : Int) := by
          intro p
          induction p with
          | nil => intro j; rw [List.nil_append, inS, if_neg (by rw [h]; decide), inS]; first | (simp; done) | (simp; omega)
          | cons q p ih =>
            intro j
            rw [List.cons_append, inS]
            split
            · first | (simp; done) | (simp; omega)
            · have := ih (j + 1)
              rw [List.length_cons, show j + (p.length + 1) = j + 1 + p.length by omega]
              exact this
        exact none pre i e
      · rintro ⟨_, e⟩; cases e
theorem inS_first (x y : Int) (r : List ISym) (t : List (List ISym)) : inS (r :: t) x y 0 = 0 ↔ hasS r x y = true := by
  rw [inS]
  by_cases h : hasS r x y = true
  · rw [if_pos h, h]; simp
  · rw [if_neg h]
    simp only [Bool.not_eq_true] at h
    rw [h]
    constructor
    · intro e
      exfalso
      rw [Nat.zero_add] at e
      rcases inS_ge x y t 1 with h1 | h1 <;> omega
    · intro e; cases e
def symB (size : Int) (x : ISym) : Bool := (decide (1 ≤ size) && decide (size ≤ 13)) && (decide (0 ≤ x.f0) && decide (x.f0 ≤ wrap64 (size - 1))) && (decide (-1000 ≤ x.f1) && decide (x.f1 ≤ 1000))
def lessB (x y : ISym) : Bool := decide (x.f0 < y.f0) || (decide (x.f0 = y.f0) && decide (x.f1 < y.f1))
theorem s_symB (size : Int) (x : ISym) : spec_SymOk.f size x.f0 x.f1 = some (symB size x) := by
  unfold spec_SymOk.f symB
  rw [btw, Option.bind_some, btw, btw]
  cases (decide (1 ≤ size) && decide (size ≤ 13)) <;> cases (decide (0 ≤ x.f0) && decide (x.f0 ≤ wrap64 (size - 1))) <;> rfl
theorem i_symB (size : Int) (x : ISym) : impl_SymOk.f size x.f0 x.f1 = some (symB size x) := by
  unfold impl_SymOk.f symB impl_isPlace.f
  rw [inR, Option.bind_some, inR, inR]
  cases (decide (1 ≤ size) && decide (size ≤ 13)) <;> cases (decide (0 ≤ x.f0) && decide (x.f0 ≤ wrap64 (size - 1))) <;> rfl
theorem s_lessB (x y : ISym) : spec_SymLess.f x.f0 x.f1 y.f0 y.f1 = some (lessB x y) := by
  unfold spec_SymLess.f lessB
  by_cases h : x.f0 < y.f0
  · rw [if_pos h, decide_eq_true h, Bool.true_or]
  · rw [if_neg h, decide_eq_false h, Bool.false_or]
    by_cases h2 : x.f0 = y.f0
    · rw [if_pos h2, decide_eq_true h2, Bool.true_and]
    · rw [if_neg h2, decide_eq_false h2, Bool.false_and]
theorem i_lessB (x y : ISym) : impl_SymLess.f x.f0 x.f1 y.f0 y.f1 = some (lessB x y) := by
  unfold impl_SymLess.f lessB
  by_cases h : x.f0 < y.f0
  · rw [if_pos h, decide_eq_true h, Bool.true_or]
  · rw [if_neg h, decide_eq_false h, Bool.false_or]
    by_cases h2 : x.f0 = y.f0
    · rw [if_pos h2, decide_eq_true h2, Bool.true_and]
    · rw [if_neg h2, decide_eq_false h2, Bool.false_and]
def prevOk : Option ISym → ISym → Bool
  | none, _ => true
  | some y, x => lessB y x
/-- The terms of a row behind its i-th, held against what stands ahead. -/
def termsB (size : Int) (all : List ISym) : Option ISym → List ISym → Bool
  | _, [] => true
  | p, x :: t => symB size x && prevOk p x && !hasS all x.f0 x.f1 && termsB size all (some x) t
def boundsB (size : Int) : List ISym → List (List ISym) → Bool
  | _, [] => true
  | all, r :: t => decide (r ≠ []) && decide ((all ++ r).length ≤ 40) && termsB size all none r && boundsB size (all ++ r) t
/-- What stands ahead of the i-th term. -/
def prevS (r : List ISym) (i : Nat) : Option ISym := if i = 0 then none else r[i - 1]?
theorem prevS_zero (r : List ISym) : prevS r 0 = none := rfl
theorem prevS_succ {r : List ISym} {i : Nat} {x : ISym} (h : r[i]? = some x) : prevS r (i + 1) = some x := by
  unfold prevS
  rw [if_neg (by omega), Nat.add_sub_cancel, h]
theorem hasS_mem {l : List ISym} {x : ISym} (h : x ∈ l) : hasS l x.f0 x.f1 = true := hasS_iff.2 (by cases x; exact h)
/-- The reference's round over the terms of the row behind 'pre'. -/
theorem s_terms (size : Int) (pre : List (List ISym)) (r : List ISym) (suf : List (List ISym)) (v : List IVal) (m : List Bool) (h : SmallS (pre ++ r :: suf) v m) (l K8 : Int) (all : Int) : ∀ (t : List ISym) (i k : Nat), r.drop i = t → 2097200 + t.length < k →
    spec_SegOk.l1 k size l K8 all (pre.length : Int) r (i : Int) (pre ++ r :: suf) v m = if termsB size pre.flatten (prevS r i) t = true then spec_SegOk.l0 (k - t.length - 1) size l K8 all ((pre.length + 1 : Nat) : Int) (pre ++ r :: suf) v m else some false
  | [], i, k, hd, hk => by
    have h2 := drop_nil hd
    have hn := h.rows
    obtain ⟨k, rfl⟩ : ∃ m, k = m + 1 := ⟨k - 1, by simp at hk; omega⟩
    rw [List.length_append] at hn
    rw [spec_SegOk.l1, if_neg (by omega), w64s pre.length (by omega), termsB, if_pos rfl]; rfl
  | x :: t, i, k, hd, hk => by
    haveI : Inhabited ISym := ⟨x⟩
    obtain ⟨h2, h3, h4⟩ := drop_cons hd
    have hn := h.rows
    have hr := h.each r (by simp)
    simp only [List.length_cons] at hk
    obtain ⟨k, rfl⟩ : ∃ m, k = m + 1 := ⟨k - 1, by omega⟩
    have ih := s_terms size pre r suf v m h l K8 all t (i + 1) k h4 (by omega)
    rw [prevS_succ h3] at ih
    have hin := inS_at x.f0 x.f1 pre r suf 0 (hasS_mem (List.mem_of_getElem? h3))
    rw [Nat.zero_add] at hin
    have hq : ∀ (Y : Option Bool), (if inS (pre ++ r :: suf) x.f0 x.f1 0 = (pre.length : Int) then Y else some false) = if !hasS pre.flatten x.f0 x.f1 then Y else some false := by
      intro Y
      by_cases hp : inS (pre ++ r :: suf) x.f0 x.f1 0 = (pre.length : Int)
      · rw [if_pos hp, hin.1 hp]; rfl
      · rw [if_neg hp]
        cases hh : hasS pre.flatten x.f0 x.f1 with
        | true => rfl
        | false => exact absurd (hin.2 hh) hp
    rw [spec_SegOk.l1, if_pos (by omega), if_pos (by omega), rd_isym h3, s_symB, Option.bind_some, s_in h _ _ k (by omega), Option.bind_some, w64s i (by omega), ih, List.length_cons, show k + 1 - (t.length + 1) - 1 = k - t.length - 1 by omega, hq]
    rw [termsB]
    cases hs : symB size x with
    | false => rw [if_neg (by decide)]; rfl
    | true =>
      rw [if_pos rfl]
      cases i with
      | zero =>
        rw [if_neg (by omega), prevS_zero, prevOk]
        cases hasS pre.flatten x.f0 x.f1 <;> cases termsB size pre.flatten (some x) t <;> rfl
      | succ j =>
        have hj : r[j]? = some r[j] := List.getElem?_eq_getElem (by omega)
        rw [if_pos (by omega), w64 (by omega) (by omega), show (((j + 1 : Nat) : Int) - 1) = (j : Int) by omega, if_pos (by omega), if_pos (by omega), rd_isym hj, s_lessB, Option.bind_some, prevS_succ hj, prevOk]
        cases lessB r[j] x <;> cases hasS pre.flatten x.f0 x.f1 <;> cases termsB size pre.flatten (some x) t <;> rfl
/-- The program's round over the terms of a row. -/
theorem i_terms (size : Int) (l K7 : Int) (all : List ISym) (ha : all.length ≤ 1048576) (r : List ISym) (hr : r.length ≤ 1048576) (B : List (List ISym)) (K46 x47 : Int) (b : List (List ISym)) (v : List IVal) (m : List Bool) (N : Option Bool) (Kn : Nat)
    (hN : ∀ k, Kn ≤ k → (if (r.length : Int) = 0 then (some false) else (if all.length + r.length < 8796093022208 then ((some (all ++ r : List ISym)).bind fun y239 => (if (y239.length : Int) > 40 then (some false) else (impl_SegOk.l0 k size l K7 y239 B K46 (wrap64 (x47 + 1)) b v m))) else (none))) = N) : ∀ (t : List ISym) (i k : Nat), r.drop i = t → Kn + 1048700 + t.length < k →
    impl_SegOk.l1 k size l K7 all r B K46 x47 r (r.length : Int) (i : Int) b v m = if termsB size all (prevS r i) t = true then N else some false
  | [], i, k, hd, hk => by
    have h2 := drop_nil hd
    obtain ⟨k, rfl⟩ : ∃ m, k = m + 1 := ⟨k - 1, by simp at hk; omega⟩
    rw [impl_SegOk.l1, if_neg (by omega), termsB, if_pos rfl]
    exact hN k (by simp at hk; omega)
  | x :: t, i, k, hd, hk => by
    haveI : Inhabited ISym := ⟨x⟩
    obtain ⟨h2, h3, h4⟩ := drop_cons hd
    simp only [List.length_cons] at hk
    obtain ⟨k, rfl⟩ : ∃ m, k = m + 1 := ⟨k - 1, by omega⟩
    have ih := i_terms size l K7 all ha r hr B K46 x47 b v m N Kn hN t (i + 1) k h4 (by omega)
    rw [prevS_succ h3] at ih
    rw [impl_SegOk.l1, if_pos (by omega), if_pos (by omega), if_pos (by omega), rd_isym h3, i_symB, Option.bind_some, i_contains all (by omega) _ _ k (by omega), Option.bind_some, w64s i (by omega), ih]
    rw [termsB]
    cases hs : symB size x with
    | false => rw [if_neg (by decide)]; rfl
    | true =>
      rw [if_pos rfl]
      cases i with
      | zero =>
        rw [if_neg (by omega), prevS_zero, prevOk]
        cases hasS all x.f0 x.f1 <;> cases termsB size all (some x) t <;> rfl
      | succ j =>
        have hj : r[j]? = some r[j] := List.getElem?_eq_getElem (by omega)
        rw [if_pos (by omega), w64 (by omega) (by omega), show (((j + 1 : Nat) : Int) - 1) = (j : Int) by omega, if_pos (by omega), if_pos (by omega), rd_isym hj, i_lessB, Option.bind_some, prevS_succ hj, prevOk]
        cases lessB r[j] x <;> cases hasS all x.f0 x.f1 <;> cases termsB size all (some x) t <;> rfl
theorem flat_snoc (pre : List (List ISym)) (r : List ISym) : (pre ++ [r]).flatten = pre.flatten ++ r := by simp
theorem s_bounds (size l : Int) (v : List IVal) (m : List Bool) (b : List (List ISym)) (h : SmallS b v m) (F : Bool) (K2 : Nat) (hF : ∀ k, K2 ≤ k → spec_SegOk.l2 k l (b.length : Int) 0 b v m = some F) : ∀ (suf pre : List (List ISym)), b = pre ++ suf → pre.flatten.length ≤ 40 →
    ∃ K, ∀ k, K ≤ k → spec_SegOk.l0 k size l (b.length : Int) (pre.flatten.length : Int) (pre.length : Int) b v m = some (boundsB size pre.flatten suf && F)
  | [], pre, hb, hp => by
    refine ⟨K2 + 1, fun k hk => ?_⟩
    obtain ⟨k, rfl⟩ : ∃ n, k = n + 1 := ⟨k - 1, by omega⟩
    have hl : b.length = pre.length := by rw [hb]; simp
    rw [spec_SegOk.l0, if_neg (by omega), hF k (by omega), boundsB, Bool.true_and]
  | r :: suf, pre, hb, hp => by
    have hl : b.length = pre.length + (suf.length + 1) := by rw [hb]; simp
    have hn := h.rows
    have hg : b[pre.length]? = some r := by rw [hb]; simp
    have hr := h.each r (by rw [hb]; simp)
    have st : ∀ k, (pre.length : Int) < (b.length : Int) ∧ (0 : Int) ≤ (pre.length : Int) := fun _ => by omega
    have h' : SmallS (pre ++ r :: suf) v m := hb ▸ h
    by_cases h0 : r = []
    · refine ⟨2, fun k hk => ?_⟩
      obtain ⟨k, rfl⟩ : ∃ n, k = n + 2 := ⟨k - 2, by omega⟩
      rw [spec_SegOk.l0, if_pos (by omega), if_pos (by omega), if_pos (by omega), rd_irow hg, h0, if_pos (show ((([] : List ISym).length : Nat) : Int) = 0 from rfl), spec_SegOk.j2, if_pos rfl, boundsB, decide_eq_false (by simp)]; rfl
    · have hz : ¬ (r.length : Int) = 0 := by
        intro e
        exact h0 (List.eq_nil_of_length_eq_zero (by omega))
      have hw : wrap64 ((pre.flatten.length : Int) + (r.length : Int)) = ((pre ++ [r]).flatten.length : Int) := by
        rw [w64 (by omega) (by omega), flat_snoc, List.length_append]; omega
      by_cases h40 : (pre ++ [r]).flatten.length ≤ 40
      · obtain ⟨K, ih⟩ := s_bounds size l v m b h F K2 hF suf (pre ++ [r]) (by rw [hb]; simp) h40
        refine ⟨K + 2097210 + r.length, fun k hk => ?_⟩
        obtain ⟨k, rfl⟩ : ∃ n, k = n + 2 := ⟨k - 2, by omega⟩
        have tm := s_terms size pre r suf v m h' l (b.length : Int) ((pre ++ [r]).flatten.length : Int) r 0 k rfl (by omega)
        rw [← hb, show ((0 : Nat) : Int) = 0 from rfl] at tm
        rw [spec_SegOk.l0, if_pos (by omega), if_pos (by omega), if_pos (by omega), rd_irow hg, if_neg hz, hw, decide_eq_false (show ¬ ((pre ++ [r]).flatten.length : Int) > 40 by omega), spec_SegOk.j2, if_neg (by decide), tm, prevS_zero]
        have ih' := ih (k - r.length - 1) (by omega)
        rw [show (pre ++ [r]).length = pre.length + 1 by simp] at ih'
        rw [ih', boundsB, decide_eq_true h0, decide_eq_true (show (pre.flatten ++ r).length ≤ 40 by rw [← flat_snoc]; exact h40), flat_snoc]
        cases termsB size pre.flatten none r <;> rfl
      · refine ⟨2, fun k hk => ?_⟩
        obtain ⟨k, rfl⟩ : ∃ n, k = n + 2 := ⟨k - 2, by omega⟩
        rw [spec_SegOk.l0, if_pos (by omega), if_pos (by omega), if_pos (by omega), rd_irow hg, if_neg hz, hw, decide_eq_true (show ((pre ++ [r]).flatten.length : Int) > 40 by omega), spec_SegOk.j2, if_pos rfl, boundsB, decide_eq_true h0, decide_eq_false (show ¬ (pre.flatten ++ r).length ≤ 40 by rw [← flat_snoc]; exact h40)]; rfl
def endI (l : Int) (b : List (List ISym)) (v : List IVal) (FI : Bool) (K2 : Nat) : Prop := ∀ k, K2 ≤ k → ((impl_ends.f l).bind fun bt242 => (if 0 < (b.length : Int) then ((impl_Sym_35.f k (rd_L7 b 0) bt242.1 bt242.2.1).bind fun t249 => (if t249 = true then (if 0 ≤ (wrap64 ((b.length : Int) - 1)) then (if (wrap64 ((b.length : Int) - 1)) < (b.length : Int) then ((impl_Sym_35.f k (rd_L7 b (wrap64 ((b.length : Int) - 1))) bt242.2.2.1 bt242.2.2.2).bind fun t251 => (if t251 = true then ((slices_ContainsFunc__impl_SegOk_1.f k v).bind fun t252 => (some (!t252))) else (some false))) else (none)) else (none)) else (some false))) else (none))) = some FI
theorem i_bounds (size l : Int) (v : List IVal) (m : List Bool) (b : List (List ISym)) (h : SmallS b v m) (FI : Bool) (K2 : Nat) (hF : endI l b v FI K2) : ∀ (suf pre : List (List ISym)), b = pre ++ suf → pre.flatten.length ≤ 40 →
    ∃ K, ∀ k, K ≤ k → impl_SegOk.l0 k size l (b.length : Int) pre.flatten b (b.length : Int) (pre.length : Int) b v m = some (boundsB size pre.flatten suf && FI)
  | [], pre, hb, hp => by
    refine ⟨K2 + 1, fun k hk => ?_⟩
    obtain ⟨k, rfl⟩ : ∃ n, k = n + 1 := ⟨k - 1, by omega⟩
    have hl : b.length = pre.length := by rw [hb]; simp
    rw [impl_SegOk.l0, if_neg (by omega), boundsB, Bool.true_and]
    exact hF k (by omega)
  | r :: suf, pre, hb, hp => by
    have hl : b.length = pre.length + (suf.length + 1) := by rw [hb]; simp
    have hn := h.rows
    have hg : b[pre.length]? = some r := by rw [hb]; simp
    have hr := h.each r (by rw [hb]; simp)
    have go : ∃ K, ∀ k, K ≤ k → (if (r.length : Int) = 0 then (some false) else (if pre.flatten.length + r.length < 8796093022208 then ((some (pre.flatten ++ r : List ISym)).bind fun y239 => (if (y239.length : Int) > 40 then (some false) else (impl_SegOk.l0 k size l (b.length : Int) y239 b (b.length : Int) (wrap64 ((pre.length : Int) + 1)) b v m))) else (none))) = some (decide (r ≠ []) && decide ((pre.flatten ++ r).length ≤ 40) && boundsB size (pre.flatten ++ r) suf && FI) := by
      by_cases h0 : r = []
      · exact ⟨0, fun k _ => by rw [h0, if_pos (show ((([] : List ISym).length : Nat) : Int) = 0 from rfl), decide_eq_false (by simp)]; rfl⟩
      · have hz : ¬ (r.length : Int) = 0 := by
          intro e
          exact h0 (List.eq_nil_of_length_eq_zero (by omega))
        by_cases h40 : (pre.flatten ++ r).length ≤ 40
        · obtain ⟨K, ih⟩ := i_bounds size l v m b h FI K2 hF suf (pre ++ [r]) (by rw [hb]; simp) (by rw [flat_snoc]; exact h40)
          refine ⟨K, fun k hk => ?_⟩
          have ih' := ih k hk
          rw [show (pre ++ [r]).length = pre.length + 1 by simp, flat_snoc] at ih'
          rw [if_neg hz, if_pos (by omega), Option.bind_some, if_neg (by omega), w64s pre.length (by omega), ih', decide_eq_true h0, decide_eq_true h40]; rfl
        · exact ⟨0, fun k _ => by rw [if_neg hz, if_pos (by omega), Option.bind_some, if_pos (by omega), decide_eq_true h0, decide_eq_false h40]; rfl⟩
    obtain ⟨K, hK⟩ := go
    refine ⟨K + 1048710 + r.length, fun k hk => ?_⟩
    obtain ⟨k, rfl⟩ : ∃ n, k = n + 1 := ⟨k - 1, by omega⟩
    have tm := i_terms size l (b.length : Int) pre.flatten (by omega) r hr b (b.length : Int) (pre.length : Int) b v m _ K hK r 0 k rfl (by omega)
    rw [show ((0 : Nat) : Int) = 0 from rfl] at tm
    rw [impl_SegOk.l0, if_pos (by omega), if_pos (by omega), if_pos (by omega), rd_irow hg, tm, prevS_zero, boundsB]
    cases termsB size pre.flatten none r <;> cases decide (r ≠ []) <;> cases decide ((pre.flatten ++ r).length ≤ 40) <;> rfl
def okV (x : IVal) : Bool := okR x.f0.f0 x.f0.f1
theorem s_vloop (l : Int) (v : List IVal) (m : List Bool) (b : List (List ISym)) (h : SmallS b v m) (hv : v.length + 1 = b.length) : ∀ (t : List IVal) (i k : Nat), v.drop i = t → 2097200 + t.length < k →
    spec_SegOk.l2 k l (b.length : Int) (i : Int) b v m = some (t.all okV && (decide (inS b 0 0 0 = 0) && (inS b l 0 0 == (v.length : Int))))
  | [], i, k, hd, hk => by
    have h2 := drop_nil hd
    have hn := h.rows
    obtain ⟨k, rfl⟩ : ∃ n, k = n + 1 := ⟨k - 1, by simp at hk; omega⟩
    simp only [List.length_nil] at hk
    have hw : wrap64 ((b.length : Int) - 1) = (v.length : Int) := by rw [w64 (by omega) (by omega)]; omega
    rw [spec_SegOk.l2, hw, if_neg (by omega), s_in h 0 0 k (by omega), Option.bind_some, s_in h l 0 k (by omega), Option.bind_some, List.all_nil, Bool.true_and]
    by_cases h0 : inS b 0 0 0 = 0
    · rw [if_pos h0, decide_eq_true h0, Bool.true_and]
    · rw [if_neg h0, decide_eq_false h0, Bool.false_and]
  | x :: t, i, k, hd, hk => by
    haveI : Inhabited IVal := ⟨x⟩
    obtain ⟨h2, h3, h4⟩ := drop_cons hd
    have hn := h.rows
    simp only [List.length_cons] at hk
    obtain ⟨k, rfl⟩ : ∃ n, k = n + 1 := ⟨k - 1, by omega⟩
    have hw : wrap64 ((b.length : Int) - 1) = (v.length : Int) := by rw [w64 (by omega) (by omega)]; omega
    rw [spec_SegOk.l2, hw, if_pos (by omega), if_pos (by omega), if_pos (by omega), rd_ival h3, s_vok, Option.bind_some, w64s i (by omega), s_vloop l v m b h hv t (i + 1) k h4 (by omega), List.all_cons]
    unfold okV
    cases okR x.f0.f0 x.f0.f1 <;> rfl
theorem i_vidx (v : List IVal) (hn : v.length ≤ 1048576) : ∀ (t : List IVal) (i k : Nat), v.drop i = t → t.length < k → ∃ r, slices_IndexFunc__impl_SegOk_1.l0 k v (v.length : Int) (i : Int) = some r ∧ decide (r ≥ 0) = !t.all okV
  | [], i, k, hd, hk => by
    have h2 := drop_nil hd
    obtain ⟨k, rfl⟩ : ∃ n, k = n + 1 := ⟨k - 1, by simp at hk; omega⟩
    exact ⟨-1, by rw [slices_IndexFunc__impl_SegOk_1.l0, if_neg (by omega)], rfl⟩
  | x :: t, i, k, hd, hk => by
    haveI : Inhabited IVal := ⟨x⟩
    obtain ⟨h2, h3, h4⟩ := drop_cons hd
    obtain ⟨k, rfl⟩ : ∃ n, k = n + 1 := ⟨k - 1, by simp at hk; omega⟩
    obtain ⟨r, q1, q2⟩ := i_vidx v hn t (i + 1) k h4 (by simp at hk; omega)
    cases ho : okV x with
    | true =>
      refine ⟨r, ?_, by rw [q2, List.all_cons, ho, Bool.true_and]⟩
      rw [slices_IndexFunc__impl_SegOk_1.l0, if_pos (by omega), if_pos (by omega), if_pos (by omega), rd_ival h3, impl_SegOk_1.f, i_vok, Option.bind_some, Option.bind_some, w64s i (by omega)]
      unfold okV at ho
      rw [ho, if_neg (by decide)]; exact q1
    | false =>
      refine ⟨(i : Int), ?_, by rw [List.all_cons, ho, Bool.false_and]; exact decide_eq_true (by omega)⟩
      rw [slices_IndexFunc__impl_SegOk_1.l0, if_pos (by omega), if_pos (by omega), if_pos (by omega), rd_ival h3, impl_SegOk_1.f, i_vok, Option.bind_some, Option.bind_some]
      unfold okV at ho
      rw [ho, if_pos (by decide)]
theorem i_end {l : Int} {v : List IVal} {m : List Bool} {pre : List (List ISym)} {r0 r : List ISym} {b : List (List ISym)} (h : SmallS b v m) (hb : b = pre ++ [r]) (h0 : b[0]? = some r0) :
    endI l b v (hasS r0 0 0 && hasS r l 0 && v.all okV) 1048600 := by
  intro k hk
  have hn := h.rows
  have hl : b.length = pre.length + 1 := by rw [hb]; simp
  have hg : b[pre.length]? = some r := by rw [hb]; simp
  have hw : wrap64 ((b.length : Int) - 1) = (pre.length : Int) := by rw [w64 (by omega) (by omega)]; omega
  have hr := h.each r (by rw [hb]; simp)
  have hr0 := h.each r0 (List.mem_of_getElem? h0)
  have hv := h.vals
  have e0 : rd_L7 b 0 = r0 := rd_irow (i := 0) h0
  obtain ⟨x, q1, q2⟩ := i_vidx v hv v 0 k rfl (by omega)
  rw [show ((0 : Nat) : Int) = 0 from rfl] at q1
  rw [impl_ends.f, Option.bind_some]
  simp only
  rw [if_pos (by omega), e0, i_contains r0 (by omega) _ _ k (by omega), Option.bind_some, hw, if_pos (show (0 : Int) ≤ (pre.length : Int) by omega), if_pos (show (pre.length : Int) < (b.length : Int) by omega), rd_irow hg, i_contains r (by omega) _ _ k (by omega), Option.bind_some, slices_ContainsFunc__impl_SegOk_1.f, slices_IndexFunc__impl_SegOk_1.f, q1, Option.bind_some, Option.bind_some, q2, Bool.not_not]
  cases hasS r0 0 0 <;> cases hasS r l 0 <;> rfl
theorem terms_apart {size : Int} {all : List ISym} {x : ISym} : ∀ {t : List ISym} {p : Option ISym}, termsB size all p t = true → x ∈ t → hasS all x.f0 x.f1 = false
  | [], _, _, hx => by cases hx
  | y :: t, p, h, hx => by
    rw [termsB] at h
    simp only [Bool.and_eq_true, Bool.not_eq_true'] at h
    rcases List.mem_cons.1 hx with rfl | hx
    · exact h.1.2
    · exact terms_apart h.2 hx
theorem bounds_apart {size : Int} {r : List ISym} {x y : Int} (hr : hasS r x y = true) : ∀ (pre : List (List ISym)) (all : List ISym), boundsB size all (pre ++ [r]) = true → hasS (all ++ pre.flatten) x y = false
  | [], all, h => by
    rw [List.nil_append, boundsB] at h
    simp only [Bool.and_eq_true] at h
    rw [List.flatten_nil, List.append_nil]
    have := terms_apart h.1.2 (hasS_iff.1 hr)
    exact this
  | p :: pre, all, h => by
    rw [List.cons_append, boundsB] at h
    simp only [Bool.and_eq_true] at h
    have := bounds_apart hr pre (all ++ p) h.2
    rw [List.flatten_cons, ← List.append_assoc]
    exact this
def shapeB (size l : Int) : Bool := (decide (2 ≤ size) && decide (size ≤ 13)) && (decide (1 ≤ l) && decide (l ≤ wrap64 (size - 1)))
theorem s_shape (size l : Int) : spec_l10Size.f size l = some (shapeB size l) := by
  unfold spec_l10Size.f shapeB
  rw [btw, Option.bind_some, btw]
  cases (decide (2 ≤ size) && decide (size ≤ 13)) <;> rfl
theorem i_shape (size l : Int) : impl_isShape.f size l = some (shapeB size l) := by
  unfold impl_isShape.f shapeB
  rw [inR, Option.bind_some, inR]
  cases (decide (2 ≤ size) && decide (size ≤ 13)) <;> rfl
/-- What holds of a row of segments that is right. -/
structure GoodS (size : Int) (b : List (List ISym)) (v : List IVal) (m : List Bool) : Prop where
  most : 2 ≤ size ∧ size ≤ 13
  rows : b.length ≤ 16
  vals : v.length + 1 = b.length
  flags : m.length + 1 = b.length
  valOk : ∀ x ∈ v, okV x = true
  short : ∀ r ∈ b, r.length ≤ 40
  terms : ∀ r ∈ b, ∀ x ∈ r, (0 ≤ x.f0 ∧ x.f0 ≤ size - 1) ∧ (-1000 ≤ x.f1 ∧ x.f1 ≤ 1000)
theorem termsB_sym {size : Int} {all : List ISym} : ∀ {t : List ISym} {p : Option ISym}, termsB size all p t = true → ∀ x ∈ t, symB size x = true
  | [], _, _, x, hx => by simp at hx
  | y :: t, p, h, x, hx => by
    simp only [termsB, Bool.and_eq_true] at h
    rcases List.mem_cons.1 hx with rfl | hx
    · exact h.1.1.1
    · exact termsB_sym h.2 x hx
theorem boundsB_each {size : Int} : ∀ {b : List (List ISym)} {all : List ISym}, boundsB size all b = true → ∀ r ∈ b, r.length ≤ 40 ∧ ∀ x ∈ r, symB size x = true
  | [], _, _, r, hr => by simp at hr
  | y :: t, all, h, r, hr => by
    simp only [boundsB, Bool.and_eq_true, decide_eq_true_eq] at h
    rcases List.mem_cons.1 hr with rfl | hr
    · have := h.1.1.2
      rw [List.length_append] at this
      exact ⟨by omega, termsB_sym h.1.2⟩
    · exact boundsB_each h.2 r hr
theorem good_of {size l : Int} {b : List (List ISym)} {v : List IVal} {m : List Bool} {X : Bool} (hs : shapeB size l = true) (h2 : b.length ≤ 16) (hv : v.length + 1 = b.length) (hm : m.length + 1 = b.length) (hc : (boundsB size ([] : List (List ISym)).flatten b && (v.all okV && X)) = true) : GoodS size b v m := by
  simp only [Bool.and_eq_true] at hc
  have hs' := hs
  unfold shapeB at hs'
  simp only [Bool.and_eq_true, decide_eq_true_eq] at hs'
  have he := boundsB_each hc.1
  refine ⟨hs'.1, h2, hv, hm, fun x hx => List.all_eq_true.1 hc.2.1 x hx, fun r hr => (he r hr).1, fun r hr x hx => ?_⟩
  have := (he r hr).2 x hx
  unfold symB at this
  simp only [Bool.and_eq_true, decide_eq_true_eq] at this
  rw [w64 (by omega) (by omega)] at this
  exact ⟨this.1.2, this.2⟩
/-- What holds besides: the ends stand in the first and in the last bound. -/
structure EndS (size l : Int) (b : List (List ISym)) : Prop where
  len : 1 ≤ l ∧ l ≤ size - 1
  full : ∀ r ∈ b, r ≠ []
  first : ∃ r t, b = r :: t ∧ (⟨0, 0⟩ : ISym) ∈ r
  last : ∃ p r, b = p ++ [r] ∧ (⟨l, 0⟩ : ISym) ∈ r
theorem boundsB_full {size : Int} : ∀ {b : List (List ISym)} {all : List ISym}, boundsB size all b = true → ∀ r ∈ b, r ≠ []
  | [], _, _, r, hr => by simp at hr
  | y :: t, all, h, r, hr => by
    simp only [boundsB, Bool.and_eq_true, decide_eq_true_eq] at h
    rcases List.mem_cons.1 hr with rfl | hr
    · exact h.1.1.1
    · exact boundsB_full h.2 r hr
theorem ends_of {size l : Int} {b : List (List ISym)} {v : List IVal} {pre : List (List ISym)} {r0 r : List ISym} {t0 : List (List ISym)} (hs : shapeB size l = true) (hb : b = pre ++ [r]) (hb0 : b = r0 :: t0) (hc : (boundsB size ([] : List (List ISym)).flatten b && (hasS r0 0 0 && hasS r l 0 && v.all okV)) = true) : EndS size l b := by
  simp only [Bool.and_eq_true] at hc
  unfold shapeB at hs
  simp only [Bool.and_eq_true, decide_eq_true_eq] at hs
  rw [w64 (by omega) (by omega)] at hs
  exact ⟨hs.2, boundsB_full hc.1, ⟨r0, t0, hb0, hasS_iff.1 hc.2.1.1⟩, ⟨pre, r, hb, hasS_iff.1 hc.2.1.2⟩⟩
/-- Is a row of segments right? -/
theorem segOkE (size l : Int) (b : List (List ISym)) (v : List IVal) (m : List Bool) (h : SmallS b v m) : ∃ K c, (c = true → GoodS size b v m ∧ EndS size l b) ∧ ∀ k, K ≤ k → spec_SegOk.f k size l b v m = some c ∧ impl_SegOk.f k size l b v m = some c := by
  have hn := h.rows
  have sbad : ∀ k, 1 ≤ k → spec_SegOk.j0 k size l (b.length : Int) true b v m = some false := fun k hk => by
    obtain ⟨k, rfl⟩ : ∃ n, k = n + 1 := ⟨k - 1, by omega⟩
    rw [spec_SegOk.j0, if_pos rfl]
  have ibad : ∀ k, 1 ≤ k → impl_SegOk.j0 k size l (b.length : Int) true b v m = some false := fun k hk => by
    obtain ⟨k, rfl⟩ : ∃ n, k = n + 1 := ⟨k - 1, by omega⟩
    rw [impl_SegOk.j0, if_pos rfl]
  cases hs : shapeB size l with
  | false =>
    refine ⟨1, false, fun e => by simp at e, fun k hk => ?_⟩
    rw [spec_SegOk.f, impl_SegOk.f, s_shape, i_shape, hs, Option.bind_some, Option.bind_some, if_neg (by decide), if_neg (by decide), sbad k hk, ibad k hk]
    exact ⟨rfl, rfl⟩
  | true =>
    by_cases hk1 : 1 ≤ b.length
    · by_cases hk2 : b.length ≤ 16
      · have hw : wrap64 ((b.length : Int) - 1) = (b.length : Int) - 1 := w64 (by omega) (by omega)
        have hir : (decide ((1 : Int) ≤ (b.length : Int)) && decide ((b.length : Int) ≤ 16)) = true := by rw [decide_eq_true (by omega), decide_eq_true (by omega)]; rfl
        by_cases hv : v.length + 1 = b.length
        · by_cases hm : m.length + 1 = b.length
          · obtain ⟨pre, r, hb⟩ : ∃ pre r, b = pre ++ [r] := ⟨b.dropLast, b.getLast (by intro e; rw [e] at hk1; simp at hk1), (List.dropLast_concat_getLast _).symm⟩
            obtain ⟨r0, t0, hb0⟩ : ∃ r0 t0, b = r0 :: t0 := by
              cases b with
              | nil => simp at hk1
              | cons a t => exact ⟨a, t, rfl⟩
            have hg0 : b[0]? = some r0 := by rw [hb0]; rfl
            have hsF := s_vloop l v m b h hv v 0
            obtain ⟨K1, q1⟩ := s_bounds size l v m b h _ (2097300 + v.length) (fun k hk => by
              have := hsF k rfl (by omega)
              exact this) b [] rfl (by simp)
            obtain ⟨K2, q2⟩ := i_bounds size l v m b h _ 1048600 (i_end (l := l) h hb hg0) b [] rfl (by simp)
            have he : (boundsB size ([] : List (List ISym)).flatten b && (v.all okV && (decide (inS b 0 0 0 = 0) && (inS b l 0 0 == (v.length : Int))))) = (boundsB size ([] : List (List ISym)).flatten b && (hasS r0 0 0 && hasS r l 0 && v.all okV)) := by
              cases hB : boundsB size ([] : List (List ISym)).flatten b with
              | false => rfl
              | true =>
                have e1 : decide (inS b 0 0 0 = 0) = hasS r0 0 0 := by
                  rw [Bool.eq_iff_iff, decide_eq_true_eq, hb0]
                  exact inS_first 0 0 r0 t0
                have e2 : (inS b l 0 0 == (v.length : Int)) = hasS r l 0 := by
                  have hp : (v.length : Int) = ((0 + pre.length : Nat) : Int) := by
                    have : b.length = pre.length + 1 := by rw [hb]; simp
                    omega
                  rw [Bool.eq_iff_iff, beq_iff_eq, hp, hb, inS_last l 0 pre r 0]
                  constructor
                  · exact fun h => h.2
                  · intro hr
                    rw [hb] at hB
                    have := bounds_apart hr pre [] hB
                    rw [List.nil_append] at this
                    exact ⟨this, hr⟩
                rw [e1, e2]
                cases hasS r0 0 0 <;> cases hasS r l 0 <;> cases v.all okV <;> rfl
            refine ⟨K1 + K2 + 2, boundsB size ([] : List (List ISym)).flatten b && (v.all okV && (decide (inS b 0 0 0 = 0) && (inS b l 0 0 == (v.length : Int)))), fun hc => ⟨good_of hs hk2 hv hm hc, ends_of hs hb hb0 (he.symm.trans hc)⟩, fun k hk => ⟨?_, ?_⟩⟩
            · obtain ⟨k, rfl⟩ : ∃ n, k = n + 1 := ⟨k - 1, by omega⟩
              rw [spec_SegOk.f, s_shape, hs, Option.bind_some, if_pos rfl, if_neg (by omega), if_neg (by omega), hw, if_pos (by omega), show ((m.length : Int) != (b.length : Int) - 1) = false from bne_eq_false_iff_eq.2 (by omega), spec_SegOk.j0, if_neg (by decide)]
              exact q1 k (by omega)
            · obtain ⟨k, rfl⟩ : ∃ n, k = n + 1 := ⟨k - 1, by omega⟩
              rw [impl_SegOk.f, i_shape, hs, Option.bind_some, if_pos rfl, inR, Option.bind_some, hir, if_pos rfl, hw, if_pos (by omega), show ((m.length : Int) != (b.length : Int) - 1) = false from bne_eq_false_iff_eq.2 (by omega), impl_SegOk.j0, if_neg (by decide), he]
              exact q2 k (by omega)
          · refine ⟨1, false, fun e => by simp at e, fun k hk => ?_⟩
            have e : ((m.length : Int) != (b.length : Int) - 1) = true := bne_iff_ne.2 (by omega)
            rw [spec_SegOk.f, impl_SegOk.f, s_shape, i_shape, hs, Option.bind_some, Option.bind_some, if_pos rfl, if_pos rfl, if_neg (by omega), if_neg (by omega), inR, hir, Option.bind_some, if_pos rfl, hw, if_pos (by omega), if_pos (by omega), e, sbad k hk, ibad k hk]
            exact ⟨rfl, rfl⟩
        · refine ⟨1, false, fun e => by simp at e, fun k hk => ?_⟩
          rw [spec_SegOk.f, impl_SegOk.f, s_shape, i_shape, hs, Option.bind_some, Option.bind_some, if_pos rfl, if_pos rfl, if_neg (by omega), if_neg (by omega), inR, hir, Option.bind_some, if_pos rfl, hw, if_neg (by omega), if_neg (by omega), sbad k hk, ibad k hk]
          exact ⟨rfl, rfl⟩
      · have hir : (decide ((1 : Int) ≤ (b.length : Int)) && decide ((b.length : Int) ≤ 16)) = false := by rw [decide_eq_false (show ¬ (b.length : Int) ≤ 16 by omega), Bool.and_false]
        refine ⟨1, false, fun e => by simp at e, fun k hk => ?_⟩
        rw [spec_SegOk.f, impl_SegOk.f, s_shape, i_shape, hs, Option.bind_some, Option.bind_some, if_pos rfl, if_pos rfl, if_neg (by omega), if_pos (by omega), inR, hir, Option.bind_some, if_neg (by decide), sbad k hk, ibad k hk]
        exact ⟨rfl, rfl⟩
    · have hir : (decide ((1 : Int) ≤ (b.length : Int)) && decide ((b.length : Int) ≤ 16)) = false := by rw [decide_eq_false (show ¬ (1 : Int) ≤ (b.length : Int) by omega), Bool.false_and]
      refine ⟨1, false, fun e => by simp at e, fun k hk => ?_⟩
      rw [spec_SegOk.f, impl_SegOk.f, s_shape, i_shape, hs, Option.bind_some, Option.bind_some, if_pos rfl, if_pos rfl, if_pos (by omega), inR, hir, Option.bind_some, if_neg (by decide), sbad k hk, ibad k hk]
      exact ⟨rfl, rfl⟩
end Go.Proofs.YtdmdalapckcobaaDoor.Q
namespace Go.Proofs.YtdmdalapckcobaaDoor.Q
open Go.RowKit Go.Proofs.YtdmdalapckcobaaDoorW.PrintWords Go.Proofs.YtdmdalapckcobaaDoorW.PrintLast Go.Proofs.YtdmdalapckcobaaDoorW.PrintMore
open Go.Proofs.YtdmdalapckcobaaDoor.Open
set_option linter.unusedSimpArgs false
set_option linter.unusedVariables false
theorem s_min (a b : Int) : spec_l06Min.f a b = some (if a < b then a else b) := by unfold spec_l06Min.f; split <;> rfl
theorem s_max (a b : Int) : spec_l06Max.f a b = some (if b < a then a else b) := by unfold spec_l06Max.f; split <;> simp_all
theorem s_make (lo hi : Int) : spec_l06Make.f lo hi = some (mkR lo hi) := by
  unfold spec_l06Make.f spec_l06None.f mkR mx mn
  simp only [s_min, s_max, Option.bind_some]
  (repeat' split) <;> first | rfl | omega | (simp; omega)
end Go.Proofs.YtdmdalapckcobaaDoor.Q
namespace Go.Proofs.YtdmdalapckcobaaDoor.Q
open Go.RowKit Go.Proofs.YtdmdalapckcobaaDoorW.PrintWords Go.Proofs.YtdmdalapckcobaaDoorW.PrintLast Go.Proofs.YtdmdalapckcobaaDoorW.PrintMore
open Go.Proofs.YtdmdalapckcobaaDoor.Open
set_option linter.unusedSimpArgs false
set_option linter.unusedVariables false
def joinR (a b c d : Int) : Int × Int := if (okR a b && okR c d) = true then (if (a == 1 && b == 0) = true then (c, d) else if (c == 1 && d == 0) = true then (a, b) else (mn a c, mx b d)) else (1, 0)
theorem i_join (k : Nat) (a b c d : Int) : impl_RangeJoin.f (k + 1) a b c d = some (joinR a b c d) := by
  unfold impl_RangeJoin.f impl_RangeJoin.j0 joinR impl_orOther.f
  simp only [i_ok, Option.bind_some]
  (repeat' split) <;> simp_all
theorem s_join (k : Nat) (a b c d : Int) : spec_RangeJoin.f (k + 1) a b c d = some (joinR a b c d) := by
  unfold spec_RangeJoin.f spec_RangeJoin.j0 joinR
  simp only [s_ok, s_is, s_min, s_max, s_make, Option.bind_some, spec_l06None.f]
  by_cases h1 : okR a b = true
  · by_cases h2 : okR c d = true
    · simp only [h1, h2, if_true, Bool.not_true, Bool.and_self]
      rcases (okR_iff a b).1 h1 with ⟨rfl, rfl⟩ | ⟨p1, p2, p3⟩
      · simp
      · have q1 : decide (a ≤ b) = true := by simpa using p3
        have q2 : (a == 1 && b == 0) = false := by simp; omega
        simp only [q1, q2, if_true, Bool.false_eq_true, if_false]
        rcases (okR_iff c d).1 h2 with ⟨rfl, rfl⟩ | ⟨p4, p5, p6⟩
        · simp
        · have q3 : decide (c ≤ d) = true := by simpa using p6
          have q4 : (c == 1 && d == 0) = false := by simp; omega
          simp only [q3, q4, if_true, Bool.false_eq_true, if_false]
          have e1 : (if a < c then a else c) = mn a c := by unfold mn; split <;> split <;> omega
          have e2 : (if d < b then b else d) = mx b d := by unfold mx; split <;> split <;> omega
          rw [e1, e2, mkR_in]
          · unfold mn; split <;> omega
          · unfold mx; split <;> omega
          · unfold mn mx; split <;> split <;> omega
    · simp [h1, h2]
  · simp [h1]
end Go.Proofs.YtdmdalapckcobaaDoor.Q
namespace Go.Proofs.YtdmdalapckcobaaDoor.Q
open Go.RowKit Go.Proofs.YtdmdalapckcobaaDoorW.PrintWords Go.Proofs.YtdmdalapckcobaaDoorW.PrintLast Go.Proofs.YtdmdalapckcobaaDoorW.PrintMore
open Go.Proofs.YtdmdalapckcobaaDoor.Open
set_option linter.unusedSimpArgs false
set_option linter.unusedVariables false
def joinV (a b : Int) (s : Bool) (c d : Int) (t : Bool) : Int × Int × Bool := if (okR a b && okR c d) = true then ((joinR a b c d).1, (joinR a b c d).2, s && t) else (1, 0, true)
theorem i_vjoin (k : Nat) (a b : Int) (s : Bool) (c d : Int) (t : Bool) : impl_ValJoin.f (k + 1) a b s c d t = some (joinV a b s c d t) := by
  unfold impl_ValJoin.f joinV
  simp only [i_vok, i_join, Option.bind_some]
  cases okR a b <;> cases okR c d <;> cases s <;> simp
theorem s_vjoin (k : Nat) (a b : Int) (s : Bool) (c d : Int) (t : Bool) : spec_ValJoin.f (k + 2) a b s c d t = some (joinV a b s c d t) := by
  unfold spec_ValJoin.f spec_ValJoin.j0 joinV spec_l09None.f spec_l06None.f
  simp only [s_vok, s_join, Option.bind_some]
  cases okR a b <;> cases okR c d <;> cases s <;> simp
theorem joinV_none {x : IVal} (h : okV x = true) : joinV 1 0 true x.f0.f0 x.f0.f1 x.f1 = (x.f0.f0, x.f0.f1, x.f1) := by
  unfold okV at h
  unfold joinV joinR
  have h1 : okR 1 0 = true := by decide
  simp [h, h1]
def vj (x y : IVal) : IVal := ⟨⟨(joinV x.f0.f0 x.f0.f1 x.f1 y.f0.f0 y.f0.f1 y.f1).1, (joinV x.f0.f0 x.f0.f1 x.f1 y.f0.f0 y.f0.f1 y.f1).2.1⟩, (joinV x.f0.f0 x.f0.f1 x.f1 y.f0.f0 y.f0.f1 y.f1).2.2⟩
/-- What is said between two bounds, behind one more segment. -/
def nxt : Option (IVal × Bool) → IVal → Bool → IVal × Bool
  | none, v, m => (v, m)
  | some (a, c), v, m => (vj a v, c && m)
/-- What is said between the bounds that are kept: of the rows behind the first their lengths are told. -/
def tidyL : List Nat → List IVal → List Bool → Option (IVal × Bool) → List IVal × List Bool
  | n :: ns, v :: vs, m :: ms, p => if n = 0 then tidyL ns vs ms (some (nxt p v m)) else ((nxt p v m).1 :: (tidyL ns vs ms none).1, (nxt p v m).2 :: (tidyL ns vs ms none).2)
  | _, _, _, _ => ([], [])
def pv : Option (IVal × Bool) → IVal
  | none => ⟨⟨1, 0⟩, true⟩
  | some p => p.1
def pm : Option (IVal × Bool) → Bool
  | none => true
  | some p => p.2
def pl : Option (IVal × Bool) → List IVal
  | none => []
  | some p => [p.1]
def pn : Option (IVal × Bool) → List Bool
  | none => []
  | some p => [p.2]
theorem nxt_join (p : Option (IVal × Bool)) (v : IVal) (m : Bool) (hv : okV v = true) : joinV (pv p).f0.f0 (pv p).f0.f1 (pv p).f1 v.f0.f0 v.f0.f1 v.f1 = ((nxt p v m).1.f0.f0, (nxt p v m).1.f0.f1, (nxt p v m).1.f1) := by
  cases p with
  | none => exact joinV_none hv
  | some p => rfl
theorem nxt_flag (p : Option (IVal × Bool)) (v : IVal) (m : Bool) : (nxt p v m).2 = (pm p && m) := by
  cases p with
  | none => rfl
  | some p => rfl
theorem drop_at {α : Type} {l : List α} {i : Nat} (h : i < l.length) : ∃ x, l[i]? = some x ∧ l.drop i = x :: l.drop (i + 1) :=
  ⟨l[i], List.getElem?_eq_getElem h, List.drop_eq_getElem_cons h⟩
theorem s_tidy_l (b : List (List ISym)) (v : List IVal) (m : List Bool) (hb : b.length ≤ 1000000) (hr : ∀ r ∈ b, r.length ≤ 1000000) (hv : v.length + 1 = b.length) (hm : m.length + 1 = b.length) (hok : ∀ x ∈ v, okV x = true) : ∀ (t : List (List ISym)) (i k : Nat) (OB : List (List ISym)) (OV : List IVal) (OM : List Bool) (p : Option (IVal × Bool)),
    1 ≤ i → b.drop i = t → 2 * t.length + 5 < k → OB.length ≤ i → OV.length ≤ i → OM.length ≤ i →
    spec_l10Tidy.l0 k (pm p) (i : Int) b v m OB OV OM (pv p).f0.f0 (pv p).f0.f1 (pv p).f1 = some (OB ++ t.filter (fun r => decide (0 < r.length)), OV ++ (tidyL (t.map List.length) (v.drop (i - 1)) (m.drop (i - 1)) p).1, OM ++ (tidyL (t.map List.length) (v.drop (i - 1)) (m.drop (i - 1)) p).2)
  | [], i, k, OB, OV, OM, p, hi, hd, hk, h1, h2, h3 => by
    have := drop_nil hd
    obtain ⟨k, rfl⟩ : ∃ n, k = n + 1 := ⟨k - 1, by omega⟩
    rw [spec_l10Tidy.l0, if_neg (by omega)]
    simp [tidyL]
  | r :: t, i, k, OB, OV, OM, p, hi, hd, hk, h1, h2, h3 => by
    obtain ⟨q1, q2, q3⟩ := drop_cons hd
    rw [List.length_cons] at hk
    obtain ⟨k, rfl⟩ : ∃ n, k = n + 4 := ⟨k - 4, by omega⟩
    obtain ⟨x, x1, x2⟩ := drop_at (l := v) (i := i - 1) (by omega)
    obtain ⟨y, y1, y2⟩ := drop_at (l := m) (i := i - 1) (by omega)
    rw [show i - 1 + 1 = i by omega] at x2 y2
    have hx := hok x (List.mem_of_getElem? x1)
    have hrl := hr r (List.mem_of_getElem? q2)
    have hw : wrap64 ((i : Int) - 1) = ((i - 1 : Nat) : Int) := by rw [w64 (by omega) (by omega)]; omega
    have hvl : i - 1 < v.length := by omega
    have hml : i - 1 < m.length := by omega
    rw [spec_l10Tidy.l0, if_pos (by omega), if_pos (by omega), hw, if_pos (by omega), if_pos (by omega), rd_ival x1, rd_flag y1, s_vjoin (k + 1), nxt_join p x y hx, Option.bind_some]
    have hj : spec_l10Tidy.j1 (k + 3) (nxt p x y).2 (i : Int) b v m OB OV OM (nxt p x y).1.f0.f0 (nxt p x y).1.f0.f1 (nxt p x y).1.f1 = some (OB ++ (r :: t).filter (fun r => decide (0 < r.length)), OV ++ (tidyL ((r :: t).map List.length) (v.drop (i - 1)) (m.drop (i - 1)) p).1, OM ++ (tidyL ((r :: t).map List.length) (v.drop (i - 1)) (m.drop (i - 1)) p).2) := by
      rw [spec_l10Tidy.j1, if_pos (by omega), if_pos (by omega), rd_irow q2, x2, y2, List.map_cons, tidyL]
      by_cases h0 : r.length = 0
      · rw [if_pos (by omega), if_pos h0, w64s i (by omega)]
        have := s_tidy_l b v m hb hr hv hm hok t (i + 1) (k + 2) OB OV OM (some (nxt p x y)) (by omega) q3 (by omega) (by omega) (by omega) (by omega)
        rw [show i + 1 - 1 = i by omega] at this
        rw [List.filter_cons_of_neg (by rw [decide_eq_true_eq]; omega)]
        exact this
      · rw [if_neg (by omega), if_neg h0, if_pos (by omega), if_pos (by omega), if_pos (by omega), Option.bind_some, if_pos (by simp; omega), if_pos (by omega), spec_l09None.f, spec_l06None.f, Option.bind_some, Option.bind_some, w64s i (by omega)]
        have := s_tidy_l b v m hb hr hv hm hok t (i + 1) (k + 2) (OB ++ [r]) (OV ++ [(nxt p x y).1]) (OM ++ [(nxt p x y).2]) none (by omega) q3 (by omega) (by simp; omega) (by simp; omega) (by simp; omega)
        rw [show i + 1 - 1 = i by omega] at this
        rw [List.filter_cons_of_pos (by rw [decide_eq_true_eq]; omega)]
        simp only [List.append_assoc, List.singleton_append] at this
        exact this
    cases hp : pm p with
    | true =>
      rw [if_pos rfl, if_pos (by omega)]
      rw [nxt_flag, hp, Bool.true_and] at hj
      exact hj
    | false =>
      rw [if_neg (by decide)]
      rw [nxt_flag, hp, Bool.false_and] at hj
      exact hj
theorem s_tidy {b : List (List ISym)} {v : List IVal} {m : List Bool} (hb : b.length ≤ 1000000) (hr : ∀ r ∈ b, r.length ≤ 1000000) (hv : v.length + 1 = b.length) (hm : m.length + 1 = b.length) (hok : ∀ x ∈ v, okV x = true) {r0 : List ISym} {t : List (List ISym)} (he : b = r0 :: t) (h0 : 0 < r0.length) (k : Nat) (hk : 2 * b.length + 9 < k) :
    spec_l10Tidy.f k b v m = some (b.filter (fun r => decide (0 < r.length)), (tidyL (t.map List.length) v m none).1, (tidyL (t.map List.length) v m none).2) := by
  have hr0 : b[0]? = some r0 := by rw [he]; rfl
  have h0m := hr r0 (by rw [he]; exact List.mem_cons_self)
  obtain ⟨k, rfl⟩ : ∃ n, k = n + 2 := ⟨k - 2, by omega⟩
  rw [spec_l10Tidy.f, spec_l09None.f, spec_l06None.f, Option.bind_some, Option.bind_some, spec_l10Tidy.l0, if_pos (by omega), if_neg (by omega), spec_l10Tidy.j1, if_pos (by omega), if_pos (by omega), show (0 : Int) = ((0 : Nat) : Int) from rfl, rd_irow hr0, if_neg (by omega), if_neg (by omega), Option.bind_some, if_pos (by simp; omega), if_pos (by simp), spec_l09None.f, spec_l06None.f, Option.bind_some, Option.bind_some, w64s 0 (by omega)]
  have hbl : t.length + 1 = b.length := by rw [he]; rfl
  have := s_tidy_l b v m hb hr hv hm hok t 1 k [r0] [] [] none (by omega) (by rw [he]; rfl) (by omega) (by simp) (by simp) (by simp)
  rw [he, List.filter_cons_of_pos (by rw [decide_eq_true_eq]; exact h0), ← he]
  exact this
theorem rd_sl {l : List Sl} {i : Nat} {x : Sl} (h : l[i]? = some x) : rdOf zSl l (i : Int) = x := by
  unfold rdOf; simp [List.getD, h]
theorem getLast_cons2 {α : Type} {x : α} {t : List α} (h : t ≠ []) : (x :: t).getLast? = t.getLast? := by
  cases t with
  | nil => exact absurd rfl h
  | cons y t => rfl
theorem i_prune_l (ls : List Sl) (v : List IVal) (m : List Bool) (hb : ls.length ≤ 1000000) (hv : v.length + 1 = ls.length) (hm : m.length + 1 = ls.length) : ∀ (t : List Sl) (i k : Nat) (OB : List Sl) (W : List IVal) (M : List Bool) (p : Option (IVal × Bool)),
    1 ≤ i → ls.drop i = t → 2 * t.length + 5 < k → OB.length ≤ i → OB.length = W.length + 1 → M.length = W.length → (t = [] → p = none) → (∀ x, t.getLast? = some x → 0 < x.2.1) →
    impl_Seg_pruned.l0 k ls (ls.length : Int) (i : Int) ls v m OB (W ++ pl p) (M ++ pn p) = some (OB ++ t.filter (fun x => decide (0 < x.2.1)), W ++ (tidyL (t.map fun x => x.2.1) (v.drop (i - 1)) (m.drop (i - 1)) p).1, M ++ (tidyL (t.map fun x => x.2.1) (v.drop (i - 1)) (m.drop (i - 1)) p).2)
  | [], i, k, OB, W, M, p, hi, hd, hk, h1, h2, h3, hp, hl => by
    have := drop_nil hd
    obtain ⟨k, rfl⟩ : ∃ n, k = n + 1 := ⟨k - 1, by omega⟩
    obtain rfl := hp rfl
    rw [impl_Seg_pruned.l0, if_neg (by omega)]
    simp [tidyL, pl, pn]
  | x :: t, i, k, OB, W, M, p, hi, hd, hk, h1, h2, h3, hp, hl => by
    obtain ⟨q1, q2, q3⟩ := drop_cons hd
    rw [List.length_cons] at hk
    obtain ⟨k, rfl⟩ : ∃ n, k = n + 3 := ⟨k - 3, by omega⟩
    obtain ⟨z, z1, z2⟩ := drop_at (l := v) (i := i - 1) (by omega)
    obtain ⟨y, y1, y2⟩ := drop_at (l := m) (i := i - 1) (by omega)
    rw [show i - 1 + 1 = i by omega] at z2 y2
    have hw : wrap64 ((i : Int) - 1) = ((i - 1 : Nat) : Int) := by rw [w64 (by omega) (by omega)]; omega
    have hvl : i - 1 < v.length := by omega
    have hml : i - 1 < m.length := by omega
    have hpl : (pl p).length ≤ 1 := by cases p <;> simp [pl]
    have hpn : (pn p).length = (pl p).length := by cases p <;> rfl
    have hlast : t ≠ [] → ∀ x, t.getLast? = some x → 0 < x.2.1 := fun ht y hy => hl y (by rw [getLast_cons2 ht]; exact hy)
    have hx0 : t = [] → 0 < x.2.1 := fun ht => hl x (by rw [ht]; rfl)
    have IH : ∀ (OB : List Sl) (W : List IVal) (M : List Bool) (p : Option (IVal × Bool)), OB.length ≤ i + 1 → OB.length = W.length + 1 → M.length = W.length → (t = [] → p = none) → impl_Seg_pruned.l0 (k + 1) ls (ls.length : Int) ((i + 1 : Nat) : Int) ls v m OB (W ++ pl p) (M ++ pn p) = some (OB ++ t.filter (fun x => decide (0 < x.2.1)), W ++ (tidyL (t.map fun x => x.2.1) (v.drop i) (m.drop i) p).1, M ++ (tidyL (t.map fun x => x.2.1) (v.drop i) (m.drop i) p).2) := by
      intro OB W M p a1 a2 a3 a4
      have := i_prune_l ls v m hb hv hm t (i + 1) (k + 1) OB W M p (by omega) q3 (by omega) a1 a2 a3 a4 (fun y hy => hlast (by intro e; rw [e] at hy; cases hy) y hy)
      rw [show i + 1 - 1 = i by omega] at this
      exact this
    -- what both ways end in
    have fin : ∀ (q : IVal × Bool), q = nxt p z y → (if (x.2.1 : Int) > 0 then ((some (([x] : List Sl) : List Sl)).bind fun y476 => (if OB.length + y476.length < 5864062014805 then (impl_Seg_pruned.l0 (k + 1) ls (ls.length : Int) (wrap64 ((i : Int) + 1)) ls v m (OB ++ y476) (W ++ [q.1]) (M ++ [q.2])) else (none))) else (impl_Seg_pruned.l0 (k + 1) ls (ls.length : Int) (wrap64 ((i : Int) + 1)) ls v m OB (W ++ [q.1]) (M ++ [q.2]))) = some (OB ++ (x :: t).filter (fun x => decide (0 < x.2.1)), W ++ (tidyL ((x :: t).map fun x => x.2.1) (v.drop (i - 1)) (m.drop (i - 1)) p).1, M ++ (tidyL ((x :: t).map fun x => x.2.1) (v.drop (i - 1)) (m.drop (i - 1)) p).2) := by
      intro q hq
      rw [z2, y2, List.map_cons, tidyL, ← hq, w64s i (by omega)]
      by_cases h0 : x.2.1 = 0
      · rw [if_neg (by omega), if_pos h0, List.filter_cons_of_neg (by rw [decide_eq_true_eq]; omega)]
        exact IH OB W M (some q) (by omega) h2 h3 (fun e => absurd (hx0 e) (by omega))
      · rw [if_pos (by omega), if_neg h0, Option.bind_some, if_pos (by simp; omega), List.filter_cons_of_pos (by rw [decide_eq_true_eq]; omega)]
        have := IH (OB ++ [x]) (W ++ [q.1]) (M ++ [q.2]) none (by simp; omega) (by simp; omega) (by simp; omega) (fun _ => rfl)
        simp only [pl, pn, List.append_nil, List.append_assoc, List.singleton_append] at this
        exact this
    rw [impl_Seg_pruned.l0, if_pos (by omega), if_pos (by omega), if_pos (by omega), if_pos (by omega), hw, if_pos (by omega), if_pos (by omega), rd_ival z1, Option.bind_some, if_pos (by simp; omega), if_pos (by omega), rd_flag y1, Option.bind_some, if_pos (by simp; omega), rd_sl q2, impl_Seg_pruned.j1]
    cases p with
    | none =>
      simp only [pl, pn, List.append_nil]
      rw [if_neg (by simp; omega)]
      exact fin (z, y) rfl
    | some p =>
      obtain ⟨a, c⟩ := p
      simp only [pl, pn, List.append_assoc, List.singleton_append]
      have hlen : ((W ++ [a, z]).length : Int) = ((W.length + 2 : Nat) : Int) := by simp
      have hw2 : wrap64 (((W ++ [a, z]).length : Int) - 2) = ((W.length : Nat) : Int) := by rw [hlen, w64 (by omega) (by omega)]; omega
      have hw1 : wrap64 (((W ++ [a, z]).length : Int) - 1) = ((W.length + 1 : Nat) : Int) := by rw [hlen, w64 (by omega) (by omega)]; omega
      have e1 : (W ++ [a, z])[W.length]? = some a := by rw [List.getElem?_append_right (Nat.le_refl _), Nat.sub_self]; rfl
      have e2 : (W ++ [a, z])[W.length + 1]? = some z := by rw [List.getElem?_append_right (by omega), show W.length + 1 - W.length = 1 by omega]; rfl
      have e3 : (M ++ [c, y])[W.length]? = some c := by rw [← h3, List.getElem?_append_right (Nat.le_refl _), Nat.sub_self]; rfl
      have e4 : (M ++ [c, y])[W.length + 1]? = some y := by rw [← h3, List.getElem?_append_right (by omega), show M.length + 1 - M.length = 1 by omega]; rfl
      have e5 : (W ++ [a, z]).take W.length = W := by rw [List.take_append_of_le_length (Nat.le_refl _), List.take_length]
      have e6 : (M ++ [c, y]).take W.length = M := by rw [← h3, List.take_append_of_le_length (Nat.le_refl _), List.take_length]
      have hWn : W.length ≤ 1000000 := by omega
      rw [if_pos (by rw [hlen]; omega), hw2, hw1, if_pos (by omega), if_pos (by rw [hlen]; omega), Option.bind_some, if_pos (by rw [hlen]; omega), if_pos (by omega), if_pos (by rw [hlen]; omega), rd_ival e1, rd_ival e2, i_vjoin k, Option.bind_some, Option.bind_some, Int.toNat_natCast, e5, if_pos (by simp; omega), Option.bind_some, if_pos (by simp; omega), Option.bind_some, e6, if_pos (by simp; omega), rd_flag e3]
      have hf := fin (vj a z, c && y) rfl
      cases c with
      | true =>
        rw [if_pos rfl, if_pos (by simp; omega), rd_flag e4, Option.bind_some, if_pos (by simp; omega), Option.bind_some]
        rw [Bool.true_and] at hf
        exact hf
      | false =>
        rw [if_neg (by decide), Option.bind_some, if_pos (by simp; omega), Option.bind_some]
        rw [Bool.false_and] at hf
        exact hf
theorem i_prune (ls : List Sl) (v : List IVal) (m : List Bool) (hb : ls.length ≤ 1000000) (hv : v.length + 1 = ls.length) (hm : m.length + 1 = ls.length) {n0 : Nat} {ns : List Nat} (he : ls.map (fun x => x.2.1) = n0 :: ns) (h0 : 0 < n0) (hl : ∀ n, (n0 :: ns).getLast? = some n → 0 < n) (k : Nat) (hk : 2 * ls.length + 9 < k) :
    impl_Seg_pruned.f k ls v m = some (ls.filter (fun x => decide (0 < x.2.1)), (tidyL ns v m none).1, (tidyL ns v m none).2) := by
  cases ls with
  | nil => cases he
  | cons x t =>
    rw [List.map_cons] at he
    injection he with e1 e2
    subst e1 e2
    obtain ⟨k, rfl⟩ : ∃ n, k = n + 2 := ⟨k - 2, by omega⟩
    have hx : (x :: t)[0]? = some x := rfl
    have hpos : (0 : Int) < ((x :: t).length : Int) := by rw [List.length_cons]; omega
    rw [impl_Seg_pruned.f, impl_Seg_pruned.l0, if_pos hpos, if_pos (by omega), if_pos hpos, if_neg (by omega), show (0 : Int) = ((0 : Nat) : Int) from rfl, rd_sl hx, impl_Seg_pruned.j1, if_neg (by simp), if_pos (by omega), Option.bind_some, if_pos (by simp), w64s 0 (by omega)]
    rw [List.length_cons] at hk
    have hlast : ∀ y, t.getLast? = some y → 0 < y.2.1 := by
      intro y hy
      refine hl y.2.1 ?_
      have hne : t ≠ [] := by intro e; rw [e] at hy; cases hy
      rw [getLast_cons2 (by simpa using hne), List.getLast?_map, hy]; rfl
    have := i_prune_l (x :: t) v m hb hv hm t 1 k [x] [] [] none (by omega) rfl (by omega) (by simp) (by simp) rfl (fun _ => rfl) hlast
    rw [List.filter_cons_of_pos (by rw [decide_eq_true_eq]; exact h0)]
    exact this
end Go.Proofs.YtdmdalapckcobaaDoor.Q
namespace Go.Proofs.YtdmdalapckcobaaDoor.Q
open Go.RowKit Go.Proofs.YtdmdalapckcobaaDoorW.PrintWords Go.Proofs.YtdmdalapckcobaaDoorW.PrintLast Go.Proofs.YtdmdalapckcobaaDoorW.PrintMore
open Go.Proofs.YtdmdalapckcobaaDoor.Open
set_option linter.unusedSimpArgs false
set_option linter.unusedVariables false
/-- Does a term stay? -/
def stays (l : Int) (ts : List ISym) (x : ISym) : Bool := isSym x 0 0 || isSym x l 0 || !hasS ts x.f0 x.f1
def kept (l : Int) (ts : List ISym) (b : List (List ISym)) : List (List ISym) := b.map fun r => r.filter (stays l ts)
theorem s_findL (ts : List ISym) (hn : ts.length ≤ 1048576) (a c : Int) (k : Nat) (hk : ts.length < k) : ∃ t, spec_l10Find.f k ts a c = some t ∧ decide (t < 0) = !hasS ts a c := by
  refine ⟨findS ts a c 0, ?_, ?_⟩
  · rw [spec_l10Find.f]
    exact s_find ts (by omega) a c ts 0 k rfl hk
  · rw [← findS_has a c ts 0]
    by_cases h : findS ts a c 0 ≥ 0
    · rw [decide_eq_true h, decide_eq_false (by omega)]; rfl
    · rw [decide_eq_false h, decide_eq_true (by omega)]; rfl
theorem s_without_l (l : Int) (ts : List ISym) (hn : ts.length ≤ 1048576) (r : List ISym) (hr : r.length ≤ 1000000) : ∀ (t : List ISym) (i k : Nat) (o : List ISym), r.drop i = t → ts.length + 1 + t.length < k → o.length ≤ i → spec_l10Without.l0 k r l ts o (i : Int) = some (o ++ t.filter (stays l ts))
  | [], i, k, o, hd, hk, ho => by
    have := drop_nil hd
    obtain ⟨k, rfl⟩ : ∃ n, k = n + 1 := ⟨k - 1, by omega⟩
    rw [spec_l10Without.l0, if_neg (by omega)]
    simp
  | x :: t, i, k, o, hd, hk, ho => by
    obtain ⟨q1, q2, q3⟩ := drop_cons hd
    rw [List.length_cons] at hk
    obtain ⟨k, rfl⟩ : ∃ n, k = n + 1 := ⟨k - 1, by omega⟩
    have yes : stays l ts x = true → spec_l10Without.l0 k r l ts (o ++ [(⟨x.f0, x.f1⟩ : ISym)]) (wrap64 ((i : Int) + 1)) = some (o ++ (x :: t).filter (stays l ts)) := fun h => by
      rw [w64s i (by omega), s_without_l l ts hn r hr t (i + 1) k _ q3 (by omega) (by simp; omega), List.filter_cons_of_pos h]
      simp
    rw [spec_l10Without.l0, if_pos (by omega), if_pos (by omega), rd_isym q2]
    cases h1 : isSym x 0 0 with
    | true =>
      unfold isSym at h1
      rw [if_pos h1, if_pos (by omega)]
      exact yes (by unfold stays isSym; rw [h1]; rfl)
    | false =>
      have h1' := h1
      unfold isSym at h1
      rw [if_neg (by rw [h1]; decide)]
      cases h2 : isSym x l 0 with
      | true =>
        unfold isSym at h2
        rw [if_pos h2, if_pos (by omega)]
        exact yes (by unfold stays isSym; rw [h2]; simp)
      | false =>
        have h2' := h2
        unfold isSym at h2
        rw [if_neg (by rw [h2]; decide)]
        obtain ⟨f, f1, f2⟩ := s_findL ts hn x.f0 x.f1 k (by omega)
        rw [f1, Option.bind_some]
        by_cases hf : f < 0
        · rw [if_pos hf, if_pos (by omega)]
          rw [decide_eq_true hf] at f2
          exact yes (by unfold stays; rw [← f2]; simp)
        · rw [if_neg hf, w64s i (by omega), s_without_l l ts hn r hr t (i + 1) k _ q3 (by omega) (by omega)]
          rw [decide_eq_false hf] at f2
          rw [List.filter_cons_of_neg (by unfold stays; rw [h1', h2', ← f2]; decide)]
theorem s_drop_l (l : Int) (ts : List ISym) (hn : ts.length ≤ 1048576) (b : List (List ISym)) (v : List IVal) (m : List Bool) (hb : b.length ≤ 1000000) (hr : ∀ r ∈ b, r.length ≤ 1000000) (X : Option (List (List ISym) × List IVal × List Bool)) (Kx : Nat) (hX : ∀ k, Kx ≤ k → spec_l10Tidy.f k (kept l ts b) v m = X) : ∀ (t : List (List ISym)) (i k : Nat) (o : List (List ISym)), b.drop i = t → Kx + ts.length + 1000002 + t.length < k → o.length ≤ i → o ++ kept l ts t = kept l ts b → spec_l10Drop.l0 k l ts (i : Int) b v m o v m = X
  | [], i, k, o, hd, hk, ho, he => by
    have := drop_nil hd
    obtain ⟨k, rfl⟩ : ∃ n, k = n + 1 := ⟨k - 1, by omega⟩
    rw [show kept l ts ([] : List (List ISym)) = [] from rfl, List.append_nil] at he
    rw [spec_l10Drop.l0, if_neg (by omega), he, hX k (by omega)]
    cases X <;> rfl
  | r :: t, i, k, o, hd, hk, ho, he => by
    obtain ⟨q1, q2, q3⟩ := drop_cons hd
    rw [List.length_cons] at hk
    obtain ⟨k, rfl⟩ : ∃ n, k = n + 1 := ⟨k - 1, by omega⟩
    have hrl := hr r (List.mem_of_getElem? q2)
    have hw := s_without_l l ts hn r hrl r 0 k [] rfl (by omega) (by simp)
    rw [spec_l10Drop.l0, if_pos (by omega), if_pos (by omega), rd_irow q2, spec_l10Without.f]
    rw [show ((0 : Nat) : Int) = 0 from rfl, List.nil_append] at hw
    rw [hw, Option.bind_some, if_pos (by omega), w64s i (by omega)]
    exact s_drop_l l ts hn b v m hb hr X Kx hX t (i + 1) k _ q3 (by omega) (by simp; omega) (by rw [List.append_assoc]; exact he)
theorem i_clone_l (b : List (List ISym)) (v : List IVal) (m : List Bool) (hb : b.length ≤ 1000000) (hr : ∀ r ∈ b, r.length ≤ 1000000) : ∀ (t : List (List ISym)) (i k : Nat) (o : List (List ISym)), b.drop i = t → t.length < k → o.length ≤ i → o ++ t = b → impl_Seg_clone.l0 k b (b.length : Int) (i : Int) o v m = some (b, v, m)
  | [], i, k, o, hd, hk, ho, he => by
    have := drop_nil hd
    obtain ⟨k, rfl⟩ : ∃ n, k = n + 1 := ⟨k - 1, by omega⟩
    rw [List.append_nil] at he
    rw [impl_Seg_clone.l0, if_neg (by omega), he]
  | r :: t, i, k, o, hd, hk, ho, he => by
    obtain ⟨q1, q2, q3⟩ := drop_cons hd
    rw [List.length_cons] at hk
    obtain ⟨k, rfl⟩ : ∃ n, k = n + 1 := ⟨k - 1, by omega⟩
    rw [impl_Seg_clone.l0, if_pos (by omega), if_pos (by omega), if_pos (by omega), rd_irow q2, impl_Sym_111.f, if_pos (hr r (List.mem_of_getElem? q2)), Option.bind_some, if_pos (by omega), w64s i (by omega)]
    exact i_clone_l b v m hb hr t (i + 1) k _ q3 (by omega) (by simp; omega) (by rw [List.append_assoc]; exact he)
theorem i_clone (b : List (List ISym)) (v : List IVal) (m : List Bool) (hb : b.length ≤ 1000000) (hr : ∀ r ∈ b, r.length ≤ 1000000) (hv : v.length ≤ 1000000) (hm : m.length ≤ 1000000) (k : Nat) (hk : b.length < k) : impl_Seg_clone.f k b v m = some (b, v, m) := by
  rw [impl_Seg_clone.f, impl_Val_109.f, if_pos hv, Option.bind_some, slices_Clone_bool_bool.f, if_pos hm, Option.bind_some]
  exact i_clone_l b v m hb hr b 0 k [] rfl hk (by simp) rfl
/-- What SegDrop answers on a row that is right. -/
def dropped (l : Int) (ts : List ISym) (b : List (List ISym)) (v : List IVal) (m : List Bool) : List (List ISym) × List IVal × List Bool :=
  ((kept l ts b).filter fun r => decide (0 < r.length), (tidyL ((kept l ts b).tail.map List.length) v m none).1, (tidyL ((kept l ts b).tail.map List.length) v m none).2)
theorem tidyL_len : ∀ (ns : List Nat) (v : List IVal) (m : List Bool) (p : Option (IVal × Bool)), (tidyL ns v m p).1.length ≤ v.length ∧ (tidyL ns v m p).2.length ≤ v.length
  | [], v, m, p => by cases v <;> simp [tidyL]
  | n :: ns, [], m, p => by simp [tidyL]
  | n :: ns, v :: vs, [], p => by simp [tidyL]
  | n :: ns, v :: vs, m :: ms, p => by
    rw [tidyL]
    split
    · have := tidyL_len ns vs ms (some (nxt p v m))
      exact ⟨by simp; omega, by simp; omega⟩
    · have := tidyL_len ns vs ms none
      exact ⟨by simp; omega, by simp; omega⟩
theorem stays_eq (l : Int) (ts : List ISym) (x : ISym) : (!df_q ⟨0, 0⟩ ⟨l, 0⟩ (fun x => hasS ts x.f0 x.f1) x) = stays l ts x := by
  unfold df_q stays isSym
  dsimp only
  generalize hasS ts x.f0 x.f1 = h
  cases (x.f0 == 0 && x.f1 == 0) <;> cases (x.f0 == l && x.f1 == 0) <;> cases h <;> rfl
theorem keep_eq (l : Int) (ts : List ISym) (b : List (List ISym)) : impl_SegDrop.keep l b (fun x => hasS ts x.f0 x.f1) = (kept l ts b).filter fun r => decide (0 < r.length) := by
  unfold impl_SegDrop.keep kept
  congr 2
  funext r
  congr 1
  funext x
  exact stays_eq l ts x
theorem dropOk (size l : Int) (b : List (List ISym)) (v : List IVal) (m : List Bool) (ts : List ISym) (hts : ts.length ≤ 40) (hg : GoodS size b v m) (he : EndS size l b) : ∃ K, ∀ k, K ≤ k → spec_l10Drop.f k l b v m ts = some (dropped l ts b v m) ∧ impl_SegDrop.C k l b v m ts (fun x => hasS ts x.f0 x.f1) (dropped l ts b v m).2.1 (dropped l ts b v m).2.2 := by
  have hb16 := hg.rows
  have hv := hg.vals
  have hm := hg.flags
  have hsh := hg.short
  obtain ⟨r0, t, hb0, hr0⟩ := he.first
  obtain ⟨p, rl, hbl, hrl⟩ := he.last
  have hr : ∀ r ∈ b, r.length ≤ 1000000 := fun r hx => by have := hsh r hx; omega
  have hk0 : kept l ts b = r0.filter (stays l ts) :: kept l ts t := by rw [hb0]; rfl
  have hkl : (kept l ts b).length = b.length := by simp [kept]
  have hkr : ∀ r ∈ kept l ts b, r.length ≤ 1000000 := fun r hx => by
    obtain ⟨y, hy, rfl⟩ := List.mem_map.1 hx
    have := List.length_filter_le (stays l ts) y
    have := hsh y hy
    omega
  have hpos : 0 < (r0.filter (stays l ts)).length := List.length_pos_of_mem (List.mem_filter.2 ⟨hr0, by unfold stays isSym; simp⟩)
  have hlast : ∀ n, ((kept l ts b).map List.length).getLast? = some n → 0 < n := by
    intro n hn
    rw [hbl] at hn
    unfold kept at hn
    simp only [List.map_append, List.map_cons, List.map_nil, List.getLast?_append, List.getLast?_singleton, Option.some_or, Option.some.injEq] at hn
    rw [← hn]
    exact List.length_pos_of_mem (List.mem_filter.2 ⟨hrl, by unfold stays isSym; simp⟩)
  have htail : (kept l ts b).tail = kept l ts t := by rw [hk0]; rfl
  have hT := fun k hk => s_tidy (b := kept l ts b) (v := v) (m := m) (by omega) hkr (by omega) (by omega) (fun x hx => hg.valOk x hx) hk0 hpos k hk
  refine ⟨3000000, fun k hk => ⟨?_, fun x => i_contains ts (by omega) x.f0 x.f1 k (by omega), i_clone b v m (by omega) hr (by omega) (by omega) k (by omega), fun ls hls => ?_, by rw [hb0]; simp, by omega, fun r hx => ⟨List.length_pos_iff.2 (he.full r hx), hr r hx⟩⟩⟩
  · rw [spec_l10Drop.f]
    unfold dropped
    rw [htail]
    exact s_drop_l l ts (by omega) b v m (by omega) hr _ 1000 (fun k hk => hT k (by omega)) b 0 k [] rfl (by omega) (by simp) rfl
  · have hls' : ls.map (fun x => x.2.1) = (kept l ts b).map List.length := by
      rw [hls]
      unfold kept
      rw [List.map_map]
      congr 1
      funext r
      show _ = (r.filter (stays l ts)).length
      congr 2
      funext x
      exact stays_eq l ts x
    have hll : ls.length = b.length := by have := congrArg List.length hls'; simpa [hkl] using this
    have hls2 := hls'
    rw [hk0, List.map_cons] at hls2
    unfold dropped
    rw [htail]
    exact i_prune ls v m (by omega) (by omega) (by omega) hls2 hpos (fun n hn => hlast n (by rw [hk0, List.map_cons]; exact hn)) k (by omega)
theorem segDrop (size l : Int) (b : List (List ISym)) (v : List IVal) (m : List Bool) (ts : List ISym) (h : SmallS b v m) (htn : ts.length ≤ 1048576) : ∃ K rb rv rm, (rb.length ≤ 16 ∧ (∀ r ∈ rb, r.length ≤ 40) ∧ rv.length ≤ 16 ∧ rm.length ≤ 16) ∧ ∀ k, K ≤ k → spec_SegDrop.f k size l b v m ts = some (rb, rv, rm) ∧ impl_SegDrop.f k size l b v m ts = some (rb, rv, rm) := by
  obtain ⟨K, c, h1, h2⟩ := segOkE size l b v m h
  cases c with
  | false =>
    refine ⟨K, [], [], [], by simp, fun k hk => ?_⟩
    obtain ⟨e1, e2⟩ := h2 k hk
    exact ⟨by rw [spec_SegDrop.f, e1, Option.bind_some, if_neg (by decide)], impl_SegDrop.f_bad e2 (.inl rfl)⟩
  | true =>
    by_cases hts : ts.length ≤ 40
    · obtain ⟨hg, he⟩ := h1 rfl
      obtain ⟨K2, h3⟩ := dropOk size l b v m ts hts hg he
      have hl := tidyL_len ((kept l ts b).tail.map List.length) v m none
      have hb16 := hg.rows
      have hv := hg.vals
      refine ⟨K + K2, (dropped l ts b v m).1, (dropped l ts b v m).2.1, (dropped l ts b v m).2.2, ⟨?_, ?_, ?_, ?_⟩, fun k hk => ?_⟩
      · have := List.length_filter_le (fun r : List ISym => decide (0 < r.length)) (kept l ts b)
        simp only [kept, List.length_map] at this
        simp only [dropped, kept]
        omega
      · intro r hr
        obtain ⟨y, hy, rfl⟩ := List.mem_map.1 (List.mem_filter.1 hr).1
        have := List.length_filter_le (stays l ts) y
        have := hg.short y hy
        omega
      · have := hl.1
        simp only [dropped]
        omega
      · have := hl.2
        simp only [dropped]
        omega
      · obtain ⟨e1, e2⟩ := h2 k (by omega)
        obtain ⟨e3, e4⟩ := h3 k (by omega)
        refine ⟨?_, ?_⟩
        · rw [spec_SegDrop.f, e1, Option.bind_some, if_pos rfl, if_neg (by omega), e3, Option.bind_some]
        · rw [impl_SegDrop.f_good e2 hts e4, keep_eq]
          rfl
    · refine ⟨K, [], [], [], by simp, fun k hk => ?_⟩
      obtain ⟨e1, e2⟩ := h2 k hk
      exact ⟨by rw [spec_SegDrop.f, e1, Option.bind_some, if_pos rfl, if_pos (by omega)], impl_SegDrop.f_bad e2 (.inr (by omega))⟩
end Go.Proofs.YtdmdalapckcobaaDoor.Q
