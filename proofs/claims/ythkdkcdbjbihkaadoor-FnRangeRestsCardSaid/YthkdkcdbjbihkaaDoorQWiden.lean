/- Widening: the program's and the reference's answers as one plain function. -/
import Derived.Test.YthkdkcdbjbihkaaDoorQRng
import Derived.Test.YthkdkcdbjbihkaaDoorQLists
import Derived.Test.YthkdkcdbjbihkaaDoorQOpen
import Derived.Test.YthkdkcdbjbihkaaDoorQx2
import Derived.Test.YthkdkcdbjbihkaaDoorQx4
import Derived.Test.YthkdkcdbjbihkaaDoorQx5
import Derived.Test.YthkdkcdbjbihkaaDoorQx6
import Derived.Test.YthkdkcdbjbihkaaDoorQx7
namespace Go.Proofs.YthkdkcdbjbihkaaDoor.Q
open Go.RowKit Go.Proofs.YthkdkcdbjbihkaaDoorW.PrintWords Go.Proofs.YthkdkcdbjbihkaaDoorW.PrintLast Go.Proofs.YthkdkcdbjbihkaaDoorW.PrintMore
open Go.Proofs.YthkdkcdbjbihkaaDoor.Open
set_option linter.unusedSimpArgs false
set_option linter.unusedVariables false
/-- The steps from a place on are numbers of the language, each greater than the one ahead of it. -/
def stFrom : Bool → Int → List Int → Bool
  | _, _, [] => true
  | ahead, p, x :: t => (decide (-1000000 ≤ x) && decide (x ≤ 1000000)) && (!ahead || decide (p < x)) && stFrom true x t
def stOk (l : List Int) : Bool := decide (l.length ≤ 20) && stFrom false 0 l
theorem rd_pred {l : List Int} {i : Nat} {x : Int} (hi : 0 < i) (h : l[i - 1]? = some x) : rd l ((i : Int) - 1) = x := by
  rw [show ((i : Int) - 1) = ((i - 1 : Nat) : Int) by omega]; exact rd_at h
theorem i_steps_l (l : List Int) (hn : l.length < 9223372036854775807) : ∀ t k i, l.drop i = t → t.length < k → impl_stepsOk.l0 k l l (l.length : Int) (i : Int) = some (decide (l.length ≤ 20) && stFrom (decide (0 < i)) (rd l ((i : Int) - 1)) t)
  | [], k + 1, i, h, hk => by
    have := drop_nil h
    unfold impl_stepsOk.l0 stFrom
    rw [if_neg (by omega), Bool.and_true]
    congr 1; rw [decide_eq_decide]; omega
  | x :: t, k + 1, i, h, hk => by
    obtain ⟨h1, h2, h3⟩ := drop_cons h
    have ih := i_steps_l l hn t k (i + 1) h3 (by simp at hk; omega)
    have e3 : rd l ((((i + 1 : Nat) : Int)) - 1) = x := by rw [show (((i + 1 : Nat) : Int)) - 1 = (i : Int) by omega]; exact rd_at h2
    rw [e3] at ih
    unfold impl_stepsOk.l0 stFrom
    rw [if_pos (by omega), if_pos (by omega), if_pos (by omega), rd_at h2, i_val, w64s i (by omega), ih]
    simp only [Option.bind_some]
    cases hv : (decide (-1000000 ≤ x) && decide (x ≤ 1000000))
    · simp
    · rw [if_pos rfl]
      by_cases hi : 0 < i
      · rw [if_pos (by omega), w64 (by omega) (by omega), if_pos (by omega), if_pos (by omega)]
        simp only [hi, decide_true, Bool.not_true, Bool.false_or, Bool.true_and]
        by_cases hp : rd l ((i : Int) - 1) < x
        · rw [if_neg (by omega)]; simp [hp]
        · rw [if_pos (by omega)]; simp [hp]
      · rw [if_neg (by omega)]; simp [hi]
theorem i_steps (k : Nat) (l : List Int) (hn : l.length ≤ 1048576) (hk : l.length < k) : impl_stepsOk.f k l = some (stOk l) := by
  unfold impl_stepsOk.f
  have := i_steps_l l (by omega) l k 0 rfl hk
  simp only [Nat.lt_irrefl, decide_false] at this
  have e : ∀ p q t, stFrom false p t = stFrom false q t := by intro p q t; cases t <;> simp [stFrom]
  rw [e _ 0] at this
  exact this
theorem s_steps_l (l : List Int) (hn : l.length < 9223372036854775807) : ∀ t k i, l.drop i = t → t.length < k → spec_l06Steps.l0 k l (i : Int) = some (stFrom (decide (0 < i)) (rd l ((i : Int) - 1)) t)
  | [], k + 1, i, h, hk => by
    have := drop_nil h
    unfold spec_l06Steps.l0 stFrom
    rw [if_neg (by omega)]
  | x :: t, k + 1, i, h, hk => by
    obtain ⟨h1, h2, h3⟩ := drop_cons h
    have ih := s_steps_l l hn t k (i + 1) h3 (by simp at hk; omega)
    have e3 : rd l ((((i + 1 : Nat) : Int)) - 1) = x := by rw [show (((i + 1 : Nat) : Int)) - 1 = (i : Int) by omega]; exact rd_at h2
    rw [e3] at ih
    unfold spec_l06Steps.l0 stFrom
    rw [if_pos (by omega), if_pos (by omega), rd_at h2, s_val, w64s i (by omega), ih]
    simp only [Option.bind_some]
    cases hv : (decide (-1000000 ≤ x) && decide (x ≤ 1000000))
    · simp
    · rw [if_pos rfl]
      by_cases hi : 0 < i
      · rw [if_pos (by omega), w64 (by omega) (by omega), if_pos (by omega), if_pos (by omega)]
        simp only [hi, decide_true, Bool.not_true, Bool.false_or, Bool.true_and]
        by_cases hp : rd l ((i : Int) - 1) < x
        · rw [if_neg (by omega)]; simp [hp]
        · rw [if_pos (by omega)]; simp [hp]
      · rw [if_neg (by omega)]; simp [hi]
theorem s_steps (k : Nat) (l : List Int) (hn : l.length ≤ 1048576) (hk : l.length < k) : spec_l06Steps.f k l = some (stOk l) := by
  unfold spec_l06Steps.f stOk
  have e : ∀ p q t, stFrom false p t = stFrom false q t := by intro p q t; cases t <;> simp [stFrom]
  by_cases h : l.length ≤ 20
  · rw [if_neg (by omega)]
    have := s_steps_l l (by omega) l k 0 rfl hk
    simp only [Nat.lt_irrefl, decide_false] at this
    rw [e _ 0] at this
    simp only [h, decide_true, Bool.true_and]
    exact this
  · rw [if_pos (by omega)]; simp [h]
/-- The lower end that comes of the steps. -/
def loOf (c : Int) : Int → List Int → Int
  | lo, [] => lo
  | lo, x :: t => loOf c (if x ≤ c then x else lo) t
def hiOf (d : Int) : List Int → Int → Int
  | [], hi => hi
  | x :: t, hi => if x ≥ d then x else hiOf d t hi
def widR (a b c d : Int) (l : List Int) : Int × Int :=
  if (okR a b && okR c d && stOk l) = true then
    (if (a == 1 && b == 0) = true then (c, d) else if (c == 1 && d == 0) = true then (a, b)
     else (if c < a then loOf c (-1000000) l else a, if b < d then hiOf d l 1000000 else b))
  else (1, 0)
theorem st_in : ∀ {w p l}, stFrom w p l = true → ∀ x ∈ l, -1000000 ≤ x ∧ x ≤ 1000000
  | _, _, [], _, x, hx => by simp at hx
  | w, p, y :: t, h, x, hx => by
    simp only [stFrom, Bool.and_eq_true, decide_eq_true_eq] at h
    rcases List.mem_cons.1 hx with rfl | hx
    · exact h.1.1
    · exact st_in h.2 x hx
theorem st_gt : ∀ {p l}, stFrom true p l = true → ∀ x ∈ l, p < x
  | _, [], _, x, hx => by simp at hx
  | p, y :: t, h, x, hx => by
    simp only [stFrom, Bool.and_eq_true, decide_eq_true_eq, Bool.not_true, Bool.false_or] at h
    rcases List.mem_cons.1 hx with rfl | hx
    · exact h.1.2
    · have := st_gt h.2 x hx; omega
/-- The reference's first loop. -/
theorem s_lo (l : List Int) (hn : l.length < 9223372036854775807) (a b c d : Int) : ∀ t k i lo, l.drop i = t → spec_RangeWiden.l0 (k + (t.length + 1)) l lo (i : Int) a b c d = spec_RangeWiden.j2 k l (loOf c lo t) a b c d
  | [], k, i, lo, h => by
    have := drop_nil h
    show spec_RangeWiden.l0 (k + 1) l lo (i : Int) a b c d = _
    conv => lhs; unfold spec_RangeWiden.l0
    rw [if_neg (by omega)]; rfl
  | x :: t, k, i, lo, h => by
    obtain ⟨h1, h2, h3⟩ := drop_cons h
    show spec_RangeWiden.l0 (k + (t.length + 1) + 1) l lo (i : Int) a b c d = _
    conv => lhs; unfold spec_RangeWiden.l0
    rw [if_pos (by omega), if_pos (by omega), rd_at h2, w64s i (by omega), s_lo l hn a b c d t k (i + 1) _ h3, s_lo l hn a b c d t k (i + 1) _ h3]
    conv => rhs; unfold loOf
    by_cases hx : x ≤ c <;> simp [hx]
theorem hiOf_app (d : Int) : ∀ (t : List Int) (x hi : Int), hiOf d (t ++ [x]) hi = hiOf d t (if x ≥ d then x else hi)
  | [], x, hi => by simp [hiOf]
  | y :: t, x, hi => by simp [hiOf, hiOf_app d t]
/-- The reference's second loop, which goes back from the end. -/
theorem s_hi (l : List Int) (hn : l.length < 9223372036854775807) (lo c d : Int) : ∀ i k hi, i ≤ l.length → spec_RangeWiden.l1 (k + (i + 1)) l lo hi ((i : Int) - 1) c d = some (mkR lo (hiOf d (l.take i) hi))
  | 0, k, hi, h => by
    show spec_RangeWiden.l1 (k + 1) l lo hi _ c d = _
    unfold spec_RangeWiden.l1
    rw [if_neg (by omega), s_make]; simp [hiOf]
  | i + 1, k, hi, h => by
    show spec_RangeWiden.l1 (k + (i + 1) + 1) l lo hi _ c d = _
    have e0 : (((i + 1 : Nat) : Int) - 1) = (i : Int) := by omega
    have e1 : l[i]? = some (rd l (i : Int)) := by unfold rd; simp [show i < l.length by omega]
    rw [e0]
    conv => lhs; unfold spec_RangeWiden.l1
    rw [if_pos (by omega), if_pos (by omega), if_pos (by omega), w64 (by omega) (by omega), s_hi l hn lo c d i k _ (by omega), s_hi l hn lo c d i k _ (by omega), List.take_add_one, e1]
    simp only [Option.toList_some, hiOf_app]
    by_cases hx : rd l (i : Int) ≥ d <;> simp [hx]
theorem loOf_in (c : Int) (hc : -1000000 ≤ c) : ∀ (t : List Int) (lo : Int), -1000000 ≤ lo → lo ≤ c → (∀ x ∈ t, -1000000 ≤ x) → -1000000 ≤ loOf c lo t ∧ loOf c lo t ≤ c
  | [], lo, h1, h2, _ => ⟨h1, h2⟩
  | x :: t, lo, h1, h2, h3 => by
    unfold loOf
    have hx := h3 x (by simp)
    split
    · exact loOf_in c hc t x hx (by assumption) (fun y hy => h3 y (by simp [hy]))
    · exact loOf_in c hc t lo h1 h2 (fun y hy => h3 y (by simp [hy]))
theorem hiOf_in (d : Int) : ∀ (t : List Int) (hi : Int), hi ≤ 1000000 → d ≤ hi → (∀ x ∈ t, x ≤ 1000000) → hiOf d t hi ≤ 1000000 ∧ d ≤ hiOf d t hi
  | [], hi, h1, h2, _ => ⟨h1, h2⟩
  | x :: t, hi, h1, h2, h3 => by
    unfold hiOf
    have hx := h3 x (by simp)
    split
    · exact ⟨hx, by omega⟩
    · exact hiOf_in d t hi h1 h2 (fun y hy => h3 y (by simp [hy]))
/-- What the program's one loop makes of the two ends. -/
def fLo (a c : Int) : Int → List Int → Int
  | lo, [] => lo
  | lo, x :: t => fLo a c (if a > c ∧ x ≤ c then mx lo x else lo) t
def fHi (b d : Int) : Int → List Int → Int
  | hi, [] => hi
  | hi, x :: t => fHi b d (if b < d ∧ x ≥ d then mn hi x else hi) t
theorem i_wid_l (l : List Int) (hn : l.length < 9223372036854775807) (a b c d : Int) : ∀ t k i lo hi, l.drop i = t → 2 * t.length < k → impl_RangeWiden.l0 k l (l.length : Int) (i : Int) a b c d lo hi = some (fLo a c lo t, fHi b d hi t)
  | [], k + 1, i, lo, hi, h, hk => by
    have := drop_nil h
    unfold impl_RangeWiden.l0
    rw [if_neg (by omega)]; rfl
  | x :: t, k + 2, i, lo, hi, h, hk => by
    obtain ⟨h1, h2, h3⟩ := drop_cons h
    have ih := fun lo hi => i_wid_l l hn a b c d t k (i + 1) lo hi h3 (by simp at hk; omega)
    unfold impl_RangeWiden.l0
    rw [if_pos (by omega), if_pos (by omega), if_pos (by omega), rd_at h2]
    unfold impl_RangeWiden.j4
    simp only [w64s i (by omega), ih, fLo, fHi]
    by_cases p1 : a > c <;> by_cases p2 : x ≤ c <;> by_cases p3 : b < d <;> by_cases p4 : x ≥ d <;> simp [p1, p2, p3, p4]
theorem fLo_stay (a c : Int) (h : ¬ c < a) : ∀ t lo, fLo a c lo t = lo
  | [], lo => rfl
  | x :: t, lo => by unfold fLo; rw [if_neg (by omega)]; exact fLo_stay a c h t lo
theorem fHi_stay (b d : Int) (h : ¬ b < d) : ∀ t hi, fHi b d hi t = hi
  | [], hi => rfl
  | x :: t, hi => by unfold fHi; rw [if_neg (by omega)]; exact fHi_stay b d h t hi
theorem fLo_lo (a c : Int) (h : c < a) : ∀ t w p lo, stFrom w p t = true → (∀ x ∈ t, lo ≤ x) → fLo a c lo t = loOf c lo t
  | [], _, _, lo, _, _ => rfl
  | x :: t, w, p, lo, h1, h2 => by
    have hx := h2 x (by simp)
    simp only [stFrom, Bool.and_eq_true, decide_eq_true_eq] at h1
    have hg := st_gt h1.2
    unfold fLo loOf
    by_cases hc : x ≤ c
    · rw [if_pos ⟨h, hc⟩, if_pos hc, show mx lo x = x by unfold mx; split <;> omega]
      exact fLo_lo a c h t true x x h1.2 (fun y hy => by have := hg y hy; omega)
    · rw [if_neg (by omega), if_neg hc]
      exact fLo_lo a c h t true x lo h1.2 (fun y hy => h2 y (by simp [hy]))
theorem fHi_low (b d : Int) : ∀ t hi, (∀ x ∈ t, hi ≤ x) → fHi b d hi t = hi
  | [], hi, _ => rfl
  | x :: t, hi, h => by
    have hx := h x (by simp)
    unfold fHi
    rw [show (if b < d ∧ x ≥ d then mn hi x else hi) = hi by
      split
      · unfold mn; split <;> omega
      · rfl]
    exact fHi_low b d t hi (fun y hy => h y (by simp [hy]))
theorem fHi_hi (b d : Int) (h : b < d) : ∀ t w p hi, stFrom w p t = true → (∀ x ∈ t, x ≤ hi) → fHi b d hi t = hiOf d t hi
  | [], _, _, hi, _, _ => rfl
  | x :: t, w, p, hi, h1, h2 => by
    have hx := h2 x (by simp)
    simp only [stFrom, Bool.and_eq_true, decide_eq_true_eq] at h1
    have hg := st_gt h1.2
    unfold fHi hiOf
    by_cases hc : x ≥ d
    · rw [if_pos ⟨h, hc⟩, if_pos hc, show mn hi x = x by unfold mn; split <;> omega]
      exact fHi_low b d t x (fun y hy => by have := hg y hy; omega)
    · rw [if_neg (by omega), if_neg hc]
      exact fHi_hi b d h t true x hi h1.2 (fun y hy => h2 y (by simp [hy]))
theorem s_j2 (k : Nat) (l : List Int) (lo a b c d : Int) : spec_RangeWiden.j2 (k + 1) l lo a b c d = if d > b then (spec_RangeWiden.l1 k l lo 1000000 (wrap64 ((l.length : Int) - 1)) c d) else ((spec_l06Make.f lo b).bind fun bt => (some (bt.1, bt.2))) := rfl
theorem s_wid (k : Nat) (a b c d : Int) (l : List Int) (hn : l.length ≤ 1048576) (hk : 2 * l.length + 8 ≤ k) : spec_RangeWiden.f k a b c d l = some (widR a b c d l) := by
  unfold spec_RangeWiden.f widR
  simp only [s_ok, s_steps k l hn (by omega), Option.bind_some]
  obtain ⟨k, rfl⟩ : ∃ m, k = m + (l.length + 1) + 1 + (l.length + 1) + 1 := ⟨k - (l.length + 1) - 1 - (l.length + 1) - 1, by omega⟩
  unfold spec_RangeWiden.j0
  simp only [spec_l06None.f, s_is, Option.bind_some]
  by_cases h1 : okR a b = true
  · by_cases h2 : okR c d = true
    · by_cases h3 : stOk l = true
      · simp only [h1, h2, h3, if_true, Bool.not_true, Bool.and_self, Bool.false_eq_true, if_false]
        rcases (okR_iff a b).1 h1 with ⟨rfl, rfl⟩ | ⟨p1, p2, p3⟩
        · simp
        · have q1 : decide (a ≤ b) = true := by simpa using p3
          have q2 : (a == 1 && b == 0) = false := by simp; omega
          simp only [q1, q2, if_true, Bool.false_eq_true, if_false]
          rcases (okR_iff c d).1 h2 with ⟨rfl, rfl⟩ | ⟨p4, p5, p6⟩
          · simp
          · have q3 : decide (c ≤ d) = true := by simpa using p6
            have q4 : (c == 1 && d == 0) = false := by simp; omega
            simp only [q3, q4, if_true, Bool.false_eq_true, if_false]
            simp only [stOk, Bool.and_eq_true] at h3
            have hin := st_in h3.2
            have g1 := loOf_in c p4 l (-1000000) (by omega) p4 (fun x hx => (hin x hx).1)
            have g2 := hiOf_in d l 1000000 (by omega) p5 (fun x hx => (hin x hx).2)
            have e0 : wrap64 ((l.length : Int) - 1) = (l.length : Int) - 1 := w64 (by omega) (by omega)
            have fin : ∀ lo, -1000000 ≤ lo → lo ≤ a → spec_RangeWiden.j2 (k + (l.length + 1) + 1) l lo a b c d = some (lo, if b < d then hiOf d l 1000000 else b) := by
              intro lo u1 u2
              rw [s_j2]
              split
              · rw [e0, s_hi l (by omega) lo c d l.length k 1000000 (Nat.le_refl _), List.take_length, mkR_in u1 g2.1 (by omega)]
              · rw [s_make, mkR_in u1 (by omega) (by omega)]; rfl
            have fin2 : ∀ lo, -1000000 ≤ lo → lo ≤ a → spec_RangeWiden.j2 (k + (l.length + 1) + 1 + (l.length + 1)) l lo a b c d = some (lo, if b < d then hiOf d l 1000000 else b) := by
              intro lo u1 u2
              rw [show k + (l.length + 1) + 1 + (l.length + 1) = (k + (l.length + 1)) + (l.length + 1) + 1 by omega]
              rw [s_j2]
              split
              · rw [e0, s_hi l (by omega) lo c d l.length (k + (l.length + 1)) 1000000 (Nat.le_refl _), List.take_length, mkR_in u1 g2.1 (by omega)]
              · rw [s_make, mkR_in u1 (by omega) (by omega)]; rfl
            split
            · rw [show (0 : Int) = ((0 : Nat) : Int) from rfl, s_lo l (by omega) a b c d l _ 0 _ rfl, fin _ g1.1 (by omega)]
            · rw [fin2 a p1 (Int.le_refl _)]
      · simp [h1, h2, h3]
    · simp [h1, h2]
  · simp [h1]
theorem i_wid (k : Nat) (a b c d : Int) (l : List Int) (hn : l.length ≤ 1048576) (hk : 2 * l.length + 8 ≤ k) : impl_RangeWiden.f k a b c d l = some (widR a b c d l) := by
  unfold impl_RangeWiden.f widR
  simp only [i_ok, i_steps k l hn (by omega), Option.bind_some]
  obtain ⟨k, rfl⟩ : ∃ m, k = m + 1 + 1 + 1 := ⟨k - 3, by omega⟩
  unfold impl_RangeWiden.j0 impl_orOther.f
  by_cases h1 : okR a b = true
  · by_cases h2 : okR c d = true
    · by_cases h3 : stOk l = true
      · simp only [h1, h2, h3, if_true, Bool.not_true, Bool.and_self, Bool.false_eq_true, if_false]
        by_cases q2 : (a == 1 && b == 0) = true
        · simp [q2]
        · by_cases q4 : (c == 1 && d == 0) = true
          · simp [q2, q4]
          · rw [Bool.not_eq_true] at q2 q4
            simp only [q2, q4, Bool.false_eq_true, if_false, Option.bind_some]
            have h3' := h3
            simp only [stOk, Bool.and_eq_true] at h3'
            have hin := st_in h3'.2
            have lp : ∀ lo hi, impl_RangeWiden.l0 k l (l.length : Int) 0 a b c d lo hi = some (fLo a c lo l, fHi b d hi l) := fun lo hi => i_wid_l l (by omega) a b c d l k 0 lo hi rfl (by omega)
            unfold impl_RangeWiden.j1
            unfold impl_RangeWiden.j2
            simp only [lp]
            by_cases u1 : c < a <;> by_cases u2 : b < d
            · rw [if_pos u1, if_pos u2, if_pos u1, if_pos u2, fLo_lo a c u1 l _ _ _ h3'.2 (fun x hx => (hin x hx).1), fHi_hi b d u2 l _ _ _ h3'.2 (fun x hx => (hin x hx).2)]
            · rw [if_pos u1, if_neg u2, if_pos u1, if_neg u2, fLo_lo a c u1 l _ _ _ h3'.2 (fun x hx => (hin x hx).1), fHi_stay b d u2]
            · rw [if_neg u1, if_pos u2, if_neg u1, if_pos u2, fHi_hi b d u2 l _ _ _ h3'.2 (fun x hx => (hin x hx).2), fLo_stay a c u1]
            · rw [if_neg u1, if_neg u2, if_neg u1, if_neg u2, fLo_stay a c u1, fHi_stay b d u2]
      · simp [h1, h2, h3]
    · simp [h1, h2]
  · simp [h1]
end Go.Proofs.YthkdkcdbjbihkaaDoor.Q
