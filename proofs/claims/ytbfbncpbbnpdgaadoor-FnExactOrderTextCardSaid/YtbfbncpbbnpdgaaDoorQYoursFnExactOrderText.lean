/- The law FnExactOrderText holds: the program's OrderText and the reference's answer alike, at all arguments, and the program leaves the graph as it was. No conditions. -/
import Derived.Lib.Repeat
import Derived.Test.YtbfbncpbbnpdgaaDoorQPureFnExactOrderText
import Derived.Test.YtbfbncpbbnpdgaaDoorQLasts
import Derived.Test.YtbfbncpbbnpdgaaDoorQJoinB
import Derived.Test.YtbfbncpbbnpdgaaDoorQNum
import Derived.Test.YtbfbncpbbnpdgaaDoorQOpen
import Derived.Test.YtbfbncpbbnpdgaaDoorQx10
import Derived.Test.YtbfbncpbbnpdgaaDoorQx11
import Derived.Test.YtbfbncpbbnpdgaaDoorQx16
import Derived.Test.YtbfbncpbbnpdgaaDoorQx6
namespace Go.Proofs.YtbfbncpbbnpdgaaDoor.Q
open Go.RowKit Go.Proofs.YtbfbncpbbnpdgaaDoorW.PrintWords Go.Proofs.YtbfbncpbbnpdgaaDoorW.PrintLast Go.Proofs.YtbfbncpbbnpdgaaDoorW.PrintMore
open Go.Proofs.YtbfbncpbbnpdgaaDoor.Open
set_option linter.unusedSimpArgs false
set_option linter.unusedVariables false
def stepE (e : List Int) (v : Int) : List Int := if v ≥ 0 then e.set v.toNat (rd e v + 1) else e
def InE (p i : Nat) (e : List Int) : Prop := e.length = p ∧ ∀ v ∈ e, 0 ≤ v ∧ v ≤ i
theorem rd_inE {p i : Nat} {x : List Int} (h : InE p i x) {j : Int} (h0 : 0 ≤ j) (h1 : j < p) : 0 ≤ rd x j ∧ rd x j ≤ i := by
  obtain ⟨n, rfl⟩ := Int.eq_ofNat_of_zero_le h0
  have hl := h.1
  have hn : n < x.length := by omega
  rw [rd_mem hn]
  exact h.2 _ (List.getElem_mem hn)
theorem stepE_in {p i : Nat} {e : List Int} {v : Int} (h : InE p i e) (hv : v < p) : InE p (i + 1) (stepE e v) := by
  unfold stepE
  split
  · refine ⟨by rw [List.length_set]; exact h.1, fun u hu => ?_⟩
    rcases List.mem_or_eq_of_mem_set hu with hu | rfl
    · have := h.2 u hu; omega
    · have := rd_inE h (j := v) (by omega) hv
      omega
  · exact ⟨h.1, fun u hu => by have := h.2 u hu; omega⟩
theorem ends_in {p : Nat} : ∀ (t : List Int) (i : Nat) (e : List Int), InE p i e → (∀ v ∈ t, v < p) → InE p (i + t.length) (t.foldl stepE e)
  | [], _, _, h, _ => h
  | v :: t, i, e, h, hv => by
    have := ends_in t (i + 1) (stepE e v) (stepE_in h (hv v (by simp))) (fun u hu => hv u (by simp [hu]))
    rw [List.length_cons, show i + (t.length + 1) = i + 1 + t.length by omega]
    exact this
theorem drop_consZ {l : List Int} {i : Nat} {x : Int} {t : List Int} (h : l.drop i = x :: t) : i < l.length ∧ rd l (i : Int) = x ∧ l.drop (i + 1) = t := by
  obtain ⟨h1, h2, h3⟩ := drop_cons h
  exact ⟨h1, rd_at h2, h3⟩
theorem s_ends (p : Nat) (hp : p ≤ 3000) (x : List Int) (hx : InB p x) (l : List IEdge) : ∀ (t : List Int) (i : Nat) (e : List Int) (k : Nat), x.drop i = t → InE p i e → t.length < k →
    spec_OrderText.l0 k x e (i : Int) (p : Int) l = spec_OrderText.l1 (k - t.length - 1) x (t.foldl stepE e) [] 0 (p : Int) l
  | [], i, e, k, h, he, hk => by
    have h2 := drop_nil h
    have hl := hx.1
    obtain ⟨k, rfl⟩ : ∃ m, k = m + 1 := ⟨k - 1, by simp at hk; omega⟩
    rw [spec_OrderText.l0, if_neg (by omega)]; rfl
  | v :: t, i, e, k, h, he, hk => by
    obtain ⟨h2, h3, h4⟩ := drop_consZ h
    have hl := hx.1
    obtain ⟨k, rfl⟩ : ∃ m, k = m + 1 := ⟨k - 1, by simp at hk; omega⟩
    have hk' : t.length < k := by simp at hk; omega
    have hb := rd_inB hx (i := (i : Int)) (by omega) (by omega)
    rw [h3] at hb
    have ih := fun y hy => s_ends p hp x hx l t (i + 1) y k h4 hy hk'
    have hst := stepE_in he hb.2
    rw [spec_OrderText.l0, if_pos (by omega), if_pos (by omega), if_pos (by omega), h3, w64s i (by omega), List.foldl_cons, List.length_cons, show k + 1 - (t.length + 1) - 1 = k - t.length - 1 by omega]
    unfold stepE at hst ⊢
    by_cases hv : v ≥ 0
    · have hr := rd_inE he (j := v) hv hb.2
      have hi : i < 3000 := by omega
      rw [if_pos hv] at hst ⊢
      rw [if_pos hv, if_pos hv, if_pos (by rw [he.1]; omega), w64 (by omega) (by omega)]
      exact ih _ hst
    · rw [if_neg hv] at hst ⊢
      rw [if_neg hv]
      exact ih _ hst
theorem i_ends (p : Nat) (hp : p ≤ 3000) (x : List Int) (hx : InB p x) (l : List IEdge) : ∀ (t : List Int) (i : Nat) (e : List Int) (k : Nat), x.drop i = t → InE p i e → t.length < k →
    impl_OrderText.l0 k x e x (x.length : Int) (i : Int) (p : Int) l = impl_OrderText.l1 (k - t.length - 1) x (t.foldl stepE e) [] (p : Int) 0
  | [], i, e, k, h, he, hk => by
    have h2 := drop_nil h
    have hl := hx.1
    obtain ⟨k, rfl⟩ : ∃ m, k = m + 1 := ⟨k - 1, by simp at hk; omega⟩
    rw [impl_OrderText.l0, if_neg (by omega)]; rfl
  | v :: t, i, e, k, h, he, hk => by
    obtain ⟨h2, h3, h4⟩ := drop_consZ h
    have hl := hx.1
    obtain ⟨k, rfl⟩ : ∃ m, k = m + 1 := ⟨k - 1, by simp at hk; omega⟩
    have hk' : t.length < k := by simp at hk; omega
    have hb := rd_inB hx (i := (i : Int)) (by omega) (by omega)
    rw [h3] at hb
    have ih := fun y hy => i_ends p hp x hx l t (i + 1) y k h4 hy hk'
    have hst := stepE_in he hb.2
    rw [impl_OrderText.l0, if_pos (by omega), if_pos (by omega), if_pos (by omega), h3, w64s i (by omega), List.foldl_cons, List.length_cons, show k + 1 - (t.length + 1) - 1 = k - t.length - 1 by omega]
    unfold stepE at hst ⊢
    by_cases hv : v ≥ 0
    · have hr := rd_inE he (j := v) hv hb.2
      have hi : i < 3000 := by omega
      rw [if_pos hv] at hst ⊢
      rw [if_pos hv, if_pos hv, if_pos (by rw [he.1]; omega), w64 (by omega) (by omega)]
      exact ih _ hst
    · rw [if_neg hv] at hst ⊢
      rw [if_neg hv]
      exact ih _ hst
/-- The word of a point. -/
def wordO (x e : List Int) (q : Nat) : List UInt8 := (if rd x (q : Int) ≥ 0 then [40] else []) ++ (Lib.itoa (q : Int) ++ List.replicate (rd e (q : Int)).toNat 41)
def wordsO (x e : List Int) (q : Nat) : List ByteArray := (List.range q).map fun j => ⟨(wordO x e j).toArray⟩
theorem wordsO_succ (x e : List Int) (q : Nat) : wordsO x e (q + 1) = wordsO x e q ++ [⟨(wordO x e q).toArray⟩] := by
  unfold wordsO
  rw [List.range_succ, List.map_append]; rfl
theorem wordsO_len (x e : List Int) (q : Nat) : (wordsO x e q).length = q := by unfold wordsO; simp
theorem repeat41 : ∀ c : Nat, Lib.repeatL [41] c = List.replicate c 41
  | 0 => rfl
  | c + 1 => by rw [Lib.repeatL, repeat41 c, List.replicate_succ]; rfl
theorem itoaO_len (q : Nat) (h : q ≤ 3000) : (Lib.itoa (q : Int)).length ≤ 3001 := by
  unfold Lib.itoa
  rw [if_neg (by omega)]
  have := dec_len ((q : Int)).toNat
  rw [Int.toNat_natCast] at this ⊢
  omega
theorem wordO_len {p : Nat} (hp : p ≤ 3000) {x e : List Int} (he : InE p p e) {q : Nat} (hq : q < p) : (wordO x e q).length ≤ 6002 := by
  have h1 := itoaO_len q (by omega)
  have h2 := rd_inE he (j := (q : Int)) (by omega) (by omega)
  unfold wordO
  rw [List.length_append, List.length_append, List.length_replicate]
  have h3 : (if rd x (q : Int) ≥ 0 then [(40 : UInt8)] else []).length ≤ 1 := by split <;> simp
  omega
/-- The text of the first points. -/
def textO (x e : List Int) (q : Nat) : List UInt8 := jl (wordsO x e q) [32]
theorem textO_succ (x e : List Int) (q : Nat) : textO x e (q + 1) = textO x e q ++ ((if q > 0 then [32] else []) ++ wordO x e q) := by
  unfold textO
  rw [wordsO_succ]
  cases q with
  | zero => rw [show wordsO x e 0 = [] from rfl, List.nil_append, jl_one, jl_nil]; simp
  | succ q =>
    rw [jl_snoc _ _ _ (by intro h; have := wordsO_len x e (q + 1); rw [h] at this; simp at this), if_pos (by omega), List.append_assoc]
theorem textO_len {p : Nat} (hp : p ≤ 3000) {x e : List Int} (he : InE p p e) : ∀ q : Nat, q ≤ p → (textO x e q).length ≤ q * 6003
  | 0, _ => by unfold textO; rw [show wordsO x e 0 = [] from rfl, jl_nil]; simp
  | q + 1, h => by
    have h1 := textO_len hp he (x := x) q (by omega)
    have h2 := wordO_len hp (x := x) he (q := q) (by omega)
    have h3 : (if q > 0 then [(32 : UInt8)] else []).length ≤ 1 := by split <;> simp
    rw [textO_succ, List.length_append, List.length_append]
    omega
theorem textO_le {p : Nat} (hp : p ≤ 3000) {x e : List Int} (he : InE p p e) (q : Nat) (h : q ≤ p) : (textO x e q).length ≤ 18009000 := by
  have := textO_len hp he (x := x) q h
  omega
theorem i_words (p : Nat) (hp : p ≤ 3000) (x e : List Int) (hx : InB p x) (he : InE p p e) : ∀ (d q k : Nat), q + d = p → d < k →
    impl_OrderText.l1 k x e (wordsO x e q) (p : Int) (q : Int) = some ⟨(textO x e p).toArray⟩
  | 0, q, k, h, hk => by
    obtain ⟨k, rfl⟩ : ∃ m, k = m + 1 := ⟨k - 1, by omega⟩
    obtain rfl : q = p := by omega
    have hl := textO_le hp he (x := x) q (by omega)
    rw [impl_OrderText.l1, if_neg (by omega), i_join _ _ (by rw [wordsO_len]; omega) (by show (textO x e q).length ≤ _; omega)]
    rfl
  | d + 1, q, k, h, hk => by
    obtain ⟨k, rfl⟩ : ∃ m, k = m + 1 := ⟨k - 1, by omega⟩
    have ih := i_words p hp x e hx he d (q + 1) k (by omega) (by omega)
    have hxl := hx.1
    have hel := he.1
    have hr := rd_inE he (j := (q : Int)) (by omega) (by omega)
    have h1 : strconv_Itoa.f (q : Int) = some ⟨(Lib.itoa (q : Int)).toArray⟩ := by
      unfold strconv_Itoa.f
      rw [if_pos ⟨by omega, by omega⟩]
    have h2 : strings_Repeat.f (⟨#[41]⟩ : ByteArray) (rd e (q : Int)) = some ⟨(List.replicate (rd e (q : Int)).toNat 41).toArray⟩ := by
      unfold strings_Repeat.f
      rw [if_pos ⟨by omega, by omega, by rw [show (⟨#[41]⟩ : ByteArray).size = 1 from rfl]; omega⟩, ← repeat41]
    have h3 := itoaO_len q (by omega)
    have h4 := wordsO_len x e q
    rw [impl_OrderText.l1, if_pos (by omega), h1, Option.bind_some, if_pos (by omega), if_pos (by omega), h2, Option.bind_some, size_mk, size_mk, List.length_replicate, if_pos (by omega), if_pos (by omega), h4, w64s q (by omega), app_mk (Lib.itoa (q : Int)) (List.replicate (rd e (q : Int)).toNat 41)]
    rw [wordsO_succ] at ih
    by_cases hv : rd x (q : Int) ≥ 0
    · rw [if_pos hv, if_pos (by omega), if_pos (by omega), show (⟨#[40]⟩ : ByteArray) = ⟨([40] : List UInt8).toArray⟩ from rfl, app_mk [40]]
      unfold wordO at ih
      rw [if_pos hv] at ih
      exact ih
    · rw [if_neg hv, if_pos (by omega)]
      unfold wordO at ih
      rw [if_neg hv, List.nil_append] at ih
      exact ih
def nmB (l : List UInt8) : List Int := l.map fun b => (b.toNat : Int)
theorem nmB_app (a b : List UInt8) : nmB (a ++ b) = nmB a ++ nmB b := List.map_append
theorem nmB_len (a : List UInt8) : (nmB a).length = a.length := List.length_map ..
theorem nmB_str (l : List UInt8) : strOfNums (nmB l) = ⟨l.toArray⟩ := by
  unfold strOfNums nmB
  rw [List.map_map]
  congr 2
  conv => rhs; rw [← List.map_id l]
  apply List.map_congr_left
  intro b _
  simp
theorem bytes_mk (l : List UInt8) : bytesOf ⟨l.toArray⟩ = nmB l := rfl
theorem s_close (x e : List Int) (l : List IEdge) (p q : Nat) (hq : q < p) (hp : p ≤ 3000) (he : InE p p e) : ∀ (c r : Nat) (y : List Int) (k : Nat), rd e (q : Int) = (r : Int) + c → y.length + c ≤ 100000000 → c < k →
    spec_OrderText.l2 k x e y (q : Int) (r : Int) (p : Int) l = spec_OrderText.l1 (k - c - 1) x e (y ++ List.replicate c 41) ((q + 1 : Nat) : Int) (p : Int) l
  | 0, r, y, k, h, hy, hk => by
    obtain ⟨k, rfl⟩ : ∃ m, k = m + 1 := ⟨k - 1, by omega⟩
    have hel := he.1
    rw [spec_OrderText.l2, if_pos (by omega), if_pos (by omega), if_neg (by omega), w64s q (by omega)]
    simp
  | c + 1, r, y, k, h, hy, hk => by
    obtain ⟨k, rfl⟩ : ∃ m, k = m + 1 := ⟨k - 1, by omega⟩
    have hel := he.1
    have hr := rd_inE he (j := (q : Int)) (by omega) (by omega)
    rw [spec_OrderText.l2, if_pos (by omega), if_pos (by omega), if_pos (by omega), if_pos (by omega), w64s r (by omega), s_close x e l p q hq hp he c (r + 1) (y ++ [41]) k (by omega) (by simp; omega) (by omega)]
    rw [List.append_assoc, show [(41 : Int)] ++ List.replicate c 41 = List.replicate (c + 1) 41 from rfl, show k + 1 - (c + 1) - 1 = k - c - 1 by omega]
theorem s_words (p : Nat) (hp : p ≤ 3000) (x e : List Int) (hx : InB p x) (he : InE p p e) (l : List IEdge) : ∀ (d q : Nat), q + d = p →
    ∃ K, ∀ k, K ≤ k → spec_OrderText.l1 k x e (nmB (textO x e q)) (q : Int) (p : Int) l = some ⟨(textO x e p).toArray⟩
  | 0, q, h => by
    refine ⟨1, fun k hk => ?_⟩
    obtain ⟨k, rfl⟩ : ∃ m, k = m + 1 := ⟨k - 1, by omega⟩
    obtain rfl : q = p := by omega
    rw [spec_OrderText.l1, if_neg (by omega), nmB_str]
  | d + 1, q, h => by
    obtain ⟨K, ih⟩ := s_words p hp x e hx he l d (q + 1) (by omega)
    have hxl := hx.1
    have hel := he.1
    have hr := rd_inE he (j := (q : Int)) (by omega) (by omega)
    have hT := textO_le hp he (x := x) q (by omega)
    have hI := itoaO_len q (by omega)
    have hd := fun k (hk : q + 3 < k) => digits (q : Int) (by omega) (by omega) k (by omega)
    obtain ⟨c, hc⟩ := Int.eq_ofNat_of_zero_le hr.1
    -- behind the point's sign: its number, and what closes
    have tail : ∀ (y : List UInt8) (k : Nat), y.length ≤ 18009010 → textO x e (q + 1) = y ++ (Lib.itoa (q : Int) ++ List.replicate c 41) → K + q + 3010 ≤ k →
        spec_OrderText.j3 k x e (nmB y) (q : Int) (p : Int) l = some ⟨(textO x e p).toArray⟩ := by
      intro y k hy hT1 hk
      obtain ⟨k, rfl⟩ : ∃ m, k = m + 1 := ⟨k - 1, by omega⟩
      rw [spec_OrderText.j3, hd k (by omega), Option.bind_some, nmB_len, size_mk, if_pos (by omega), bytes_mk, ← nmB_app]
      have := s_close x e l p q (by omega) hp he c 0 (nmB (y ++ Lib.itoa (q : Int))) k (by rw [hc]; simp) (by rw [nmB_len, List.length_append]; omega) (by omega)
      refine this.trans ?_
      have e1 : nmB (y ++ Lib.itoa (q : Int)) ++ List.replicate c 41 = nmB (textO x e (q + 1)) := by
        rw [hT1, ← List.append_assoc, nmB_app (y ++ Lib.itoa (q : Int))]
        congr 1
        unfold nmB
        rw [List.map_replicate]; rfl
      rw [e1]
      exact ih _ (by omega)
    have hs := textO_succ x e q
    unfold wordO at hs
    rw [hc, Int.toNat_natCast] at hs
    have mid : ∀ (y : List UInt8) (k : Nat), y.length ≤ 18009001 → textO x e (q + 1) = y ++ ((if rd x (q : Int) ≥ 0 then [40] else []) ++ (Lib.itoa (q : Int) ++ List.replicate c 41)) → K + q + 3020 ≤ k →
        spec_OrderText.j2 k x e (nmB y) (q : Int) (p : Int) l = some ⟨(textO x e p).toArray⟩ := by
      intro y k hy hT1 hk
      obtain ⟨k, rfl⟩ : ∃ m, k = m + 1 := ⟨k - 1, by omega⟩
      rw [spec_OrderText.j2, if_pos (by omega), if_pos (by omega)]
      by_cases hv : rd x (q : Int) ≥ 0
      · rw [if_pos hv, nmB_len, if_pos (by omega), show nmB y ++ [40] = nmB (y ++ [40]) from (nmB_app y [40]).symm]
        rw [if_pos hv] at hT1
        exact tail (y ++ [40]) k (by rw [List.length_append, List.length_singleton]; omega) (by rw [hT1, List.append_assoc]) (by omega)
      · rw [if_neg hv]
        rw [if_neg hv, List.nil_append] at hT1
        exact tail y k (by omega) hT1 (by omega)
    refine ⟨K + q + 3040, fun k hk => ?_⟩
    obtain ⟨k, rfl⟩ : ∃ m, k = m + 1 := ⟨k - 1, by omega⟩
    rw [spec_OrderText.l1, if_pos (by omega)]
    by_cases h0 : q > 0
    · rw [if_pos (by omega), nmB_len, if_pos (by omega), show nmB (textO x e q) ++ [32] = nmB (textO x e q ++ [32]) from (nmB_app _ [32]).symm]
      rw [if_pos h0] at hs
      exact mid _ k (by rw [List.length_append, List.length_singleton]; omega) (by rw [hs, List.append_assoc]) (by omega)
    · rw [if_neg (by omega)]
      rw [if_neg h0, List.nil_append] at hs
      exact mid _ k (by omega) hs (by omega)
theorem orderText (a : Int) (l : List IEdge) (hn : l.length ≤ 1048576) : ∃ K r, ∀ k, K ≤ k → spec_OrderText.f k a l = some r ∧ impl_OrderText.f k a l = some r := by
  cases hg : graphB a l with
  | false =>
    refine ⟨l.length + 2, ⟨#[]⟩, fun k hk => ?_⟩
    rw [spec_OrderText.f, impl_OrderText.f, s_graph a l hn k hk, i_graph, hg, Option.bind_some, Option.bind_some, if_neg (by decide), if_neg (by decide)]
    exact ⟨rfl, rfl⟩
  | true =>
    obtain ⟨p, rfl, h1, h2, he⟩ := graph_of hg
    have hx := lastsL_in p l he
    have h0 : InE p 0 (List.replicate p 0) := ⟨by simp, fun v hv => by rw [List.eq_of_mem_replicate hv]; omega⟩
    have hE := ends_in (lastsL p l) 0 _ h0 (fun v hv => (hx.2 v hv).2)
    rw [Nat.zero_add, hx.1] at hE
    obtain ⟨K, q⟩ := s_words p h2 (lastsL p l) _ hx hE l p 0 (by omega)
    refine ⟨K + p + p + l.length + 10, ⟨(textO (lastsL p l) ((lastsL p l).foldl stepE (List.replicate p 0)) p).toArray⟩, fun k hk => ?_⟩
    rw [spec_OrderText.f, impl_OrderText.f, s_graph _ l hn k (by omega), i_graph, hg, Option.bind_some, Option.bind_some, if_pos rfl, if_pos rfl, s_lasts p h2 l hn he k (by omega), i_lasts p h1 h2 l hn he k (by omega), Option.bind_some, Option.bind_some, if_pos (by omega), if_pos (by omega), Int.toNat_natCast, if_pos (by omega), if_pos (by omega)]
    have e1 := s_ends p h2 (lastsL p l) hx l (lastsL p l) 0 _ k rfl h0 (by rw [hx.1]; omega)
    have e2 := i_ends p h2 (lastsL p l) hx l (lastsL p l) 0 _ k rfl h0 (by rw [hx.1]; omega)
    refine ⟨e1.trans ?_, e2.trans ?_⟩
    · exact q _ (by rw [hx.1]; omega)
    · exact i_words p h2 (lastsL p l) _ hx hE p 0 _ (by omega) (by rw [hx.1]; omega)
theorem yoursFnExactOrderText : laws_FnExactOrderText.Pure := by
  intro a l ha hl
  obtain ⟨K1, v, q1, q3⟩ := size_graph a l hl.1 (fun y hy => sizeE y (sized y.f4 (hl.2 y hy).2.2.2.2))
  by_cases hv : v < 0
  · refine ⟨K1, ?_⟩
    unfold laws_FnExactOrderText.f
    rw [q1 K1 (Nat.le_refl _), Option.bind_some, if_pos hv]
  · obtain ⟨zs, hz, hs, K2, r1⟩ := q3 (by omega)
    obtain ⟨K3, r2⟩ := eq_graph a zs hz hs
    obtain ⟨K4, r, r3⟩ := orderText a zs hz
    obtain ⟨p1, p2⟩ := r3 (K1 + K2 + K3 + K4) (by omega)
    refine ⟨K1 + K2 + K3 + K4, ?_⟩
    unfold laws_FnExactOrderText.f
    rw [q1 _ (by omega), Option.bind_some, if_neg hv, r1 _ (by omega), Option.bind_some]
    simp only
    rw [p1, Option.bind_some, Option.bind_some]
    simp only
    rw [p2, Option.bind_some, if_pos rfl, Option.bind_some]
    simp only
    rw [r2 _ (by omega), Option.bind_some, if_pos rfl]
end Go.Proofs.YtbfbncpbbnpdgaaDoor.Q
