/- Functions of the translation as Lean functions, each with a proof that a call answers so; out of the seat, by this claim's own program prt.py. -/
import Derived.Test.YtdmdalapckcobaaDoorWRepsOne
import Derived.Test.YtdmdalapckcobaaDoorQx0
import Derived.Test.YtdmdalapckcobaaDoorQx16
import Derived.Test.YtdmdalapckcobaaDoorQx18
import Derived.Test.YtdmdalapckcobaaDoorQx20
import Derived.Test.YtdmdalapckcobaaDoorQx23
import Derived.Test.YtdmdalapckcobaaDoorQStep3
namespace Go.Proofs.YtdmdalapckcobaaDoor.Q
open Go.RowKit Go.Proofs.YtdmdalapckcobaaDoorW.PrintWords Go.Proofs.YtdmdalapckcobaaDoorW.PrintLast Go.Proofs.YtdmdalapckcobaaDoorW.PrintMore
attribute [local go_sem] max2_int min2_int max_two min_two max_three min_three max_four min_four   -- for this text's walks alone
set_option linter.unusedVariables false
set_option maxHeartbeats 8000000
set_option maxRecDepth 100000
set_option linter.unusedSimpArgs false

/-! ### impl_SegDrop: function 10 -/
/-- A block of terms: its size, and the first n of them. -/
def df_Sy (w : World) (b N n : Nat) (c : Nat → S54) : Prop := ∃ cur : Array Value, w.heap[b]? = some (.cells cur 54 (0, 0)) ∧ cur.size = N ∧ ∀ j, j < n → cur[j * 2]? = some (.int .i64 (c j).f0) ∧ cur[j * 2 + 1]? = some (.int .i64 (c j).f1)
theorem df_Sy.move {w w' : World} {b N n : Nat} {c : Nat → S54} (h : df_Sy w b N n c) (e : w'.heap[b]? = w.heap[b]?) : df_Sy w' b N n c := by
 obtain ⟨cur, h1, h2⟩ := h; exact ⟨cur, e.trans h1, h2⟩
theorem df_Sy.lt {w : World} {b N n : Nat} {c : Nat → S54} (h : df_Sy w b N n c) : b < w.heap.size := by
 obtain ⟨cur, h1, h2⟩ := h; exact blk_lt h1
theorem df_Sy.below {w w' : World} {b N n : Nat} {c : Nat → S54} (h : df_Sy w b N n c) (hb : Below w.heap.size w w') : df_Sy w' b N n c := h.move (hb.block _ h.lt)
theorem df_Sy.cells {w : World} {b N n : Nat} {c : Nat → S54} (h : df_Sy w b N n c) (j : Nat) (hj : j < n) : (w.cell? ⟨b, j * 2, none⟩ = some (.int .i64 (c j).f0) ∧ w.cell? ⟨b, j * 2 + 1, none⟩ = some (.int .i64 (c j).f1)) ∧ (w.frozen? ⟨b, j * 2, none⟩ = false ∧ w.frozen? ⟨b, j * 2 + 1, none⟩ = false) := by
 obtain ⟨cur, h1, h2, h3⟩ := h; exact ⟨⟨(blk_cell h1 _).trans (h3 j hj).1, (blk_cell h1 _).trans (h3 j hj).2⟩, blk_frozen h1 _, blk_frozen h1 _⟩
theorem df_Sy.set {w : World} {b N n : Nat} {c : Nat → S54} (h : df_Sy w b N n c) (i : Nat) (hi : i < n) (x : S54) : df_Sy ((w.setCell ⟨b, i * 2, none⟩ (.int .i64 x.f0)).setCell ⟨b, i * 2 + 1, none⟩ (.int .i64 x.f1)) b N n (fun j => if j = i then x else c j) := by
 obtain ⟨cur, h1, h2, h3⟩ := h; refine ⟨_, blk_set (blk_set h1 (i * 2) _) (i * 2 + 1) _, by simpa using h2, fun j hj => ?_⟩; have hs : ∀ m, m < n → m * 2 + 1 < cur.size := fun m hm => (Array.getElem?_eq_some_iff.1 (h3 m hm).2).1
 by_cases hji : j = i
 ·
  subst hji; have := hs j hj; simp only [if_pos]
  constructor
  ·
   rw [Array.getElem?_setIfInBounds_ne (by omega), Array.getElem?_setIfInBounds_self_of_lt (by omega)]
  ·
   rw [Array.getElem?_setIfInBounds_self_of_lt (by simp; omega)]
 ·
  simp only [if_neg hji]
  constructor
  ·
   rw [Array.getElem?_setIfInBounds_ne (by omega), Array.getElem?_setIfInBounds_ne (by omega)]; exact (h3 j hj).1
  ·
   rw [Array.getElem?_setIfInBounds_ne (by omega), Array.getElem?_setIfInBounds_ne (by omega)]; exact (h3 j hj).2
/-- The place of the first that is told so, from the i-th on; -1 without one. -/
def df_idxF (q : S54 → Bool) (c : Nat → S54) (i : Nat) : Nat → Int
 | 0 => -1
 | t + 1 => if q (c i) = true then (i : Int) else df_idxF q c (i + 1) t
theorem df_wS (m : Nat) (h : m ≤ 2000000000) : wrap64 ((m : Int) + 1) = ((m + 1 : Nat) : Int) := by unfold wrap64; omega
theorem df_idx_walk (g : Nat) (lb : Array Value) (eg : ∀ args w, (callFunc g args).run Tryd.prog w = .ok (.enter g args) w) (q : S54 → Bool) (w : World) (b N n cap : Nat) (c : Nat → S54) (hS : df_Sy w b N n c) (hn : n ≤ 1000000)
  (hp : ∀ W, Below w.heap.size w W → ∀ x : S54, Calls Tryd.prog g (#[.agg #[.int .i64 x.f0, .int .i64 x.f1]] ++ lb) W fun e w' => e = .returned (.bool (q x)) ∧ Below W.heap.size W w') :
  Calls Tryd.prog 112 #[.slice (some ⟨b, 0, none⟩) n cap, .func (.func g) #[] lb] w fun e w' => e = .returned (.int .i64 (df_idxF q c 0 n)) ∧ Below w.heap.size w w' := by
 have HS := am_ hS; have HP := am_ hp; clear hS hp
 go_enter Tryd.func112, Tryd.ntmps112
 go_wp2
 go_loopg [5, 8] n (fun gg _ s8 wr => ∃ x : Nat, x ≤ n ∧ n - x ≤ gg ∧ s8 = .int .i64 (x : Int) ∧ Aside0 (df_idxF q c 0 n = df_idxF q c x (n - x)) ∧ Aside0 (Below w.heap.size w wr))
 case atStart => exact ⟨0, Nat.zero_le _, by omega, rfl, ⟨rfl⟩, ⟨Below.refl _ _⟩⟩
 case round =>
  obtain ⟨x, hx, hgg, rfl, HI, HB⟩ := hrel
  by_cases hlt : x < n
  ·
   have hxi : (x : Int) < (n : Int) := by omega
   have hx0 : (0 : Int) ≤ (x : Int) := by omega
   obtain ⟨⟨c0, c1⟩, f0, f1⟩ := (HS.out.below HB.out).cells x hlt; have hI := HI.out; rw [show n - x = (n - x - 1) + 1 by omega, df_idxF] at hI; cases hq : q (c x) with
   | true =>
    rw [if_pos hq] at hI; have hc := HP.out wr HB.out (c x); rw [hq] at hc; have HC := am_ hc; have HI2 := am_ hI; clear hc hI HI hq
    go_wp2_with (go_at_fn g; refine HC.out.mono ?_; rintro e w1 ⟨rfl, hb1⟩)
    go_ret
    exact ⟨by rw [HI2.out]; rfl, below_step HB.out hb1⟩
   | false =>
    rw [if_neg (by rw [hq]; decide)] at hI; have hc := HP.out wr HB.out (c x); rw [hq] at hc; have HC := am_ hc; have HI2 := am_ hI; clear hc hI HI hq
    go_wp2_with (go_at_fn g; refine HC.out.mono ?_; rintro e w1 ⟨rfl, hb1⟩)
    go_roundg (n - (x + 1))
    case measure => omega
    case rel => exact ⟨x + 1, by omega, by omega, by first | rfl | (congr 1; omega) | (rw [df_wS x (by omega)]), ⟨by rw [HI2.out]; congr 1⟩, ⟨below_step HB.out hb1⟩⟩
  ·
   have hI := HI.out; rw [show n - x = 0 by omega, df_idxF] at hI; have HI2 := am_ hI; clear hI HI; obtain rfl : x = n := by omega
   go_wp2
   go_ret
   exact ⟨by rw [HI2.out]; rfl, HB.out⟩
theorem df_idxF_none (q : S54 → Bool) (c : Nat → S54) : ∀ t i, df_idxF q c i t = -1 → ∀ j, j < t → q (c (i + j)) = false
 | 0, _, _, _, h => absurd h (Nat.not_lt_zero _)
 | t + 1, i, h, j, hj => by
  rw [df_idxF] at h; cases hq : q (c i) with
  | true => rw [hq, if_pos rfl] at h; omega
  | false =>
   rw [hq, if_neg (by decide)] at h
   rcases Nat.eq_zero_or_pos j with rfl | h0
   ·
    exact hq
   ·
    have := df_idxF_none q c t (i + 1) h (j - 1) (by omega)
    rwa [show i + 1 + (j - 1) = i + j by omega] at this
theorem df_idxF_some (q : S54 → Bool) (c : Nat → S54) : ∀ t i, df_idxF q c i t ≠ -1 → ∃ k, k < t ∧ df_idxF q c i t = ((i + k : Nat) : Int) ∧ q (c (i + k)) = true ∧ ∀ j, j < k → q (c (i + j)) = false
 | 0, _, h => absurd rfl h
 | t + 1, i, h => by
  cases hq : q (c i) with
  | true => exact ⟨0, Nat.succ_pos _, by rw [df_idxF, hq, if_pos rfl]; rfl, hq, fun j hj => absurd hj (Nat.not_lt_zero _)⟩
  | false =>
   have e : df_idxF q c i (t + 1) = df_idxF q c (i + 1) t := by rw [df_idxF, hq, if_neg (by decide)]
   rw [e] at h; obtain ⟨k, h1, h2, h3, h4⟩ := df_idxF_some q c t (i + 1) h; refine ⟨k + 1, by omega, by rw [e, h2]; congr 1; omega, by rwa [show i + (k + 1) = i + 1 + k by omega], fun j hj => ?_⟩
   rcases Nat.eq_zero_or_pos j with rfl | h0
   ·
    exact hq
   ·
    have := h4 (j - 1) (by omega)
    rwa [show i + 1 + (j - 1) = i + j by omega] at this
/-- What is kept of the first j. -/
def df_kl (q : S54 → Bool) (c : Nat → S54) (j : Nat) : List S54 := ((List.range j).map c).filter fun x => !q x
theorem df_kl_succ (q : S54 → Bool) (c : Nat → S54) (j : Nat) : df_kl q c (j + 1) = df_kl q c j ++ (if q (c j) = true then [] else [c j]) := by
 unfold df_kl; rw [List.range_succ, List.map_append, List.filter_append]; cases hq : q (c j) <;> simp [hq]
theorem df_kl_le (q : S54 → Bool) (c : Nat → S54) (j : Nat) : (df_kl q c j).length ≤ j := by
 have := List.length_filter_le (fun x => !q x) ((List.range j).map c)
 simpa [df_kl] using this
theorem df_kl_all (q : S54 → Bool) (c : Nat → S54) : ∀ j, (∀ m, m < j → q (c m) = false) → df_kl q c j = (List.range j).map c
 | 0, _ => rfl
 | j + 1, h => by
  rw [df_kl_succ, df_kl_all q c j (fun m hm => h m (by omega)), if_neg (by rw [h j (by omega)]; decide), List.range_succ, List.map_append]; rfl
/-- What the block holds while the row is gone through: what is kept, what is not seen yet. -/
def df_KI (q : S54 → Bool) (c d : Nat → S54) (i j n : Nat) : Prop := i = (df_kl q c j).length ∧ i < j ∧ (∀ m, m < i → (df_kl q c j)[m]? = some (d m)) ∧ ∀ m, j ≤ m → m < n → d m = c m
theorem df_KI.start {q : S54 → Bool} {c : Nat → S54} {k n : Nat} (h1 : q (c k) = true) (h2 : ∀ j, j < k → q (c j) = false) : df_KI q c c k (k + 1) n := by
 have e : df_kl q c (k + 1) = (List.range k).map c := by rw [df_kl_succ, if_pos h1, df_kl_all q c k h2, List.append_nil]
 refine ⟨by rw [e]; simp, by omega, fun m hm => ?_, fun _ _ _ => rfl⟩; rw [e]; simp [hm]
theorem df_KI.skip {q : S54 → Bool} {c d : Nat → S54} {i j n : Nat} (h : df_KI q c d i j n) (hq : q (c j) = true) : df_KI q c d i (j + 1) n := by
 obtain ⟨a, b, e, f⟩ := h; have g : df_kl q c (j + 1) = df_kl q c j := by rw [df_kl_succ, if_pos hq, List.append_nil]
 exact ⟨by rw [g]; exact a, by omega, by rw [g]; exact e, fun m hm => f m (by omega)⟩
theorem df_KI.keep {q : S54 → Bool} {c d : Nat → S54} {i j n : Nat} (h : df_KI q c d i j n) (hq : q (c j) = false) : df_KI q c (fun m => if m = i then c j else d m) (i + 1) (j + 1) n := by
 obtain ⟨a, b, e, f⟩ := h; have g : df_kl q c (j + 1) = df_kl q c j ++ [c j] := by rw [df_kl_succ, if_neg (by rw [hq]; decide)]
 refine ⟨by rw [g, List.length_append, ← a]; rfl, by omega, fun m hm => ?_, fun m hm h2 => ?_⟩
 ·
  rw [g]
  by_cases hmi : m = i
  ·
   subst hmi; show _ = some (if m = m then _ else _); rw [if_pos rfl, List.getElem?_append_right (by omega), ← a, Nat.sub_self]; rfl
  ·
   show _ = some (if m = i then _ else _); rw [if_neg hmi, List.getElem?_append_left (by omega)]; exact e m (by omega)
 ·
  show (if m = i then _ else _) = _; rw [if_neg (by omega)]; exact f m (by omega) h2
theorem df_zc2 (n : Nat) : (Builtin.zeroCells (Value.agg #[.int .i64 0, .int .i64 0]).cells n).toList = List.replicate (n * 2) (.int .i64 0) := by
 have : (Value.agg #[.int .i64 0, .int .i64 0]).cells = #[.int .i64 0, .int .i64 0] := by rfl
 rw [this]; simp only [Builtin.zeroCells]
 apply List.ext_getElem
 ·
  simp
 ·
  intro i h1 h2; simp only [Array.toList_map, List.getElem_map, List.getElem_replicate]; have : i % 2 = 0 ∨ i % 2 = 1 := by omega
  have e : ∀ m, m % 2 = 0 ∨ m % 2 = 1 → (#[Value.int .i64 0, Value.int .i64 0] : Array Value)[m % 2]! = .int .i64 0 := by
   rintro m (h | h) <;> rw [h] <;> rfl
  exact e _ (by omega)
theorem df_clear_run (wr : World) (ty : TypeId) (b N n i cap : Nat) (d : Nat → S54) (hS : df_Sy wr b N n d) (hi : i < n) :
  (Builtin.clear_ #[36] ty #[.slice (some ⟨b, i * 2, none⟩) (n - i) (cap - i)]).run Tryd.prog wr = .ok (.tuple #[]) (wr.setCells b (i * 2) (List.replicate ((n - i) * 2) (.int .i64 0))) := by
 obtain ⟨cur, h1, h2, h3⟩ := hS; have hsz : n * 2 ≤ cur.size := by have := (Array.getElem?_eq_some_iff.1 (h3 (n - 1) (by omega)).2).1; omega
 have hv : ∀ w, (zeroValue 54).run Tryd.prog w = .ok (.agg #[.int .i64 0, .int .i64 0]) w := fun w => by rfl
 have hst := run_storeCells_cells (P := Tryd.prog) b (i * 2) (List.replicate ((n - i) * 2) (.int .i64 0)) 0 wr (fun j hj => by
   rw [List.length_replicate] at hj; rw [blk_cell h1]; simp; omega) (fun j hj => blk_frozen h1 _) (by intro v hv'; rw [List.eq_of_mem_replicate hv']; rfl)
 simp only [Nat.add_zero] at hst; obtain ⟨m, hm⟩ : ∃ m, n - i = m + 1 := ⟨n - i - 1, by omega⟩; rw [hm] at hst ⊢
 simp [Builtin.clear_, run_underlying Tryd.underlying36, hv, df_zc2, hst]
theorem df_Sy.cut {w : World} {b N n : Nat} {c : Nat → S54} (h : df_Sy w b N n c) {i : Nat} (vs : List Value) (hi : i < n) (hv : vs.length = (n - i) * 2) : df_Sy (w.setCells b (i * 2) vs) b N i c := by
 obtain ⟨cur, h1, h2, h3⟩ := h; have hsz : n * 2 ≤ cur.size := by have := (Array.getElem?_eq_some_iff.1 (h3 (n - 1) (by omega)).2).1; omega
 obtain ⟨cur', g1, g2, g3⟩ := setCells_row vs (i * 2) w cur h1 (by omega); refine ⟨cur', g1, g2.trans h2, fun j hj => ?_⟩
 have e : ∀ m, m < i * 2 → cur'[m]? = cur[m]? := fun m hm => by
  rw [← Array.getElem?_toList, g3, List.append_assoc, List.getElem?_append_left (by simp; omega), List.getElem?_take, if_pos hm, Array.getElem?_toList]
 exact ⟨(e _ (by omega)).trans (h3 j (by omega)).1, (e _ (by omega)).trans (h3 j (by omega)).2⟩
theorem df_kept_cells {w W : World} {b : Nat} (h : Kept w W (· = b)) (o : Nat) (vs : List Value) : Kept w (W.setCells b o vs) (· = b) :=
 ⟨by rw [(setCells_same b vs o W).2.2.2]; exact h.1, fun i hi hn => (setCells_far vs o i hn).trans (h.2 i hi hn)⟩
theorem df_below_cells {w W : World} {b : Nat} (h : Below b w W) (o : Nat) (vs : List Value) : Below b w (W.setCells b o vs) := by
 obtain ⟨a1, a2, a3, a4⟩ := setCells_same b vs o W; exact ⟨a1.trans h.os, a2.trans h.tape, a3.trans h.output, by rw [a4]; exact h.size, fun k hk => (setCells_far vs o k (by omega)).trans (h.block k hk)⟩
theorem df_kept_b {w W : World} {b : Nat} (h : Kept w W (· = b)) {W' : World} (hb : Below W.heap.size W W') : Kept w W' (· = b) := h.below hb
theorem df_del_walk (g : Nat) (lb : Array Value) (eg : ∀ args w, (callFunc g args).run Tryd.prog w = .ok (.enter g args) w) (q : S54 → Bool) (w : World) (b N n cap : Nat) (c : Nat → S54) (hS : df_Sy w b N n c) (hn : n ≤ 1000000) (hcap : n ≤ cap) (hc64 : cap ≤ 9223372036854775807)
  (hp : ∀ W, Below b w W → Kept w W (· = b) → ∀ x : S54, Calls Tryd.prog g (#[.agg #[.int .i64 x.f0, .int .i64 x.f1]] ++ lb) W fun e w' => e = .returned (.bool (q x)) ∧ Below W.heap.size W w') :
  Calls Tryd.prog 78 #[.slice (some ⟨b, 0, none⟩) n cap, .func (.func g) #[] lb] w fun e w' => ∃ d, e = .returned (.slice (some ⟨b, 0, none⟩) (df_kl q c n).length cap) ∧ df_Sy w' b N (df_kl q c n).length d ∧ (∀ m, m < (df_kl q c n).length → (df_kl q c n)[m]? = some (d m)) ∧ Kept w w' (· = b) ∧ Below b w w' := by
 have hI := df_idx_walk g lb eg q w b N n cap c hS hn (fun W hW x => hp W (hW.mono (Nat.le_of_lt hS.lt)) (Kept.of_below hW _) x); have hbs := hS.lt
 by_cases h1 : df_idxF q c 0 n = -1
 ·
  rw [h1] at hI; have hall := df_idxF_none q c n 0 h1; simp only [Nat.zero_add] at hall; have HI := am_ hI; have HS := am_ hS; have HA := am_ (df_kl_all q c n hall); clear hI hS h1 hall hp
  go_enter Tryd.func78, Tryd.ntmps78
  go_wp2_with (go_at_call 112; refine HI.out.mono ?_; rintro e w1 ⟨rfl, hb1⟩)
  go_ret
  rw [HA.out]; refine ⟨c, by simp, ?_, fun m hm => by simp at hm; simp [hm], Kept.of_below hb1 _, hb1.mono (by omega)⟩; rw [List.length_map, List.length_range]; exact HS.out.below hb1
 ·
  obtain ⟨k, hk, e, hq1, hq2⟩ := df_idxF_some q c n 0 h1; simp only [Nat.zero_add] at e hq1 hq2; rw [e] at hI; have hne1 : ((k : Int) == -1) = false := beq_eq_false_iff_ne.2 (by omega); have HI := am_ hI; have HS := am_ hS; have HK0 := am_ (df_KI.start (n := n) hq1 hq2); have HP := am_ hp; clear hI hS h1 hq1 hq2 hp e
  go_enter Tryd.func78, Tryd.ntmps78
  go_wp2_with (go_at_call 112; refine HI.out.mono ?_; rintro e w1 ⟨rfl, hb1⟩)
  go_loopg [5, 6, 7] n (fun gg s5 s6 _ wr => ∃ (i j : Nat) (d : Nat → S54), s5 = .int .i64 (i : Int) ∧ s6 = .int .i64 (j : Int) ∧ j ≤ n ∧ n - j ≤ gg ∧ Aside0 (df_KI q c d i j n) ∧ Aside0 (df_Sy wr b N n d) ∧ Aside0 (Kept w wr (· = b)) ∧ Aside0 (Below b w wr))
  case atStart => exact ⟨k, k + 1, c, rfl, by first | rfl | (rw [df_wS k (by omega)]), by omega, by omega, HK0, ⟨HS.out.below hb1⟩, ⟨Kept.of_below hb1 _⟩, ⟨hb1.mono (by omega)⟩⟩
  case round =>
   obtain ⟨i, j, d, rfl, rfl, hj, hgg, HK, HY, HKe, HB⟩ := hrel
   by_cases hlt : j < n
   ·
    have hxj : (j : Int) < (n : Int) := by omega
    have hj0 : (0 : Int) ≤ (j : Int) := by omega
    have hi0 : (0 : Int) ≤ (i : Int) := by omega
    have hij := HK.out.2.1; have hin : (i : Int) < (n : Int) := by omega
    have hbr := HY.out.lt; obtain ⟨⟨c0, c1⟩, f0, f1⟩ := HY.out.cells j hlt; have hd := HK.out.2.2.2 j (Nat.le_refl _) hlt; rw [hd] at c0 c1
    go_upto_region 8 with fail
    have hal : Below wr.heap.size wr (wr.alloc (.cells #[.int .i64 (c j).f0, .int .i64 (c j).f1] 54 (0, 0))) := (Below.refl wr.heap.size wr).alloc (Nat.le_refl _) _; have P0 := blk_new wr (.cells #[.int .i64 (c j).f0, .int .i64 (c j).f1] 54 (0, 0)); have HY2 := am_ (HY.out.below hal); have HKe2 := am_ (HKe.out.below hal); have HB2 := am_ (show Below b w _ from HB.out.trans (hal.mono (by omega))); have hcall := HP.out _ HB2.out HKe2.out (c j); have p0 := (blk_cell P0 0).trans (show _ = some (Value.int .i64 (c j).f0) from rfl); have p1 := (blk_cell P0 1).trans (show _ = some (Value.int .i64 (c j).f1) from rfl); have HP0 := am_ P0; generalize hW : wr.alloc (.cells #[.int .i64 (c j).f0, .int .i64 (c j).f1] 54 (0, 0)) = W2 at *; clear hal P0 c0 c1 f0 f1 hW HY HKe HB; have hne : wr.heap.size ≠ b := by omega
    generalize wr.heap.size = gb at *; cases hq : q (c j) with
    | true =>
     rw [hq] at hcall; have HC := am_ hcall; have HQ := am_ hq; clear hcall hq
     go_wp2_with (go_at_fn g; refine HC.out.mono ?_; rintro e w3 ⟨rfl, hb3⟩)
     go_roundg (n - (j + 1))
     case measure => omega
     case rel => exact ⟨i, j + 1, d, rfl, by first | rfl | (rw [df_wS j (by omega)]), by omega, by omega, ⟨HK.out.skip HQ.out⟩, ⟨HY2.out.below hb3⟩, ⟨HKe2.out.below hb3⟩, ⟨HB2.out.trans (hb3.mono (Nat.le_of_lt HY2.out.lt))⟩⟩
    | false =>
     rw [hq] at hcall; have HC := am_ hcall; have HQ := am_ hq; clear hcall hq
     go_upto_region 9 with (go_at_fn g; refine HC.out.mono ?_; rintro e w3 ⟨rfl, hb3⟩)
     have HY3 := am_ (HY2.out.below hb3); have HKe3 := am_ (HKe2.out.below hb3); have HB3 := am_ (show Below b w w3 from HB2.out.trans (hb3.mono (Nat.le_of_lt HY2.out.lt))); have P3 := blk_below HP0.out hb3; have p0 := (blk_cell P3 0).trans (show _ = some (Value.int .i64 (c j).f0) from rfl); have p1 := (blk_cell P3 1).trans (show _ = some (Value.int .i64 (c j).f1) from rfl); obtain ⟨⟨c0, c1⟩, f0, f1⟩ := HY3.out.cells i (by omega); clear hb3 P3 HP0
     go_wp2
     go_roundg (n - (j + 1))
     case measure => omega
     case rel => exact ⟨i + 1, j + 1, _, by first | rfl | (rw [df_wS i (by omega)]), by first | rfl | (rw [df_wS j (by omega)]), by omega, by omega, ⟨HK.out.keep HQ.out⟩, ⟨HY3.out.set i (by omega) (c j)⟩, ⟨(HKe3.out.setCell (.inl rfl) _).setCell (.inl rfl) _⟩, ⟨(HB3.out.setCell (Nat.le_refl _) _).setCell (Nat.le_refl _) _⟩⟩
   ·
    obtain rfl : j = n := by omega
    have hij := HK.out.2.1; have hcl : ∀ ty, _ := fun ty => df_clear_run wr ty b N j i cap d HY.out hij; have hi0 : (0 : Int) ≤ (i : Int) := by omega
    have hij' : (i : Int) ≤ (j : Int) := by omega
    go_wp2
    go_ret
    have hK := HK.out; refine ⟨d, by rw [← hK.1]; rfl, ?_, ?_, ?_, ?_⟩
    ·
     rw [← hK.1]; exact HY.out.cut _ hij (by simp)
    ·
     rw [← hK.1]; exact hK.2.2.1
    ·
     exact df_kept_cells HKe.out _ _
    ·
     exact df_below_cells HB.out _ _
theorem df_sy_of {w : World} {base : Nat} {ok : Nat → Prop} {v : Value} {xs : List S54} (h : k54.R 54 w base ok v xs) (hp : 0 < xs.length) : ∃ g cap, v = .slice (some ⟨g, 0, none⟩) xs.length cap ∧ base ≤ g ∧ xs.length ≤ cap ∧ cap ≤ maxLen ∧ df_Sy w g (cap * 2) xs.length (fun j => xs.getD j z54) := by
 obtain ⟨_, inner, ⟨hlen, hcase⟩, hreps⟩ := h
 rcases hcase with ⟨_, h0⟩ | ⟨g, cap, cur, rfl, hg, hheap, hncap, hcap, hsz, htake⟩
 ·
  omega
 ·
  refine ⟨g, cap, rfl, hg, hncap, hcap, cur, hheap, hsz, fun j hj => ?_⟩; have hx := List.getElem?_eq_getElem hj; have hM := k54_openM (hreps.2 j xs[j] hx); have e : xs.getD j z54 = xs[j] := by simp [List.getD, hx]
  show cur[j * 2]? = some (.int .i64 (xs.getD j z54).f0) ∧ cur[j * 2 + 1]? = some (.int .i64 (xs.getD j z54).f1); rw [e]; have hM' : (inner.drop (j * 2)).take 2 = [.int .i64 xs[j].f0, .int .i64 xs[j].f1] := hM
  have q : ∀ t, t < 2 → cur[j * 2 + t]? = ((inner.drop (j * 2)).take 2)[t]? := fun t ht => by
   rw [List.getElem?_take, if_pos ht, List.getElem?_drop, ← htake, List.getElem?_take, if_pos (by show j * 2 + t < xs.length * 2; omega), Array.getElem?_toList]
  exact ⟨by have := q 0 (by omega); rw [hM'] at this; exact this, by have := q 1 (by omega); rw [hM'] at this; exact this⟩
theorem df_R_of {w : World} {base : Nat} {ok : Nat → Prop} {g cap : Nat} {ys : List S54} {d : Nat → S54} (h : df_Sy w g (cap * 2) ys.length d) (hy : ∀ m, m < ys.length → ys[m]? = some (d m)) (hb : base ≤ g) (hl : ys.length ≤ cap) (hc : cap ≤ maxLen) (hok : ok g) : k54.R 54 w base ok (.slice (some ⟨g, 0, none⟩) ys.length cap) ys := by
 obtain ⟨cur, h1, h2, h3⟩ := h
 have hL : (cur.toList.take (ys.length * 2)).length = ys.length * 2 := by
  have : cur.toList.length = cap * 2 := h2; rw [List.length_take, this]; omega
 refine ⟨fun k hk => ?_, cur.toList.take (ys.length * 2), ⟨hL, .inr ⟨g, cap, cur, rfl, hb, h1, hl, hc, h2, rfl⟩⟩, hL, fun j p hj => ?_⟩
 ·
  have : g = k := by simpa [Value.ownBlock] using hk
  subst this; exact hok
 ·
  have hjl : j < ys.length := (List.getElem?_eq_some_iff.1 hj).1; have e := hy j hjl; rw [hj] at e; obtain rfl := Option.some.inj e
  have q : ((cur.toList.take (ys.length * 2)).drop (j * 2)).take 2 = [.int .i64 (d j).f0, .int .i64 (d j).f1] := by
   apply List.ext_getElem?
   intro t; rw [List.getElem?_take]
   by_cases ht : t < 2
   ·
    rw [if_pos ht, List.getElem?_drop, List.getElem?_take, if_pos (by omega), Array.getElem?_toList]
    rcases (show t = 0 ∨ t = 1 by omega) with rfl | rfl
    ·
     exact (h3 j hjl).1
    ·
     exact (h3 j hjl).2
   ·
    rw [if_neg ht]
    simp; omega
  show k54.M w base _ (d j) (((cur.toList.take (ys.length * 2)).drop (j * 2)).take 2); rw [q]; exact k54_mkM _ _ _ _
theorem df_kl_eq (q : S54 → Bool) (xs : List S54) : df_kl q (fun j => xs.getD j z54) xs.length = xs.filter fun x => !q x := by
 unfold df_kl
 congr 1
 apply List.ext_getElem
 ·
  simp
 ·
  intro i h1 h2; simp only [List.getElem_map, List.getElem_range, List.getD, List.getElem?_eq_getElem h2, Option.getD_some]
theorem df_del {w : World} {base : Nat} {ok : Nat → Prop} {v : Value} {xs : List S54} (g : Nat) (lb : Array Value) (eg : ∀ args w, (callFunc g args).run Tryd.prog w = .ok (.enter g args) w) (q : S54 → Bool) (hR : k54.R 54 w base ok v xs) (hpos : 0 < xs.length) (hn : xs.length ≤ 1000000)
  (hp : ∀ W, Below base w W → ∀ x : S54, Calls Tryd.prog g (#[.agg #[.int .i64 x.f0, .int .i64 x.f1]] ++ lb) W fun e w' => e = .returned (.bool (q x)) ∧ Below W.heap.size W w') :
  Calls Tryd.prog 78 #[v, .func (.func g) #[] lb] w fun e w' => ∃ v', e = .returned v' ∧ v'.ownBlock = v.ownBlock ∧ (∃ A c, v' = .slice A (xs.filter fun x => !q x).length c) ∧ k54.R 54 w' base ok v' (xs.filter fun x => !q x) ∧ Kept w w' (fun k => some k = v.ownBlock) ∧ Below base w w' := by
 obtain ⟨b, cap, rfl, hb, hnc, hcm, hS⟩ := df_sy_of hR hpos; refine (df_del_walk g lb eg q w b (cap * 2) xs.length cap _ hS hn hnc (by unfold maxLen at hcm; omega) (fun W hW _ x => hp W (hW.mono hb) x)).mono ?_; rintro e w' ⟨d, rfl, hS', hd, hK, hB⟩; rw [df_kl_eq] at hS' hd; rw [df_kl_eq]; refine ⟨_, rfl, rfl, ⟨_, _, rfl⟩, df_R_of hS' hd hb (Nat.le_trans (List.length_filter_le _ _) hnc) hcm (hR.1 b rfl), hK.mono (fun k hk => by subst hk; rfl), hB.mono hb⟩
/-- What is struck: neither of the two ends, and told so. -/
def df_q (F L : S54) (q : S54 → Bool) (x : S54) : Bool := !(x.f0 == F.f0 && x.f1 == F.f1) && (!(x.f0 == L.f0 && x.f1 == L.f1) && q x)
theorem df_lit (gq : Nat) (lbq : Array Value) (eg : ∀ args w, (callFunc gq args).run Tryd.prog w = .ok (.enter gq args) w) (q : S54 → Bool) (F L x : S54) (g1 g2 g3 : Nat) (W : World)
  (h1 : W.heap[g1]? = some (.cells #[.int .i64 F.f0, .int .i64 F.f1] 54 (0, 0))) (h2 : W.heap[g2]? = some (.cells #[.int .i64 L.f0, .int .i64 L.f1] 54 (0, 0))) (h3 : W.heap[g3]? = some (.cells #[.func (.func gq) #[] lbq] 68 (0, 0)))
  (hp : ∀ W', Below W.heap.size W W' → Calls Tryd.prog gq (#[.agg #[.int .i64 x.f0, .int .i64 x.f1]] ++ lbq) W' fun e w' => e = .returned (.bool (q x)) ∧ Below W'.heap.size W' w') :
  Calls Tryd.prog 79 #[.agg #[.int .i64 x.f0, .int .i64 x.f1], .pointer (some ⟨g1, 0, none⟩), .pointer (some ⟨g2, 0, none⟩), .pointer (some ⟨g3, 0, none⟩)] W fun e w' => e = .returned (.bool (df_q F L q x)) ∧ Below W.heap.size W w' := by
 have hal : Below W.heap.size W (W.alloc (.cells #[.int .i64 x.f0, .int .i64 x.f1] 54 (0, 0))) := (Below.refl W.heap.size W).alloc (Nat.le_refl _) _; have HP := am_ (hp _ hal); have hz := blk_new W (.cells #[.int .i64 x.f0, .int .i64 x.f1] 54 (0, 0)); have h1' := blk_below h1 hal; have h2' := blk_below h2 hal; have h3' := blk_below h3 hal; have z0 := (blk_cell hz 0).trans (show _ = some (Value.int .i64 x.f0) from rfl); have z1 := (blk_cell hz 1).trans (show _ = some (Value.int .i64 x.f1) from rfl); have a0 := (blk_cell h1' 0).trans (show _ = some (Value.int .i64 F.f0) from rfl); have a1 := (blk_cell h1' 1).trans (show _ = some (Value.int .i64 F.f1) from rfl); have b0 := (blk_cell h2' 0).trans (show _ = some (Value.int .i64 L.f0) from rfl); have b1 := (blk_cell h2' 1).trans (show _ = some (Value.int .i64 L.f1) from rfl); have d0 := (blk_cell h3' 0).trans (show _ = some (Value.func (.func gq) #[] lbq) from rfl); have HAL := am_ hal; clear hz h1' h2' h3' h1 h2 h3 hp hal; unfold df_q; obtain ⟨x0, x1⟩ := x; obtain ⟨F0, F1⟩ := F; obtain ⟨L0, L1⟩ := L
 dsimp only at *
 go_enter Tryd.func79, Tryd.ntmps79
 by_cases e1 : x0 = F0
 ·
  subst e1
  by_cases e2 : x1 = F1
  ·
   subst e2
   go_upto_region 1 with fail
   go_wp2
   go_ret
   exact ⟨by simp, HAL.out⟩
  ·
   by_cases e3 : x0 = L0
   ·
    subst e3
    by_cases e4 : x1 = L1
    ·
     have n2 : (x1 == F1) = false := beq_eq_false_iff_ne.2 e2; subst e4
     go_upto_region 1 with fail
     go_wp2
     go_ret
     exact ⟨by simp [n2], HAL.out⟩
    ·
     have n2 : (x1 == F1) = false := beq_eq_false_iff_ne.2 e2; have n4 : (x1 == L1) = false := beq_eq_false_iff_ne.2 e4
     go_upto_region 1 with fail
     go_wp2_with (go_at_fn gq; refine HP.out.mono ?_; rintro e w1 ⟨rfl, hb1⟩)
     go_ret
     exact ⟨by simp [n2, n4], below_step HAL.out hb1⟩
   ·
    have n2 : (x1 == F1) = false := beq_eq_false_iff_ne.2 e2; have n4 : (x0 == L0) = false := beq_eq_false_iff_ne.2 e3
    go_upto_region 1 with fail
    go_wp2_with (go_at_fn gq; refine HP.out.mono ?_; rintro e w1 ⟨rfl, hb1⟩)
    go_ret
    exact ⟨by simp [n2, n4], below_step HAL.out hb1⟩
 ·
  by_cases e3 : x0 = L0
  ·
   subst e3
   by_cases e4 : x1 = L1
   ·
    have n2 : (x0 == F0) = false := beq_eq_false_iff_ne.2 e1; subst e4
    go_upto_region 1 with fail
    go_wp2
    go_ret
    exact ⟨by simp [n2], HAL.out⟩
   ·
    have n2 : (x0 == F0) = false := beq_eq_false_iff_ne.2 e1; have n4 : (x1 == L1) = false := beq_eq_false_iff_ne.2 e4
    go_upto_region 1 with fail
    go_wp2_with (go_at_fn gq; refine HP.out.mono ?_; rintro e w1 ⟨rfl, hb1⟩)
    go_ret
    exact ⟨by simp [n2, n4], below_step HAL.out hb1⟩
  ·
   have n2 : (x0 == F0) = false := beq_eq_false_iff_ne.2 e1; have n4 : (x0 == L0) = false := beq_eq_false_iff_ne.2 e3
   go_upto_region 1 with fail
   go_wp2_with (go_at_fn gq; refine HP.out.mono ?_; rintro e w1 ⟨rfl, hb1⟩)
   go_ret
   exact ⟨by simp [n2, n4], below_step HAL.out hb1⟩
theorem df_gone (kk : Nat) (ts : List S54) (A : Option Addr) (c : Nat) (q : S54 → Bool) (hq : ∀ x : S54, impl_Sym_35.f kk ts x.f0 x.f1 = some (q x)) (gt : Nat) (W : World) (hb : W.heap[gt]? = some (.cells #[.slice A ts.length c] 36 (0, 0))) (hr : Kd.C k54 W A ts.length ts) (hc : ts.length ≤ c) (x : S54) :
  Calls Tryd.prog 34 #[.agg #[.int .i64 x.f0, .int .i64 x.f1], .pointer (some ⟨gt, 0, none⟩)] W fun e w' => e = .returned (.bool (q x)) ∧ Below W.heap.size W w' := by
 have hal : Below W.heap.size W (W.alloc (.cells #[.int .i64 x.f0, .int .i64 x.f1] 54 (0, 0))) := (Below.refl W.heap.size W).alloc (Nat.le_refl _) _; have HH := am_ (impl_Sym_35.calls kk A c ts x.f0 x.f1 (q x) _ (Kd.C_below hr hal) hc (hq x)); have hz := blk_new W (.cells #[.int .i64 x.f0, .int .i64 x.f1] 54 (0, 0)); have h1' := blk_below hb hal; have z0 := (blk_cell hz 0).trans (show _ = some (Value.int .i64 x.f0) from rfl); have z1 := (blk_cell hz 1).trans (show _ = some (Value.int .i64 x.f1) from rfl); have a0 := (blk_cell h1' 0).trans (show _ = some (Value.slice A ts.length c) from rfl); have HAL := am_ hal; clear hz h1' hal hr hq
 go_enter Tryd.func34, Tryd.ntmps34
 go_upto_region 1 with fail
 go_wp2_with (go_at_call 35; refine HH.out.mono ?_; rintro e w1 ⟨rfl, hb1⟩)
 go_ret
 exact ⟨rfl, below_step HAL.out hb1⟩
/-- A row of rows as it lies: the rows' values, of which no two lead to one block. -/
def df_Ap (w : World) (b g n : Nat) (vs : Nat → Sl) (f : Nat → Nat) (rows : Nat → List S54) : Prop :=
 (∃ cur : Array Value, w.heap[g]? = some (.cells cur 36 (0, 0)) ∧ ∀ j, j < n → cur[j]? = some (encSl (vs j))) ∧ ∀ j, j < n → k54.R 54 w b (fun k => f k = j) (encSl (vs j)) (rows j) ∧ (vs j).2.1 = (rows j).length
theorem df_Ap.below {w w' : World} {b g n : Nat} {vs : Nat → Sl} {f : Nat → Nat} {rows : Nat → List S54} (h : df_Ap w b g n vs f rows) (hb : Below w.heap.size w w') : df_Ap w' b g n vs f rows := by
 obtain ⟨⟨cur, h1, h2⟩, h3⟩ := h; exact ⟨⟨cur, (hb.block _ (blk_lt h1)).trans h1, h2⟩, fun j hj => ⟨Kd.R_below (h3 j hj).1 hb, (h3 j hj).2⟩⟩
theorem df_ap_of {w : World} {b : Nat} {ok : Nat → Prop} {v : Value} {xs : List (List S54)} (h : Kd.S (Kd.slice 54 k54) 36 w b ok v xs) (h0 : 0 < xs.length) :
  ∃ g cap vs f, v = .slice (some ⟨g, 0, none⟩) xs.length cap ∧ xs.length ≤ cap ∧ b ≤ g ∧ df_Ap w b g xs.length vs f (fun j => xs.getD j []) := by
 obtain ⟨f, _, inner, ⟨hlen, hcase⟩, hreps⟩ := h; rw [List.length_zipIdx] at hcase hlen
 rcases hcase with ⟨_, h00⟩ | ⟨g, cap, cur, rfl, hg, hheap, hncap, hcap, hsz, htake⟩
 ·
  exfalso
  first | omega | (rw [h00] at hlen; simp at hlen; omega) | (subst h00; simp at hlen; omega)
 ·
  have hk : ∀ j, ∃ v' : Sl, j < xs.length → cur[j]? = some (encSl v') ∧ k54.R 54 w b (fun k => f k = j) (encSl v') (xs.getD j []) ∧ v'.2.1 = (xs.getD j []).length := by
   intro j
   by_cases hj : j < xs.length
   ·
    have hx := List.getElem?_eq_getElem hj; obtain ⟨v', e', r'⟩ := hreps.2 j (xs[j], j) (Kd.zip_at hx); have e4 := congrArg (fun l => l[0]?) e'; simp only [show (Kd.tag f (Kd.slice 54 k54)).sz = 1 from rfl, List.getElem?_take, List.getElem?_drop, Nat.mul_one, Nat.add_zero] at e4; rw [← htake] at e4; simp only [List.getElem?_take, Array.getElem?_toList] at e4; rw [if_pos (by decide), if_pos (by show j < xs.length * 1; omega)] at e4; obtain ⟨A, c, rfl⟩ := Kd.R_slice r'; refine ⟨(A, xs[j].length, c), fun _ => ⟨e4, ?_, by simp [List.getD, hx]⟩⟩; rw [show xs.getD j [] = xs[j] by simp [List.getD, hx]]; exact Kd.R_mono r' (fun k hk => hk.2)
   ·
    exact ⟨zSl, fun h => absurd h hj⟩
  obtain ⟨vs, hvs⟩ := Classical.axiomOfChoice hk; exact ⟨g, cap, vs, f, rfl, hncap, hg, ⟨⟨cur, hheap, fun j hj => (hvs j hj).1⟩, fun j hj => (hvs j hj).2⟩⟩
/-- The rows up to the x-th have been gone through. -/
def df_rows (q : S54 → Bool) (rows : Nat → List S54) (x : Nat) : Nat → List S54 := fun j => if j < x then (rows j).filter fun y => !q y else rows j
/-- All blocks but those of terms stay. -/
def df_Kp (w w' : World) : Prop := ∀ (k : Nat) (cs : Array Value) (t : TypeId), w.heap[k]? = some (.cells cs t (0, 0)) → t ≠ 54 → w'.heap[k]? = some (.cells cs t (0, 0))
theorem df_Kp.trans {a b c : World} (h : df_Kp a b) (h' : df_Kp b c) : df_Kp a c := fun k cs t e ht => h' k cs t (h k cs t e ht) ht
theorem df_Kp.of_below {a b : World} (h : Below a.heap.size a b) : df_Kp a b := fun k cs t e ht => blk_below e h
theorem df_Kp.cell {a : World} {k : Nat} {cs cs' : Array Value} {t : TypeId} (h : a.heap[k]? = some (.cells cs t (0, 0))) : df_Kp a a := fun _ _ _ e _ => e
theorem df_ap_step {W W' : World} {b g n : Nat} {vs : Nat → Sl} {f : Nat → Nat} {rows : Nat → List S54} (q : S54 → Bool) (x : Nat) (hx : x < n) (v' : Sl) (h : df_Ap W b g n vs f (df_rows q rows x)) (ho : (encSl v').ownBlock = (encSl (vs x)).ownBlock) (hl : v'.2.1 = ((rows x).filter fun y => !q y).length)
  (h1 : k54.R 54 W' b (fun k => f k = x) (encSl v') ((rows x).filter fun y => !q y)) (hk : Kept W W' (fun k => some k = (encSl (vs x)).ownBlock)) :
  df_Ap (W'.setCell ⟨g, x, none⟩ (encSl v')) b g n (fun j => if j = x then v' else vs j) f (df_rows q rows (x + 1)) ∧ df_Kp W W' ∧ (∃ cur : Array Value, W'.heap[g]? = some (.cells cur 36 (0, 0)) ∧ ∀ j, j < n → cur[j]? = some (encSl (vs j))) := by
 obtain ⟨⟨cur, c1, c2⟩, c3⟩ := h; have hty := Kd.R_typed (c3 x hx).1
 have keep : df_Kp W W' := fun k cs t e ht => by
  refine (hk.2 k (blk_lt e) (fun hs => ?_)).trans e; obtain ⟨cells, hc⟩ := hty k hs.symm; rw [e] at hc
  injection hc with hc
  injection hc with _ hc
  exact ht hc
 have cg := keep g cur 36 c1 (by decide)
 have far : ∀ {w0 : World} {v : Value} {ys : List S54} {ok : Nat → Prop}, k54.R 54 W' b ok v ys → k54.R 54 (W'.setCell ⟨g, x, none⟩ (encSl v')) b ok v ys := fun {_ v ys ok} hr => by
  have := Kd.R_types hr cg (by intro q hq; simp only [show k54.E = [] from rfl, List.mem_singleton] at hq; subst hq; decide); exact Kd.R_mono (Kd.R_far (p := ⟨g, x, none⟩) this (fun k hk => hk.2) (encSl v')) (fun k hk => hk.1)
 refine ⟨⟨⟨_, blk_set cg x (encSl v'), fun j hj => ?_⟩, fun j hj => ?_⟩, keep, cur, cg, c2⟩
 ·
  have hs : x < cur.size := (Array.getElem?_eq_some_iff.1 (c2 x hx)).1
  by_cases hjx : j = x
  ·
   subst hjx; rw [Array.getElem?_setIfInBounds_self_of_lt hs]; simp
  ·
   rw [Array.getElem?_setIfInBounds_ne (by omega)]; have e9 : (fun j => if j = x then v' else vs j) j = vs j := if_neg hjx; rw [e9]; exact c2 j hj
 ·
  by_cases hjx : j = x
  ·
   subst hjx; have e : df_rows q rows (j + 1) j = (rows j).filter fun y => !q y := by unfold df_rows; rw [if_pos (by omega)]
   have e9 : (fun i => if i = j then v' else vs i) j = v' := if_pos rfl; rw [e, e9]; exact ⟨far (w0 := W) h1, hl⟩
  ·
   have e : df_rows q rows (x + 1) j = df_rows q rows x j := by
    unfold df_rows
    by_cases h1 : j < x
    ·
     rw [if_pos h1, if_pos (by omega)]
    ·
     rw [if_neg h1, if_neg (by omega)]
   have e9 : (fun i => if i = x then v' else vs i) j = vs j := if_neg hjx; rw [e, e9]; exact ⟨far (w0 := W) (Kd.R_mono (Kd.R_keptB (c3 j hj).1 hk (fun k hk hs => hjx (hk.symm.trans ((c3 x hx).1.1 k hs.symm)))) (fun k hk => hk.1)), (c3 j hj).2⟩
theorem df_sz (w : World) (o : Obj) : (w.alloc o).heap.size = w.heap.size + 1 := Array.size_push ..
/-- A step that writes into one block of terms and into the row of rows: what else stays. -/
theorem df_move {W W' : World} {b g x : Nat} {v0 : Value} (hk : Kept W W' (fun k => some k = v0.ownBlock)) (hty : ∀ k, v0.ownBlock = some k → b ≤ k ∧ ∃ cells, W.heap[k]? = some (.cells cells 54 (0, 0))) {cur : Array Value} (hg : W'.heap[g]? = some (.cells cur 36 (0, 0))) (u : Value)
  (k : Nat) (cs : Array Value) (t : TypeId) (h : W.heap[k]? = some (.cells cs t (0, 0))) (h36 : t ≠ 36) (h52 : t ≠ 54 ∨ k < b) : (W'.setCell ⟨g, x, none⟩ u).heap[k]? = W.heap[k]? := by
 have e1 : W'.heap[k]? = W.heap[k]? := by
  refine hk.2 k (blk_lt h) (fun hs => ?_); obtain ⟨hb, cells, hc⟩ := hty k hs.symm
  rcases h52 with h52 | h52
  ·
   rw [h] at hc
   injection hc with hc
   injection hc with _ hc
   exact h52 hc
  ·
   omega
 refine (Below.heap_setCell W' _ u k (fun hkg => ?_)).trans e1; subst hkg; rw [← e1, hg] at h
 injection h with h
 injection h with _ h
 exact h36 h.symm
theorem df_moveR {α : Type} {d : Kd α} {W W' : World} {e b : Nat} {ok : Nat → Prop} {v : Value} {xs : List α} (h : d.R e W b ok v xs) (hE : d.E = []) (he1 : e ≠ 36) (he2 : e ≠ 54)
  (hm : ∀ (k : Nat) (cs : Array Value) (t : TypeId), W.heap[k]? = some (.cells cs t (0, 0)) → t ≠ 36 → (t ≠ 54 ∨ k < b) → W'.heap[k]? = W.heap[k]?) : d.R e W' b ok v xs := by
 refine Kd.R_mono (Kd.R_move (Kd.R_bound h) (fun k hk => ?_)) (fun k hk => hk.1); obtain ⟨_, _, _, q, hq, cells, hc⟩ := hk; rw [hE, List.mem_singleton] at hq; subst hq; exact hm k cells _ hc he1 (.inl he2)
/-- The rows that are kept, as the answer's row of rows. -/
theorem df_res {wr w5 : World} {b' base g n : Nat} {vs : Nat → Sl} {f : Nat → Nat} {rows : Nat → List S54} {u0 : Value} {p : Sl → Bool} (hA : df_Ap wr base g n vs f rows) (hb : Below wr.heap.size wr w5) (hbb : b' ≤ base) (hbw : b' ≤ wr.heap.size)
  (hp : ∀ x, p x = decide (0 < x.2.1)) (hu : Kd.R kOpq 36 w5 wr.heap.size (fun _ => True) u0 (((List.range n).map vs).filter p)) :
  Kd.S (Kd.slice 54 k54) 36 w5 b' (fun _ => True) u0 (((List.range n).map rows).filter fun r => decide (0 < r.length)) := by
 have e1 : ((List.range n).map vs).filter p = ((List.range n).filter fun i => decide (0 < (vs i).2.1)).map vs := by
  rw [List.filter_map]
  congr 1
  exact List.filter_congr (fun i _ => hp _)
 have e2 : ((List.range n).map rows).filter (fun r => decide (0 < r.length)) = ((List.range n).filter fun i => decide (0 < (vs i).2.1)).map rows := by
  rw [List.filter_map]
  congr 1
  refine List.filter_congr (fun i hi => ?_); show decide (0 < (rows i).length) = _; rw [(hA.2 i (List.mem_range.1 hi)).2]
 have hub := Kd.R_base hu; rw [e1] at hu; rw [e2]; generalize hI : ((List.range n).filter fun i => decide (0 < (vs i).2.1)) = I at hu ⊢; have hnd : I.Nodup := by rw [← hI]; exact List.Pairwise.filter _ List.nodup_range
 have hIn : ∀ i ∈ I, i < n := fun i hi => by rw [← hI] at hi; exact List.mem_range.1 (List.mem_filter.1 hi).1
 obtain ⟨_, inner, hown, hreps⟩ := hu; have hlen : (I.map rows).zipIdx.length = (I.map vs).length := by simp
 refine ⟨fun k => I.idxOf (f k), fun _ _ => trivial, inner, by rw [hlen]; exact own_weaken hown hbw, by rw [hlen]; exact hreps.1, fun j r hj => ?_⟩; rw [List.getElem?_zipIdx, List.getElem?_map, Option.map_map] at hj; obtain ⟨i, hi, rfl⟩ := Option.map_eq_some_iff.1 hj; have hM := hreps.2 j (vs i) (by rw [List.getElem?_map, hi]; rfl); have hin := hIn i (List.mem_of_getElem? hi); refine ⟨encSl (vs i), hM, Kd.R_mono (Kd.R_lower (Kd.R_below (Kd.R_bound (hA.2 i hin).1) hb) hbb) (fun k hk => ⟨⟨trivial, fun he => ?_⟩, ?_⟩)⟩
 ·
  have := hub k he.symm
  omega
 ·
  obtain ⟨hjl, rfl⟩ := List.getElem?_eq_some_iff.1 hi; show I.idxOf (f k) = 0 + j; rw [hk.1, Nat.zero_add]; exact hnd.idxOf_getElem j hjl
theorem df_far3 {α : Type} {d : Kd α} {W : World} {e b g t : Nat} {v : Value} {xs : List α} {cells : Array Value} (h : d.R e W b (fun _ => True) v xs) (hg : W.heap[g]? = some (.cells cells t (0, 0))) (ht : ∀ q, q ∈ e :: d.E → q ≠ t) (u0 u1 u2 : Value) :
  d.R e (((W.setCell ⟨g, 0, none⟩ u0).setCell ⟨g, 1, none⟩ u1).setCell ⟨g, 2, none⟩ u2) b (fun _ => True) v xs :=
 Kd.R_mono (Kd.R_far (p := ⟨g, 2, none⟩) (Kd.R_far (p := ⟨g, 1, none⟩) (Kd.R_far (p := ⟨g, 0, none⟩) (Kd.R_types h hg ht) (fun _ hk => hk.2) u0) (fun _ hk => hk.2) u1) (fun _ hk => hk.2) u2) (fun _ _ => trivial)
theorem df_far3S {α : Type} {d : Kd α} {W : World} {e b g t : Nat} {v : Value} {xs : List α} {cells : Array Value} (h : Kd.S d e W b (fun _ => True) v xs) (hg : W.heap[g]? = some (.cells cells t (0, 0))) (ht : ∀ q, q ∈ e :: d.E → q ≠ t) (u0 u1 u2 : Value) :
  Kd.S d e (((W.setCell ⟨g, 0, none⟩ u0).setCell ⟨g, 1, none⟩ u1).setCell ⟨g, 2, none⟩ u2) b (fun _ => True) v xs := by
 obtain ⟨f, h⟩ := h; exact ⟨f, df_far3 h hg ht u0 u1 u2⟩
theorem df_drop (kc kp : Nat) (gq : Nat) (lbq : Array Value) (eg : ∀ args w, (callFunc gq args).run Tryd.prog w = .ok (.enter gq args) w) (q : S54 → Bool) (l : Int) (A0 A1 A2 : Option Addr) (c0 c1 c2 : Nat) (b : List (List S54)) (v : List S90) (m : List Bool) (rv : List S90) (rm : List Bool) (w : World)
  (hG0 : GL0 w) (hG1 : GL1 w) (hr0 : Kd.C (Kd.slice 54 k54) w A0 b.length b) (hc0 : b.length ≤ c0) (hr1 : Kd.C k90 w A1 v.length v) (hc1 : v.length ≤ c1) (hr2 : Kd.C Kd.bool w A2 m.length m) (hc2 : m.length ≤ c2)
  (hcl : impl_Seg_clone.f kc b v m = some (b, v, m)) (hpr : ∀ ls : List Sl, ls.map (fun x => x.2.1) = b.map (fun r => (r.filter fun y => !df_q ⟨0, 0⟩ ⟨l, 0⟩ q y).length) → impl_Seg_pruned.f kp ls v m = some (ls.filter fun x => decide (0 < x.2.1), rv, rm))
  (hb0 : 0 < b.length) (hbn : b.length ≤ 1000000) (hne : ∀ r ∈ b, 0 < r.length ∧ r.length ≤ 1000000)
  (hp : ∀ W, Below w.heap.size w W → ∀ x : S54, Calls Tryd.prog gq (#[.agg #[.int .i64 x.f0, .int .i64 x.f1]] ++ lbq) W fun e w' => e = .returned (.bool (q x)) ∧ Below W.heap.size W w') :
  Calls Tryd.prog 33 #[.agg #[.slice A0 b.length c0, .slice A1 v.length c1, .slice A2 m.length c2], .int .i64 l, .func (.func gq) #[] lbq] w fun e w' => ∃ u0 u1 u2 : Value, e = .returned (.agg #[u0, u1, u2]) ∧ Kd.S (Kd.slice 54 k54) 36 w' w.heap.size (fun _ => True) u0 ((b.map fun r => r.filter fun y => !df_q ⟨0, 0⟩ ⟨l, 0⟩ q y).filter fun r => decide (0 < r.length)) ∧ Kd.R k90 90 w' w.heap.size (fun _ => True) u1 rv ∧ Kd.R Kd.bool 4 w' w.heap.size (fun _ => True) u2 rm ∧ Below w.heap.size w w' := by
 have HP := am_ hp; have HPR := am_ hpr; have HCL := am_ hcl; have HG0 := am_ hG0; have HG1 := am_ hG1; have ab := am_ hr0; have ac := am_ hr1; have ae := am_ hr2; have HC := am_ (And.intro hc0 (And.intro hc1 hc2)); have HNE := am_ (And.intro hb0 (And.intro hbn hne)); clear hp hpr hcl hG0 hG1 hr0 hr1 hr2 hc0 hc1 hc2 hb0 hbn hne
 go_enter Tryd.func33, Tryd.ntmps33
 go_upto_region 1 with fail
 have HBA : Below w.heap.size w (((w.alloc (.cells #[.slice A0 b.length c0, .slice A1 v.length c1, .slice A2 m.length c2] 33 (0, 0))).alloc (.cells #[.func (.func gq) #[] lbq] 68 (0, 0))).alloc (.cells #[.slice none 0 0, .slice none 0 0, .slice none 0 0] 33 (0, 0))) := ((((Below.refl w.heap.size w).alloc (Nat.le_refl _) _).alloc (by rw [df_sz]; omega) _).alloc (by rw [df_sz, df_sz]; omega) _); have S0 := blk_alloc (blk_alloc (blk_new w (.cells #[.slice A0 b.length c0, .slice A1 v.length c1, .slice A2 m.length c2] 33 (0, 0))) (.cells #[.func (.func gq) #[] lbq] 68 (0, 0))) (.cells #[.slice none 0 0, .slice none 0 0, .slice none 0 0] 33 (0, 0)); have Z1 : (w.alloc (.cells #[.slice A0 b.length c0, .slice A1 v.length c1, .slice A2 m.length c2] 33 (0, 0))).heap.size = w.heap.size + 1 := df_sz _ _; have Z2 : ((w.alloc (.cells #[.slice A0 b.length c0, .slice A1 v.length c1, .slice A2 m.length c2] 33 (0, 0))).alloc (.cells #[.func (.func gq) #[] lbq] 68 (0, 0))).heap.size = w.heap.size + 1 + 1 := by rw [df_sz, df_sz]
 have G0 := blk_alloc (blk_new (w.alloc (.cells #[.slice A0 b.length c0, .slice A1 v.length c1, .slice A2 m.length c2] 33 (0, 0))) (.cells #[.func (.func gq) #[] lbq] 68 (0, 0))) (.cells #[.slice none 0 0, .slice none 0 0, .slice none 0 0] 33 (0, 0)); rw [Z1] at G0; have RC := blk_new ((w.alloc (.cells #[.slice A0 b.length c0, .slice A1 v.length c1, .slice A2 m.length c2] 33 (0, 0))).alloc (.cells #[.func (.func gq) #[] lbq] 68 (0, 0))) (.cells #[.slice none 0 0, .slice none 0 0, .slice none 0 0] 33 (0, 0)); rw [Z2] at RC; generalize hWA : (((w.alloc (.cells #[.slice A0 b.length c0, .slice A1 v.length c1, .slice A2 m.length c2] 33 (0, 0))).alloc (.cells #[.func (.func gq) #[] lbq] 68 (0, 0))).alloc (.cells #[.slice none 0 0, .slice none 0 0, .slice none 0 0] 33 (0, 0))) = wA at HBA S0 G0 RC ⊢; clear hWA Z1 Z2; have HBA := am_ HBA; have S0 := am_ S0; have G0 := am_ G0; have RC := am_ RC
 go_upto_region 2 with (go_at_call 70; refine (impl_ends.calls l 0 0 l 0 _ rfl).mono ?_; rintro e w1 ⟨rfl, hb1⟩)
 have F1 := blk_alloc (blk_new w1 (.cells #[.int .i64 0, .int .i64 0] 54 (0, 0))) (.cells #[.int .i64 l, .int .i64 0] 54 (0, 0)); have L1 := blk_new (w1.alloc (.cells #[.int .i64 0, .int .i64 0] 54 (0, 0))) (.cells #[.int .i64 l, .int .i64 0] 54 (0, 0)); have Z1 : (w1.alloc (.cells #[.int .i64 0, .int .i64 0] 54 (0, 0))).heap.size = w1.heap.size + 1 := df_sz _ _; rw [Z1] at L1; have hal : Below w1.heap.size w1 ((w1.alloc (.cells #[.int .i64 0, .int .i64 0] 54 (0, 0))).alloc (.cells #[.int .i64 l, .int .i64 0] 54 (0, 0))) := ((Below.refl w1.heap.size w1).alloc (Nat.le_refl _) _).alloc (by rw [Z1]; omega) _; have Z3 : ((w1.alloc (.cells #[.int .i64 0, .int .i64 0] 54 (0, 0))).alloc (.cells #[.int .i64 l, .int .i64 0] 54 (0, 0))).heap.size = w1.heap.size + 2 := by rw [df_sz, df_sz]
 have hsz : w.heap.size + 1 + 1 < w1.heap.size := Nat.lt_of_lt_of_le (blk_lt RC.out) hb1.size; have HB2 := am_ (below_step (below_step HBA.out hb1) hal); have S2 := blk_below (blk_below S0.out hb1) hal; have G2 := am_ (blk_below (blk_below G0.out hb1) hal); have R2 := am_ (blk_below (blk_below RC.out hb1) hal); generalize hWC : ((w1.alloc (.cells #[.int .i64 0, .int .i64 0] 54 (0, 0))).alloc (.cells #[.int .i64 l, .int .i64 0] 54 (0, 0))) = wC at *; have F2 := am_ F1; have L2 := am_ L1; have HZ := am_ (And.intro hsz Z3); have s0 := cc_ (v := .slice A0 b.length c0) S2 0; have s1 := cc_ (v := .slice A1 v.length c1) S2 1; have s2 := cc_ (v := .slice A2 m.length c2) S2 2; clear hWC Z1 hal hb1 S2 S0 G0 RC HBA F1 L1 Z3 hsz
 go_upto_region 3 with (go_at_call 77; refine (impl_Seg_clone.calls kc A0 c0 b A1 c1 v A2 c2 m b v m _ (Kd.C_below ab.out HB2.out) HC.out.1 (Kd.C_below ac.out HB2.out) HC.out.2.1 (Kd.C_below ae.out HB2.out) HC.out.2.2 HCL.out).mono ?_; rintro e w3 ⟨v0, v1, v2, rfl, hs0, hs1, hs2, hb3⟩; obtain ⟨gB, cap, vs, fb, rfl, hcap, hgB, hAp⟩ := df_ap_of hs0 HNE.out.1; obtain ⟨A1', c1', rfl⟩ := Kd.R_slice hs1; obtain ⟨A2', c2', rfl⟩ := Kd.R_slice hs2)
 have hal : Below w3.heap.size w3 (w3.alloc (.cells #[.slice (some ⟨gB, 0, none⟩) b.length cap, .slice A1' v.length c1', .slice A2' m.length c2'] 33 (0, 0))) := (Below.refl w3.heap.size w3).alloc (Nat.le_refl _) _; have O3 := blk_new w3 (.cells #[.slice (some ⟨gB, 0, none⟩) b.length cap, .slice A1' v.length c1', .slice A2' m.length c2'] 33 (0, 0)); have HB3 := am_ (below_step (below_step HB2.out hb3) hal); have G3 := am_ (blk_below (blk_below G2.out hb3) hal); have R3 := am_ (blk_below (blk_below R2.out hb3) hal); have F3 := am_ (blk_below (blk_below F2.out hb3) hal); have L3 := am_ (blk_below (blk_below L2.out hb3) hal); have HA3 := am_ (hAp.below hal); have V3 := am_ (Kd.R_below hs1 hal); have M3 := am_ (Kd.R_below hs2 hal); have hO : wC.heap.size ≤ w3.heap.size := hb3.size; have hbase : w1.heap.size + 2 ≤ wC.heap.size := Nat.le_of_eq HZ.out.2.symm; have hsz : w.heap.size + 1 + 1 < w1.heap.size := HZ.out.1; have o0 := (blk_cell O3 0).trans (show _ = some (Value.slice (some ⟨gB, 0, none⟩) b.length cap) from rfl); have o1 := cc_ (v := .slice A1' v.length c1') O3 1; have o2 := cc_ (v := .slice A2' m.length c2') O3 2; have O3 := am_ O3; generalize hWD : (w3.alloc (.cells #[.slice (some ⟨gB, 0, none⟩) b.length cap, .slice A1' v.length c1', .slice A2' m.length c2'] 33 (0, 0))) = wD at *; generalize w3.heap.size = gO at *; clear hWD hal hb3 HB2 G2 R2 F2 L2 hAp hs0 hs1 hs2 s0 s1 s2 HZ
 go_wp2
 go_loopg [22] b.length (fun gg s22 wr => ∃ (x : Nat) (vs' : Nat → Sl), x ≤ b.length ∧ b.length - x ≤ gg ∧ s22 = .int .i64 (x : Int) ∧ Aside0 (df_Ap wr wC.heap.size gB b.length vs' fb (df_rows (df_q ⟨0, 0⟩ ⟨l, 0⟩ q) (fun j => b.getD j []) x)) ∧ Aside0 (Below w.heap.size w wr) ∧ Aside0 (wr.heap[gO]? = some (.cells #[.slice (some ⟨gB, 0, none⟩) b.length cap, .slice A1' v.length c1', .slice A2' m.length c2'] 33 (0, 0))) ∧ Aside0 (wr.heap[w.heap.size + 1]? = some (.cells #[.func (.func gq) #[] lbq] 68 (0, 0))) ∧ Aside0 (wr.heap[w.heap.size + 1 + 1]? = some (.cells #[.slice none 0 0, .slice none 0 0, .slice none 0 0] 33 (0, 0))) ∧ Aside0 (wr.heap[w1.heap.size]? = some (.cells #[.int .i64 0, .int .i64 0] 54 (0, 0))) ∧ Aside0 (wr.heap[w1.heap.size + 1]? = some (.cells #[.int .i64 l, .int .i64 0] 54 (0, 0))) ∧ Aside0 (Kd.R k90 90 wr wC.heap.size (fun _ => True) (.slice A1' v.length c1') v) ∧ Aside0 (Kd.R Kd.bool 4 wr wC.heap.size (fun _ => True) (.slice A2' m.length c2') m))
 case atStart => exact ⟨0, vs, Nat.zero_le _, by omega, rfl, HA3, HB3, O3, G3, R3, F3, L3, V3, M3⟩
 case round =>
  clear HA3 HB3 O3 G3 R3 F3 L3 V3 M3 o0 o1 o2; obtain ⟨x, vs', hx, hgg, rfl, HA, HB, HO, HG, HRC, HF, HL, HV, HM⟩ := hrel; have o0 := (blk_cell HO.out 0).trans (show _ = some (Value.slice (some ⟨gB, 0, none⟩) b.length cap) from rfl)
  by_cases hlt : x < b.length
  ·
   have hxi : (x : Int) < (b.length : Int) := by omega
   have hx0 : (0 : Int) ≤ (x : Int) := by omega
   obtain ⟨⟨cur, hgc, hcv⟩, hrows⟩ := HA.out; have b0 : wr.cell? ⟨gB, x, none⟩ = some (.slice (vs' x).1 (vs' x).2.1 (vs' x).2.2) := by rw [blk_cell hgc, hcv x hlt]
   clear hgc hcv hrows
   go_upto_region 6 with fail
   have hdr : Below wr.heap.size wr wr.drew := below_drew (Below.refl _ _); have HAd := am_ (HA.out.below hdr); have HBd := am_ (below_step HB.out hdr); have HOd := am_ (blk_below HO.out hdr); have HGd := am_ (blk_below HG.out hdr); have HRd := am_ (blk_below HRC.out hdr); have HFd := am_ (blk_below HF.out hdr); have HLd := am_ (blk_below HL.out hdr); have HVd := am_ (Kd.R_below HV.out hdr); have HMd := am_ (Kd.R_below HM.out hdr); clear hdr HA HB HO HG HRC HF HL HV HM o0 b0; refine start_ (n := 8) (S := fun w' => w'.cell? ⟨gO, 0, none⟩ = some (.slice (some ⟨gB, 0, none⟩) b.length cap)) (ds := [7]) #[false, false, false, false, false, false, false, false] (by kernel_rfl) rfl rfl ((blk_cell HOd.out 0).trans rfl) (fun hHeld => ?_); generalize wr.drew = wd at HAd HBd HOd HGd HRd HFd HLd HVd HMd hHeld ⊢; refine pure_ (i := 0) (N := some 27) (v := ?_) (a' := ?_) #[true, false, false, false, false, false, false, false] rfl rfl (by kernel_rfl) (fun _ _ _ h => h) (Or.inl ⟨by rfl, ?_⟩) ?_ ?_; rotate_left
   ·
    intro w'; go_simp; with_reducible rfl
   rotate_left
   ·
    simp only [Act.put, List.setIfInBounds_toArray, List.set_cons_zero, List.set_cons_succ, i64_w, i32_w]; rfl
   refine take_ (i := 1) (N := some 28) (v := ?_) (a' := ?_) #[true, true, false, false, false, false, false, false] rfl rfl (by kernel_rfl) (fun _ _ _ h => h) (Or.inl ⟨by rfl, ?_⟩) hHeld ?_ ?_; rotate_left
   ·
    rintro w' s0; go_simp; with_reducible rfl
   rotate_left
   ·
    simp only [Act.put, List.setIfInBounds_toArray, List.set_cons_zero, List.set_cons_succ, i64_w, i32_w]; rfl
   refine pure_ (i := 2) (N := some 29) (v := ?_) (a' := ?_) #[true, true, true, false, false, false, false, false] rfl rfl (by kernel_rfl) (fun _ _ _ h => h) (Or.inl ⟨by rfl, ?_⟩) ?_ ?_; rotate_left
   ·
    intro w'; go_simp; with_reducible rfl
   rotate_left
   ·
    simp only [Act.put, List.setIfInBounds_toArray, List.set_cons_zero, List.set_cons_succ, i64_w, i32_w]; rfl
   refine pure_ (i := 3) (N := some 30) (v := ?_) (a' := ?_) #[true, true, true, true, false, false, false, false] rfl rfl (by kernel_rfl) (fun _ _ _ h => h) (Or.inl ⟨by rfl, ?_⟩) ?_ ?_; rotate_left
   ·
    intro w'; go_simp; with_reducible rfl
   rotate_left
   ·
    simp only [Act.put, List.setIfInBounds_toArray, List.set_cons_zero, List.set_cons_succ, i64_w, i32_w]; rfl
   refine pure_ (i := 4) (N := some 31) (v := ?_) (a' := ?_) #[true, true, true, true, true, false, false, false] rfl rfl (by kernel_rfl) (fun _ _ _ h => h) (Or.inl ⟨by rfl, ?_⟩) ?_ ?_; rotate_left
   ·
    intro w'; go_simp; with_reducible rfl
   rotate_left
   ·
    simp only [Act.put, List.setIfInBounds_toArray, List.set_cons_zero, List.set_cons_succ, i64_w, i32_w]; rfl
   refine one_ (i := 5) (N := some 32) #[true, true, true, true, true, true, false, false] rfl rfl (by kernel_rfl) (by decide) (fun K hK => ?_); refine goes_ Tryd.func78 (by kernel_rfl) rfl #[.slice (vs' x).1 (vs' x).2.1 (vs' x).2.2, .func (.func 79) #[] #[.pointer (some ⟨w1.heap.size, 0, none⟩), .pointer (some ⟨w1.heap.size + 1, 0, none⟩), .pointer (some ⟨w.heap.size + 1, 0, none⟩)]] (by rfl) rfl rfl (by (try simp only [List.map_toArray, List.map_cons, List.map_nil]); first | done | rfl) ?_; have hxr := (HAd.out.2 x hlt).1; have er : df_rows (df_q ⟨0, 0⟩ ⟨l, 0⟩ q) (fun j => b.getD j []) x x = b.getD x [] := by unfold df_rows; rw [if_neg (Nat.lt_irrefl x)]
   rw [er] at hxr
   have hbx : b.getD x [] ∈ b := by
    rw [show b.getD x [] = b[x] by simp [List.getD, List.getElem?_eq_getElem hlt]]; exact List.getElem_mem hlt
   have hsx : w.heap.size ≤ wC.heap.size := by omega
   refine (df_del 79 #[.pointer (some ⟨w1.heap.size, 0, none⟩), .pointer (some ⟨w1.heap.size + 1, 0, none⟩), .pointer (some ⟨w.heap.size + 1, 0, none⟩)] (enters_of Tryd.func79 (by kernel_rfl) rfl) (df_q ⟨0, 0⟩ ⟨l, 0⟩ q) hxr (HNE.out.2.2 _ hbx).1 (HNE.out.2.2 _ hbx).2 (fun W hW y => ?_)).mono ?_
   ·
    have e1 : W.heap[w1.heap.size]? = some (.cells #[.int .i64 0, .int .i64 0] 54 (0, 0)) := (hW.block _ (by omega)).trans HFd.out; have e2 : W.heap[w1.heap.size + 1]? = some (.cells #[.int .i64 l, .int .i64 0] 54 (0, 0)) := (hW.block _ (by omega)).trans HLd.out; have e3 : W.heap[w.heap.size + 1]? = some (.cells #[.func (.func gq) #[] lbq] 68 (0, 0)) := (hW.block _ (by omega)).trans HGd.out; exact df_lit gq lbq eg q ⟨0, 0⟩ ⟨l, 0⟩ y _ _ _ W e1 e2 e3 (fun W' hW' => HP.out W' (below_step (HBd.out.trans (hW.mono hsx)) hW') y)
   obtain ⟨FL, hFL⟩ : ∃ n_ : Nat, n_ = ((b.getD x []).filter fun y => !df_q ⟨0, 0⟩ ⟨l, 0⟩ q y).length := ⟨_, rfl⟩; rw [← hFL]; rintro e w4 ⟨v', rfl, hown, ⟨A', c', rfl⟩, hR', hKe, hB4⟩; have hty : ∀ k, (encSl (vs' x)).ownBlock = some k → wC.heap.size ≤ k ∧ ∃ cells, wd.heap[k]? = some (.cells cells 54 (0, 0)) := fun k hk => ⟨Kd.R_base hxr k hk, Kd.R_typed hxr k hk⟩; obtain ⟨qA, qK, cur4, qg, qc⟩ := df_ap_step (df_q ⟨0, 0⟩ ⟨l, 0⟩ q) x hlt (A', FL, c') HAd.out hown hFL hR' hKe; have hmv := df_move (x := x) hKe hty qg (encSl (A', FL, c')); have af := am_ ((hmv _ _ _ HOd.out (by decide) (.inl (by decide))).trans HOd.out); have HG5 := am_ ((hmv _ _ _ HGd.out (by decide) (.inl (by decide))).trans HGd.out); have ag := am_ ((hmv _ _ _ HRd.out (by decide) (.inl (by decide))).trans HRd.out); have HF5 := am_ ((hmv _ _ _ HFd.out (by decide) (.inr (by omega))).trans HFd.out); have HL5 := am_ ((hmv _ _ _ HLd.out (by decide) (.inr (by omega))).trans HLd.out); have HV5 := am_ (df_moveR HVd.out rfl (by decide) (by decide) hmv); have HM5 := am_ (df_moveR HMd.out rfl (by decide) (by decide) hmv); have HA5 := am_ qA; have hgB2 : w.heap.size ≤ gB := by omega
   have HB5 := am_ ((HBd.out.trans (hB4.mono hsx)).setCell (p := ⟨gB, x, none⟩) hgB2 (encSl (A', FL, c'))); have o4 : w4.cell? ⟨gO, 0, none⟩ = some (.slice (some ⟨gB, 0, none⟩) b.length cap) := (blk_cell (qK _ _ _ HOd.out (by decide)) 0).trans rfl; have b4 : w4.cell? ⟨gB, x, none⟩ = some (.slice (vs' x).1 (vs' x).2.1 (vs' x).2.2) := by rw [blk_cell qg, qc x hlt]
   have f4 := blk_frozen qg x; clear hFL hR' hKe hB4 hty qA qK qg qc hmv hxr er hbx hown HAd HBd HOd HGd HRd HFd HLd HVd HMd; refine ⟨_, rfl, ?_⟩; refine hK.out _ _ o4 (fun hHeld => ?_); clear hK K; refine norm_y 32 (h := ?_)
   refine pure_ (i := 6) (N := some 33) (v := ?_) (a' := ?_) #[true, true, true, true, true, true, true, false] rfl rfl (by kernel_rfl) (fun _ _ _ h => h) (Or.inl ⟨by rfl, ?_⟩) ?_ ?_; rotate_left
   ·
    intro w'; go_simp; with_reducible rfl
   rotate_left
   ·
    simp only [Act.put, List.setIfInBounds_toArray, List.set_cons_zero, List.set_cons_succ, i64_w, i32_w]; rfl
   refine last_ (i := 7) (N := none) #[true, true, true, true, true, true, true, true] rfl rfl (by kernel_rfl) (by decide) (fun K hK => ?_); refine skip_ (w1 := ?_) (by rfl) rfl ?_ ?_; rotate_left
   ·
    go_simp; rfl
   refine hK.out _ _ ?_; clear hK K; refine done_ (by kernel_rfl) ?_
   go_wp2
   go_roundg (b.length - (x + 1))
   case measure => omega
   case rel => exact ⟨x + 1, _, by omega, by omega, by first | rfl | (rw [df_wS x (by have := HNE.out.2.1; omega)]), HA5, HB5, af, HG5, ag, HF5, HL5, HV5, HM5⟩
  ·
   obtain rfl : x = b.length := by omega
   have hbl : b.length ≤ 9223372036854775807 := by have := HNE.out.2.1; omega
   have hre : ∀ j, j < b.length → df_rows (df_q ⟨0, 0⟩ ⟨l, 0⟩ q) (fun j => b.getD j []) b.length j = (b.getD j []).filter fun y => !df_q ⟨0, 0⟩ ⟨l, 0⟩ q y := fun j hj => by unfold df_rows; rw [if_pos hj]
   obtain ⟨ls, hls⟩ : ∃ ls : List Sl, ls = (List.range b.length).map vs' := ⟨_, rfl⟩; have hlsl : ls.length = b.length := by rw [hls]; simp
   have hlm : ls.map (fun x => x.2.1) = b.map (fun r => (r.filter fun y => !df_q ⟨0, 0⟩ ⟨l, 0⟩ q y).length) := by
    apply List.ext_getElem
    ·
     simp [hlsl]
    ·
     intro i h1 h2; have hi : i < b.length := by simpa using h2
     simp only [List.getElem_map, hls, List.getElem_range]; rw [(HA.out.2 i hi).2, hre i hi]
     simp [List.getD, List.getElem?_eq_getElem hi]
   have hCk : Kd.C kOpq wr (some ⟨gB, 0, none⟩) b.length ls := by
    obtain ⟨⟨cur, hgc, hcv⟩, _⟩ := HA.out; refine ⟨hlsl, hbl, fun _ => ⟨_, rfl, fun j p hj => ?_⟩⟩; have hjl : j < b.length := by rw [← hlsl]; exact (List.getElem?_eq_some_iff.1 hj).1
    have e : p = vs' j := by
     rw [hls, List.getElem?_map, List.getElem?_range hjl] at hj; exact (Option.some.inj hj).symm
    subst e; refine ⟨[encSl (vs' j)], rfl, rfl, fun i u hu => ?_⟩; cases i with
    | succ i => simp at hu
    | zero =>
     obtain rfl := Option.some.inj hu; have : (Addr.add ⟨gB, 0, none⟩ (j * kOpq.sz + 0)) = ⟨gB, j, none⟩ := by rw [Addr.add_lit]; show (⟨gB, 0 + (j * 1 + 0), none⟩ : Addr) = _; congr 1; omega
     rw [this, blk_cell hgc, hcv j hjl]
   have hP := impl_Seg_pruned.calls kp (some ⟨gB, 0, none⟩) cap ls A1' c1' v A2' c2' m (ls.filter fun x => decide (0 < x.2.1)) rv rm wr (GL0.below HG0.out HB.out) (GL1.below HG1.out HB.out) (hlsl.symm ▸ hCk) (by omega) (Kd.R_reads' HV.out).2.2 (Kd.R_reads' HV.out).2.1 (Kd.R_reads' HM.out).2.2 (Kd.R_reads' HM.out).2.1 (HPR.out ls hlm); rw [hlsl] at hP; have HP2 := am_ hP; have HLS := am_ (And.intro hls hre); have o1 := cc_ (v := .slice A1' v.length c1') HO.out 1; have o2 := cc_ (v := .slice A2' m.length c2') HO.out 2; have hnR : w.heap.size + 1 + 1 ≠ gO := by omega
   clear hP hls hre hlsl hlm hCk hlt HG HF HL HV HM ab ac ae HC HPR HP HCL HG0 HG1
   go_upto_region 8 with fail
   go_wp2_with (go_at_call 80; refine HP2.out.mono ?_; rintro e w5 ⟨u0, u1, u2, rfl, hu0, hu1, hu2, hb5⟩; obtain ⟨B0, d0, rfl⟩ := Kd.R_slice hu0; obtain ⟨B1, d1, rfl⟩ := Kd.R_slice hu1; obtain ⟨B2, d2, rfl⟩ := Kd.R_slice hu2; have R5 := blk_below HRC.out hb5; have r0 := cc_ (v := .slice none 0 0) R5 0; have r1 := cc_ (v := .slice none 0 0) R5 1; have r2 := cc_ (v := .slice none 0 0) R5 2; have q0 := blk_frozen R5 0; have q1 := blk_frozen R5 1; have q2 := blk_frozen R5 2; have HU0 := am_ hu0; have HU1 := am_ hu1; have HU2 := am_ hu2; have HB5 := am_ hb5; have R5 := am_ R5; clear hu0 hu1 hu2 hb5)
   have k1 := blk_set (blk_set (blk_set R5.out 0 (.slice B0 (ls.filter fun x : Sl => decide (0 < x.2.1)).length d0)) 1 (.slice B1 rv.length d1)) 2 (.slice B2 rm.length d2); refine bodyPost_ret (results_cell_row rfl _ _ (w.heap.size + 1 + 1) 33 #[.slice B0 (ls.filter fun x : Sl => decide (0 < x.2.1)).length d0, .slice B1 rv.length d1, .slice B2 rm.length d2] (0, 0) _ rfl k1 Tryd.underlying33 rfl (by kernel_rfl)) rfl ?_; have hww : w.heap.size ≤ wr.heap.size := HB.out.size; have hu := HU0.out; have hls := HLS.out.1; subst hls; have hres := df_res (b' := w.heap.size) (p := fun x => decide (0 < x.2.1)) HA.out HB5.out (by omega) hww (fun _ => rfl) hu
   have hrows : (List.range b.length).map (df_rows (df_q ⟨0, 0⟩ ⟨l, 0⟩ q) (fun j => b.getD j []) b.length) = b.map fun r => r.filter fun y => !df_q ⟨0, 0⟩ ⟨l, 0⟩ q y := by
    apply List.ext_getElem
    ·
     simp
    ·
     intro i h1 h2; have hi : i < b.length := by simpa using h2
     simp only [List.getElem_map, List.getElem_range]; rw [HLS.out.2 i hi]
     simp [List.getD, List.getElem?_eq_getElem hi]
   rw [hrows] at hres; exact ⟨_, _, _, rfl, df_far3S hres R5.out (by decide) _ _ _, df_far3 (Kd.R_lower HU1.out hww) R5.out (by decide) _ _ _, df_far3 (Kd.R_lower HU2.out hww) R5.out (by decide) _ _ _, (((HB.out.trans (HB5.out.mono hww)).setCell (p := ⟨w.heap.size + 1 + 1, 0, none⟩) (by show w.heap.size ≤ w.heap.size + 1 + 1; omega) _).setCell (p := ⟨w.heap.size + 1 + 1, 1, none⟩) (by show w.heap.size ≤ w.heap.size + 1 + 1; omega) _).setCell (p := ⟨w.heap.size + 1 + 1, 2, none⟩) (by show w.heap.size ≤ w.heap.size + 1 + 1; omega) _⟩
/-- What SegDrop asks of its parts (all of them told with k rounds). -/
def impl_SegDrop.C (k : Nat) (a1 : Int) (b : List (List S54)) (v : List S90) (m : List Bool) (ts : List S54) (q : S54 → Bool) (rv : List S90) (rm : List Bool) : Prop :=
 (∀ x : S54, impl_Sym_35.f k ts x.f0 x.f1 = some (q x)) ∧ impl_Seg_clone.f k b v m = some (b, v, m) ∧
 (∀ ls : List Sl, ls.map (fun x => x.2.1) = b.map (fun r => (r.filter fun y => !df_q ⟨0, 0⟩ ⟨a1, 0⟩ q y).length) → impl_Seg_pruned.f k ls v m = some (ls.filter fun x => decide (0 < x.2.1), rv, rm)) ∧
 0 < b.length ∧ b.length ≤ 1000000 ∧ ∀ r ∈ b, 0 < r.length ∧ r.length ≤ 1000000
theorem impl_SegDrop.bad (k : Nat) (r : Bool) (a0 a1 : Int) (A0 A1 A2 A3 : Option Addr) (c0 c1 c2 c3 : Nat) (b : List (List S54)) (v : List S90) (m : List Bool) (ts : List S54) (w : World)
  (hG0 : GL0 w) (hr0 : Kd.C (Kd.slice 54 k54) w A0 b.length b) (hc0 : b.length ≤ c0) (hr1 : Kd.C k90 w A1 v.length v) (hc1 : v.length ≤ c1) (hr2 : Kd.C Kd.bool w A2 m.length m) (hc2 : m.length ≤ c2)
  (hok : impl_SegOk.f k a0 a1 b v m = some r) (hbad : r = false ∨ 40 < ts.length) :
  Calls Tryd.prog 10 #[.int .i64 a0, .int .i64 a1, .agg #[.slice A0 b.length c0, .slice A1 v.length c1, .slice A2 m.length c2], .slice A3 ts.length c3] w fun e w' => e = .returned (.agg #[.slice none 0 0, .slice none 0 0, .slice none 0 0]) ∧ Below w.heap.size w w' := by
 have Z1 : (w.alloc (.cells #[.slice A0 b.length c0, .slice A1 v.length c1, .slice A2 m.length c2] 33 (0, 0))).heap.size = w.heap.size + 1 := df_sz _ _; have Z2 : ((w.alloc (.cells #[.slice A0 b.length c0, .slice A1 v.length c1, .slice A2 m.length c2] 33 (0, 0))).alloc (.cells #[.slice A3 ts.length c3] 36 (0, 0))).heap.size = w.heap.size + 1 + 1 := by rw [df_sz, df_sz]
 have HBA : Below w.heap.size w (((w.alloc (.cells #[.slice A0 b.length c0, .slice A1 v.length c1, .slice A2 m.length c2] 33 (0, 0))).alloc (.cells #[.slice A3 ts.length c3] 36 (0, 0))).alloc (.cells #[.slice none 0 0, .slice none 0 0, .slice none 0 0] 33 (0, 0))) := ((((Below.refl w.heap.size w).alloc (Nat.le_refl _) _).alloc (by rw [df_sz]; omega) _).alloc (by rw [df_sz, df_sz]; omega) _); have S0 := blk_alloc (blk_alloc (blk_new w (.cells #[.slice A0 b.length c0, .slice A1 v.length c1, .slice A2 m.length c2] 33 (0, 0))) (.cells #[.slice A3 ts.length c3] 36 (0, 0))) (.cells #[.slice none 0 0, .slice none 0 0, .slice none 0 0] 33 (0, 0)); have T0 := blk_alloc (blk_new (w.alloc (.cells #[.slice A0 b.length c0, .slice A1 v.length c1, .slice A2 m.length c2] 33 (0, 0))) (.cells #[.slice A3 ts.length c3] 36 (0, 0))) (.cells #[.slice none 0 0, .slice none 0 0, .slice none 0 0] 33 (0, 0)); rw [Z1] at T0; have RC := blk_new ((w.alloc (.cells #[.slice A0 b.length c0, .slice A1 v.length c1, .slice A2 m.length c2] 33 (0, 0))).alloc (.cells #[.slice A3 ts.length c3] 36 (0, 0))) (.cells #[.slice none 0 0, .slice none 0 0, .slice none 0 0] 33 (0, 0)); rw [Z2] at RC; have HR := am_ (And.intro hr0 (And.intro hr1 (And.intro hr2 (And.intro hc0 (And.intro hc1 (And.intro hc2 (And.intro hok hG0))))))); clear hr0 hr1 hr2 hc0 hc1 hc2 hok hG0
 go_enter Tryd.func10, Tryd.ntmps10
 go_upto_region 1 with fail
 generalize hWA : (((w.alloc (.cells #[.slice A0 b.length c0, .slice A1 v.length c1, .slice A2 m.length c2] 33 (0, 0))).alloc (.cells #[.slice A3 ts.length c3] 36 (0, 0))).alloc (.cells #[.slice none 0 0, .slice none 0 0, .slice none 0 0] 33 (0, 0))) = wA at HBA S0 T0 RC ⊢; clear hWA Z1 Z2; have HBA := am_ HBA; have T0' := am_ T0; have RC' := am_ RC; have s0 := cc_ (v := .slice A0 b.length c0) S0 0; have s1 := cc_ (v := .slice A1 v.length c1) S0 1; have s2 := cc_ (v := .slice A2 m.length c2) S0 2; clear S0 T0 RC; cases r with
 | false =>
  clear hbad
  go_upto_region 2 with (go_at_call 24; refine (impl_SegOk.calls k a0 a1 A0 c0 b A1 c1 v A2 c2 m false _ (GL0.below HR.out.2.2.2.2.2.2.2 HBA.out) (Kd.C_below HR.out.1 HBA.out) HR.out.2.2.2.1 (Kd.C_below HR.out.2.1 HBA.out) HR.out.2.2.2.2.1 (Kd.C_below HR.out.2.2.1 HBA.out) HR.out.2.2.2.2.2.1 HR.out.2.2.2.2.2.2.1).mono ?_; rintro e w1 ⟨rfl, hb1⟩)
  have R5 := blk_below RC'.out hb1; have HB5 := am_ (below_step HBA.out hb1); have r0 := cc_ (v := .slice none 0 0) R5 0; have r1 := cc_ (v := .slice none 0 0) R5 1; have r2 := cc_ (v := .slice none 0 0) R5 2; have q0 := blk_frozen R5 0; have q1 := blk_frozen R5 1; have q2 := blk_frozen R5 2; have R5 := am_ R5; clear hb1 s0 s1 s2
  go_wp2
  have k1 := blk_set (blk_set (blk_set R5.out 0 (.slice none 0 0)) 1 (.slice none 0 0)) 2 (.slice none 0 0); refine bodyPost_ret (results_cell_row rfl _ _ (w.heap.size + 1 + 1) 33 #[.slice none 0 0, .slice none 0 0, .slice none 0 0] (0, 0) _ rfl k1 Tryd.underlying33 rfl (by kernel_rfl)) rfl ?_; exact ⟨rfl, ((HB5.out.setCell (p := ⟨w.heap.size + 1 + 1, 0, none⟩) (by show w.heap.size ≤ w.heap.size + 1 + 1; omega) _).setCell (p := ⟨w.heap.size + 1 + 1, 1, none⟩) (by show w.heap.size ≤ w.heap.size + 1 + 1; omega) _).setCell (p := ⟨w.heap.size + 1 + 1, 2, none⟩) (by show w.heap.size ≤ w.heap.size + 1 + 1; omega) _⟩
 | true =>
  have hlt : (40 : Int) < (ts.length : Int) := hbad.elim (fun h => nomatch h) (fun h => by omega); have hlt2 : 40 < ts.length := by omega
  clear hbad
  go_upto_region 2 with (go_at_call 24; refine (impl_SegOk.calls k a0 a1 A0 c0 b A1 c1 v A2 c2 m true _ (GL0.below HR.out.2.2.2.2.2.2.2 HBA.out) (Kd.C_below HR.out.1 HBA.out) HR.out.2.2.2.1 (Kd.C_below HR.out.2.1 HBA.out) HR.out.2.2.2.2.1 (Kd.C_below HR.out.2.2.1 HBA.out) HR.out.2.2.2.2.2.1 HR.out.2.2.2.2.2.2.1).mono ?_; rintro e w1 ⟨rfl, hb1⟩; have t0 := cc_ (v := .slice A3 ts.length c3) (blk_below T0'.out hb1) 0)
  have R5 := blk_below RC'.out hb1; have HB5 := am_ (below_step HBA.out hb1); have r0 := cc_ (v := .slice none 0 0) R5 0; have r1 := cc_ (v := .slice none 0 0) R5 1; have r2 := cc_ (v := .slice none 0 0) R5 2; have q0 := blk_frozen R5 0; have q1 := blk_frozen R5 1; have q2 := blk_frozen R5 2; have R5 := am_ R5; clear hb1 s0 s1 s2 t0
  go_wp2
  have k1 := blk_set (blk_set (blk_set R5.out 0 (.slice none 0 0)) 1 (.slice none 0 0)) 2 (.slice none 0 0); refine bodyPost_ret (results_cell_row rfl _ _ (w.heap.size + 1 + 1) 33 #[.slice none 0 0, .slice none 0 0, .slice none 0 0] (0, 0) _ rfl k1 Tryd.underlying33 rfl (by kernel_rfl)) rfl ?_; exact ⟨rfl, ((HB5.out.setCell (p := ⟨w.heap.size + 1 + 1, 0, none⟩) (by show w.heap.size ≤ w.heap.size + 1 + 1; omega) _).setCell (p := ⟨w.heap.size + 1 + 1, 1, none⟩) (by show w.heap.size ≤ w.heap.size + 1 + 1; omega) _).setCell (p := ⟨w.heap.size + 1 + 1, 2, none⟩) (by show w.heap.size ≤ w.heap.size + 1 + 1; omega) _⟩
theorem impl_SegDrop.good (k : Nat) (q : S54 → Bool) (rv : List S90) (rm : List Bool) (a0 a1 : Int) (A0 A1 A2 A3 : Option Addr) (c0 c1 c2 c3 : Nat) (b : List (List S54)) (v : List S90) (m : List Bool) (ts : List S54) (w : World)
  (hG0 : GL0 w) (hG1 : GL1 w) (hr0 : Kd.C (Kd.slice 54 k54) w A0 b.length b) (hc0 : b.length ≤ c0) (hr1 : Kd.C k90 w A1 v.length v) (hc1 : v.length ≤ c1) (hr2 : Kd.C Kd.bool w A2 m.length m) (hc2 : m.length ≤ c2) (hr3 : Kd.C k54 w A3 ts.length ts) (hc3 : ts.length ≤ c3)
  (hok : impl_SegOk.f k a0 a1 b v m = some true) (hts : ts.length ≤ 40) (hC : impl_SegDrop.C k a1 b v m ts q rv rm) :
  Calls Tryd.prog 10 #[.int .i64 a0, .int .i64 a1, .agg #[.slice A0 b.length c0, .slice A1 v.length c1, .slice A2 m.length c2], .slice A3 ts.length c3] w fun e w' => ∃ u0 u1 u2 : Value, e = .returned (.agg #[u0, u1, u2]) ∧ Kd.S (Kd.slice 54 k54) 36 w' w.heap.size (fun _ => True) u0 ((b.map fun r => r.filter fun y => !df_q ⟨0, 0⟩ ⟨a1, 0⟩ q y).filter fun r => decide (0 < r.length)) ∧ Kd.R k90 90 w' w.heap.size (fun _ => True) u1 rv ∧ Kd.R Kd.bool 4 w' w.heap.size (fun _ => True) u2 rm ∧ Below w.heap.size w w' := by
 have Z1 : (w.alloc (.cells #[.slice A0 b.length c0, .slice A1 v.length c1, .slice A2 m.length c2] 33 (0, 0))).heap.size = w.heap.size + 1 := df_sz _ _; have Z2 : ((w.alloc (.cells #[.slice A0 b.length c0, .slice A1 v.length c1, .slice A2 m.length c2] 33 (0, 0))).alloc (.cells #[.slice A3 ts.length c3] 36 (0, 0))).heap.size = w.heap.size + 1 + 1 := by rw [df_sz, df_sz]
 have HBA : Below w.heap.size w (((w.alloc (.cells #[.slice A0 b.length c0, .slice A1 v.length c1, .slice A2 m.length c2] 33 (0, 0))).alloc (.cells #[.slice A3 ts.length c3] 36 (0, 0))).alloc (.cells #[.slice none 0 0, .slice none 0 0, .slice none 0 0] 33 (0, 0))) := ((((Below.refl w.heap.size w).alloc (Nat.le_refl _) _).alloc (by rw [df_sz]; omega) _).alloc (by rw [df_sz, df_sz]; omega) _); have S0 := blk_alloc (blk_alloc (blk_new w (.cells #[.slice A0 b.length c0, .slice A1 v.length c1, .slice A2 m.length c2] 33 (0, 0))) (.cells #[.slice A3 ts.length c3] 36 (0, 0))) (.cells #[.slice none 0 0, .slice none 0 0, .slice none 0 0] 33 (0, 0)); have T0 := blk_alloc (blk_new (w.alloc (.cells #[.slice A0 b.length c0, .slice A1 v.length c1, .slice A2 m.length c2] 33 (0, 0))) (.cells #[.slice A3 ts.length c3] 36 (0, 0))) (.cells #[.slice none 0 0, .slice none 0 0, .slice none 0 0] 33 (0, 0)); rw [Z1] at T0; have RC := blk_new ((w.alloc (.cells #[.slice A0 b.length c0, .slice A1 v.length c1, .slice A2 m.length c2] 33 (0, 0))).alloc (.cells #[.slice A3 ts.length c3] 36 (0, 0))) (.cells #[.slice none 0 0, .slice none 0 0, .slice none 0 0] 33 (0, 0)); rw [Z2] at RC; have HR := am_ (And.intro hr0 (And.intro hr1 (And.intro hr2 (And.intro hc0 (And.intro hc1 (And.intro hc2 (And.intro hok hG0))))))); have aa := am_ (And.intro hr3 (And.intro hc3 (And.intro hG1 hC))); have hlt : ¬ (40 : Int) < (ts.length : Int) := by omega
 have hlt2 : ¬ 40 < ts.length := by omega
 clear hr0 hr1 hr2 hc0 hc1 hc2 hok hG0 hr3 hc3 hG1 hC hts
 go_enter Tryd.func10, Tryd.ntmps10
 go_upto_region 1 with fail
 generalize hWA : (((w.alloc (.cells #[.slice A0 b.length c0, .slice A1 v.length c1, .slice A2 m.length c2] 33 (0, 0))).alloc (.cells #[.slice A3 ts.length c3] 36 (0, 0))).alloc (.cells #[.slice none 0 0, .slice none 0 0, .slice none 0 0] 33 (0, 0))) = wA at HBA S0 T0 RC ⊢; clear hWA Z1 Z2; have HBA := am_ HBA; have S0' := am_ S0; have T0' := am_ T0; have RC' := am_ RC; have s0 := cc_ (v := .slice A0 b.length c0) S0 0; have s1 := cc_ (v := .slice A1 v.length c1) S0 1; have s2 := cc_ (v := .slice A2 m.length c2) S0 2; clear S0 T0 RC
 go_upto_region 3 with (go_at_call 24; refine (impl_SegOk.calls k a0 a1 A0 c0 b A1 c1 v A2 c2 m true _ (GL0.below HR.out.2.2.2.2.2.2.2 HBA.out) (Kd.C_below HR.out.1 HBA.out) HR.out.2.2.2.1 (Kd.C_below HR.out.2.1 HBA.out) HR.out.2.2.2.2.1 (Kd.C_below HR.out.2.2.1 HBA.out) HR.out.2.2.2.2.2.1 HR.out.2.2.2.2.2.2.1).mono ?_; rintro e w1 ⟨rfl, hb1⟩; have t0 := cc_ (v := .slice A3 ts.length c3) (blk_below T0'.out hb1) 0)
 have HRC := am_ (blk_below RC'.out hb1); have HT := am_ (blk_below T0'.out hb1); have HB := am_ (below_step HBA.out hb1); have S1 := blk_below S0'.out hb1; have s0 := cc_ (v := .slice A0 b.length c0) S1 0; have s1 := cc_ (v := .slice A1 v.length c1) S1 1; have s2 := cc_ (v := .slice A2 m.length c2) S1 2; have hlt1 : w.heap.size + 1 < w1.heap.size := by have := blk_lt HT.out; omega
 have hD := df_drop k k 34 #[.pointer (some ⟨w.heap.size + 1, 0, none⟩)] (enters_of Tryd.func34 (by kernel_rfl) rfl) q a1 A0 A1 A2 c0 c1 c2 b v m rv rm w1 (GL0.below HR.out.2.2.2.2.2.2.2 HB.out) (GL1.below aa.out.2.2.1 HB.out) (Kd.C_below HR.out.1 HB.out) HR.out.2.2.2.1 (Kd.C_below HR.out.2.1 HB.out) HR.out.2.2.2.2.1 (Kd.C_below HR.out.2.2.1 HB.out) HR.out.2.2.2.2.2.1 aa.out.2.2.2.2.1 aa.out.2.2.2.2.2.1 aa.out.2.2.2.2.2.2.1 aa.out.2.2.2.2.2.2.2.1 aa.out.2.2.2.2.2.2.2.2
  (fun W hW x => df_gone k ts A3 c3 q aa.out.2.2.2.1 (w.heap.size + 1) W ((hW.block _ hlt1).trans HT.out) (Kd.C_below aa.out.1 (HB.out.trans (hW.mono HB.out.size))) aa.out.2.1 x)
 have HD := am_ hD; clear hD hb1 S1 t0 hlt1
 go_wp2_with (go_at_call 33; refine HD.out.mono ?_; rintro e w5 ⟨u0, u1, u2, rfl, hu0, hu1, hu2, hb5⟩; obtain ⟨B0, d0, rfl⟩ := Kd.R_slice (Kd.S_R hu0); obtain ⟨B1, d1, rfl⟩ := Kd.R_slice hu1; obtain ⟨B2, d2, rfl⟩ := Kd.R_slice hu2; have R5 := blk_below HRC.out hb5; have r0 := cc_ (v := .slice none 0 0) R5 0; have r1 := cc_ (v := .slice none 0 0) R5 1; have r2 := cc_ (v := .slice none 0 0) R5 2; have q0 := blk_frozen R5 0; have q1 := blk_frozen R5 1; have q2 := blk_frozen R5 2; have HU0 := am_ hu0; have HU1 := am_ hu1; have HU2 := am_ hu2; have HB5 := am_ hb5; have R5 := am_ R5; clear hu0 hu1 hu2 hb5)
 generalize hX : ((b.map fun r => r.filter fun y => !df_q ⟨0, 0⟩ ⟨a1, 0⟩ q y).filter fun r => decide (0 < r.length)) = X at *; have k1 := blk_set (blk_set (blk_set R5.out 0 (.slice B0 X.length d0)) 1 (.slice B1 rv.length d1)) 2 (.slice B2 rm.length d2); refine bodyPost_ret (results_cell_row rfl _ _ (w.heap.size + 1 + 1) 33 #[.slice B0 X.length d0, .slice B1 rv.length d1, .slice B2 rm.length d2] (0, 0) _ rfl k1 Tryd.underlying33 rfl (by kernel_rfl)) rfl ?_; have hww : w.heap.size ≤ w1.heap.size := HB.out.size; exact ⟨_, _, _, rfl, df_far3S (Kd.S_lower HU0.out hww) R5.out (by decide) _ _ _, df_far3 (Kd.R_lower HU1.out hww) R5.out (by decide) _ _ _, df_far3 (Kd.R_lower HU2.out hww) R5.out (by decide) _ _ _, (((HB.out.trans (HB5.out.mono hww)).setCell (p := ⟨w.heap.size + 1 + 1, 0, none⟩) (by show w.heap.size ≤ w.heap.size + 1 + 1; omega) _).setCell (p := ⟨w.heap.size + 1 + 1, 1, none⟩) (by show w.heap.size ≤ w.heap.size + 1 + 1; omega) _).setCell (p := ⟨w.heap.size + 1 + 1, 2, none⟩) (by show w.heap.size ≤ w.heap.size + 1 + 1; omega) _⟩
/-- What is left of the rows. -/
def impl_SegDrop.keep (a1 : Int) (b : List (List S54)) (q : S54 → Bool) : List (List S54) := (b.map fun r => r.filter fun y => !df_q ⟨0, 0⟩ ⟨a1, 0⟩ q y).filter fun r => decide (0 < r.length)
/-- SegDrop as a Lean function, as far as its parts answer with k rounds. -/
noncomputable def impl_SegDrop.f (k : Nat) (a0 a1 : Int) (b : List (List S54)) (v : List S90) (m : List Bool) (ts : List S54) : Option (List (List S54) × List S90 × List Bool) :=
 (impl_SegOk.f k a0 a1 b v m).bind fun r => if r = true then (if ts.length ≤ 40 then @dite _ (∃ x : (S54 → Bool) × List S90 × List Bool, impl_SegDrop.C k a1 b v m ts x.1 x.2.1 x.2.2) (Classical.propDecidable _) (fun h => some (impl_SegDrop.keep a1 b h.choose.1, h.choose.2.1, h.choose.2.2)) (fun _ => none) else some ([], [], [])) else some ([], [], [])
theorem impl_SegDrop.same {k : Nat} {a1 : Int} {b : List (List S54)} {v : List S90} {m : List Bool} {ts : List S54} {q q' : S54 → Bool} {rv rv' : List S90} {rm rm' : List Bool} (h : impl_SegDrop.C k a1 b v m ts q rv rm) (h' : impl_SegDrop.C k a1 b v m ts q' rv' rm') : q = q' ∧ rv = rv' ∧ rm = rm' := by
 obtain rfl : q = q' := funext fun x => Option.some.inj ((h.1 x).symm.trans (h'.1 x)); have e : ((b.map fun r => ((none, (r.filter fun y => !df_q ⟨0, 0⟩ ⟨a1, 0⟩ q y).length, 0) : Sl)).map fun x : Sl => x.2.1) = b.map (fun r => (r.filter fun y => !df_q ⟨0, 0⟩ ⟨a1, 0⟩ q y).length) := by rw [List.map_map]; rfl
 have hh := (h.2.2.1 _ e).symm.trans (h'.2.2.1 _ e)
 injection hh with hh
 injection hh with _ hh
 injection hh with h1 h2
 exact ⟨rfl, h1, h2⟩
theorem impl_SegDrop.C_mono {k : Nat} {a1 : Int} {b : List (List S54)} {v : List S90} {m : List Bool} {ts : List S54} {q : S54 → Bool} {rv : List S90} {rm : List Bool} (h : impl_SegDrop.C k a1 b v m ts q rv rm) : impl_SegDrop.C (k + 1) a1 b v m ts q rv rm :=
 ⟨fun x => impl_Sym_35.mono _ _ _ _ _ (h.1 x), impl_Seg_clone.mono _ _ _ _ _ h.2.1, fun ls hl => impl_Seg_pruned.mono _ _ _ _ _ (h.2.2.1 ls hl), h.2.2.2⟩
theorem impl_SegDrop.f_good {k : Nat} {a0 a1 : Int} {b : List (List S54)} {v : List S90} {m : List Bool} {ts : List S54} {q : S54 → Bool} {rv : List S90} {rm : List Bool} (hok : impl_SegOk.f k a0 a1 b v m = some true) (hts : ts.length ≤ 40) (hC : impl_SegDrop.C k a1 b v m ts q rv rm) : impl_SegDrop.f k a0 a1 b v m ts = some (impl_SegDrop.keep a1 b q, rv, rm) := by
 have hx : ∃ x : (S54 → Bool) × List S90 × List Bool, impl_SegDrop.C k a1 b v m ts x.1 x.2.1 x.2.2 := ⟨(q, rv, rm), hC⟩; unfold impl_SegDrop.f; rw [hok, Option.bind_some, if_pos rfl, if_pos hts, dif_pos hx]; obtain ⟨e1, e2, e3⟩ := impl_SegDrop.same hx.choose_spec hC; rw [e1, e2, e3]
theorem impl_SegDrop.f_bad {k : Nat} {a0 a1 : Int} {b : List (List S54)} {v : List S90} {m : List Bool} {ts : List S54} {r : Bool} (hok : impl_SegOk.f k a0 a1 b v m = some r) (h : r = false ∨ 40 < ts.length) : impl_SegDrop.f k a0 a1 b v m ts = some ([], [], []) := by
 unfold impl_SegDrop.f; rw [hok, Option.bind_some]; cases r with
 | false => rw [if_neg (by decide)]
 | true =>
  rcases h with h | h
  ·
   cases h
  ·
   rw [if_pos rfl, if_neg (by omega)]
/-- The three ways of SegDrop. -/
theorem impl_SegDrop.cases {k : Nat} {a0 a1 : Int} {b : List (List S54)} {v : List S90} {m : List Bool} {ts : List S54} {r : List (List S54) × List S90 × List Bool} (h : impl_SegDrop.f k a0 a1 b v m ts = some r) :
  (∃ t, impl_SegOk.f k a0 a1 b v m = some t ∧ (t = false ∨ 40 < ts.length) ∧ r = ([], [], [])) ∨ (impl_SegOk.f k a0 a1 b v m = some true ∧ ts.length ≤ 40 ∧ ∃ q rv rm, impl_SegDrop.C k a1 b v m ts q rv rm ∧ r = (impl_SegDrop.keep a1 b q, rv, rm)) := by
 unfold impl_SegDrop.f at h; obtain ⟨t, h0, h⟩ := Option.bind_eq_some_iff.mp h; cases t with
 | false =>
  rw [if_neg (by decide)] at h; exact .inl ⟨false, h0, .inl rfl, (Option.some.inj h).symm⟩
 | true =>
  rw [if_pos rfl] at h
  by_cases hts : ts.length ≤ 40
  ·
   rw [if_pos hts] at h
   by_cases hx : ∃ x : (S54 → Bool) × List S90 × List Bool, impl_SegDrop.C k a1 b v m ts x.1 x.2.1 x.2.2
   ·
    rw [dif_pos hx] at h; exact .inr ⟨h0, hts, _, _, _, hx.choose_spec, (Option.some.inj h).symm⟩
   ·
    rw [dif_neg hx] at h; cases h
  ·
   rw [if_neg hts] at h; exact .inl ⟨true, h0, .inr (by omega), (Option.some.inj h).symm⟩
theorem impl_SegDrop.mono : ∀ a0 a1 a2 a3 a4 a5 k, LeO (impl_SegDrop.f k a0 a1 a2 a3 a4 a5) (impl_SegDrop.f (k + 1) a0 a1 a2 a3 a4 a5) := by
 intro a0 a1 b v m ts k r h
 rcases impl_SegDrop.cases h with ⟨t, h0, h1, rfl⟩ | ⟨h0, h1, q, rv, rm, h2, rfl⟩
 ·
  exact impl_SegDrop.f_bad (impl_SegOk.mono _ _ _ _ _ _ _ h0) h1
 ·
  exact impl_SegDrop.f_good (impl_SegOk.mono _ _ _ _ _ _ _ h0) h1 (impl_SegDrop.C_mono h2)
theorem impl_SegDrop.calls (k : Nat) (a0 a1 : Int) (A0 : Option Addr) (c0 : Nat) (b : List (List S54)) (A1 : Option Addr) (c1 : Nat) (v : List S90) (A2 : Option Addr) (c2 : Nat) (m : List Bool) (A3 : Option Addr) (c3 : Nat) (ts : List S54) (r1 : List (List S54)) (r2 : List S90) (r3 : List Bool) (w : World)
  (hG0 : GL0 w) (hG1 : GL1 w) (hr0 : Kd.C (Kd.slice 54 k54) w A0 b.length b) (hc0 : b.length ≤ c0) (hr1 : Kd.C k90 w A1 v.length v) (hc1 : v.length ≤ c1) (hr2 : Kd.C Kd.bool w A2 m.length m) (hc2 : m.length ≤ c2) (hr3 : Kd.C k54 w A3 ts.length ts) (hc3 : ts.length ≤ c3)
  (h : impl_SegDrop.f k a0 a1 b v m ts = some (r1, r2, r3)) :
  Calls Tryd.prog 10 #[.int .i64 a0, .int .i64 a1, .agg #[.slice A0 b.length c0, .slice A1 v.length c1, .slice A2 m.length c2], .slice A3 ts.length c3] w fun e w' => ∃ v0_ v1_ v2_ : Value, e = .returned (.agg #[v0_, v1_, v2_]) ∧ Kd.S (Kd.slice 54 k54) 36 w' w.heap.size (fun _ => True) v0_ r1 ∧ Kd.R k90 90 w' w.heap.size (fun _ => True) v1_ r2 ∧ Kd.R Kd.bool 4 w' w.heap.size (fun _ => True) v2_ r3 ∧ Below w.heap.size w w' := by
 rcases impl_SegDrop.cases h with ⟨t, h0, h1, e⟩ | ⟨h0, h1, q, rv, rm, h2, e⟩
 ·
  injection e with e1 e2
  injection e2 with e2 e3
  subst e1 e2 e3; refine (impl_SegDrop.bad k t a0 a1 A0 A1 A2 A3 c0 c1 c2 c3 b v m ts w hG0 hr0 hc0 hr1 hc1 hr2 hc2 h0 h1).mono ?_; rintro e w' ⟨rfl, hb⟩; exact ⟨_, _, _, rfl, Kd.S_nil _ _ _ _ _, Kd.R_nil _ _ _ _ _, Kd.R_nil _ _ _ _ _, hb⟩
 ·
  injection e with e1 e2
  injection e2 with e2 e3
  subst e1 e2 e3; exact impl_SegDrop.good k q _ _ a0 a1 A0 A1 A2 A3 c0 c1 c2 c3 b v m ts w hG0 hG1 hr0 hc0 hr1 hc1 hr2 hc2 hr3 hc3 h0 h1 h2


end Go.Proofs.YtdmdalapckcobaaDoor.Q
