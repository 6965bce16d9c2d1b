/- Functions of the translation as Lean functions, each with a proof that a call answers so; out of the seat, by this claim's own program prt.py. -/
import Derived.Test.YtmdebfbkehnocaaWRepsOne
import Derived.Test.YtmdebfbkehnocaaQx0
import Derived.Test.YtmdebfbkehnocaaQx16
import Derived.Test.YtmdebfbkehnocaaQStep
namespace Go.Proofs.Ytmdebfbkehnocaa.Q
open Go.RowKit Go.Proofs.YtmdebfbkehnocaaW.PrintWords Go.Proofs.YtmdebfbkehnocaaW.PrintLast Go.Proofs.YtmdebfbkehnocaaW.PrintMore
attribute [local go_sem] max2_int min2_int max_two min_two max_three min_three max_four min_four   -- for this text's walks alone
set_option linter.unusedVariables false
set_option linter.unusedSimpArgs false

/-! ### laws_markGraph: function 10 -/
/-- What marking may move: the cells of trees and of edges, but not what leads on. -/
def Mv (w w' : World) : Prop := ∀ (k : Nat) (cells : Array Value) (q : TypeId), w.heap[k]? = some (.cells cells q (0, 0)) → ∃ cells' : Array Value, w'.heap[k]? = some (.cells cells' q (0, 0)) ∧ cells'.size = cells.size ∧ (q ≠ 56 → q ≠ 58 → cells' = cells) ∧ (q = 56 → ∀ i, i % 4 = 3 → cells'[i]? = cells[i]?) ∧ (q = 58 → ∀ i, i % 8 = 7 → cells'[i]? = cells[i]?)
theorem Mv.refl (w : World) : Mv w w := fun _ c _ h => ⟨c, h, rfl, fun _ _ => rfl, fun _ _ _ => rfl, fun _ _ _ => rfl⟩
theorem Mv.trans {a b c : World} (h : Mv a b) (h' : Mv b c) : Mv a c := by
 intro k cells q e; obtain ⟨c1, e1, s1, p1, r1, t1⟩ := h k cells q e; obtain ⟨c2, e2, s2, p2, r2, t2⟩ := h' k c1 q e1; exact ⟨c2, e2, s2.trans s1, fun x y => (p2 x y).trans (p1 x y), fun x i hi => (r2 x i hi).trans (r1 x i hi), fun x i hi => (t2 x i hi).trans (t1 x i hi)⟩
theorem Mv.below {w w' : World} (h : Below w.heap.size w w') : Mv w w' := fun k c _ e => ⟨c, (h.block k (blk_lt e)).trans e, rfl, fun _ _ => rfl, fun _ _ _ => rfl, fun _ _ _ => rfl⟩
theorem Mv.set {w : World} {g i : Nat} {cells : Array Value} {q : TypeId} (h : w.heap[g]? = some (.cells cells q (0, 0))) (hq : (q = 56 ∧ i % 4 ≠ 3) ∨ (q = 58 ∧ i % 8 ≠ 7)) (v : Value) : Mv w (w.setCell ⟨g, i, none⟩ v) := by
 intro k c q' e
 by_cases hk : k = g
 ·
  subst hk; rw [h] at e
  injection e with e
  injection e with e1 e2
  subst e1; subst e2; refine ⟨_, blk_set h i v, by simp, fun x y => ?_, fun x j hj => ?_, fun x j hj => ?_⟩
  ·
   rcases hq with hq | hq
   ·
    exact absurd hq.1 x
   ·
    exact absurd hq.1 y
  ·
   rcases hq with hq | hq
   ·
    rw [Array.getElem?_setIfInBounds_ne (by omega)]
   ·
    exact absurd (x.symm.trans hq.1) (by decide)
  ·
   rcases hq with hq | hq
   ·
    exact absurd (x.symm.trans hq.1) (by decide)
   ·
    rw [Array.getElem?_setIfInBounds_ne (by omega)]
 ·
  exact ⟨c, blk_far e hk v, rfl, fun _ _ => rfl, fun _ _ _ => rfl, fun _ _ _ => rfl⟩
/-- A row of n elements of s cells, of which the last leads on. -/
def Rw (q s : Nat) (w : World) (g n : Nat) (A : Nat → Value) : Prop := ∃ cells : Array Value, w.heap[g]? = some (.cells cells q (0, 0)) ∧ n * s ≤ cells.size ∧ ∀ j, j < n → cells[j * s + (s - 1)]? = some (A j)
theorem Rw.mv4 {w w' : World} {g n : Nat} {A : Nat → Value} (h : Rw 56 4 w g n A) (m : Mv w w') : Rw 56 4 w' g n A := by
 obtain ⟨c, e, hs, ha⟩ := h; obtain ⟨c', e', hs', -, r, -⟩ := m g c 56 e; exact ⟨c', e', by omega, fun j hj => (r rfl _ (by omega)).trans (ha j hj)⟩
theorem Rw.mv8 {w w' : World} {g n : Nat} {A : Nat → Value} (h : Rw 58 8 w g n A) (m : Mv w w') : Rw 58 8 w' g n A := by
 obtain ⟨c, e, hs, ha⟩ := h; obtain ⟨c', e', hs', -, -, r⟩ := m g c 58 e; exact ⟨c', e', by omega, fun j hj => (r rfl _ (by omega)).trans (ha j hj)⟩
theorem Rw.cell {q s : Nat} {w : World} {g n : Nat} {A : Nat → Value} (h : Rw q s w g n A) (j i : Nat) (hj : j < n) (hi : i < s) : (∃ u, w.cell? ⟨g, j * s + i, none⟩ = some u) ∧ w.frozen? ⟨g, j * s + i, none⟩ = false := by
 obtain ⟨c, e, hs, ha⟩ := h; have : (j + 1) * s ≤ n * s := Nat.mul_le_mul_right s hj; rw [Nat.add_mul, Nat.one_mul] at this; exact ⟨⟨c[j * s + i]'(by omega), by rw [blk_cell e, Array.getElem?_eq_getElem]⟩, blk_frozen e _⟩
theorem Rw.kids {q s : Nat} {w : World} {g n : Nat} {A : Nat → Value} (h : Rw q s w g n A) (j : Nat) (hj : j < n) : w.cell? ⟨g, j * s + (s - 1), none⟩ = some (A j) := by
 obtain ⟨c, e, hs, ha⟩ := h; rw [blk_cell e]; exact ha j hj
theorem Rw.set4 {w : World} {g n : Nat} {A : Nat → Value} (h : Rw 56 4 w g n A) (j i : Nat) (hi : i < 3) (v : Value) : Mv w (w.setCell ⟨g, j * 4 + i, none⟩ v) := by
 obtain ⟨c, e, hs, ha⟩ := h; exact Mv.set e (.inl ⟨rfl, by omega⟩) v
theorem Rw.set8 {w : World} {g n : Nat} {A : Nat → Value} (h : Rw 58 8 w g n A) (j i : Nat) (hi : i < 7) (v : Value) : Mv w (w.setCell ⟨g, j * 8 + i, none⟩ v) := by
 obtain ⟨c, e, hs, ha⟩ := h; exact Mv.set e (.inr ⟨rfl, by omega⟩) v
def sm (c : Nat → Nat) : Nat → Nat
 | 0 => 0
 | j + 1 => sm c j + (3 + c j)
theorem sm_le (c : Nat → Nat) {i j : Nat} (h : i ≤ j) : sm c i ≤ sm c j := by
 induction h with
 | refl => exact Nat.le_refl _
 | step _ ih => exact Nat.le_trans ih (Nat.le_add_right _ _)
theorem wS (m : Nat) (h : m ≤ 2000000000) : wrap64 ((m : Int) + 1) = ((m + 1 : Nat) : Int) := by unfold wrap64; omega
theorem sm_ge (c : Nat → Nat) : ∀ n, n ≤ sm c n
 | 0 => Nat.le_refl _
 | n + 1 => by have := sm_ge c n; simp only [sm]; omega
/-- A tree of rows that lie from b on, with its number of marks. -/
inductive Tr (b : Nat) (w : World) : Option Addr → Nat → Nat → Prop
 | nil (A : Option Addr) : Tr b w A 0 0
 | row (g n : Nat) (c ns cs : Nat → Nat) (As : Nat → Option Addr) (hb : b ≤ g) (h : Rw 56 4 w g n (fun j => .slice (As j) (ns j) (cs j))) (ih : ∀ j, j < n → Tr b w (As j) (ns j) (c j)) : Tr b w (some ⟨g, 0, none⟩) n (sm c n)
theorem mt_loop : ∀ (m k : Nat) (x : ByteArray), m < k → m ≤ 1000000000 → x.size ≤ 9000000000 - m → ∃ t, laws_markText.l0 k (m : Int) x = some t := by
 intro m
 induction m using Nat.strongRecOn with
 | _ m ih =>
  intro k x hk hm hx; obtain ⟨k, rfl⟩ : ∃ n, k = n + 1 := ⟨k - 1, by omega⟩; rw [laws_markText.l0]
  by_cases h : (m : Int) > 0
  ·
   rw [if_pos h]; simp only [Option.bind_some]; have hs : ∀ z : Int, (strOfNums [z]).size = 1 := fun z => rfl; rw [hs, if_pos (by omega)]
   have e : wrap64 (Int.tdiv (m : Int) 10) = ((m / 10 : Nat) : Int) := by
    rw [show (10 : Int) = ((10 : Nat) : Int) from rfl, ← Int.ofNat_tdiv]; unfold wrap64; omega
   rw [e]; refine ih (m / 10) (by omega) k _ (by omega) (by omega) ?_; rw [ByteArray.size_append, hs]
   omega
  ·
   rw [if_neg h, if_pos (by omega)]; exact ⟨_, rfl⟩
theorem mt (m : Nat) (hm : m ≤ 1000000000) (W : World) : Calls Try.prog 34 #[.int .i64 (m : Int)] W fun e w' => ∃ s : ByteArray, e = .returned (.string s) ∧ Below W.heap.size W w' := by
 have h1 : ∃ t, laws_markText.f (m + 2) (m : Int) = some t := by
  unfold laws_markText.f
  by_cases h : (m : Int) ≤ 0
  ·
   rw [if_pos h]; exact ⟨_, rfl⟩
  ·
   rw [if_neg h]; exact mt_loop m (m + 2) _ (by omega) hm (by simp [ByteArray.size])
 obtain ⟨t, ht⟩ := h1; exact (laws_markText.calls (m + 2) m t W ht).mono fun e w' h => ⟨t, h⟩
set_option maxRecDepth 100000 in
set_option maxHeartbeats 4000000 in
theorem markN {b : Nat} {w0 : World} {A : Option Addr} {n c : Nat} (h : Tr b w0 A n c) : ∀ (w00 w : World) (cap k : Nat), Mv w0 w → b = w00.heap.size → Below b w00 w → k + c ≤ 1000000000 →
  Calls Try.prog 35 #[.slice A n cap, .int .i64 (k : Int)] w fun e w' => e = .returned (.int .i64 ((k + c : Nat) : Int)) ∧ Mv w w' ∧ Below b w00 w' := by
 induction h with
 | nil A =>
  intro w00 w cap k hm hb hB hk
  go_enter Try.func35, Try.ntmps35
  go_wp2
  go_loopg [1, 5] 0 (fun gg s1 s5 wr => s1 = .int .i64 (k : Int) ∧ s5 = .int .i64 0 ∧ Aside0 (Mv w wr) ∧ Aside0 (Below b w00 wr))
  case atStart => exact ⟨rfl, rfl, ⟨Mv.refl _⟩, ⟨hB⟩⟩
  case round =>
   obtain ⟨rfl, rfl, HM, HB⟩ := hrel
   go_wp2
   go_ret
   exact ⟨rfl, HM.out, HB.out⟩
 | row g n c ns cs As hbg hR hk ih =>
  intro w00 w cap k hm hb hB hkc; subst hb; have hn : n ≤ 1000000000 := Nat.le_trans (sm_ge c n) (by omega); have HR := Aside0.mk (hR.mv4 hm); have HM0 := Aside0.mk hm; have HIH := Aside0.mk ih; have HB0 := Aside0.mk hB; clear hR hm ih hk hB
  go_enter Try.func35, Try.ntmps35
  go_wp2
  go_loopg [1, 5] n (fun gg s1 s5 wr => ∃ (x : Nat) (kk : Int), x ≤ n ∧ n - x ≤ gg ∧ s1 = .int .i64 kk ∧ s5 = .int .i64 (x : Int) ∧ Aside0 (kk = ((k + sm c x : Nat) : Int)) ∧ Aside0 (Mv w wr) ∧ Aside0 (Below w00.heap.size w00 wr))
  case atStart => exact ⟨0, (k : Int), Nat.zero_le _, by omega, rfl, rfl, ⟨rfl⟩, ⟨Mv.refl _⟩, ⟨HB0.out⟩⟩
  case round =>
   obtain ⟨x, kk, hx, hgg, rfl, rfl, HK, HM, HB⟩ := hrel
   by_cases hlt : x < n
   ·
    have hxi : (x : Int) < (n : Int) := by omega
    have hx0 : (0 : Int) ≤ (x : Int) := by omega
    have hR := HR.out.mv4 HM.out; obtain ⟨⟨u0, c0⟩, f0⟩ := hR.cell x 0 hlt (by omega); rw [Nat.add_zero] at c0 f0; have HRx := Aside0.mk hR; clear hR; have hsm : sm c (x + 1) ≤ sm c n := sm_le c hlt; have hkb : k + sm c x ≤ 1000000000 := by simp only [sm] at hsm; omega
    have e1 : wrap64 (kk + 1) = ((k + sm c x + 1 : Nat) : Int) := by rw [HK.out, wS _ (by omega)]
    have e3 : wrap64 (wrap64 (wrap64 (kk + 1) + 1) + 1) = ((k + sm c x + 3 : Nat) : Int) := by rw [e1, wS _ (by omega), wS _ (by omega)]
    have hT : ∀ W, Calls Try.prog 34 #[.int .i64 (wrap64 (kk + 1))] W fun e w' => ∃ s : ByteArray, e = .returned (.string s) ∧ Below W.heap.size W w' := fun W => by
     rw [e1]; exact mt _ (by simp only [sm] at hsm; omega) W
    have hK : ∀ W, Mv w W → Below w00.heap.size w00 W → Calls Try.prog 35 #[.slice (As x) (ns x) (cs x), .int .i64 (wrap64 (wrap64 (wrap64 (kk + 1) + 1) + 1))] W fun e w' => e = .returned (.int .i64 ((k + sm c (x + 1) : Nat) : Int)) ∧ Mv W w' ∧ Below w00.heap.size w00 w' := fun W h1 h2 => by
     rw [e3]; have := HIH.out x hlt w00 W (cs x) (k + sm c x + 3) (HM0.out.trans h1) rfl h2 (by simp only [sm] at hsm; omega)
     rwa [show k + sm c x + 3 + c x = k + sm c (x + 1) by simp only [sm]; omega] at this
    clear e1 e3; have HT := Aside0.mk hT; have HK2 := Aside0.mk hK; clear hT hK hsm
    go_wp2_with (first
     | ((with_reducible refine gate_store (t := 3) (p := 16) rfl ?_); refine store_event (t := 3) (p := 16) (v := ?vo_1) (w1 := wr.setCell ⟨g, x * 4, none⟩ (.int .i64 kk)) ?hg ?ho ?hn ?hr ?_; (case ho => rfl); (case hg => rfl); (case hn => rfl); (case hr => first | (go_simp; done) | (go_simp; rfl)); intro w1 hw; have hm1 : Mv wr w1 := (by rw [hw]; exact HRx.out.set4 x 0 (by omega) _); have hb1 : Below w00.heap.size w00 w1 := (by rw [hw]; exact below_set HB.out hbg); clear hw; replace HRx := Aside0.mk (HRx.out.mv4 hm1); replace HM := Aside0.mk (HM.out.trans hm1); replace HB := Aside0.mk hb1; clear hm1 hb1)
     | ((with_reducible refine gate_callee (f := 34) rfl ?_); refine gl_ 22 Try.func34 #[.int .i64 (wrap64 (kk + 1))] (h := ?_); refine (HT.out _).mono ?_; rintro e w2 ⟨s2, rfl, hb2⟩; refine ⟨_, rfl, ?_⟩; replace HRx := Aside0.mk (HRx.out.mv4 (Mv.below hb2)); replace HM := Aside0.mk (HM.out.trans (Mv.below hb2)); replace HB := Aside0.mk (below_step HB.out hb2); clear hb2; obtain ⟨⟨u1, c1⟩, f1⟩ := HRx.out.cell x 1 hlt (by omega))
     | ((with_reducible refine gate_store (t := 9) (p := 24) rfl ?_); refine store_event (t := 9) (p := 24) (v := ?vo_2) (w1 := w2.setCell ⟨g, x * 4 + 1, none⟩ (.string s2)) ?hg ?ho ?hn ?hr ?_; (case ho => rfl); (case hg => rfl); (case hn => rfl); (case hr => first | (go_simp; done) | (go_simp; rfl)); intro w3 hw; have hm1 : Mv w2 w3 := (by rw [hw]; exact HRx.out.set4 x 1 (by omega) _); have hb1 : Below w00.heap.size w00 w3 := (by rw [hw]; exact below_set HB.out hbg); clear hw; replace HRx := Aside0.mk (HRx.out.mv4 hm1); replace HM := Aside0.mk (HM.out.trans hm1); replace HB := Aside0.mk hb1; clear hm1 hb1; obtain ⟨⟨u2, c2⟩, f2⟩ := HRx.out.cell x 2 hlt (by omega))
     | ((with_reducible refine gate_store (t := 3) (p := 31) rfl ?_); refine store_event (t := 3) (p := 31) (v := ?vo_3) (w1 := w3.setCell ⟨g, x * 4 + 2, none⟩ (.int .i64 (wrap64 (wrap64 (kk + 1) + 1)))) ?hg ?ho ?hn ?hr ?_; (case ho => rfl); (case hg => rfl); (case hn => rfl); (case hr => first | (go_simp; done) | (go_simp; rfl)); intro w4 hw; have hm1 : Mv w3 w4 := (by rw [hw]; exact HRx.out.set4 x 2 (by omega) _); have hb1 : Below w00.heap.size w00 w4 := (by rw [hw]; exact below_set HB.out hbg); clear hw; replace HRx := Aside0.mk (HRx.out.mv4 hm1); replace HM := Aside0.mk (HM.out.trans hm1); replace HB := Aside0.mk hb1; clear hm1 hb1; have c3 : w4.cell? ⟨g, x * 4 + 3, none⟩ = some (.slice (As x) (ns x) (cs x)) := HRx.out.kids x hlt; have f3 := (HRx.out.cell x 3 hlt (by omega)).2)
     | ((with_reducible refine gate_callee (f := 35) rfl ?_); refine gl_ 40 Try.func35 #[.slice (As x) (ns x) (cs x), .int .i64 (wrap64 (wrap64 (wrap64 (kk + 1) + 1) + 1))] (h := ?_); refine (HK2.out _ HM.out HB.out).mono ?_; rintro e w5 ⟨rfl, hm5, hb5⟩; refine ⟨_, rfl, ?_⟩; replace HM := Aside0.mk (HM.out.trans hm5); replace HB := Aside0.mk hb5; clear hm5 hb5))
    go_roundg (n - (x + 1))
    case measure => omega
    case rel => exact ⟨x + 1, _, by omega, by omega, rfl, by first | rfl | (congr 1; omega) | (rw [wS x (by omega)]), ⟨rfl⟩, HM, HB⟩
   ·
    go_wp2
    go_ret
    obtain rfl : x = n := by omega
    have hkk := HK.out; clear HK; subst hkk; exact ⟨rfl, HM.out, HB.out⟩
/-- The marks of a row of edges: seven, and those of the tree. -/
def sm7 (c : Nat → Nat) : Nat → Nat
 | 0 => 0
 | j + 1 => sm7 c j + (7 + c j)
theorem sm7_le (c : Nat → Nat) {i j : Nat} (h : i ≤ j) : sm7 c i ≤ sm7 c j := by
 induction h with
 | refl => exact Nat.le_refl _
 | step _ ih => exact Nat.le_trans ih (Nat.le_add_right _ _)
theorem sm7_ge (c : Nat → Nat) : ∀ n, n ≤ sm7 c n
 | 0 => Nat.le_refl _
 | n + 1 => by have := sm7_ge c n; simp only [sm7]; omega
set_option maxRecDepth 100000 in
set_option maxHeartbeats 4000000 in
theorem markE (w00 w : World) (g n cap k : Nat) (c ns cs : Nat → Nat) (As : Nat → Option Addr) (hbg : w00.heap.size ≤ g) (hR : Rw 58 8 w g n (fun j => .slice (As j) (ns j) (cs j))) (ih : ∀ j, j < n → Tr w00.heap.size w (As j) (ns j) (c j)) (hB : Below w00.heap.size w00 w) (hkc : k + sm7 c n ≤ 1000000000) :
  Calls Try.prog 22 #[.slice (some ⟨g, 0, none⟩) n cap, .int .i64 (k : Int)] w fun e w' => e = .returned (.int .i64 ((k + sm7 c n : Nat) : Int)) ∧ Mv w w' ∧ Below w00.heap.size w00 w' := by
 have hn : n ≤ 1000000000 := Nat.le_trans (sm7_ge c n) (by omega); have HR := Aside0.mk hR; have HIH := Aside0.mk ih; have HB0 := Aside0.mk hB; clear hR ih hB
 go_enter Try.func22, Try.ntmps22
 go_wp2
 go_loopg [1, 5] n (fun gg s1 s5 wr => ∃ (x : Nat) (kk : Int), x ≤ n ∧ n - x ≤ gg ∧ s1 = .int .i64 kk ∧ s5 = .int .i64 (x : Int) ∧ Aside0 (kk = ((k + sm7 c x : Nat) : Int)) ∧ Aside0 (Mv w wr) ∧ Aside0 (Below w00.heap.size w00 wr))
 case atStart => exact ⟨0, (k : Int), Nat.zero_le _, by omega, rfl, rfl, ⟨rfl⟩, ⟨Mv.refl _⟩, ⟨HB0.out⟩⟩
 case round =>
  obtain ⟨x, kk, hx, hgg, rfl, rfl, HK, HM, HB⟩ := hrel
  by_cases hlt : x < n
  ·
   have hxi : (x : Int) < (n : Int) := by omega
   have hx0 : (0 : Int) ≤ (x : Int) := by omega
   have hR := HR.out.mv8 HM.out; obtain ⟨⟨u0, c0⟩, f0⟩ := hR.cell x 0 hlt (by omega); rw [Nat.add_zero] at c0 f0; have HRx := Aside0.mk hR; clear hR; have hsm : sm7 c (x + 1) ≤ sm7 c n := sm7_le c hlt; have hkb : k + sm7 c x + 7 + c x ≤ 1000000000 := by simp only [sm7] at hsm; omega
   have e5 : wrap64 (wrap64 (wrap64 (wrap64 (wrap64 (kk + 1) + 1) + 1) + 1) + 1) = ((k + sm7 c x + 5 : Nat) : Int) := by rw [HK.out, wS _ (by omega), wS _ (by omega), wS _ (by omega), wS _ (by omega), wS _ (by omega)]
   have e7 : wrap64 (wrap64 (wrap64 (wrap64 (wrap64 (wrap64 (wrap64 (kk + 1) + 1) + 1) + 1) + 1) + 1) + 1) = ((k + sm7 c x + 7 : Nat) : Int) := by rw [e5, wS _ (by omega), wS _ (by omega)]
   have hT : ∀ W, Calls Try.prog 34 #[.int .i64 (wrap64 (wrap64 (wrap64 (wrap64 (wrap64 (kk + 1) + 1) + 1) + 1) + 1))] W fun e w' => ∃ s : ByteArray, e = .returned (.string s) ∧ Below W.heap.size W w' := fun W => by
    rw [e5]; exact mt _ (by omega) W
   have hK : ∀ W, Mv w W → Below w00.heap.size w00 W → Calls Try.prog 35 #[.slice (As x) (ns x) (cs x), .int .i64 (wrap64 (wrap64 (wrap64 (wrap64 (wrap64 (wrap64 (wrap64 (kk + 1) + 1) + 1) + 1) + 1) + 1) + 1))] W fun e w' => e = .returned (.int .i64 ((k + sm7 c (x + 1) : Nat) : Int)) ∧ Mv W w' ∧ Below w00.heap.size w00 w' := fun W h1 h2 => by
    rw [e7]; have := markN (HIH.out x hlt) w00 W (cs x) (k + sm7 c x + 7) h1 rfl h2 (by omega)
    rwa [show k + sm7 c x + 7 + c x = k + sm7 c (x + 1) by simp only [sm7]; omega] at this
   clear e5 e7; have HT := Aside0.mk hT; have HK2 := Aside0.mk hK; clear hT hK hsm
   go_wp2_with (first
     | ((with_reducible refine gate_store (t := 3) (p := 16) rfl ?_); refine store_event (t := 3) (p := 16) (v := ?ve_1) (w1 := wr.setCell ⟨g, x * 8, none⟩ (.int .i64 kk)) ?hg ?ho ?hn ?hr ?_; (case ho => rfl); (case hg => rfl); (case hn => rfl); (case hr => first | (go_simp; done) | (go_simp; rfl)); intro w1 hw; have hm1 : Mv wr w1 := (by rw [hw]; exact HRx.out.set8 x 0 (by omega) _); have hb1 : Below w00.heap.size w00 w1 := (by rw [hw]; exact below_set HB.out hbg); clear hw; replace HRx := Aside0.mk (HRx.out.mv8 hm1); replace HM := Aside0.mk (HM.out.trans hm1); replace HB := Aside0.mk hb1; clear hm1 hb1; obtain ⟨⟨u1, c1⟩, f1⟩ := HRx.out.cell x 1 hlt (by omega))
     | ((with_reducible refine gate_store (t := 3) (p := 23) rfl ?_); refine store_event (t := 3) (p := 23) (v := ?ve_2) (w1 := w1.setCell ⟨g, x * 8 + 1, none⟩ (.int .i64 (wrap64 (kk + 1)))) ?hg ?ho ?hn ?hr ?_; (case ho => rfl); (case hg => rfl); (case hn => rfl); (case hr => first | (go_simp; done) | (go_simp; rfl)); intro w2 hw; have hm1 : Mv w1 w2 := (by rw [hw]; exact HRx.out.set8 x 1 (by omega) _); have hb1 : Below w00.heap.size w00 w2 := (by rw [hw]; exact below_set HB.out hbg); clear hw; replace HRx := Aside0.mk (HRx.out.mv8 hm1); replace HM := Aside0.mk (HM.out.trans hm1); replace HB := Aside0.mk hb1; clear hm1 hb1; obtain ⟨⟨u2, c2⟩, f2⟩ := HRx.out.cell x 2 hlt (by omega))
     | ((with_reducible refine gate_store (t := 3) (p := 30) rfl ?_); refine store_event (t := 3) (p := 30) (v := ?ve_3) (w1 := w2.setCell ⟨g, x * 8 + 2, none⟩ (.int .i64 (wrap64 (wrap64 (kk + 1) + 1)))) ?hg ?ho ?hn ?hr ?_; (case ho => rfl); (case hg => rfl); (case hn => rfl); (case hr => first | (go_simp; done) | (go_simp; rfl)); intro w3 hw; have hm1 : Mv w2 w3 := (by rw [hw]; exact HRx.out.set8 x 2 (by omega) _); have hb1 : Below w00.heap.size w00 w3 := (by rw [hw]; exact below_set HB.out hbg); clear hw; replace HRx := Aside0.mk (HRx.out.mv8 hm1); replace HM := Aside0.mk (HM.out.trans hm1); replace HB := Aside0.mk hb1; clear hm1 hb1; obtain ⟨⟨u3, c3⟩, f3⟩ := HRx.out.cell x 3 hlt (by omega))
     | ((with_reducible refine gate_store (t := 4) (p := 39) rfl ?_); refine store_event (t := 4) (p := 39) (v := ?ve_4) (w1 := w3.setCell ⟨g, x * 8 + 3, none⟩ (.bool (Int.tmod (wrap64 (wrap64 (wrap64 (kk + 1) + 1) + 1)) 3 == 0))) ?hg ?ho ?hn ?hr ?_; (case ho => rfl); (case hg => rfl); (case hn => rfl); (case hr => first | (go_simp; done) | (go_simp; rfl)); intro w4 hw; have hm1 : Mv w3 w4 := (by rw [hw]; exact HRx.out.set8 x 3 (by omega) _); have hb1 : Below w00.heap.size w00 w4 := (by rw [hw]; exact below_set HB.out hbg); clear hw; replace HRx := Aside0.mk (HRx.out.mv8 hm1); replace HM := Aside0.mk (HM.out.trans hm1); replace HB := Aside0.mk hb1; clear hm1 hb1; obtain ⟨⟨u4, c4⟩, f4⟩ := HRx.out.cell x 4 hlt (by omega))
     | ((with_reducible refine gate_store (t := 3) (p := 47) rfl ?_); refine store_event (t := 3) (p := 47) (v := ?ve_5) (w1 := w4.setCell ⟨g, x * 8 + 4, none⟩ (.int .i64 (wrap64 (wrap64 (wrap64 (wrap64 (kk + 1) + 1) + 1) + 1)))) ?hg ?ho ?hn ?hr ?_; (case ho => rfl); (case hg => rfl); (case hn => rfl); (case hr => first | (go_simp; done) | (go_simp; rfl)); intro w5 hw; have hm1 : Mv w4 w5 := (by rw [hw]; exact HRx.out.set8 x 4 (by omega) _); have hb1 : Below w00.heap.size w00 w5 := (by rw [hw]; exact below_set HB.out hbg); clear hw; replace HRx := Aside0.mk (HRx.out.mv8 hm1); replace HM := Aside0.mk (HM.out.trans hm1); replace HB := Aside0.mk hb1; clear hm1 hb1)
     | ((with_reducible refine gate_callee (f := 34) rfl ?_); refine gl_ 53 Try.func34 #[.int .i64 (wrap64 (wrap64 (wrap64 (wrap64 (wrap64 (kk + 1) + 1) + 1) + 1) + 1))] (h := ?_); refine (HT.out _).mono ?_; rintro e w6 ⟨s2, rfl, hb2⟩; refine ⟨_, rfl, ?_⟩; replace HRx := Aside0.mk (HRx.out.mv8 (Mv.below hb2)); replace HM := Aside0.mk (HM.out.trans (Mv.below hb2)); replace HB := Aside0.mk (below_step HB.out hb2); clear hb2; obtain ⟨⟨u5, c5⟩, f5⟩ := HRx.out.cell x 5 hlt (by omega))
     | ((with_reducible refine gate_store (t := 9) (p := 56) rfl ?_); refine store_event (t := 9) (p := 56) (v := ?ve_6) (w1 := w6.setCell ⟨g, x * 8 + 5, none⟩ (.string s2)) ?hg ?ho ?hn ?hr ?_; (case ho => rfl); (case hg => rfl); (case hn => rfl); (case hr => first | (go_simp; done) | (go_simp; rfl)); intro w7 hw; have hm1 : Mv w6 w7 := (by rw [hw]; exact HRx.out.set8 x 5 (by omega) _); have hb1 : Below w00.heap.size w00 w7 := (by rw [hw]; exact below_set HB.out hbg); clear hw; replace HRx := Aside0.mk (HRx.out.mv8 hm1); replace HM := Aside0.mk (HM.out.trans hm1); replace HB := Aside0.mk hb1; clear hm1 hb1; obtain ⟨⟨u6, c6⟩, f6⟩ := HRx.out.cell x 6 hlt (by omega))
     | ((with_reducible refine gate_store (t := 3) (p := 64) rfl ?_); refine store_event (t := 3) (p := 64) (v := ?ve_7) (w1 := w7.setCell ⟨g, x * 8 + 6, none⟩ (.int .i64 (wrap64 (wrap64 (wrap64 (wrap64 (wrap64 (wrap64 (kk + 1) + 1) + 1) + 1) + 1) + 1)))) ?hg ?ho ?hn ?hr ?_; (case ho => rfl); (case hg => rfl); (case hn => rfl); (case hr => first | (go_simp; done) | (go_simp; rfl)); intro w8 hw; have hm1 : Mv w7 w8 := (by rw [hw]; exact HRx.out.set8 x 6 (by omega) _); have hb1 : Below w00.heap.size w00 w8 := (by rw [hw]; exact below_set HB.out hbg); clear hw; replace HRx := Aside0.mk (HRx.out.mv8 hm1); replace HM := Aside0.mk (HM.out.trans hm1); replace HB := Aside0.mk hb1; clear hm1 hb1; have c7 : w8.cell? ⟨g, x * 8 + 7, none⟩ = some (.slice (As x) (ns x) (cs x)) := HRx.out.kids x hlt; have f7 := (HRx.out.cell x 7 hlt (by omega)).2)
     | ((with_reducible refine gate_callee (f := 35) rfl ?_); refine gl_ 74 Try.func35 #[.slice (As x) (ns x) (cs x), .int .i64 (wrap64 (wrap64 (wrap64 (wrap64 (wrap64 (wrap64 (wrap64 (kk + 1) + 1) + 1) + 1) + 1) + 1) + 1))] (h := ?_); refine (HK2.out _ HM.out HB.out).mono ?_; rintro e w9 ⟨rfl, hm5, hb5⟩; refine ⟨_, rfl, ?_⟩; replace HM := Aside0.mk (HM.out.trans hm5); replace HB := Aside0.mk hb5; clear hm5 hb5))
   go_roundg (n - (x + 1))
   case measure => omega
   case rel => exact ⟨x + 1, _, by omega, by omega, rfl, by first | rfl | (congr 1; omega) | (rw [wS x (by omega)]), ⟨rfl⟩, HM, HB⟩
  ·
   go_wp2
   go_ret
   obtain rfl : x = n := by omega
   have hkk := HK.out; clear HK; subst hkk; exact ⟨rfl, HM.out, HB.out⟩
mutual
/-- How many marks the rows below a node take. -/
def cntN : S56 → Nat
 | .mk _ _ _ l => cntL l
def cntL : List S56 → Nat
 | [] => 0
 | x :: t => 3 + cntN x + cntL t
end
theorem cntN_eq (x : S56) : cntN x = cntL x.f3 := by cases x; rw [cntN]
theorem cntL_snoc (x : S56) : ∀ l : List S56, cntL (l ++ [x]) = cntL l + (3 + cntN x)
 | [] => by simp only [List.nil_append, cntL]; omega
 | y :: t => by rw [List.cons_append, cntL, cntL, cntL_snoc x t]; omega
theorem cntL_mem : ∀ {l : List S56} {x : S56}, x ∈ l → cntN x < cntL l
 | y :: t, x, h => by
  rw [cntL]
  rcases List.mem_cons.1 h with rfl | h
  ·
   omega
  ·
   have := cntL_mem h; omega
/-- How many marks a row of edges takes. -/
def cntE : List S58 → Nat
 | [] => 0
 | x :: t => 7 + cntN x.f4 + cntE t
theorem cntE_snoc (x : S58) : ∀ l : List S58, cntE (l ++ [x]) = cntE l + (7 + cntN x.f4)
 | [] => by simp only [List.nil_append, cntE]; omega
 | y :: t => by rw [List.cons_append, cntE, cntE, cntE_snoc x t]; omega
theorem sm_cnt (xs : List S56) (c : Nat → Nat) (hc : ∀ j x, xs[j]? = some x → c j = cntN x) : ∀ n, n ≤ xs.length → sm c n = cntL (xs.take n)
 | 0, _ => by rw [List.take_zero]; rfl
 | n + 1, h => by
  rw [List.take_add_one, List.getElem?_eq_getElem (by omega), Option.toList_some, cntL_snoc, sm, sm_cnt xs c hc n (by omega), hc n _ (List.getElem?_eq_getElem (by omega))]
theorem sm7_cnt (xs : List S58) (c : Nat → Nat) (hc : ∀ j x, xs[j]? = some x → c j = cntN x.f4) : ∀ n, n ≤ xs.length → sm7 c n = cntE (xs.take n)
 | 0, _ => by rw [List.take_zero]; rfl
 | n + 1, h => by
  rw [List.take_add_one, List.getElem?_eq_getElem (by omega), Option.toList_some, cntE_snoc, sm7, sm7_cnt xs c hc n (by omega), hc n _ (List.getElem?_eq_getElem (by omega))]
/-- A made row of trees is a tree of rows. -/
theorem tr_of {b : Nat} {w : World} : ∀ (m : Nat) (xs : List S56), cntL xs ≤ m → ∀ {ok : Nat → Prop} {v : Value}, Kd.R k56 56 w b ok v xs → ∃ A cap, v = .slice A xs.length cap ∧ Tr b w A xs.length (cntL xs) := by
 intro m
 induction m with
 | zero =>
  intro xs hm ok v h; cases xs with
  | nil =>
   obtain ⟨A, c, rfl⟩ := Kd.R_slice h; exact ⟨A, c, rfl, Tr.nil A⟩
  | cons x t => rw [cntL] at hm; omega
 | succ m ih =>
  intro xs hm ok v h
  rcases Nat.eq_zero_or_pos xs.length with h0 | h0
  ·
   obtain rfl := List.eq_nil_of_length_eq_zero h0; obtain ⟨A, c, rfl⟩ := Kd.R_slice h; exact ⟨A, c, rfl, Tr.nil A⟩
  ·
   obtain ⟨_, inner, ⟨hlen, hcase⟩, hreps⟩ := h
   rcases hcase with ⟨_, h00⟩ | ⟨g, cap, cur, rfl, hg, hheap, hncap, hcap, hsz, htake⟩
   ·
    exfalso
    first | omega | (rw [h00] at hlen; simp at hlen; omega) | (subst h00; simp at hlen; omega)
   ·
    have hk : ∀ j, ∃ p : Nat × Nat × Nat × Option Addr, j < xs.length → cur[j * 4 + (4 - 1)]? = some (.slice p.2.2.2 p.2.1 p.2.2.1) ∧ Tr b w p.2.2.2 p.2.1 p.1 ∧ ∀ x, xs[j]? = some x → p.1 = cntN x := by
     intro j
     by_cases hj : j < xs.length
     ·
      have hx := List.getElem?_eq_getElem hj; obtain ⟨v3, e3, r3⟩ := k56_openM (hreps.2 j _ hx); have hc3 := cntL_mem (List.getElem_mem hj); obtain ⟨A3, c3, rfl, t3⟩ := ih xs[j].f3 (by rw [← cntN_eq]; omega) r3; refine ⟨(cntL xs[j].f3, xs[j].f3.length, c3, A3), fun _ => ⟨?_, t3, fun x ex => ?_⟩⟩
      ·
       have e4 := congrArg (fun l => l[3]?) e3; simp only [show k56.sz = 4 from rfl, List.getElem?_take, List.getElem?_drop] at e4; rw [← htake] at e4; simp only [List.getElem?_take, Array.getElem?_toList] at e4; have hj4 : (j + 1) * 4 ≤ xs.length * 4 := Nat.mul_le_mul_right 4 hj; rw [if_pos (by decide), if_pos (by show j * 4 + 3 < xs.length * k56.sz; rw [show k56.sz = 4 from rfl]; omega)] at e4; exact e4
      ·
       rw [hx] at ex; rw [cntN_eq, ← Option.some.inj ex]
     ·
      exact ⟨(0, 0, 0, none), fun h => absurd h hj⟩
    obtain ⟨f, hf⟩ := Classical.axiomOfChoice hk; refine ⟨_, cap, rfl, ?_⟩
    have hcnt : sm (fun j => (f j).1) xs.length = cntL xs := by
     rw [sm_cnt xs _ (fun j x hx => (hf j (List.getElem?_eq_some_iff.1 hx).1).2.2 x hx) _ (Nat.le_refl _), List.take_length]
    rw [← hcnt]; refine Tr.row g xs.length (fun j => (f j).1) (fun j => (f j).2.1) (fun j => (f j).2.2.1) (fun j => (f j).2.2.2) hg ⟨cur, hheap, ?_, fun j hj => (hf j hj).1⟩ (fun j hj => (hf j hj).2.1); rw [hsz, show k56.sz = 4 from rfl]; exact Nat.mul_le_mul_right 4 hncap
set_option maxRecDepth 100000 in
set_option maxHeartbeats 4000000 in
theorem markE0 (w00 w : World) (A : Option Addr) (cap k : Nat) (hB : Below w00.heap.size w00 w) :
  Calls Try.prog 22 #[.slice A 0 cap, .int .i64 (k : Int)] w fun e w' => e = .returned (.int .i64 (k : Int)) ∧ Mv w w' ∧ Below w00.heap.size w00 w' := by
 go_enter Try.func22, Try.ntmps22
 go_wp2
 go_loopg [1, 5] 0 (fun gg s1 s5 wr => s1 = .int .i64 (k : Int) ∧ s5 = .int .i64 0 ∧ Aside0 (Mv w wr) ∧ Aside0 (Below w00.heap.size w00 wr))
 case atStart => exact ⟨rfl, rfl, ⟨Mv.refl _⟩, ⟨hB⟩⟩
 case round =>
  obtain ⟨rfl, rfl, HM, HB⟩ := hrel
  go_wp2
  go_ret
  exact ⟨rfl, HM.out, HB.out⟩
theorem markEs (w00 w : World) (ok : Nat → Prop) (v : Value) (xs : List S58) (k : Nat) (h : Kd.R k58 58 w w00.heap.size ok v xs) (hB : Below w00.heap.size w00 w) (hk : k + cntE xs ≤ 1000000000) :
  Calls Try.prog 22 #[v, .int .i64 (k : Int)] w fun e w' => e = .returned (.int .i64 ((k + cntE xs : Nat) : Int)) ∧ Mv w w' ∧ Below w00.heap.size w00 w' := by
 rcases Nat.eq_zero_or_pos xs.length with h0 | h0
 ·
  obtain rfl := List.eq_nil_of_length_eq_zero h0; obtain ⟨A, c, rfl⟩ := Kd.R_slice h; exact markE0 w00 w A c k hB
 ·
  obtain ⟨_, inner, ⟨hlen, hcase⟩, hreps⟩ := h
  rcases hcase with ⟨_, h00⟩ | ⟨g, cap, cur, rfl, hg, hheap, hncap, hcap, hsz, htake⟩
  ·
   exfalso
   first | omega | (rw [h00] at hlen; simp at hlen; omega) | (subst h00; simp at hlen; omega)
  ·
   have hk : ∀ j, ∃ p : Nat × Nat × Nat × Option Addr, j < xs.length → cur[j * 8 + (8 - 1)]? = some (.slice p.2.2.2 p.2.1 p.2.2.1) ∧ Tr w00.heap.size w p.2.2.2 p.2.1 p.1 ∧ ∀ x, xs[j]? = some x → p.1 = cntN x.f4 := by
    intro j
    by_cases hj : j < xs.length
    ·
     have hx := List.getElem?_eq_getElem hj; obtain ⟨v3, e3, r3⟩ := k58_openM (hreps.2 j _ hx); obtain ⟨A3, c3, rfl, t3⟩ := tr_of _ xs[j].f4.f3 (Nat.le_refl _) r3; refine ⟨(cntL xs[j].f4.f3, xs[j].f4.f3.length, c3, A3), fun _ => ⟨?_, t3, fun x ex => ?_⟩⟩
     ·
      have e4 := congrArg (fun l => l[7]?) e3; simp only [show k58.sz = 8 from rfl, List.getElem?_take, List.getElem?_drop] at e4; rw [← htake] at e4; simp only [List.getElem?_take, Array.getElem?_toList] at e4; have hj4 : (j + 1) * 8 ≤ xs.length * 8 := Nat.mul_le_mul_right 8 hj; rw [if_pos (by decide), if_pos (by show j * 8 + 7 < xs.length * k58.sz; rw [show k58.sz = 8 from rfl]; omega)] at e4; exact e4
     ·
      rw [hx] at ex; rw [cntN_eq, ← Option.some.inj ex]
    ·
     exact ⟨(0, 0, 0, none), fun h => absurd h hj⟩
   obtain ⟨f, hf⟩ := Classical.axiomOfChoice hk
   have hcnt : sm7 (fun j => (f j).1) xs.length = cntE xs := by
    rw [sm7_cnt xs _ (fun j x hx => (hf j (List.getElem?_eq_some_iff.1 hx).1).2.2 x hx) _ (Nat.le_refl _), List.take_length]
   rw [← hcnt]; refine markE w00 w g xs.length cap k (fun j => (f j).1) (fun j => (f j).2.1) (fun j => (f j).2.2.1) (fun j => (f j).2.2.2) hg ⟨cur, hheap, ?_, fun j hj => (hf j hj).1⟩ (fun j hj => (hf j hj).2.1) hB (by rw [hcnt]; omega); rw [hsz, show k58.sz = 8 from rfl]; exact Nat.mul_le_mul_right 8 hncap
/-- The number that marking a graph leads to. -/
def laws_markGraph.f (a0_0 : Int) (l0_1 : List S58) (a1 : Int) : Option Int := if a1 = 1 ∧ cntE l0_1 ≤ 100000000 then some ((1 + cntE l0_1 : Nat) : Int) else none
set_option maxRecDepth 100000 in
set_option maxHeartbeats 4000000 in
theorem laws_markGraph.calls (a0_0 : Int) (v : Value) (l0_1 : List S58) (a1 : Int) (r : Int) (w0 w : World) (P : Nat → Prop) (hB : Below w0.heap.size w0 w) (ho : Kd.R k58 58 w w0.heap.size P v l0_1) (h : laws_markGraph.f a0_0 l0_1 a1 = some r) :
  Calls Try.prog 10 #[.agg #[.int .i64 a0_0, v], .int .i64 a1] w fun e w' => e = .returned (.int .i64 r) ∧ Mv w w' ∧ Below w0.heap.size w0 w' := by
 unfold laws_markGraph.f at h
 split at h
 ·
  rename_i hc
  obtain ⟨rfl, hc⟩ := hc; obtain rfl := Option.some.inj h
  have hE : ∀ W, Below w.heap.size w W → Calls Try.prog 22 #[v, .int .i64 1] W fun e w' => e = .returned (.int .i64 ((1 + cntE l0_1 : Nat) : Int)) ∧ Mv w w' ∧ Below w0.heap.size w0 w' := fun W hW =>
   (markEs w0 W P v l0_1 1 (Kd.R_below ho hW) (below_step hB hW) (by omega)).mono fun e w' h => ⟨h.1, (Mv.below hW).trans h.2.1, h.2.2⟩
  have hA : ∀ o, Below w.heap.size w (w.alloc o) := fun o => (Below.refl _ w).alloc (Nat.le_refl _) o; obtain ⟨A, c, hv⟩ := Kd.R_slice ho; subst hv; clear ho h hB
  go_enter Try.func10, Try.ntmps10
  go_wp2_with (go_at_call 22; refine (hE _ (by first | exact hA _ | exact pw_below_drewN (hA _) _ | exact Below.refl _ _)).mono ?_; rintro e w1 ⟨rfl, hm1, hb1⟩)
  go_ret
  exact ⟨rfl, hm1, hb1⟩
 ·
  cases h
/-- What isn't of the marked kinds stays. -/
theorem Mv.blk {w w' : World} (h : Mv w w') {k : Nat} {cells : Array Value} {q : TypeId} (e : w.heap[k]? = some (.cells cells q (0, 0))) (h1 : q ≠ 56) (h2 : q ≠ 58) : w'.heap[k]? = some (.cells cells q (0, 0)) := by
 obtain ⟨c, e', _, p, _⟩ := h k cells q e; rw [e', p h1 h2]
theorem Mv.row {α : Type} {d : Kd α} {e : Nat} {w w' : World} {base : Nat} {ok : Nat → Prop} {v : Value} {xs : List α} (h : Mv w w') (hr : d.R e w base ok v xs) (hq : ∀ q, q ∈ e :: d.E → q ≠ 56 ∧ q ≠ 58) : d.R e w' base ok v xs :=
 Kd.R_mono (Kd.R_move (Kd.R_bound hr) (fun k hk => by
  obtain ⟨_, _, _, q, hm, cells, hc⟩ := hk; rw [h.blk hc (hq q hm).1 (hq q hm).2, hc])) (fun _ hk => hk.1)


end Go.Proofs.Ytmdebfbkehnocaa.Q
