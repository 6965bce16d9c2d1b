/- Functions of the translation as Lean functions, each with a proof that a call answers so; out of the seat, by this claim's own program prt.py. -/
import Derived.Test.YtmdebfbkehnocaaWRepsOne
import Derived.Test.YtmdebfbkehnocaaQx0
import Derived.Test.YtmdebfbkehnocaaQx2
import Derived.Test.YtmdebfbkehnocaaQx6
import Derived.Test.YtmdebfbkehnocaaQx8
import Derived.Test.YtmdebfbkehnocaaQx11
import Derived.Test.YtmdebfbkehnocaaQx12
import Derived.Test.YtmdebfbkehnocaaQx16
import Derived.Test.YtmdebfbkehnocaaQx17
import Derived.Test.YtmdebfbkehnocaaQx18
import Derived.Test.YtmdebfbkehnocaaQStep
namespace Go.Proofs.Ytmdebfbkehnocaa.Q
open Go.RowKit Go.Proofs.YtmdebfbkehnocaaW.PrintWords Go.Proofs.YtmdebfbkehnocaaW.PrintLast Go.Proofs.YtmdebfbkehnocaaW.PrintMore
attribute [local go_sem] max2_int min2_int max_two min_two max_three min_three max_four min_four   -- for this text's walks alone
set_option linter.unusedVariables false
set_option linter.unusedSimpArgs false

/-! ### laws_FnExactNestOf: function 3 -/
/-- The numbers from a on. -/
def upI (a : Int) : Nat → List Int
 | 0 => []
 | m + 1 => a :: upI (a + 1) m
theorem upI_len : ∀ m a, (upI a m).length = m
 | 0, _ => rfl
 | m + 1, a => by simp [upI, upI_len m]
theorem upI_at : ∀ m (a : Int) i, i < m → (upI a m)[i]? = some (a + (i : Int))
 | m + 1, a, 0, _ => by simp [upI]
 | m + 1, a, i + 1, h => by
  simp only [upI, List.getElem?_cons_succ]; rw [upI_at m (a + 1) i (by omega)]; congr 1; omega
theorem upI_snoc : ∀ m (a : Int), upI a (m + 1) = upI a m ++ [a + (m : Int)]
 | 0, a => by simp [upI]
 | m + 1, a => by
  rw [upI, upI_snoc m (a + 1), upI, List.cons_append]
  congr 3; omega
theorem wN (n : Int) (h1 : -9000000000 ≤ n) (h2 : n ≤ 9000000000) : wrap64 n = n := by unfold wrap64; omega
theorem marksI_l (n a : Nat) (hn : a + n ≤ 1000000000) : ∀ t i k (x : List Int), i + t = n → t < k → x.length = n → x.take i = upI a i → laws_markIntS.l0 k x ((a + i : Nat) : Int) (i : Int) = some (((a + n : Nat) : Int), upI a n)
 | 0, i, k, x, h1, h2, h3, h4 => by
  obtain ⟨k, rfl⟩ : ∃ m, k = m + 1 := ⟨k - 1, by omega⟩; obtain rfl : i = n := by omega
  rw [laws_markIntS.l0, if_neg (by omega)]; rw [List.take_of_length_le (by omega)] at h4; rw [h4]
 | t + 1, i, k, x, h1, h2, h3, h4 => by
  obtain ⟨k, rfl⟩ : ∃ m, k = m + 1 := ⟨k - 1, by omega⟩; rw [laws_markIntS.l0, if_pos (by omega), if_pos (by omega), Int.toNat_natCast, wN _ (by omega) (by omega), wN _ (by omega) (by omega)]
  have := marksI_l n a hn t (i + 1) k (x.set i ((a + i : Nat) : Int)) (by omega) (by omega) (by rw [List.length_set]; exact h3) (by
   rw [List.take_add_one, List.take_set_of_le (Nat.le_refl i), h4, List.getElem?_set_self (by omega), upI_snoc]; simp)
  rw [show ((a + i : Nat) : Int) + 1 = ((a + (i + 1) : Nat) : Int) by omega, show (i : Int) + 1 = ((i + 1 : Nat) : Int) by omega]; exact this
theorem marksI (a : Nat) (x : List Int) (hn : a + x.length ≤ 1000000000) : laws_markIntS.f (x.length + 1) x (a : Int) = some (((a + x.length : Nat) : Int), upI a x.length) :=
 marksI_l x.length a hn x.length 0 _ x (by omega) (by omega) rfl rfl
theorem heldsI_l (n a : Nat) (hn : a + n ≤ 1000000000) : ∀ t i k, i + t = n → t < k → laws_heldIntS.l0 k (upI a n) ((a + i : Nat) : Int) (i : Int) = some ((a + n : Nat) : Int)
 | 0, i, k, h1, h2 => by
  obtain ⟨k, rfl⟩ : ∃ m, k = m + 1 := ⟨k - 1, by omega⟩; obtain rfl : i = n := by omega
  rw [laws_heldIntS.l0, if_neg (by rw [upI_len]; omega)]
 | t + 1, i, k, h1, h2 => by
  obtain ⟨k, rfl⟩ : ∃ m, k = m + 1 := ⟨k - 1, by omega⟩
  have e : rd (upI a n) (i : Int) = ((a + i : Nat) : Int) := by
   unfold rd; simp only [Int.toNat_natCast, List.getD, upI_at n a i (by omega), Option.getD_some]; omega
  have := heldsI_l n a hn t (i + 1) k (by omega) (by omega); rw [laws_heldIntS.l0, if_pos (by rw [upI_len]; omega), if_pos (by omega), if_pos e, wN _ (by omega) (by omega), wN _ (by omega) (by omega), show ((a + i : Nat) : Int) + 1 = ((a + (i + 1) : Nat) : Int) by omega, show (i : Int) + 1 = ((i + 1 : Nat) : Int) by omega]; exact this
theorem heldsI (a n : Nat) (hn : a + n ≤ 1000000000) : laws_heldIntS.f (n + 1) (upI a n) (a : Int) = some ((a + n : Nat) : Int) :=
 heldsI_l n a hn n 0 _ (by omega) (by omega)
/-- A row of rows as it lies in memory: the rows' values, of which no two lead to one block. -/
def Ap (w : World) (b g n : Nat) (vs : Nat → Value) (f : Nat → Nat) (rows : Nat → List Int) : Prop :=
 (∃ cur : Array Value, w.heap[g]? = some (.cells cur 39 (0, 0)) ∧ ∀ j, j < n → cur[j]? = some (vs j)) ∧ ∀ j, j < n → Kd.R (Kd.int .i64) 3 w b (fun k => f k = j) (vs j) (rows j)
theorem Ap.below {w w' : World} {b g n : Nat} {vs : Nat → Value} {f : Nat → Nat} {rows : Nat → List Int} (h : Ap w b g n vs f rows) (hb : Below w.heap.size w w') : Ap w' b g n vs f rows := by
 obtain ⟨⟨cur, h1, h2⟩, h3⟩ := h; exact ⟨⟨cur, (hb.block _ (blk_lt h1)).trans h1, h2⟩, fun j hj => Kd.R_below (h3 j hj) hb⟩
theorem ap_of {w : World} {b : Nat} {ok : Nat → Prop} {v : Value} {xs : List (List Int)} (h : Kd.S (Kd.slice 3 (Kd.int .i64)) 39 w b ok v xs) :
  (xs = [] ∧ ∃ A c, v = .slice A 0 c) ∨ ∃ g cap vs f, v = .slice (some ⟨g, 0, none⟩) xs.length cap ∧ b ≤ g ∧ Ap w b g xs.length vs f (fun j => xs.getD j []) := by
 rcases Nat.eq_zero_or_pos xs.length with h0 | h0
 ·
  obtain rfl := List.eq_nil_of_length_eq_zero h0; obtain ⟨A, c, rfl⟩ := Kd.R_slice (Kd.S_R h); exact .inl ⟨rfl, A, c, rfl⟩
 ·
  right
  obtain ⟨f, _, inner, ⟨hlen, hcase⟩, hreps⟩ := h; rw [List.length_zipIdx] at hcase hlen
  rcases hcase with ⟨_, h00⟩ | ⟨g, cap, cur, rfl, hg, hheap, hncap, hcap, hsz, htake⟩
  ·
   exfalso
   first | omega | (rw [h00] at hlen; simp at hlen; omega) | (subst h00; simp at hlen; omega)
  ·
   have hk : ∀ j, ∃ v' : Value, j < xs.length → cur[j]? = some v' ∧ Kd.R (Kd.int .i64) 3 w b (fun k => f k = j) v' (xs.getD j []) := by
    intro j
    by_cases hj : j < xs.length
    ·
     have hx := List.getElem?_eq_getElem hj; obtain ⟨v', e', r'⟩ := hreps.2 j (xs[j], j) (Kd.zip_at hx); refine ⟨v', fun _ => ⟨?_, ?_⟩⟩
     ·
      have e4 := congrArg (fun l => l[0]?) e'; simp only [show (Kd.tag f (Kd.slice 3 (Kd.int .i64))).sz = 1 from rfl, List.getElem?_take, List.getElem?_drop, Nat.mul_one, Nat.add_zero] at e4; rw [← htake] at e4; simp only [List.getElem?_take, Array.getElem?_toList] at e4; rw [if_pos (by decide), if_pos (by show j < xs.length * 1; omega)] at e4; exact e4
     ·
      rw [show xs.getD j [] = xs[j] by simp [List.getD, hx]]; exact Kd.R_mono r' (fun k hk => hk.2)
    ·
     exact ⟨.bool false, fun h => absurd h hj⟩
   obtain ⟨vs, hvs⟩ := Classical.axiomOfChoice hk; exact ⟨g, cap, vs, f, rfl, hg, ⟨⟨cur, hheap, fun j hj => (hvs j hj).1⟩, fun j hj => (hvs j hj).2⟩⟩
def totR (rows : Nat → List Int) : Nat → Nat
 | 0 => 0
 | j + 1 => totR rows j + (rows j).length
theorem totR_le (rows : Nat → List Int) {i j : Nat} (h : i ≤ j) : totR rows i ≤ totR rows j := by
 induction h with
 | refl => exact Nat.le_refl _
 | step _ ih => exact Nat.le_trans ih (Nat.le_add_right _ _)
/-- The rows with their marks, up to the x-th. -/
def mkd (rows : Nat → List Int) (x : Nat) : Nat → List Int := fun j => if j < x then upI ((1 + totR rows j : Nat) : Int) (rows j).length else rows j
/-- Blocks that hold no whole numbers stay. -/
def Kp (w w' : World) : Prop := ∀ (k : Nat) (cs : Array Value) (t : TypeId), w.heap[k]? = some (.cells cs t (0, 0)) → t ≠ 3 → w'.heap[k]? = some (.cells cs t (0, 0))
theorem ap_step {W w' : World} {b g n : Nat} {vs : Nat → Value} {f : Nat → Nat} {rows : Nat → List Int} (x : Nat) (hx : x < n) (h : Ap W b g n vs f (mkd rows x)) (h1 : Kd.R (Kd.int .i64) 3 w' b (fun k => some k = (vs x).ownBlock ∨ W.heap.size ≤ k) (vs x) (upI ((1 + totR rows x : Nat) : Int) (rows x).length)) (hk : Kept W w' (fun k => some k = (vs x).ownBlock)) : Ap w' b g n vs f (mkd rows (x + 1)) ∧ Kp W w' := by
 obtain ⟨⟨cur, c1, c2⟩, c3⟩ := h; have hty := Kd.R_typed (c3 x hx)
 have keep : Kp W w' := fun k cs t e ht => by
  refine (hk.2 k (blk_lt e) (fun hs => ?_)).trans e; obtain ⟨cells, hc⟩ := hty k hs.symm; rw [e] at hc
  injection hc with hc
  injection hc with _ hc
  exact ht hc
 refine ⟨⟨⟨cur, keep g cur 39 c1 (by decide), c2⟩, fun j hj => ?_⟩, keep⟩
 by_cases hjx : j = x
 ·
  subst hjx; have e : mkd rows (j + 1) j = upI ((1 + totR rows j : Nat) : Int) (rows j).length := by unfold mkd; rw [if_pos (by omega)]
  rw [e]; exact Kd.R_reok rfl h1 (fun k hk => (c3 j hj).1 k hk)
 ·
  have e : mkd rows (x + 1) j = mkd rows x j := by
   unfold mkd
   by_cases h1 : j < x
   ·
    rw [if_pos h1, if_pos (by omega)]
   ·
    rw [if_neg h1, if_neg (by omega)]
  rw [e]; exact Kd.R_mono (Kd.R_keptB (c3 j hj) hk (fun k hk hs => hjx (hk.symm.trans ((c3 x hx).1 k hs.symm)))) (fun k hk => hk.1)
theorem Kp.trans {a b c : World} (h : Kp a b) (h' : Kp b c) : Kp a c := fun k cs t e ht => h' k cs t (h k cs t e ht) ht
set_option maxRecDepth 100000 in
set_option maxHeartbeats 4000000 in
theorem markSS (w00 w : World) (g n cap : Nat) (vs : Nat → Value) (f : Nat → Nat) (rows : Nat → List Int) (h : Ap w w00.heap.size g n vs f rows) (hB : Below w00.heap.size w00 w) (ht : totR rows n ≤ 100000000) (hn : n ≤ 100000000) :
  Calls Try.prog 11 #[.slice (some ⟨g, 0, none⟩) n cap, .int .i64 1] w fun e w' => e = .returned (.int .i64 ((1 + totR rows n : Nat) : Int)) ∧ Ap w' w00.heap.size g n vs f (mkd rows n) ∧ Below w00.heap.size w00 w' ∧ Kp w w' := by
 have HA0 : Aside0 (Ap w w00.heap.size g n vs f (mkd rows 0)) := ⟨by
  refine ⟨h.1, fun j hj => ?_⟩; have := h.2 j hj; unfold mkd; rwa [if_neg (by omega)]⟩
 have HB0 := Aside0.mk hB; clear h hB
 go_enter Try.func11, Try.ntmps11
 go_wp2
 go_loopg [1, 5] n (fun gg s1 s5 wr => ∃ (x : Nat) (kk : Int), x ≤ n ∧ n - x ≤ gg ∧ s1 = .int .i64 kk ∧ s5 = .int .i64 (x : Int) ∧ Aside0 (kk = ((1 + totR rows x : Nat) : Int)) ∧ Aside0 (Ap wr w00.heap.size g n vs f (mkd rows x)) ∧ Aside0 (Below w00.heap.size w00 wr) ∧ Aside0 (Kp w wr))
 case atStart => exact ⟨0, 1, Nat.zero_le _, by omega, rfl, rfl, ⟨rfl⟩, HA0, HB0, ⟨fun _ _ _ e _ => e⟩⟩
 case round =>
  obtain ⟨x, kk, hx, hgg, rfl, rfl, HK, HA, HB, HP⟩ := hrel
  by_cases hlt : x < n
  ·
   have hxi : (x : Int) < (n : Int) := by omega
   have hx0 : (0 : Int) ≤ (x : Int) := by omega
   have hsm := totR_le rows (show x + 1 ≤ n from hlt); simp only [totR] at hsm; have hrx : mkd rows x x = rows x := by unfold mkd; rw [if_neg (by omega)]
   have hR := HA.out.2 x hlt; rw [hrx] at hR; obtain ⟨cur, h1, h2⟩ := HA.out.1; obtain ⟨A, c, hv⟩ := Kd.R_slice hR; have c0 : wr.cell? ⟨g, x, none⟩ = some (.slice A (rows x).length c) := by rw [blk_cell h1, h2 x hlt, hv]
   have hT : Calls Try.prog 23 #[.slice A (rows x).length c, .int .i64 kk] wr fun e w' => e = .returned (.int .i64 ((1 + totR rows (x + 1) : Nat) : Int)) ∧ Ap w' w00.heap.size g n vs f (mkd rows (x + 1)) ∧ Below w00.heap.size w00 w' ∧ Kp wr w' := by
    have hm := marksI (1 + totR rows x) (rows x) (by omega); rw [HK.out]; have := laws_markIntS.calls ((rows x).length + 1) _ (vs x) (rows x) ((1 + totR rows x : Nat) : Int) _ _ w00 wr HB.out (Kd.R_tight rfl hR) hm; rw [← hv]; refine this.mono ?_; rintro e w' ⟨rfl, r1, r2, r3⟩; obtain ⟨q1, q2⟩ := ap_step x hlt HA.out r1 r3; exact ⟨by rw [show 1 + totR rows x + (rows x).length = 1 + totR rows (x + 1) by simp only [totR]; omega], q1, r2, q2⟩
   have HT := Aside0.mk hT; clear hT hR h1 h2 hv
   go_wp2_with (go_at_call 23; refine HT.out.mono ?_; rintro e w1 ⟨rfl, ha1, hb1, hp1⟩)
   go_roundg (n - (x + 1))
   case measure => omega
   case rel => exact ⟨x + 1, _, by omega, by omega, rfl, by first | rfl | (congr 1; omega) | (rw [wN _ (by omega) (by omega)]; rfl) | (rw [wN _ (by omega) (by omega)]; congr 1; omega), ⟨rfl⟩, ⟨ha1⟩, ⟨hb1⟩, ⟨HP.out.trans hp1⟩⟩
  ·
   go_wp2
   go_ret
   obtain rfl : x = n := by omega
   have hkk := HK.out; clear HK; subst hkk; exact ⟨rfl, HA.out, HB.out, HP.out⟩
set_option maxRecDepth 100000 in
set_option maxHeartbeats 4000000 in
theorem markSS0 (w : World) (A : Option Addr) (cap : Nat) : Calls Try.prog 11 #[.slice A 0 cap, .int .i64 1] w fun e w' => e = .returned (.int .i64 1) ∧ w' = w := by
 go_enter Try.func11, Try.ntmps11
 go_wp2
 go_loopg [1, 5] 0 (fun gg s1 s5 wr => s1 = .int .i64 1 ∧ s5 = .int .i64 0 ∧ wr = w)
 case atStart => exact ⟨rfl, rfl, rfl⟩
 case round =>
  obtain ⟨rfl, rfl, rfl⟩ := hrel
  go_wp2
  go_ret
  exact ⟨rfl, rfl⟩
set_option maxRecDepth 100000 in
set_option maxHeartbeats 4000000 in
theorem heldSS0 (w : World) (A : Option Addr) (cap : Nat) : Calls Try.prog 12 #[.slice A 0 cap, .int .i64 1] w fun e w' => e = .returned (.int .i64 1) ∧ w' = w := by
 go_enter Try.func12, Try.ntmps12
 go_wp2
 go_loopg [1, 5] 0 (fun gg s1 s5 wr => s1 = .int .i64 1 ∧ s5 = .int .i64 0 ∧ wr = w)
 case atStart => exact ⟨rfl, rfl, rfl⟩
 case round =>
  obtain ⟨rfl, rfl, rfl⟩ := hrel
  go_wp2
  go_ret
  exact ⟨rfl, rfl⟩
set_option maxRecDepth 100000 in
set_option maxHeartbeats 4000000 in
theorem heldSS (w : World) (b g n cap : Nat) (vs : Nat → Value) (f : Nat → Nat) (rows : Nat → List Int) (h : Ap w b g n vs f (mkd rows n)) (ht : totR rows n ≤ 100000000) (hn : n ≤ 100000000) :
  Calls Try.prog 12 #[.slice (some ⟨g, 0, none⟩) n cap, .int .i64 1] w fun e w' => e = .returned (.int .i64 ((1 + totR rows n : Nat) : Int)) ∧ Below w.heap.size w w' := by
 have HA := Aside0.mk h; clear h
 go_enter Try.func12, Try.ntmps12
 go_wp2
 go_loopg [1, 5] n (fun gg s1 s5 wr => ∃ (x : Nat) (kk : Int), x ≤ n ∧ n - x ≤ gg ∧ s1 = .int .i64 kk ∧ s5 = .int .i64 (x : Int) ∧ Aside0 (kk = ((1 + totR rows x : Nat) : Int)) ∧ Aside0 (Below w.heap.size w wr))
 case atStart => exact ⟨0, 1, Nat.zero_le _, by omega, rfl, rfl, ⟨rfl⟩, ⟨Below.refl _ _⟩⟩
 case round =>
  obtain ⟨x, kk, hx, hgg, rfl, rfl, HK, HB⟩ := hrel
  by_cases hlt : x < n
  ·
   have hxi : (x : Int) < (n : Int) := by omega
   have hx0 : (0 : Int) ≤ (x : Int) := by omega
   have hsm := totR_le rows (show x + 1 ≤ n from hlt); simp only [totR] at hsm; have hrx : mkd rows n x = upI ((1 + totR rows x : Nat) : Int) (rows x).length := by unfold mkd; rw [if_pos hlt]
   have hA := HA.out.below HB.out; have hR := hA.2 x hlt; rw [hrx] at hR; obtain ⟨cur, h1, h2⟩ := hA.1; obtain ⟨A, c, hv, hl, hC⟩ := Kd.R_reads hR; have c0 : wr.cell? ⟨g, x, none⟩ = some (.slice A (upI ((1 + totR rows x : Nat) : Int) (rows x).length).length c) := by rw [blk_cell h1, h2 x hlt, hv]
   have hT : Calls Try.prog 24 #[.slice A (upI ((1 + totR rows x : Nat) : Int) (rows x).length).length c, .int .i64 kk] wr fun e w' => e = .returned (.int .i64 ((1 + totR rows (x + 1) : Nat) : Int)) ∧ Below wr.heap.size wr w' := by
    have hm := heldsI (1 + totR rows x) (rows x).length (by omega); rw [HK.out]; refine (laws_heldIntS.calls _ A c _ _ _ wr hC hl hm).mono ?_; rintro e w' ⟨rfl, hd⟩; exact ⟨by rw [show 1 + totR rows x + (rows x).length = 1 + totR rows (x + 1) by simp only [totR]; omega], hd.below⟩
   have HT := Aside0.mk hT; have hneg : decide ((((1 + totR rows (x + 1) : Nat) : Int)) < 0) = false := decide_eq_false (by omega); clear hT hR h1 h2 hv hC hA hl; generalize hL : (upI ((1 + totR rows x : Nat) : Int) (rows x).length).length = L at *; generalize hKK : ((1 + totR rows (x + 1) : Nat) : Int) = KK at *
   go_wp2_with (go_at_call 24; refine HT.out.mono ?_; rintro e w1 ⟨rfl, hb1⟩)
   go_roundg (n - (x + 1))
   case measure => omega
   case rel => exact ⟨x + 1, _, by omega, by omega, rfl, by first | rfl | (congr 1; omega) | (rw [wN _ (by omega) (by omega)]; rfl) | (rw [wN _ (by omega) (by omega)]; congr 1; omega), ⟨hKK.symm⟩, ⟨below_step HB.out hb1⟩⟩
  ·
   go_wp2
   go_ret
   obtain rfl : x = n := by omega
   have hkk := HK.out; clear HK; subst hkk; exact ⟨rfl, HB.out⟩
abbrev Sl := Option Addr × Nat × Nat
theorem blk_b {W W' : World} {g : Nat} {o : Obj} (hb : Below W.heap.size W W') (h : W.heap[g]? = some o) : W'.heap[g]? = some o := (hb.block _ (blk_lt h)).trans h
theorem al_new (w : World) (o : Obj) {g : Nat} (h : g = w.heap.size) : (w.alloc o).heap[g]? = some o := by
 subst h; show (w.heap.push _)[w.heap.size]? = _
 simp
theorem al_old {w : World} {g : Nat} {x : Obj} (h : w.heap[g]? = some x) (o : Obj) : (w.alloc o).heap[g]? = some x :=
 (((Below.refl w.heap.size w).alloc (Nat.le_refl _) o).block g (blk_lt h)).trans h
theorem al_b (w : World) (o : Obj) : Below w.heap.size w (w.alloc o) := (Below.refl w.heap.size w).alloc (Nat.le_refl _) o
set_option maxRecDepth 100000 in
set_option maxHeartbeats 4000000 in
theorem nest_walk (a0 : Int) (y : Sl) (t kk m : Int) (ht : decide (t < 0) = false) (hk : decide (kk < 0) = false) (hm : decide (m < 0) = false) (G S U V : World → Nat → Sl → Prop) (w : World)
  (hGb : ∀ W W' b x, G W b x → Below W.heap.size W W' → G W' b x) (hSb : ∀ W W' b x, S W b x → Below W.heap.size W W' → S W' b x) (hUb : ∀ W W' b x, U W b x → Below W.heap.size W W' → U W' b x) (hVb : ∀ W W' b x, V W b x → Below W.heap.size W W' → V W' b x)
  (hUl : ∀ W b b' x, U W b x → b' ≤ b → U W b' x) (hUm : ∀ W W' b x, U W b x → Mv W W' → U W' b x)
  (hSz : ∀ W, Below w.heap.size w W → Calls Try.prog 4 #[.agg #[.int .i64 a0, .slice y.1 y.2.1 y.2.2], .int .i64 1048576] W fun e w' => e = .returned (.int .i64 t) ∧ Below W.heap.size W w')
  (hT : ∀ W, Below w.heap.size w W → Calls Try.prog 6 #[.agg #[.int .i64 a0, .slice y.1 y.2.1 y.2.2]] W fun e w' => ∃ x : Sl, e = .returned (.agg #[.int .i64 a0, .slice x.1 x.2.1 x.2.2]) ∧ G w' W.heap.size x ∧ Below W.heap.size W w')
  (hN : ∀ W b x, G W b x → Calls Try.prog 5 #[.agg #[.int .i64 a0, .slice x.1 x.2.1 x.2.2]] W fun e w' => ∃ s : Sl, e = .returned (.slice s.1 s.2.1 s.2.2) ∧ S w' W.heap.size s ∧ Below W.heap.size W w')
  (hI : ∀ W b x, G W b x → Calls Try.prog 7 #[.agg #[.int .i64 a0, .slice x.1 x.2.1 x.2.2]] W fun e w' => ∃ s : Sl, e = .returned (.slice s.1 s.2.1 s.2.2) ∧ U w' W.heap.size s ∧ Below W.heap.size W w')
  (hE : ∀ W b b' v s, U W b v → S W b' s → Calls Try.prog 8 #[.slice v.1 v.2.1 v.2.2, .slice s.1 s.2.1 s.2.2] W fun e w' => e = .returned (.bool true) ∧ Below W.heap.size W w')
  (hEG : ∀ W b b' x z, G W b x → G W b' z → Calls Try.prog 9 #[.agg #[.int .i64 a0, .slice x.1 x.2.1 x.2.2], .agg #[.int .i64 a0, .slice z.1 z.2.1 z.2.2]] W fun e w' => e = .returned (.bool true) ∧ Below W.heap.size W w')
  (hMG : ∀ W (B : World) x, G W B.heap.size x → Below B.heap.size B W → Calls Try.prog 10 #[.agg #[.int .i64 a0, .slice x.1 x.2.1 x.2.2], .int .i64 1] W fun e w' => e = .returned (.int .i64 kk) ∧ Mv W w' ∧ Below B.heap.size B w')
  (hM : ∀ W (B : World) v, U W B.heap.size v → Below B.heap.size B W → Calls Try.prog 11 #[.slice v.1 v.2.1 v.2.2, .int .i64 1] W fun e w' => e = .returned (.int .i64 m) ∧ V w' B.heap.size v ∧ Below B.heap.size B w')
  (hH : ∀ W b v, V W b v → Calls Try.prog 12 #[.slice v.1 v.2.1 v.2.2, .int .i64 1] W fun e w' => e = .returned (.int .i64 m) ∧ Below W.heap.size W w') :
  Calls Try.prog 3 #[.agg #[.int .i64 a0, .slice y.1 y.2.1 y.2.2]] w fun e w' => e = .returned (.bool true) ∧ Below w.heap.size w w' := by
 have hmm : (m != m) = false := bne_self_eq_false m; have HA := Aside0.mk (al_b w (.cells #[.int .i64 a0, .slice y.1 y.2.1 y.2.2] 24 (0, 0)))
 go_enter Try.func3, Try.ntmps3
 go_upto_region 5 with (go_at_call 4; refine (hSz _ HA.out).mono ?_; rintro e wz ⟨rfl, hbz⟩)
 have Pz := blk_b hbz (al_new w (.cells #[.int .i64 a0, .slice y.1 y.2.1 y.2.2] 24 (0, 0)) rfl); have HBz := Aside0.mk (below_step HA.out hbz); have p0 := (blk_cell Pz 0).trans (show _ = some (.int .i64 a0) from rfl); have p1 := (blk_cell Pz 1).trans (show _ = some (.slice y.1 y.2.1 y.2.2) from rfl); have HPz := Aside0.mk Pz; clear Pz hbz HA
 go_upto_region 6 with (first | (go_at_call 6; refine (hT _ HBz.out).mono ?_; rintro e wa ⟨xa, rfl, hga, hba⟩) | (go_at_call 5; refine (hN _ _ _ hga).mono ?_; rintro e wX ⟨s, rfl, hs, hbs⟩))
 have PX := blk_b hbs (blk_b hba HPz.out); have HBX := Aside0.mk (below_step (below_step HBz.out hba) hbs); have HSX := Aside0.mk hs; have q0 := (blk_cell PX 0).trans (show _ = some (.int .i64 a0) from rfl); have q1 := (blk_cell PX 1).trans (show _ = some (.slice y.1 y.2.1 y.2.2) from rfl); have HPX := Aside0.mk PX; clear p0 p1 hga hba hs hbs PX HPz HBz
 go_upto_region 7 with (go_at_call 6; refine (hT _ HBX.out).mono ?_; rintro e w6 ⟨x, rfl, hg6, hb6⟩)
 have R6 := al_new w6 (.cells #[.int .i64 a0, .slice x.1 x.2.1 x.2.2] 30 (0, 0)) rfl; have HG6 := Aside0.mk (hGb _ (w6.alloc (.cells #[.int .i64 a0, .slice x.1 x.2.1 x.2.2] 30 (0, 0))) _ _ hg6 (al_b _ _)); have HB6 := Aside0.mk (show Below wX.heap.size wX (w6.alloc (.cells #[.int .i64 a0, .slice x.1 x.2.1 x.2.2] 30 (0, 0))) from below_step hb6 (al_b _ _)); have HR6 := Aside0.mk R6; clear q0 q1 hg6 hb6 R6
 go_upto_region 8 with (go_at_call 7; refine (hI _ _ _ HG6.out).mono ?_; rintro e w7 ⟨v, rfl, hu7, hb7⟩)
 have HG7 := Aside0.mk (hGb _ _ _ _ HG6.out hb7); have HR7 := Aside0.mk (blk_b hb7 HR6.out); have HU7 := Aside0.mk (hUl _ _ _ _ hu7 HB6.out.size); have HB7 := Aside0.mk (below_step HB6.out hb7); clear hu7 hb7 HG6 HR6 HB6
 go_upto_region 10 with (go_at_call 8; refine (hE _ _ _ _ _ HU7.out (hSb _ _ _ _ HSX.out HB7.out)).mono ?_; rintro e w8 ⟨rfl, hb8⟩)
 have HG8 := Aside0.mk (hGb _ _ _ _ HG7.out hb8); have HR8 := Aside0.mk (blk_b hb8 HR7.out); have HU8 := Aside0.mk (hUb _ _ _ _ HU7.out hb8); have HB8 := Aside0.mk (below_step HB7.out hb8); clear hb8 HG7 HR7 HU7 HB7; have hdr : Below w8.heap.size w8 w8.drew := below_drew (Below.refl _ _); have HG9 := Aside0.mk (hGb _ _ _ _ HG8.out hdr); have HR9 := Aside0.mk (blk_b hdr HR8.out); have HU9 := Aside0.mk (hUb _ _ _ _ HU8.out hdr); have HB9 := Aside0.mk (below_step HB8.out hdr); clear hdr HG8 HR8 HU8 HB8; have HP9 := Aside0.mk (blk_b HB9.out HPX.out); refine start_ (n := 5) (S := fun w' => w'.cell? ⟨w6.heap.size, 0, none⟩ = some (.int .i64 a0) ∧ w'.cell? ⟨w6.heap.size, 1, none⟩ = some (.slice x.1 x.2.1 x.2.2) ∧ w'.cell? ⟨w.heap.size, 0, none⟩ = some (.int .i64 a0) ∧ w'.cell? ⟨w.heap.size, 1, none⟩ = some (.slice y.1 y.2.1 y.2.2)) (ds := []) #[false, false, false, false, false] (by kernel_rfl) rfl rfl ⟨(blk_cell HR9.out 0).trans rfl, (blk_cell HR9.out 1).trans rfl, (blk_cell HP9.out 0).trans rfl, (blk_cell HP9.out 1).trans rfl⟩ (fun hHeld => ?_); generalize w8.drew = w9 at HG9 HR9 HU9 HB9 HP9 hHeld ⊢; refine take_ (i := 0) (N := some 27) (v := ?_) (a' := ?_) #[true, false, false, false, false] rfl rfl (by kernel_rfl) (fun _ _ _ h => h) (Or.inl ⟨by rfl, ?_⟩) hHeld ?_ ?_; rotate_left
 ·
  rintro w' ⟨s0, s1, s2, s3⟩; go_simp; with_reducible rfl
 rotate_left
 ·
  simp only [Act.put, List.setIfInBounds_toArray, List.set_cons_zero, List.set_cons_succ, i64_w, i32_w]; rfl
 refine take_ (i := 1) (N := some 28) (v := ?_) (a' := ?_) #[true, true, false, false, false] rfl rfl (by kernel_rfl) (fun _ _ _ h => h) (Or.inl ⟨by rfl, ?_⟩) hHeld ?_ ?_; rotate_left
 ·
  rintro w' ⟨s0, s1, s2, s3⟩; go_simp; with_reducible rfl
 rotate_left
 ·
  simp only [Act.put, List.setIfInBounds_toArray, List.set_cons_zero, List.set_cons_succ, i64_w, i32_w]; rfl
 refine one_ (i := 2) (N := some 29) #[true, true, true, false, false] rfl rfl (by kernel_rfl) (by decide) (fun K hK => ?_); refine goes_ Try.func6 (by kernel_rfl) rfl #[.agg #[.int .i64 a0, .slice y.1 y.2.1 y.2.2]] (by rfl) rfl rfl (by (try simp only [List.map_toArray, List.map_cons, List.map_nil]); first | done | rfl) ?_; refine (hT _ (below_step HBX.out HB9.out)).mono ?_; rintro e w10 ⟨z, rfl, hg10, hb10⟩; refine ⟨_, rfl, ?_⟩; have HG10 := Aside0.mk (hGb _ _ _ _ HG9.out hb10); have HR10 := Aside0.mk (blk_b hb10 HR9.out); have HP10 := Aside0.mk (blk_b hb10 HP9.out); have HU10 := Aside0.mk (hUb _ _ _ _ HU9.out hb10); have HB10 := Aside0.mk (below_step HB9.out hb10); have HGz := Aside0.mk hg10; clear hg10 hb10 HG9 HR9 HP9 HU9 HB9; refine hK.out _ _ ⟨(blk_cell HR10.out 0).trans rfl, (blk_cell HR10.out 1).trans rfl, (blk_cell HP10.out 0).trans rfl, (blk_cell HP10.out 1).trans rfl⟩ (fun hHeld => ?_); clear hK K; refine norm_y 29 (h := ?_)
 refine one_ (i := 3) (N := some 30) #[true, true, true, true, false] rfl rfl (by kernel_rfl) (by decide) (fun K hK => ?_); refine goes_ Try.func9 (by kernel_rfl) rfl #[.agg #[.int .i64 a0, .slice x.1 x.2.1 x.2.2], .agg #[.int .i64 a0, .slice z.1 z.2.1 z.2.2]] (by rfl) rfl rfl (by (try simp only [List.map_toArray, List.map_cons, List.map_nil]); first | done | rfl) ?_; refine (hEG _ _ _ _ _ HG10.out HGz.out).mono ?_; rintro e w11 ⟨rfl, hb11⟩; refine ⟨_, rfl, ?_⟩; have HG11 := Aside0.mk (hGb _ _ _ _ HG10.out hb11); have HR11 := Aside0.mk (blk_b hb11 HR10.out); have HP11 := Aside0.mk (blk_b hb11 HP10.out); have HU11 := Aside0.mk (hUb _ _ _ _ HU10.out hb11); have HB11 := Aside0.mk (below_step HB10.out hb11); clear hb11 HG10 HR10 HP10 HU10 HB10 HGz; refine hK.out _ _ ⟨(blk_cell HR11.out 0).trans rfl, (blk_cell HR11.out 1).trans rfl, (blk_cell HP11.out 0).trans rfl, (blk_cell HP11.out 1).trans rfl⟩ (fun hHeld => ?_); clear hK K; refine norm_y 30 (h := ?_)
 refine pure_ (i := 4) (N := some 31) (v := ?_) (a' := ?_) #[true, true, true, true, true] rfl rfl (by kernel_rfl) (fun _ _ _ h => h) (Or.inl ⟨by rfl, ?_⟩) ?_ ?_; rotate_left
 ·
  intro w'; go_simp; with_reducible rfl
 rotate_left
 ·
  simp only [Act.put, List.setIfInBounds_toArray, List.set_cons_zero, List.set_cons_succ, i64_w, i32_w]; rfl
 refine done_ (by kernel_rfl) ?_; have r0 := (blk_cell HR11.out 0).trans (show _ = some (.int .i64 a0) from rfl); have r1 := (blk_cell HR11.out 1).trans (show _ = some (.slice x.1 x.2.1 x.2.2) from rfl); clear hHeld HP11
 go_upto_region 14 with (go_at_call 10; refine (hMG _ _ _ HG11.out HB11.out).mono ?_; rintro e w13 ⟨rfl, hm13, hb13⟩)
 have HU13 := Aside0.mk (hUm _ _ _ _ HU11.out hm13); have HB13 := Aside0.mk hb13; clear r0 r1 hm13 hb13 HG11 HR11 HU11 HB11
 go_upto_region 17 with (go_at_call 8; refine (hE _ _ _ _ _ HU13.out (hSb _ _ _ _ HSX.out HB13.out)).mono ?_; rintro e w14 ⟨rfl, hb14⟩)
 have HU14 := Aside0.mk (hUb _ _ _ _ HU13.out hb14); have HB14 := Aside0.mk (below_step HB13.out hb14); clear hb14 HU13 HB13
 go_upto_region 19 with (go_at_call 11; refine (hM _ _ _ HU14.out HB14.out).mono ?_; rintro e w17 ⟨rfl, hv17, hb17⟩)
 have HV17 := Aside0.mk hv17; have HB17 := Aside0.mk hb17; clear hv17 hb17 HU14 HB14
 go_upto_region 24 with (go_at_call 12; refine (hH _ _ _ HV17.out).mono ?_; rintro e w19 ⟨rfl, hb19⟩)
 have HV19 := Aside0.mk (hVb _ _ _ _ HV17.out hb19); have HB19 := Aside0.mk (below_step HB17.out hb19); have P19 := blk_b HB19.out HPX.out; have u0 := (blk_cell P19 0).trans (show _ = some (.int .i64 a0) from rfl); have u1 := (blk_cell P19 1).trans (show _ = some (.slice y.1 y.2.1 y.2.2) from rfl); clear hb19 P19 HV17 HB17
 go_upto_region 25 with (first | (go_at_call 6; refine (hT _ (below_step HBX.out HB19.out)).mono ?_; rintro e wc ⟨xc, rfl, hgc, hbc⟩) | (go_at_call 7; refine (hI _ _ _ hgc).mono ?_; rintro e w24 ⟨h0, rfl, hu24, hb24⟩))
 have HV24 := Aside0.mk (hVb _ _ _ _ (hVb _ _ _ _ HV19.out hbc) hb24); have HB24 := Aside0.mk (below_step (below_step HB19.out hbc) hb24); have HU24 := Aside0.mk hu24; clear u0 u1 hgc hbc hu24 hb24 HV19 HB19
 go_upto_region 28 with (go_at_call 8; refine (hE _ _ _ _ _ HU24.out (hSb _ _ _ _ HSX.out HB24.out)).mono ?_; rintro e w25 ⟨rfl, hb25⟩)
 have HV25 := Aside0.mk (hVb _ _ _ _ HV24.out hb25); have HB25 := Aside0.mk (below_step HB24.out hb25); clear hb25 HV24 HB24 HU24
 go_wp2_with (go_at_call 12; refine (hH _ _ _ HV25.out).mono ?_; rintro e w28 ⟨rfl, hb28⟩)
 go_ret
 exact ⟨rfl, below_step (below_step HBX.out HB25.out) hb28⟩
set_option maxRecDepth 100000 in
set_option maxHeartbeats 4000000 in
theorem nest_big (a0 : Int) (y : Sl) (t : Int) (ht : decide (t < 0) = true) (w : World)
  (hSz : ∀ W, Below w.heap.size w W → Calls Try.prog 4 #[.agg #[.int .i64 a0, .slice y.1 y.2.1 y.2.2], .int .i64 1048576] W fun e w' => e = .returned (.int .i64 t) ∧ Below W.heap.size W w') :
  Calls Try.prog 3 #[.agg #[.int .i64 a0, .slice y.1 y.2.1 y.2.2]] w fun e w' => e = .returned (.bool true) ∧ Below w.heap.size w w' := by
 have HA := Aside0.mk (al_b w (.cells #[.int .i64 a0, .slice y.1 y.2.1 y.2.2] 24 (0, 0)))
 go_enter Try.func3, Try.ntmps3
 go_wp2_with (go_at_call 4; refine (hSz _ HA.out).mono ?_; rintro e wz ⟨rfl, hbz⟩)
 go_ret
 exact ⟨rfl, below_step HA.out hbz⟩
/-- A copied graph. -/
def GAt (zs : List S58) (W : World) (b : Nat) (x : Sl) : Prop := Kd.R k58 58 W b (fun _ => True) (.slice x.1 x.2.1 x.2.2) zs
/-- A made row of rows, of which no two lie in one block. -/
def RAt (rs : List (List Int)) (W : World) (b : Nat) (x : Sl) : Prop := Kd.S (Kd.slice 3 (Kd.int .i64)) 39 W b (fun _ => True) (.slice x.1 x.2.1 x.2.2) rs
def rowsOf (rs : List (List Int)) : Nat → List Int := fun j => rs.getD j []
/-- The same row with its marks. -/
def MAt (rs : List (List Int)) (W : World) (b : Nat) (x : Sl) : Prop := (rs = [] ∧ x.2.1 = 0) ∨ ∃ g cap vs f, x = (some ⟨g, 0, none⟩, rs.length, cap) ∧ Ap W b g rs.length vs f (mkd (rowsOf rs) rs.length)
theorem GAt.reads {zs : List S58} {W : World} {b : Nat} {x : Sl} (h : GAt zs W b x) : x.2.1 = zs.length ∧ zs.length ≤ x.2.2 ∧ Kd.C k58 W x.1 zs.length zs := by
 obtain ⟨h1, h2, h3⟩ := Kd.R_reads' h; exact ⟨h1, by omega, h3⟩
theorem RAt.reads {rs : List (List Int)} {W : World} {b : Nat} {x : Sl} (h : RAt rs W b x) : x.2.1 = rs.length ∧ rs.length ≤ x.2.2 ∧ Kd.C (Kd.slice 3 (Kd.int .i64)) W x.1 rs.length rs := by
 obtain ⟨h1, h2, h3⟩ := Kd.S_reads' h; exact ⟨h1, by omega, h3⟩
theorem RAt.mv {rs : List (List Int)} {W W' : World} {b : Nat} {x : Sl} (h : RAt rs W b x) (m : Mv W W') : RAt rs W' b x := by
 obtain ⟨f, h⟩ := h; exact ⟨f, Mv.row m h (fun q hq => (show ∀ q, q ∈ [39, 3] → q ≠ 56 ∧ q ≠ 58 by decide) q hq)⟩
theorem RAt.mark {rs : List (List Int)} {W B : World} {x : Sl} (h : RAt rs W B.heap.size x) (hB : Below B.heap.size B W) (ht : totR (rowsOf rs) rs.length ≤ 100000000) (hn : rs.length ≤ 100000000) :
  Calls Try.prog 11 #[.slice x.1 x.2.1 x.2.2, .int .i64 1] W fun e w' => e = .returned (.int .i64 ((1 + totR (rowsOf rs) rs.length : Nat) : Int)) ∧ MAt rs w' B.heap.size x ∧ Below B.heap.size B w' := by
 rcases ap_of h with ⟨rfl, A, c, hv⟩ | ⟨g, cap, vs, f, hv, hg, ha⟩
 ·
  injection hv with e1 e2 e3
  rw [e1, e2, e3]; refine (markSS0 W A c).mono ?_; rintro e w' ⟨rfl, rfl⟩; exact ⟨rfl, .inl ⟨rfl, e2⟩, hB⟩
 ·
  injection hv with e1 e2 e3
  rw [e1, e2, e3]; refine (markSS B W g rs.length cap vs f (rowsOf rs) ha hB ht hn).mono ?_; rintro e w' ⟨rfl, h1, h2, _⟩; refine ⟨rfl, .inr ⟨g, cap, vs, f, ?_, h1⟩, h2⟩; obtain ⟨x1, x2, x3⟩ := x; simp only at e1 e2 e3; rw [e1, e2, e3]
theorem MAt.below {rs : List (List Int)} {W W' : World} {b : Nat} {x : Sl} (h : MAt rs W b x) (hb : Below W.heap.size W W') : MAt rs W' b x := by
 rcases h with h | ⟨g, cap, vs, f, e, h⟩
 ·
  exact .inl h
 ·
  exact .inr ⟨g, cap, vs, f, e, h.below hb⟩
theorem MAt.held {rs : List (List Int)} {W : World} {b : Nat} {x : Sl} (h : MAt rs W b x) (ht : totR (rowsOf rs) rs.length ≤ 100000000) (hn : rs.length ≤ 100000000) :
  Calls Try.prog 12 #[.slice x.1 x.2.1 x.2.2, .int .i64 1] W fun e w' => e = .returned (.int .i64 ((1 + totR (rowsOf rs) rs.length : Nat) : Int)) ∧ Below W.heap.size W w' := by
 rcases h with ⟨rfl, e⟩ | ⟨g, cap, vs, f, rfl, h⟩
 ·
  rw [e]; refine (heldSS0 W _ _).mono ?_; rintro e w' ⟨rfl, rfl⟩; exact ⟨rfl, Below.refl _ _⟩
 ·
  exact heldSS W b g rs.length cap vs f (rowsOf rs) h ht hn
/-- What the law asks of the answers. -/
def laws_FnExactNestOf.f (k : Nat) (a0 : Int) (l : List S52) : Option Bool :=
 (laws_szGraph.f k a0 l 1048576).bind fun t => if t < 0 then some true else (laws_toGraph.f k a0 l).bind fun g => (spec_NestOf.f k g.1 g.2).bind fun s => (impl_NestOf.f k g.1 g.2).bind fun r =>
  if g.1 = a0 ∧ laws_eqIntSS.f k r s = some true ∧ laws_eqGraph.f k g.1 g.2 g.1 g.2 = some true ∧ cntE g.2 ≤ 100000000 ∧ totR (rowsOf r) r.length ≤ 100000000 ∧ r.length ≤ 100000000 then some true else none
theorem laws_FnExactNestOf.calls (k : Nat) (a0 : Int) (A0 : Option Addr) (c0 : Nat) (l : List S52) (r : Bool) (w : World) (hr0 : Kd.C k52 w A0 l.length l) (hc0 : l.length ≤ c0) (h : laws_FnExactNestOf.f k a0 l = some r) (hr_ : r = true) :
  Calls Try.prog 3 #[.agg #[.int .i64 a0, .slice A0 l.length c0]] w fun e w' => e = .returned (.bool r) ∧ Below w.heap.size w w' := by
 subst hr_; unfold laws_FnExactNestOf.f at h; obtain ⟨t, ht, h⟩ := Option.bind_eq_some_iff.mp h; have hSz : ∀ W, Below w.heap.size w W → Calls Try.prog 4 #[.agg #[.int .i64 a0, .slice A0 l.length c0], .int .i64 1048576] W fun e w' => e = .returned (.int .i64 t) ∧ Below W.heap.size W w' := fun W hW => laws_szGraph.calls k a0 A0 c0 l 1048576 t W (Kd.C_below hr0 hW) hc0 ht
 by_cases hneg : t < 0
 ·
  exact nest_big a0 (A0, l.length, c0) t (decide_eq_true hneg) w hSz
 ·
  rw [if_neg hneg] at h; obtain ⟨⟨g1, zs⟩, hg, h⟩ := Option.bind_eq_some_iff.mp h; obtain ⟨s, hs, h⟩ := Option.bind_eq_some_iff.mp h; obtain ⟨rr, hr, h⟩ := Option.bind_eq_some_iff.mp h
  split at h
  ·
   rename_i hc
   obtain ⟨e1, e2, e3, e4, e5, e6⟩ := hc; simp only at e1 e2 e3 e4 hs hr; subst e1; refine nest_walk g1 (A0, l.length, c0) t ((1 + cntE zs : Nat) : Int) ((1 + totR (rowsOf rr) rr.length : Nat) : Int) (decide_eq_false hneg) (decide_eq_false (by omega)) (decide_eq_false (by omega)) (GAt zs) (RAt s) (RAt rr) (MAt rr) w (fun _ _ _ _ h hb => Kd.R_below h hb) (fun _ _ _ _ h hb => Kd.S_below h hb) (fun _ _ _ _ h hb => Kd.S_below h hb) (fun _ _ _ _ h hb => h.below hb) (fun _ _ _ _ h hb => Kd.S_lower h hb) (fun _ _ _ _ h m => h.mv m) hSz ?_ ?_ ?_ ?_ ?_ ?_ ?_ ?_
   ·
    intro W hW; refine (laws_toGraph.calls k g1 A0 c0 l g1 zs W (Kd.C_below hr0 hW) hc0 hg).mono ?_; rintro e w' ⟨v, rfl, h1, h2⟩; obtain ⟨A, c, rfl⟩ := Kd.R_slice h1; exact ⟨(A, zs.length, c), rfl, h1, h2⟩
   ·
    intro W b x hx; obtain ⟨q1, q2, q3⟩ := hx.reads; rw [q1]; refine (spec_NestOf.calls k g1 _ _ zs s W q3 q2 hs).mono ?_; rintro e w' ⟨v, rfl, h1, h2⟩; obtain ⟨A, c, rfl⟩ := Kd.R_slice (Kd.S_R h1); exact ⟨(A, s.length, c), rfl, h1, h2⟩
   ·
    intro W b x hx; obtain ⟨q1, q2, q3⟩ := hx.reads; rw [q1]; refine (impl_NestOf.calls k g1 _ _ zs rr W q3 q2 hr).mono ?_; rintro e w' ⟨v, rfl, h1, h2⟩; obtain ⟨A, c, rfl⟩ := Kd.R_slice (Kd.S_R h1); exact ⟨(A, rr.length, c), rfl, h1, h2⟩
   ·
    intro W b b' v u hv hu; obtain ⟨q1, q2, q3⟩ := hv.reads; obtain ⟨p1, p2, p3⟩ := hu.reads; rw [q1, p1]; exact (laws_eqIntSS.calls k _ _ rr _ _ s true W q3 q2 p3 p2 e2).mono fun e w' h => ⟨h.1, h.2.below⟩
   ·
    intro W b b' x z hx hz; obtain ⟨q1, q2, q3⟩ := hx.reads; obtain ⟨p1, p2, p3⟩ := hz.reads; rw [q1, p1]; exact laws_eqGraph.calls k g1 _ _ zs g1 _ _ zs true W q3 q2 p3 p2 e3
   ·
    intro W B x hx hB; exact laws_markGraph.calls g1 _ zs 1 _ B W _ hB hx (by unfold laws_markGraph.f; rw [if_pos ⟨rfl, e4⟩])
   ·
    intro W B v hv hB; exact hv.mark hB e5 e6
   ·
    intro W b v hv; exact hv.held e5 e6
  ·
   cases h


end Go.Proofs.Ytmdebfbkehnocaa.Q
