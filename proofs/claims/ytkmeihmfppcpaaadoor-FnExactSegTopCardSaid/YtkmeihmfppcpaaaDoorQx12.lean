/- Functions of the translation as Lean functions, each with a proof that a call answers so; out of the seat, by this claim's own program prt.py. -/
import Derived.Test.YtkmeihmfppcpaaaDoorWRepsOne
import Derived.Test.YtkmeihmfppcpaaaDoorQx0
import Derived.Test.YtkmeihmfppcpaaaDoorQx2
import Derived.Test.YtkmeihmfppcpaaaDoorQx8
import Derived.Test.YtkmeihmfppcpaaaDoorQx10
import Derived.Test.YtkmeihmfppcpaaaDoorQx11
import Derived.Test.YtkmeihmfppcpaaaDoorQStep
namespace Go.Proofs.YtkmeihmfppcpaaaDoor.Q
open Go.RowKit Go.Proofs.YtkmeihmfppcpaaaDoorW.PrintWords Go.Proofs.YtkmeihmfppcpaaaDoorW.PrintLast Go.Proofs.YtkmeihmfppcpaaaDoorW.PrintMore
attribute [local go_sem] max2_int min2_int max_two min_two max_three min_three max_four min_four   -- for this text's walks alone
set_option linter.unusedVariables false
set_option linter.unusedSimpArgs false

/-! ### laws_FnExactSegTop: function 3 -/
set_option maxRecDepth 100000 in
set_option maxHeartbeats 4000000 in
theorem markSym1 (b : Nat) (p q k k1 k2 : Int) (e1 : wrap64 (k + 1) = k1) (e2 : wrap64 (k1 + 1) = k2) (w : World) (h : w.heap[b]? = some (.cells #[.int .i64 p, .int .i64 q] 42 (0, 0))) :
  Calls Tryd.prog 31 #[.slice (some ⟨b, 0, none⟩) 1 1, .int .i64 k] w fun e w' => e = .returned (.int .i64 k2) ∧ w' = (w.setCell ⟨b, 0, none⟩ (.int .i64 k)).setCell ⟨b, 1, none⟩ (.int .i64 k1) := by
 have c0 : w.cell? ⟨b, 0, none⟩ = some (.int .i64 p) := (blk_cell h 0).trans rfl; have c1 : w.cell? ⟨b, 1, none⟩ = some (.int .i64 q) := (blk_cell h 1).trans rfl; have f0 := blk_frozen h 0; have f1 := blk_frozen h 1
 go_enter Tryd.func31, Tryd.ntmps31
 go_wp2
 go_loopg [1, 5] 1 (fun gg s1 s5 wr => (s1 = .int .i64 k ∧ s5 = .int .i64 0 ∧ gg = 1 ∧ wr = w) ∨ (s1 = .int .i64 k2 ∧ s5 = .int .i64 1 ∧ wr = (w.setCell ⟨b, 0, none⟩ (.int .i64 k)).setCell ⟨b, 1, none⟩ (.int .i64 k1)))
 case atStart => exact .inl ⟨rfl, rfl, rfl, rfl⟩
 case round =>
  rcases hrel with ⟨rfl, rfl, rfl, rfl⟩ | ⟨rfl, rfl, rfl⟩
  ·
   go_wp2
   go_roundg 0
   case measure => omega
   case rel => exact .inr ⟨by first | rfl | (simp only [e1, e2]), rfl, by first | rfl | (simp only [e1, e2])⟩
  ·
   go_wp2
   go_ret
   exact ⟨rfl, rfl⟩
set_option maxRecDepth 100000 in
set_option maxHeartbeats 4000000 in
theorem markVal1 (b : Nat) (p q k k1 k2 k3 : Int) (f g : Bool) (e1 : wrap64 (k + 1) = k1) (e2 : wrap64 (k1 + 1) = k2) (e3 : wrap64 (k2 + 1) = k3) (eg : (Int.tmod k2 3 == 0) = g) (w : World) (h : w.heap[b]? = some (.cells #[.int .i64 p, .int .i64 q, .bool f] 34 (0, 0))) :
  Calls Tryd.prog 20 #[.slice (some ⟨b, 0, none⟩) 1 1, .int .i64 k] w fun e w' => e = .returned (.int .i64 k3) ∧ w' = ((w.setCell ⟨b, 0, none⟩ (.int .i64 k)).setCell ⟨b, 1, none⟩ (.int .i64 k1)).setCell ⟨b, 2, none⟩ (.bool g) := by
 have c0 : w.cell? ⟨b, 0, none⟩ = some (.int .i64 p) := (blk_cell h 0).trans rfl; have c1 : w.cell? ⟨b, 1, none⟩ = some (.int .i64 q) := (blk_cell h 1).trans rfl; have c2 : w.cell? ⟨b, 2, none⟩ = some (.bool f) := (blk_cell h 2).trans rfl; have f0 := blk_frozen h 0; have f1 := blk_frozen h 1; have f2 := blk_frozen h 2
 go_enter Tryd.func20, Tryd.ntmps20
 go_wp2
 go_loopg [1, 5] 1 (fun gg s1 s5 wr => (s1 = .int .i64 k ∧ s5 = .int .i64 0 ∧ gg = 1 ∧ wr = w) ∨ (s1 = .int .i64 k3 ∧ s5 = .int .i64 1 ∧ wr = ((w.setCell ⟨b, 0, none⟩ (.int .i64 k)).setCell ⟨b, 1, none⟩ (.int .i64 k1)).setCell ⟨b, 2, none⟩ (.bool g)))
 case atStart => exact .inl ⟨rfl, rfl, rfl, rfl⟩
 case round =>
  rcases hrel with ⟨rfl, rfl, rfl, rfl⟩ | ⟨rfl, rfl, rfl⟩
  ·
   go_wp2
   go_roundg 0
   case measure => omega
   case rel => exact .inr ⟨by first | rfl | (simp only [e1, e2, e3]), rfl, by first | rfl | (simp only [e1, e2, e3, eg])⟩
  ·
   go_wp2
   go_ret
   exact ⟨rfl, rfl⟩
set_option maxRecDepth 100000 in
set_option maxHeartbeats 4000000 in
theorem markBool1 (b : Nat) (k k1 : Int) (f g : Bool) (e1 : wrap64 (k + 1) = k1) (eg : (Int.tmod k 3 == 0) = g) (w : World) (h : w.heap[b]? = some (.cells #[.bool f] 4 (0, 0))) :
  Calls Tryd.prog 21 #[.slice (some ⟨b, 0, none⟩) 1 1, .int .i64 k] w fun e w' => e = .returned (.int .i64 k1) ∧ w' = w.setCell ⟨b, 0, none⟩ (.bool g) := by
 have c0 : w.cell? ⟨b, 0, none⟩ = some (.bool f) := (blk_cell h 0).trans rfl; have f0 := blk_frozen h 0
 go_enter Tryd.func21, Tryd.ntmps21
 go_wp2
 go_loopg [1, 5] 1 (fun gg s1 s5 wr => (s1 = .int .i64 k ∧ s5 = .int .i64 0 ∧ gg = 1 ∧ wr = w) ∨ (s1 = .int .i64 k1 ∧ s5 = .int .i64 1 ∧ wr = w.setCell ⟨b, 0, none⟩ (.bool g)))
 case atStart => exact .inl ⟨rfl, rfl, rfl, rfl⟩
 case round =>
  rcases hrel with ⟨rfl, rfl, rfl, rfl⟩ | ⟨rfl, rfl, rfl⟩
  ·
   go_wp2
   go_roundg 0
   case measure => omega
   case rel => exact .inr ⟨by first | rfl | (simp only [e1]), rfl, by first | rfl | (simp only [eg])⟩
  ·
   go_wp2
   go_ret
   exact ⟨rfl, rfl⟩
/-- A row's two cells are set. -/
def set2 (w : World) (b : Nat) (x y : Int) : World := (w.setCell ⟨b, 0, none⟩ (.int .i64 x)).setCell ⟨b, 1, none⟩ (.int .i64 y)
theorem set2_own {w : World} {b : Nat} {p q : Int} (x y : Int) (h : w.heap[b]? = some (.cells #[.int .i64 p, .int .i64 q] 42 (0, 0))) : (set2 w b x y).heap[b]? = some (.cells #[.int .i64 x, .int .i64 y] 42 (0, 0)) := by
 unfold set2; rw [blk_set (blk_set h 0 _) 1 _]; rfl
theorem set2_far {w : World} {b k : Nat} (x y : Int) (h : k ≠ b) : (set2 w b x y).heap[k]? = w.heap[k]? := by
 unfold set2; rw [Below.heap_setCell _ _ _ _ h, Below.heap_setCell _ _ _ _ h]
set_option maxRecDepth 100000 in
set_option maxHeartbeats 4000000 in
theorem markRows2 (bo b1 b2 : Nat) (p q r s : Int) (w : World) (ho : w.heap[bo]? = some (.cells #[.slice (some ⟨b1, 0, none⟩) 1 1, .slice (some ⟨b2, 0, none⟩) 1 1] 43 (0, 0)))
  (h1 : w.heap[b1]? = some (.cells #[.int .i64 p, .int .i64 q] 42 (0, 0))) (h2 : w.heap[b2]? = some (.cells #[.int .i64 r, .int .i64 s] 42 (0, 0))) (h12 : b1 ≠ b2) :
  Calls Tryd.prog 19 #[.slice (some ⟨bo, 0, none⟩) 2 2, .int .i64 1] w fun e w' => e = .returned (.int .i64 5) ∧ w' = set2 (set2 w b1 1 2) b2 3 4 := by
 have ho1 : bo ≠ b1 := blk_ne ho h1 (by decide); have ho2 : bo ≠ b2 := blk_ne ho h2 (by decide); have c0 : w.cell? ⟨bo, 0, none⟩ = some (.slice (some ⟨b1, 0, none⟩) 1 1) := (blk_cell ho 0).trans rfl; have hw1 : (set2 w b1 1 2).heap[bo]? = some (.cells #[.slice (some ⟨b1, 0, none⟩) 1 1, .slice (some ⟨b2, 0, none⟩) 1 1] 43 (0, 0)) := (set2_far 1 2 ho1).trans ho; have c1 : (set2 w b1 1 2).cell? ⟨bo, 1, none⟩ = some (.slice (some ⟨b2, 0, none⟩) 1 1) := (blk_cell hw1 1).trans rfl; have H1 : Calls Tryd.prog 31 #[.slice (some ⟨b1, 0, none⟩) 1 1, .int .i64 1] w fun e w' => e = .returned (.int .i64 3) ∧ w' = set2 w b1 1 2 := markSym1 b1 p q 1 2 3 (by unfold wrap64; omega) (by unfold wrap64; omega) w h1; have H2 : Calls Tryd.prog 31 #[.slice (some ⟨b2, 0, none⟩) 1 1, .int .i64 3] (set2 w b1 1 2) fun e w' => e = .returned (.int .i64 5) ∧ w' = set2 (set2 w b1 1 2) b2 3 4 := markSym1 b2 r s 3 4 5 (by unfold wrap64; omega) (by unfold wrap64; omega) _ ((set2_far 1 2 (Ne.symm h12)).trans h2); generalize hX : set2 w b1 1 2 = X at *; generalize hY : set2 X b2 3 4 = Y at *; clear hX hY hw1 h1 h2 ho
 go_enter Tryd.func19, Tryd.ntmps19
 go_wp2
 go_loopg [1, 5] 2 (fun gg s1 s5 wr => (s1 = .int .i64 1 ∧ s5 = .int .i64 0 ∧ gg = 2 ∧ wr = w) ∨ (s1 = .int .i64 3 ∧ s5 = .int .i64 1 ∧ gg = 1 ∧ wr = X) ∨ (s1 = .int .i64 5 ∧ s5 = .int .i64 2 ∧ wr = Y))
 case atStart => exact .inl ⟨rfl, rfl, rfl, rfl⟩
 case round =>
  rcases hrel with ⟨rfl, rfl, rfl, rfl⟩ | ⟨rfl, rfl, rfl, rfl⟩ | ⟨rfl, rfl, rfl⟩
  ·
   go_wp2_with (go_at_call 31; refine H1.mono ?_; rintro e w1 ⟨rfl, rfl⟩)
   go_roundg 1
   case measure => omega
   case rel => exact .inr (.inl ⟨rfl, rfl, rfl, rfl⟩)
  ·
   go_wp2_with (go_at_call 31; refine H2.mono ?_; rintro e w1 ⟨rfl, rfl⟩)
   go_roundg 0
   case measure => omega
   case rel => exact .inr (.inr ⟨rfl, rfl, rfl⟩)
  ·
   go_wp2
   go_ret
   exact ⟨rfl, rfl⟩
/-- A row of two segments' bounds with one term each, as it lies in memory. -/
structure Seg5 (w : World) (bo b1 b2 bv bm : Nat) (p q r s t u : Int) (f g : Bool) : Prop where
 o : w.heap[bo]? = some (.cells #[.slice (some ⟨b1, 0, none⟩) 1 1, .slice (some ⟨b2, 0, none⟩) 1 1] 43 (0, 0))
 r1 : w.heap[b1]? = some (.cells #[.int .i64 p, .int .i64 q] 42 (0, 0))
 r2 : w.heap[b2]? = some (.cells #[.int .i64 r, .int .i64 s] 42 (0, 0))
 v : w.heap[bv]? = some (.cells #[.int .i64 t, .int .i64 u, .bool f] 34 (0, 0))
 m : w.heap[bm]? = some (.cells #[.bool g] 4 (0, 0))
 ne : b1 ≠ b2
theorem Seg5.move {w w' : World} {bo b1 b2 bv bm : Nat} {p q r s t u : Int} {f g : Bool} (h : Seg5 w bo b1 b2 bv bm p q r s t u f g) (hm : ∀ (k : Nat) (cells : Array Value) (q : TypeId), w.heap[k]? = some (.cells cells q (0, 0)) → w'.heap[k]? = some (.cells cells q (0, 0))) : Seg5 w' bo b1 b2 bv bm p q r s t u f g :=
 ⟨hm _ _ _ h.o, hm _ _ _ h.r1, hm _ _ _ h.r2, hm _ _ _ h.v, hm _ _ _ h.m, h.ne⟩
theorem Seg5.below {w w' : World} {bo b1 b2 bv bm : Nat} {p q r s t u : Int} {f g : Bool} (h : Seg5 w bo b1 b2 bv bm p q r s t u f g) (hb : Below w.heap.size w w') : Seg5 w' bo b1 b2 bv bm p q r s t u f g :=
 h.move fun k cells q e => (hb.block k (blk_lt e)).trans e
/-- The world behind the marks. -/
def marked (w : World) (b1 b2 bv bm : Nat) : World := (((((set2 (set2 w b1 1 2) b2 3 4).setCell ⟨bv, 0, none⟩ (.int .i64 5)).setCell ⟨bv, 1, none⟩ (.int .i64 6)).setCell ⟨bv, 2, none⟩ (.bool false)).setCell ⟨bm, 0, none⟩ (.bool false))
theorem marked_far {w : World} {b1 b2 bv bm k : Nat} (h1 : k ≠ b1) (h2 : k ≠ b2) (hv : k ≠ bv) (hm : k ≠ bm) : (marked w b1 b2 bv bm).heap[k]? = w.heap[k]? := by
 unfold marked; rw [Below.heap_setCell _ _ _ _ hm, Below.heap_setCell _ _ _ _ hv, Below.heap_setCell _ _ _ _ hv, Below.heap_setCell _ _ _ _ hv, set2_far _ _ h2, set2_far _ _ h1]
theorem Seg5.marks {w : World} {bo b1 b2 bv bm : Nat} {p q r s t u : Int} {f g : Bool} (h : Seg5 w bo b1 b2 bv bm p q r s t u f g) : Seg5 (marked w b1 b2 bv bm) bo b1 b2 bv bm 1 2 3 4 5 6 false false := by
 have o1 := blk_ne h.o h.r1 (by decide); have o2 := blk_ne h.o h.r2 (by decide); have ov := blk_ne h.o h.v (by decide); have om := blk_ne h.o h.m (by decide); have v1 := blk_ne h.v h.r1 (by decide); have v2 := blk_ne h.v h.r2 (by decide); have vm := blk_ne h.v h.m (by decide); have m1 := blk_ne h.m h.r1 (by decide); have m2 := blk_ne h.m h.r2 (by decide)
 have far : ∀ {W : World} {k : Nat}, k ≠ bv → k ≠ bm → ((((W.setCell ⟨bv, 0, none⟩ (.int .i64 5)).setCell ⟨bv, 1, none⟩ (.int .i64 6)).setCell ⟨bv, 2, none⟩ (.bool false)).setCell ⟨bm, 0, none⟩ (.bool false)).heap[k]? = W.heap[k]? := fun hv hm => by
  rw [Below.heap_setCell _ _ _ _ hm, Below.heap_setCell _ _ _ _ hv, Below.heap_setCell _ _ _ _ hv, Below.heap_setCell _ _ _ _ hv]
 refine ⟨(marked_far o1 o2 ov om).trans h.o, ?_, ?_, ?_, ?_, h.ne⟩
 ·
  unfold marked; rw [far (Ne.symm v1) (Ne.symm m1), set2_far _ _ h.ne]; exact set2_own 1 2 h.r1
 ·
  unfold marked; rw [far (Ne.symm v2) (Ne.symm m2)]; exact set2_own 3 4 ((set2_far _ _ (Ne.symm h.ne)).trans h.r2)
 ·
  unfold marked; rw [Below.heap_setCell _ _ _ _ vm]; have e : (set2 (set2 w b1 1 2) b2 3 4).heap[bv]? = some (.cells #[.int .i64 t, .int .i64 u, .bool f] 34 (0, 0)) := by rw [set2_far _ _ v2, set2_far _ _ v1]; exact h.v
  rw [blk_set (blk_set (blk_set e 0 _) 1 _) 2 _]; rfl
 ·
  unfold marked
  have e : ((((set2 (set2 w b1 1 2) b2 3 4).setCell ⟨bv, 0, none⟩ (.int .i64 5)).setCell ⟨bv, 1, none⟩ (.int .i64 6)).setCell ⟨bv, 2, none⟩ (.bool false)).heap[bm]? = some (.cells #[.bool g] 4 (0, 0)) := by
   rw [Below.heap_setCell _ _ _ _ (Ne.symm vm), Below.heap_setCell _ _ _ _ (Ne.symm vm), Below.heap_setCell _ _ _ _ (Ne.symm vm), set2_far _ _ m2, set2_far _ _ m1]; exact h.m
  rw [blk_set e 0 _]; rfl
set_option maxRecDepth 100000 in
set_option maxHeartbeats 4000000 in
theorem markSeg2 (bo b1 b2 bv bm : Nat) (p q r s t u : Int) (f g : Bool) (w : World) (h : Seg5 w bo b1 b2 bv bm p q r s t u f g) :
  Calls Tryd.prog 8 #[.agg #[.slice (some ⟨bo, 0, none⟩) 2 2, .slice (some ⟨bv, 0, none⟩) 1 1, .slice (some ⟨bm, 0, none⟩) 1 1], .int .i64 1] w fun e w' => e = .returned (.int .i64 9) ∧ ∃ o, w' = marked (w.alloc o) b1 b2 bv bm := by
 have H : ∀ W, Below w.heap.size w W → Seg5 W bo b1 b2 bv bm p q r s t u f g := fun W hW => h.below hW; have hA : ∀ o, Below w.heap.size w (w.alloc o) := fun o => (Below.refl _ w).alloc (Nat.le_refl _) o; have v1 := blk_ne h.v h.r1 (by decide); have v2 := blk_ne h.v h.r2 (by decide); have vm := blk_ne h.v h.m (by decide); have m1 := blk_ne h.m h.r1 (by decide); have m2 := blk_ne h.m h.r2 (by decide); have l1 : b1 ≠ w.heap.size := Nat.ne_of_lt (blk_lt h.r1); have l2 : b2 ≠ w.heap.size := Nat.ne_of_lt (blk_lt h.r2); have lv : bv ≠ w.heap.size := Nat.ne_of_lt (blk_lt h.v)
 have H1 : ∀ o, Calls Tryd.prog 19 #[.slice (some ⟨bo, 0, none⟩) 2 2, .int .i64 1] (w.alloc o) fun e w' => e = .returned (.int .i64 5) ∧ w' = set2 (set2 (w.alloc o) b1 1 2) b2 3 4 := fun o =>
  markRows2 bo b1 b2 p q r s _ (H _ (hA o)).o (H _ (hA o)).r1 (H _ (hA o)).r2 h.ne
 have H2 : ∀ o, Calls Tryd.prog 20 #[.slice (some ⟨bv, 0, none⟩) 1 1, .int .i64 5] (set2 (set2 (w.alloc o) b1 1 2) b2 3 4) fun e w' => e = .returned (.int .i64 8) ∧ w' = (((set2 (set2 (w.alloc o) b1 1 2) b2 3 4).setCell ⟨bv, 0, none⟩ (.int .i64 5)).setCell ⟨bv, 1, none⟩ (.int .i64 6)).setCell ⟨bv, 2, none⟩ (.bool false) := fun o =>
  markVal1 bv t u 5 6 7 8 f false (by unfold wrap64; omega) (by unfold wrap64; omega) (by unfold wrap64; omega) (by decide) _ (by rw [set2_far _ _ v2, set2_far _ _ v1]; exact (H _ (hA o)).v)
 have H3 : ∀ o, Calls Tryd.prog 21 #[.slice (some ⟨bm, 0, none⟩) 1 1, .int .i64 8] ((((set2 (set2 (w.alloc o) b1 1 2) b2 3 4).setCell ⟨bv, 0, none⟩ (.int .i64 5)).setCell ⟨bv, 1, none⟩ (.int .i64 6)).setCell ⟨bv, 2, none⟩ (.bool false)) fun e w' => e = .returned (.int .i64 9) ∧ w' = marked (w.alloc o) b1 b2 bv bm := fun o =>
  markBool1 bm 8 9 g false (by unfold wrap64; omega) (by decide) _ (by rw [Below.heap_setCell _ _ _ _ (Ne.symm vm), Below.heap_setCell _ _ _ _ (Ne.symm vm), Below.heap_setCell _ _ _ _ (Ne.symm vm), set2_far _ _ m2, set2_far _ _ m1]; exact (H _ (hA o)).m)
 have box : (w.alloc (.cells #[.slice (some ⟨bo, 0, none⟩) 2 2, .slice (some ⟨bv, 0, none⟩) 1 1, .slice (some ⟨bm, 0, none⟩) 1 1] 30 (0, 0))).heap[w.heap.size]? = some (.cells #[.slice (some ⟨bo, 0, none⟩) 2 2, .slice (some ⟨bv, 0, none⟩) 1 1, .slice (some ⟨bm, 0, none⟩) 1 1] 30 (0, 0)) := by
  show (w.heap.push _)[w.heap.size]? = _
  simp
 have K1 := (set2_far 3 4 (Ne.symm l2)).trans ((set2_far 1 2 (Ne.symm l1)).trans box); have q1 : World.cell? _ ⟨w.heap.size, 1, none⟩ = some (.slice (some ⟨bv, 0, none⟩) 1 1) := (blk_cell K1 1).trans rfl; have K2 := (Below.heap_setCell _ ⟨bv, 2, none⟩ (.bool false) w.heap.size (Ne.symm lv)).trans ((Below.heap_setCell _ ⟨bv, 1, none⟩ (.int .i64 6) w.heap.size (Ne.symm lv)).trans ((Below.heap_setCell _ ⟨bv, 0, none⟩ (.int .i64 5) w.heap.size (Ne.symm lv)).trans K1)); have q2 : World.cell? _ ⟨w.heap.size, 2, none⟩ = some (.slice (some ⟨bm, 0, none⟩) 1 1) := (blk_cell K2 2).trans rfl; clear h H K1 K2 box
 go_enter Tryd.func8, Tryd.ntmps8
 go_wp2_with (first
  | (go_at_call 19; refine (H1 _).mono ?_; rintro e w1 ⟨rfl, rfl⟩)
  | (go_at_call 20; refine (H2 _).mono ?_; rintro e w1 ⟨rfl, rfl⟩)
  | (go_at_call 21; refine (H3 _).mono ?_; rintro e w1 ⟨rfl, rfl⟩))
 go_ret
 exact ⟨rfl, _, rfl⟩
theorem al_new (w : World) (o : Obj) {g : Nat} (h : g = w.heap.size) : (w.alloc o).heap[g]? = some o := by
 subst h; show (w.heap.push _)[w.heap.size]? = _
 simp
theorem al_old {w : World} {g : Nat} {x : Obj} (h : w.heap[g]? = some x) (o : Obj) : (w.alloc o).heap[g]? = some x :=
 (((Below.refl w.heap.size w).alloc (Nat.le_refl _) o).block g (blk_lt h)).trans h
theorem al_size (w : World) (o : Obj) : (w.alloc o).heap.size = w.heap.size + 1 := by
 show (w.heap.push _).size = _
 simp
set_option maxRecDepth 100000 in
set_option maxHeartbeats 4000000 in
theorem segTop_bad1 (a0 a1 lo hi : Int) (su : Bool) (w : World) (h1 : impl_isShape.f a0 a1 = some false) :
  Calls Tryd.prog 6 #[.int .i64 a0, .int .i64 a1, .agg #[.int .i64 lo, .int .i64 hi, .bool su]] w fun e w' => e = .returned (.agg #[.slice none 0 0, .slice none 0 0, .slice none 0 0]) ∧ Below w.heap.size w w' := by
 have H1 := fun W => impl_isShape.calls a0 a1 false W h1; have HB := Aside0.mk (Below.refl w.heap.size w)
 go_enter Tryd.func6, Tryd.ntmps6
 go_wp2_with (go_at_call 13; refine (H1 _).mono ?_; rintro e w1 ⟨rfl, ⟨n1, rfl⟩⟩)
 have k0 : ((w.alloc (.cells #[.int .i64 lo, .int .i64 hi, .bool su] 34 (0, 0))).alloc (.cells #[.slice none 0 0, .slice none 0 0, .slice none 0 0] 30 (0, 0))).heap[w.heap.size + 1]? = some (.cells #[.slice none 0 0, .slice none 0 0, .slice none 0 0] 30 (0, 0)) := al_new _ _ (al_size w _).symm; have k1 := blk_set (blk_set (blk_set k0 0 (.slice none 0 0)) 1 (.slice none 0 0)) 2 (.slice none 0 0); refine bodyPost_ret (results_cell_row rfl _ _ (w.heap.size + 1) 30 #[.slice none 0 0, .slice none 0 0, .slice none 0 0] (0, 0) _ rfl k1 Tryd.underlying30 rfl (by kernel_rfl)) rfl ?_; exact ⟨rfl, below_set (below_set (below_set (sq_below HB.out) (Nat.le_succ _)) (Nat.le_succ _)) (Nat.le_succ _)⟩
set_option maxRecDepth 100000 in
set_option maxHeartbeats 4000000 in
theorem segTop_bad2 (a0 a1 lo hi : Int) (su : Bool) (w : World) (hG0 : GL0 w) (h1 : impl_isShape.f a0 a1 = some true) (h2 : impl_ValOk.f lo hi su = some false) :
  Calls Tryd.prog 6 #[.int .i64 a0, .int .i64 a1, .agg #[.int .i64 lo, .int .i64 hi, .bool su]] w fun e w' => e = .returned (.agg #[.slice none 0 0, .slice none 0 0, .slice none 0 0]) ∧ Below w.heap.size w w' := by
 have H1 := fun W => impl_isShape.calls a0 a1 true W h1; have H2 : ∀ W, Below w.heap.size w W → Calls Tryd.prog 14 #[.agg #[.int .i64 lo, .int .i64 hi, .bool su]] W fun e w' => e = .returned (.bool false) ∧ Below W.heap.size W w' := fun W hW => impl_ValOk.calls lo hi su false W (GL0.below hG0 hW) h2; have HB := Aside0.mk (Below.refl w.heap.size w); clear hG0; have B0 : ∀ n1, ((((w.alloc (.cells #[.int .i64 lo, .int .i64 hi, .bool su] 34 (0, 0))).alloc (.cells #[.slice none 0 0, .slice none 0 0, .slice none 0 0] 30 (0, 0))).drewN n1).heap[w.heap.size + 1]? = some (.cells #[.slice none 0 0, .slice none 0 0, .slice none 0 0] 30 (0, 0))) := fun n1 => al_new _ _ (al_size w _).symm; have B1 : ∀ n1, Below w.heap.size w (((w.alloc (.cells #[.int .i64 lo, .int .i64 hi, .bool su] 34 (0, 0))).alloc (.cells #[.slice none 0 0, .slice none 0 0, .slice none 0 0] 30 (0, 0))).drewN n1) := fun n1 => (sq_below HB.out)
 go_enter Tryd.func6, Tryd.ntmps6
 go_wp2_with (first | (go_at_call 13; refine (H1 _).mono ?_; rintro e w1 ⟨rfl, ⟨n1, rfl⟩⟩) | (go_at_call 14; refine (H2 _ (sq_below HB.out)).mono ?_; rintro e w2 ⟨rfl, hb2⟩; have P := B0 n1; have hrs := (hb2.block _ (blk_lt P)).trans P; have HB3 := Aside0.mk (below_step (B1 n1) hb2); clear P hb2; have d0 := (blk_cell hrs 0).trans (show _ = some (.slice none 0 0) from rfl); have d1 := (blk_cell hrs 1).trans (show _ = some (.slice none 0 0) from rfl); have d2 := (blk_cell hrs 2).trans (show _ = some (.slice none 0 0) from rfl); have f0 := blk_frozen hrs 0; have f1 := blk_frozen hrs 1; have f2 := blk_frozen hrs 2; have R0 := Aside0.mk hrs; clear hrs))
 have k1 := blk_set (blk_set (blk_set R0.out 0 (.slice none 0 0)) 1 (.slice none 0 0)) 2 (.slice none 0 0); refine bodyPost_ret (results_cell_row rfl _ _ (w.heap.size + 1) 30 #[.slice none 0 0, .slice none 0 0, .slice none 0 0] (0, 0) _ rfl k1 Tryd.underlying30 rfl (by kernel_rfl)) rfl ?_; exact ⟨rfl, below_set (below_set (below_set HB3.out (Nat.le_succ _)) (Nat.le_succ _)) (Nat.le_succ _)⟩
set_option maxRecDepth 100000 in
set_option maxHeartbeats 4000000 in
theorem segTop_ok (a0 a1 lo hi : Int) (su : Bool) (w : World) (hG0 : GL0 w) (h1 : impl_isShape.f a0 a1 = some true) (h2 : impl_ValOk.f lo hi su = some true) :
  Calls Tryd.prog 6 #[.int .i64 a0, .int .i64 a1, .agg #[.int .i64 lo, .int .i64 hi, .bool su]] w fun e w' => ∃ bo b1 b2 bv bm : Nat, e = .returned (.agg #[.slice (some ⟨bo, 0, none⟩) 2 2, .slice (some ⟨bv, 0, none⟩) 1 1, .slice (some ⟨bm, 0, none⟩) 1 1]) ∧ Seg5 w' bo b1 b2 bv bm 0 0 a1 0 lo hi su true ∧ w.heap.size ≤ bo ∧ w.heap.size ≤ b1 ∧ w.heap.size ≤ b2 ∧ w.heap.size ≤ bv ∧ w.heap.size ≤ bm ∧ Below w.heap.size w w' := by
 have H1 := fun W => impl_isShape.calls a0 a1 true W h1; have H2 : ∀ W, Below w.heap.size w W → Calls Tryd.prog 14 #[.agg #[.int .i64 lo, .int .i64 hi, .bool su]] W fun e w' => e = .returned (.bool true) ∧ Below W.heap.size W w' := fun W hW => impl_ValOk.calls lo hi su true W (GL0.below hG0 hW) h2; have H3 := fun W => impl_ends.calls a1 0 0 a1 0 W rfl; have HB := Aside0.mk (Below.refl w.heap.size w); clear hG0
 have B0 : ∀ n1, ((((w.alloc (.cells #[.int .i64 lo, .int .i64 hi, .bool su] 34 (0, 0))).alloc (.cells #[.slice none 0 0, .slice none 0 0, .slice none 0 0] 30 (0, 0))).drewN n1).heap[w.heap.size]? = some (.cells #[.int .i64 lo, .int .i64 hi, .bool su] 34 (0, 0))) ∧ ((((w.alloc (.cells #[.int .i64 lo, .int .i64 hi, .bool su] 34 (0, 0))).alloc (.cells #[.slice none 0 0, .slice none 0 0, .slice none 0 0] 30 (0, 0))).drewN n1).heap[w.heap.size + 1]? = some (.cells #[.slice none 0 0, .slice none 0 0, .slice none 0 0] 30 (0, 0))) := fun n1 =>
  ⟨al_old (al_new w _ rfl) _, al_new _ _ (al_size w _).symm⟩
 have B1 : ∀ n1, Below w.heap.size w (((w.alloc (.cells #[.int .i64 lo, .int .i64 hi, .bool su] 34 (0, 0))).alloc (.cells #[.slice none 0 0, .slice none 0 0, .slice none 0 0] 30 (0, 0))).drewN n1) := fun n1 => (sq_below HB.out)
 go_enter Tryd.func6, Tryd.ntmps6
 go_wp2_with (first | (go_at_call 13; refine (H1 _).mono ?_; rintro e w1 ⟨rfl, ⟨n1, rfl⟩⟩) | (go_at_call 14; refine (H2 _ (sq_below HB.out)).mono ?_; rintro e w2 ⟨rfl, hb2⟩) | (go_at_call 15; refine (H3 _).mono ?_; rintro e w3 ⟨rfl, hb3⟩; have P := B0 n1; have hbx := Aside0.mk ((hb3.block _ (blk_lt ((hb2.block _ (blk_lt P.1)).trans P.1))).trans ((hb2.block _ (blk_lt P.1)).trans P.1)); have hrs := Aside0.mk ((hb3.block _ (blk_lt ((hb2.block _ (blk_lt P.2)).trans P.2))).trans ((hb2.block _ (blk_lt P.2)).trans P.2)); have HB3 := Aside0.mk (below_step (below_step (B1 n1) hb2) hb3); clear P hb2 hb3; have k0 := al_old (al_old (al_old (al_old (al_old hbx.out (.cells #[.int .i64 0, .int .i64 0] 42 (0, 0))) (.cells #[.int .i64 a1, .int .i64 0] 42 (0, 0))) (.cells #[.int .i64 0, .int .i64 0] 42 (0, 0))) (.cells #[.int .i64 a1, .int .i64 0] 42 (0, 0))) (.cells #[.slice (some ⟨w3.heap.size + 1 + 1, 0, none⟩) 1 1, .slice (some ⟨w3.heap.size + 1 + 1 + 1, 0, none⟩) 1 1] 43 (0, 0)); have c0 := (blk_cell k0 0).trans (show _ = some (.int .i64 lo) from rfl); have c1 := (blk_cell k0 1).trans (show _ = some (.int .i64 hi) from rfl); have c2 := (blk_cell k0 2).trans (show _ = some (.bool su) from rfl); have r0 := al_old (al_old (al_old (al_old (al_old (al_old (al_old hrs.out (.cells #[.int .i64 0, .int .i64 0] 42 (0, 0))) (.cells #[.int .i64 a1, .int .i64 0] 42 (0, 0))) (.cells #[.int .i64 0, .int .i64 0] 42 (0, 0))) (.cells #[.int .i64 a1, .int .i64 0] 42 (0, 0))) (.cells #[.slice (some ⟨w3.heap.size + 1 + 1, 0, none⟩) 1 1, .slice (some ⟨w3.heap.size + 1 + 1 + 1, 0, none⟩) 1 1] 43 (0, 0))) (.cells #[.int .i64 lo, .int .i64 hi, .bool su] 34 (0, 0))) (.cells #[.bool true] 4 (0, 0)); have d0 := (blk_cell r0 0).trans (show _ = some (.slice none 0 0) from rfl); have d1 := (blk_cell r0 1).trans (show _ = some (.slice none 0 0) from rfl); have d2 := (blk_cell r0 2).trans (show _ = some (.slice none 0 0) from rfl); have f0 := blk_frozen r0 0; have f1 := blk_frozen r0 1; have f2 := blk_frozen r0 2; have R0 := Aside0.mk r0; clear k0 r0))
 have k1 := blk_set (blk_set (blk_set R0.out 0 (.slice (some ⟨w3.heap.size + 1 + 1 + 1 + 1, 0, none⟩) 2 2)) 1 (.slice (some ⟨w3.heap.size + 1 + 1 + 1 + 1 + 1, 0, none⟩) 1 1)) 2 (.slice (some ⟨w3.heap.size + 1 + 1 + 1 + 1 + 1 + 1, 0, none⟩) 1 1); refine bodyPost_ret (results_cell_row rfl _ _ (w.heap.size + 1) 30 #[.slice (some ⟨w3.heap.size + 1 + 1 + 1 + 1, 0, none⟩) 2 2, .slice (some ⟨w3.heap.size + 1 + 1 + 1 + 1 + 1, 0, none⟩) 1 1, .slice (some ⟨w3.heap.size + 1 + 1 + 1 + 1 + 1 + 1, 0, none⟩) 1 1] (0, 0) _ rfl k1 Tryd.underlying30 rfl (by kernel_rfl)) rfl ?_; have hlt := blk_lt hrs.out
 have far : ∀ {W : World} {k : Nat} {o : Obj}, w3.heap.size ≤ k → W.heap[k]? = some o → ∀ v0 v1 v2, (((W.setCell ⟨w.heap.size + 1, 0, none⟩ v0).setCell ⟨w.heap.size + 1, 1, none⟩ v1).setCell ⟨w.heap.size + 1, 2, none⟩ v2).heap[k]? = some o := fun hk h v0 v1 v2 => by
  have hne : _ ≠ w.heap.size + 1 := Nat.ne_of_gt (Nat.lt_of_lt_of_le hlt hk); rw [Below.heap_setCell _ _ _ _ hne, Below.heap_setCell _ _ _ _ hne, Below.heap_setCell _ _ _ _ hne]; exact h
 refine ⟨w3.heap.size + 1 + 1 + 1 + 1, w3.heap.size + 1 + 1, w3.heap.size + 1 + 1 + 1, w3.heap.size + 1 + 1 + 1 + 1 + 1, w3.heap.size + 1 + 1 + 1 + 1 + 1 + 1, rfl, ⟨?_, ?_, ?_, ?_, ?_, by omega⟩, by omega, by omega, by omega, by omega, by omega, below_set (below_set (below_set (sq_below HB3.out) (Nat.le_succ _)) (Nat.le_succ _)) (Nat.le_succ _)⟩
 ·
  exact far (by omega) (al_old (al_old (al_new _ _ (by simp only [al_size])) _) _) _ _ _
 ·
  exact far (by omega) (al_old (al_old (al_old (al_old (al_new _ _ (by simp only [al_size])) _) _) _) _) _ _ _
 ·
  exact far (by omega) (al_old (al_old (al_old (al_new _ _ (by simp only [al_size])) _) _) _) _ _ _
 ·
  exact far (by omega) (al_old (al_new _ _ (by simp only [al_size])) _) _ _ _
 ·
  exact far (by omega) (al_new _ _ (by simp only [al_size])) _ _ _
/-- A slice's address, length and capacity. -/
abbrev Sl := Option Addr × Nat × Nat
theorem blk_b {W W' : World} {g : Nat} {o : Obj} (hb : Below W.heap.size W W') (h : W.heap[g]? = some o) : W'.heap[g]? = some o := (hb.block _ (blk_lt h)).trans h
set_option maxRecDepth 100000 in
set_option maxHeartbeats 4000000 in
theorem law_walk (a0 a1 lo hi : Int) (su : Bool) (m : Int) (hm0 : decide (m < 0) = false) (U V : World → World → Sl → Sl → Sl → Prop) (S : World → Sl → Sl → Sl → Prop) (w : World)
  (hS : ∀ W, Calls Tryd.prog 4 #[.int .i64 a0, .int .i64 a1, .agg #[.int .i64 lo, .int .i64 hi, .bool su]] W fun e w' => ∃ s0 s1 s2, e = .returned (.agg #[.slice s0.1 s0.2.1 s0.2.2, .slice s1.1 s1.2.1 s1.2.2, .slice s2.1 s2.2.1 s2.2.2]) ∧ S w' s0 s1 s2 ∧ Below W.heap.size W w')
  (hSb : ∀ W W' s0 s1 s2, S W s0 s1 s2 → Below W.heap.size W W' → S W' s0 s1 s2)
  (hI : ∀ W, Below w.heap.size w W → Calls Tryd.prog 6 #[.int .i64 a0, .int .i64 a1, .agg #[.int .i64 lo, .int .i64 hi, .bool su]] W fun e w' => ∃ v0 v1 v2, e = .returned (.agg #[.slice v0.1 v0.2.1 v0.2.2, .slice v1.1 v1.2.1 v1.2.2, .slice v2.1 v2.2.1 v2.2.2]) ∧ U W w' v0 v1 v2 ∧ Below W.heap.size W w')
  (hUb : ∀ W0 W W' v0 v1 v2, U W0 W v0 v1 v2 → Below W.heap.size W W' → U W0 W' v0 v1 v2)
  (hVb : ∀ W0 W W' v0 v1 v2, V W0 W v0 v1 v2 → Below W.heap.size W W' → V W0 W' v0 v1 v2)
  (hE : ∀ W0 W v0 v1 v2 s0 s1 s2, U W0 W v0 v1 v2 → S W s0 s1 s2 → Calls Tryd.prog 7 #[.agg #[.slice v0.1 v0.2.1 v0.2.2, .slice v1.1 v1.2.1 v1.2.2, .slice v2.1 v2.2.1 v2.2.2], .agg #[.slice s0.1 s0.2.1 s0.2.2, .slice s1.1 s1.2.1 s1.2.2, .slice s2.1 s2.2.1 s2.2.2]] W fun e w' => e = .returned (.bool true) ∧ Below W.heap.size W w')
  (hM : ∀ W0 W v0 v1 v2, U W0 W v0 v1 v2 → Below W0.heap.size W0 W → Calls Tryd.prog 8 #[.agg #[.slice v0.1 v0.2.1 v0.2.2, .slice v1.1 v1.2.1 v1.2.2, .slice v2.1 v2.2.1 v2.2.2], .int .i64 1] W fun e w' => e = .returned (.int .i64 m) ∧ V W0 w' v0 v1 v2 ∧ Below W0.heap.size W0 w' ∧ ∀ (k : Nat) (cs : Array Value), W.heap[k]? = some (.cells cs 30 (0, 0)) → w'.heap[k]? = some (.cells cs 30 (0, 0)))
  (hH : ∀ W0 W v0 v1 v2, V W0 W v0 v1 v2 → Calls Tryd.prog 9 #[.agg #[.slice v0.1 v0.2.1 v0.2.2, .slice v1.1 v1.2.1 v1.2.2, .slice v2.1 v2.2.1 v2.2.2], .int .i64 1] W fun e w' => e = .returned (.int .i64 m) ∧ Below W.heap.size W w') :
  Calls Tryd.prog 3 #[.int .i64 a0, .int .i64 a1, .agg #[.int .i64 lo, .int .i64 hi, .bool su]] w fun e w' => e = .returned (.bool true) ∧ Below w.heap.size w w' := by
 have HT := fun W => laws_toVal.calls lo hi su lo hi su W rfl; have HB := Aside0.mk (Below.refl w.heap.size w); have hmm : (m != m) = false := bne_self_eq_false m
 go_enter Tryd.func3, Tryd.ntmps3
 go_upto_region 2 with (first | (go_at_call 5; refine (HT _).mono ?_; rintro e wa ⟨rfl, hba⟩) | (go_at_call 4; refine (hS _).mono ?_; rintro e w1 ⟨s0, s1, s2, rfl, hs, hb1⟩))
 have P1 := al_old (blk_b hb1 (blk_b hba (al_new w (.cells #[.int .i64 lo, .int .i64 hi, .bool su] 25 (0, 0)) rfl))) (.cells #[.slice s0.1 s0.2.1 s0.2.2, .slice s1.1 s1.2.1 s1.2.2, .slice s2.1 s2.2.1 s2.2.2] 30 (0, 0)); have Q1 := al_new w1 (.cells #[.slice s0.1 s0.2.1 s0.2.2, .slice s1.1 s1.2.1 s1.2.2, .slice s2.1 s2.2.1 s2.2.2] 30 (0, 0)) rfl; have HB1 := Aside0.mk (below_step (below_step (show Below w.heap.size w (w.alloc (.cells #[.int .i64 lo, .int .i64 hi, .bool su] 25 (0, 0))) from (sq_below HB.out)) hba) hb1); have HBC := Aside0.mk (show Below w.heap.size w (w1.alloc (.cells #[.slice s0.1 s0.2.1 s0.2.2, .slice s1.1 s1.2.1 s1.2.2, .slice s2.1 s2.2.1 s2.2.2] 30 (0, 0))) from (sq_below HB1.out)); have HS1 := Aside0.mk (hSb _ (w1.alloc (.cells #[.slice s0.1 s0.2.1 s0.2.2, .slice s1.1 s1.2.1 s1.2.2, .slice s2.1 s2.2.1 s2.2.2] 30 (0, 0))) _ _ _ hs ((Below.refl _ w1).alloc (Nat.le_refl _) _)); have c0 := (blk_cell P1 0).trans (show _ = some (.int .i64 lo) from rfl); have c1 := (blk_cell P1 1).trans (show _ = some (.int .i64 hi) from rfl); have c2 := (blk_cell P1 2).trans (show _ = some (.bool su) from rfl); have HP1 := Aside0.mk P1; have HQ1 := Aside0.mk Q1; clear hs hb1 hba P1 Q1 HB1
 go_upto_region 3 with (first | (go_at_call 5; refine (HT _).mono ?_; rintro e wb ⟨rfl, hbb⟩) | (go_at_call 6; refine (hI _ (below_step HBC.out hbb)).mono ?_; rintro e w2 ⟨v0, v1, v2, rfl, hu, hb2⟩))
 have HPb := Aside0.mk (blk_b hbb HP1.out); have HQb := Aside0.mk (blk_b hbb HQ1.out); have HSb := Aside0.mk (hSb _ _ _ _ _ HS1.out hbb); have HBb := Aside0.mk (below_step HBC.out hbb); have HBm2 := Aside0.mk (show Below wb.heap.size wb (w2.alloc (.cells #[.slice v0.1 v0.2.1 v0.2.2, .slice v1.1 v1.2.1 v1.2.2, .slice v2.1 v2.2.1 v2.2.2] 30 (0, 0))) from hb2.alloc hb2.size _); have HU2 := Aside0.mk (hUb _ _ (w2.alloc (.cells #[.slice v0.1 v0.2.1 v0.2.2, .slice v1.1 v1.2.1 v1.2.2, .slice v2.1 v2.2.1 v2.2.2] 30 (0, 0))) _ _ _ hu ((Below.refl _ w2).alloc (Nat.le_refl _) _)); have HR2 := Aside0.mk (al_new w2 (.cells #[.slice v0.1 v0.2.1 v0.2.2, .slice v1.1 v1.2.1 v1.2.2, .slice v2.1 v2.2.1 v2.2.2] 30 (0, 0)) rfl); have Q2 := blk_b HBm2.out HQb.out; have q0 := (blk_cell Q2 0).trans (show _ = some (.slice s0.1 s0.2.1 s0.2.2) from rfl); have q1 := (blk_cell Q2 1).trans (show _ = some (.slice s1.1 s1.2.1 s1.2.2) from rfl); have q2 := (blk_cell Q2 2).trans (show _ = some (.slice s2.1 s2.2.1 s2.2.2) from rfl); clear c0 c1 c2 hbb hb2 hu HP1 HQ1 HS1 HBC Q2
 go_upto_region 6 with (go_at_call 7; refine (hE _ _ _ _ _ _ _ _ HU2.out (hSb _ _ _ _ _ HSb.out HBm2.out)).mono ?_; rintro e w3 ⟨rfl, hb3⟩)
 have HBm3 := Aside0.mk (below_step HBm2.out hb3); have HU3 := Aside0.mk (hUb _ _ _ _ _ _ HU2.out hb3); have HR3 := Aside0.mk (blk_b hb3 HR2.out); have r0 := (blk_cell HR3.out 0).trans (show _ = some (.slice v0.1 v0.2.1 v0.2.2) from rfl); have r1 := (blk_cell HR3.out 1).trans (show _ = some (.slice v1.1 v1.2.1 v1.2.2) from rfl); have r2 := (blk_cell HR3.out 2).trans (show _ = some (.slice v2.1 v2.2.1 v2.2.2) from rfl); clear q0 q1 q2 hb3 HU2 HBm2 HR2
 go_upto_region 8 with (go_at_call 8; refine (hM _ _ _ _ _ HU3.out HBm3.out).mono ?_; rintro e w4 ⟨rfl, hv4, hb4, hk4⟩)
 have HR4 := Aside0.mk (hk4 _ _ HR3.out); have HV4 := Aside0.mk hv4; have HBm4 := Aside0.mk hb4; have t0 := (blk_cell HR4.out 0).trans (show _ = some (.slice v0.1 v0.2.1 v0.2.2) from rfl); have t1 := (blk_cell HR4.out 1).trans (show _ = some (.slice v1.1 v1.2.1 v1.2.2) from rfl); have t2 := (blk_cell HR4.out 2).trans (show _ = some (.slice v2.1 v2.2.1 v2.2.2) from rfl); clear r0 r1 r2 hv4 hb4 hk4 HU3 HBm3 HR3
 go_upto_region 13 with (go_at_call 9; refine (hH _ _ _ _ _ HV4.out).mono ?_; rintro e w5 ⟨rfl, hb5⟩)
 have HR5 := Aside0.mk (blk_b hb5 HR4.out); have HV5 := Aside0.mk (hVb _ _ _ _ _ _ HV4.out hb5); have HBm5 := Aside0.mk (below_step HBm4.out hb5); have P5 := blk_b HBm5.out HPb.out; have p0 := (blk_cell P5 0).trans (show _ = some (.int .i64 lo) from rfl); have p1 := (blk_cell P5 1).trans (show _ = some (.int .i64 hi) from rfl); have p2 := (blk_cell P5 2).trans (show _ = some (.bool su) from rfl); clear t0 t1 t2 hb5 HR4 HV4 HBm4 P5
 go_upto_region 14 with (first | (go_at_call 5; refine (HT _).mono ?_; rintro e wc ⟨rfl, hbc⟩) | (go_at_call 6; refine (hI _ (below_step (below_step HBb.out HBm5.out) hbc)).mono ?_; rintro e w6 ⟨x0, x1, x2, rfl, hx, hb6⟩))
 have HBm6 := Aside0.mk (show Below wb.heap.size wb (w6.alloc (.cells #[.slice x0.1 x0.2.1 x0.2.2, .slice x1.1 x1.2.1 x1.2.2, .slice x2.1 x2.2.1 x2.2.2] 30 (0, 0))) from (below_step (below_step HBm5.out hbc) hb6).alloc (below_step (below_step HBm5.out hbc) hb6).size _); have HR6 := Aside0.mk (al_old (blk_b hb6 (blk_b hbc HR5.out)) (.cells #[.slice x0.1 x0.2.1 x0.2.2, .slice x1.1 x1.2.1 x1.2.2, .slice x2.1 x2.2.1 x2.2.2] 30 (0, 0))); have HA := Aside0.mk (show Below w6.heap.size w6 (w6.alloc (.cells #[.slice x0.1 x0.2.1 x0.2.2, .slice x1.1 x1.2.1 x1.2.2, .slice x2.1 x2.2.1 x2.2.2] 30 (0, 0))) from (Below.refl _ w6).alloc (Nat.le_refl _) _); have HV6 := Aside0.mk (hVb _ _ _ _ _ _ (hVb _ _ _ _ _ _ (hVb _ _ _ _ _ _ HV5.out hbc) hb6) HA.out); have HU6 := Aside0.mk (hUb _ _ _ _ _ _ hx HA.out); have Q6 := blk_b HBm6.out HQb.out; have y0 := (blk_cell Q6 0).trans (show _ = some (.slice s0.1 s0.2.1 s0.2.2) from rfl); have y1 := (blk_cell Q6 1).trans (show _ = some (.slice s1.1 s1.2.1 s1.2.2) from rfl); have y2 := (blk_cell Q6 2).trans (show _ = some (.slice s2.1 s2.2.1 s2.2.2) from rfl); clear p0 p1 p2 hbc hb6 hx HA HR5 HV5 HBm5 Q6
 go_upto_region 17 with (go_at_call 7; refine (hE _ _ _ _ _ _ _ _ HU6.out (hSb _ _ _ _ _ HSb.out HBm6.out)).mono ?_; rintro e w7 ⟨rfl, hb7⟩)
 have R7 := blk_b hb7 HR6.out; have HV7 := Aside0.mk (hVb _ _ _ _ _ _ HV6.out hb7); have HBm7 := Aside0.mk (below_step HBm6.out hb7); have z0 := (blk_cell R7 0).trans (show _ = some (.slice v0.1 v0.2.1 v0.2.2) from rfl); have z1 := (blk_cell R7 1).trans (show _ = some (.slice v1.1 v1.2.1 v1.2.2) from rfl); have z2 := (blk_cell R7 2).trans (show _ = some (.slice v2.1 v2.2.1 v2.2.2) from rfl); clear y0 y1 y2 hb7 HV6 HBm6 R7
 go_wp2_with (go_at_call 9; refine (hH _ _ _ _ _ HV7.out).mono ?_; rintro e w8 ⟨rfl, hb8⟩)
 go_ret
 exact ⟨rfl, below_step (below_step HBb.out HBm7.out) hb8⟩
set_option maxRecDepth 100000 in
set_option maxHeartbeats 4000000 in
theorem markRows0 (k : Int) (w : World) : Calls Tryd.prog 19 #[.slice none 0 0, .int .i64 k] w fun e w' => e = .returned (.int .i64 k) ∧ w' = w := by
 go_enter Tryd.func19, Tryd.ntmps19
 go_wp2
 go_loopg [1, 5] 0 (fun gg s1 s5 wr => s1 = .int .i64 k ∧ s5 = .int .i64 0 ∧ wr = w)
 case atStart => exact ⟨rfl, rfl, rfl⟩
 case round =>
  obtain ⟨rfl, rfl, rfl⟩ := hrel
  go_wp2
  go_ret
  exact ⟨rfl, rfl⟩
set_option maxRecDepth 100000 in
set_option maxHeartbeats 4000000 in
theorem markVals0 (k : Int) (w : World) : Calls Tryd.prog 20 #[.slice none 0 0, .int .i64 k] w fun e w' => e = .returned (.int .i64 k) ∧ w' = w := by
 go_enter Tryd.func20, Tryd.ntmps20
 go_wp2
 go_loopg [1, 5] 0 (fun gg s1 s5 wr => s1 = .int .i64 k ∧ s5 = .int .i64 0 ∧ wr = w)
 case atStart => exact ⟨rfl, rfl, rfl⟩
 case round =>
  obtain ⟨rfl, rfl, rfl⟩ := hrel
  go_wp2
  go_ret
  exact ⟨rfl, rfl⟩
set_option maxRecDepth 100000 in
set_option maxHeartbeats 4000000 in
theorem markBools0 (k : Int) (w : World) : Calls Tryd.prog 21 #[.slice none 0 0, .int .i64 k] w fun e w' => e = .returned (.int .i64 k) ∧ w' = w := by
 go_enter Tryd.func21, Tryd.ntmps21
 go_wp2
 go_loopg [1, 5] 0 (fun gg s1 s5 wr => s1 = .int .i64 k ∧ s5 = .int .i64 0 ∧ wr = w)
 case atStart => exact ⟨rfl, rfl, rfl⟩
 case round =>
  obtain ⟨rfl, rfl, rfl⟩ := hrel
  go_wp2
  go_ret
  exact ⟨rfl, rfl⟩
set_option maxRecDepth 100000 in
set_option maxHeartbeats 4000000 in
theorem markSeg0 (w : World) : Calls Tryd.prog 8 #[.agg #[.slice none 0 0, .slice none 0 0, .slice none 0 0], .int .i64 1] w fun e w' => e = .returned (.int .i64 1) ∧ ∃ o, w' = w.alloc o := by
 go_enter Tryd.func8, Tryd.ntmps8
 go_wp2_with (first
  | (go_at_call 19; refine (markRows0 1 _).mono ?_; rintro e w1 ⟨rfl, rfl⟩)
  | (go_at_call 20; refine (markVals0 1 _).mono ?_; rintro e w1 ⟨rfl, rfl⟩)
  | (go_at_call 21; refine (markBools0 1 _).mono ?_; rintro e w1 ⟨rfl, rfl⟩))
 go_ret
 exact ⟨rfl, _, rfl⟩
theorem c_of_blk {α : Type} {d : Kd α} {W : World} {b : Nat} {t : TypeId} {cells : Array Value} {xs : List α} (h : W.heap[b]? = some (.cells cells t (0, 0))) (hn : xs.length ≤ 9223372036854775807)
  (hx : ∀ (j : Nat) (x : α), xs[j]? = some x → ∃ c : List Value, c.length = d.sz ∧ d.K W x c ∧ ∀ (i : Nat) (u : Value), c[i]? = some u → cells[j * d.sz + i]? = some u) : d.C W (some ⟨b, 0, none⟩) xs.length xs :=
 ⟨rfl, hn, fun _ => ⟨_, rfl, fun j p hp => by
  obtain ⟨c, q1, q2, q3⟩ := hx j p hp; refine ⟨c, q1, q2, fun i u hi => ?_⟩; rw [Addr.add_lit, Nat.zero_add, blk_cell h]; exact q3 i u hi⟩⟩
theorem one_cell {P : Nat → Value → Prop} {v : Value} (h : P 0 v) : ∀ (i : Nat) (u : Value), ([v] : List Value)[i]? = some u → P i u
 | 0, u, e => by obtain rfl := Option.some.inj e; exact h
 | i + 1, u, e => by simp at e
theorem two_cells {P : Nat → Value → Prop} {v v' : Value} (h : P 0 v) (h' : P 1 v') : ∀ (i : Nat) (u : Value), ([v, v'] : List Value)[i]? = some u → P i u
 | 0, u, e => by obtain rfl := Option.some.inj e; exact h
 | 1, u, e => by obtain rfl := Option.some.inj e; exact h'
 | i + 2, u, e => by simp at e
theorem three_cells {P : Nat → Value → Prop} {v v' v'' : Value} (h : P 0 v) (h' : P 1 v') (h'' : P 2 v'') : ∀ (i : Nat) (u : Value), ([v, v', v''] : List Value)[i]? = some u → P i u
 | 0, u, e => by obtain rfl := Option.some.inj e; exact h
 | 1, u, e => by obtain rfl := Option.some.inj e; exact h'
 | 2, u, e => by obtain rfl := Option.some.inj e; exact h''
 | i + 3, u, e => by simp at e
theorem c_sym {W : World} {b : Nat} {p q : Int} (h : W.heap[b]? = some (.cells #[.int .i64 p, .int .i64 q] 42 (0, 0))) : k42.C W (some ⟨b, 0, none⟩) 1 [⟨p, q⟩] :=
 c_of_blk (xs := [(⟨p, q⟩ : S42)]) h (by simp) fun j x hj => by
  match j, hj with
  | 0, hj =>
   obtain rfl := Option.some.inj hj; exact ⟨_, rfl, k42_mk W ⟨p, q⟩, two_cells rfl rfl⟩
theorem Seg5.rows {w : World} {bo b1 b2 bv bm : Nat} {p q r s t u : Int} {f g : Bool} (h : Seg5 w bo b1 b2 bv bm p q r s t u f g) : Kd.C (Kd.slice 42 k42) w (some ⟨bo, 0, none⟩) 2 [[⟨p, q⟩], [⟨r, s⟩]] :=
 c_of_blk (d := Kd.slice 42 k42) (xs := [[(⟨p, q⟩ : S42)], [(⟨r, s⟩ : S42)]]) h.o (by simp) fun j x hj => by
  match j, hj with
  | 0, hj =>
   obtain rfl := Option.some.inj hj; exact ⟨[.slice (some ⟨b1, 0, none⟩) 1 1], rfl, ⟨some ⟨b1, 0, none⟩, 1, rfl, Nat.le_refl _, c_sym h.r1⟩, one_cell rfl⟩
  | 1, hj =>
   obtain rfl := Option.some.inj hj; exact ⟨[.slice (some ⟨b2, 0, none⟩) 1 1], rfl, ⟨some ⟨b2, 0, none⟩, 1, rfl, Nat.le_refl _, c_sym h.r2⟩, one_cell rfl⟩
theorem Seg5.val {w : World} {bo b1 b2 bv bm : Nat} {p q r s t u : Int} {f g : Bool} (h : Seg5 w bo b1 b2 bv bm p q r s t u f g) : k34.C w (some ⟨bv, 0, none⟩) 1 [⟨⟨t, u⟩, f⟩] :=
 c_of_blk (xs := [(⟨⟨t, u⟩, f⟩ : S34)]) h.v (by simp) fun j x hj => by
  match j, hj with
  | 0, hj =>
   obtain rfl := Option.some.inj hj; exact ⟨_, rfl, k34_mk w ⟨⟨t, u⟩, f⟩, three_cells rfl rfl rfl⟩
theorem Seg5.flag {w : World} {bo b1 b2 bv bm : Nat} {p q r s t u : Int} {f g : Bool} (h : Seg5 w bo b1 b2 bv bm p q r s t u f g) : Kd.C Kd.bool w (some ⟨bm, 0, none⟩) 1 [g] :=
 c_of_blk (d := Kd.bool) (xs := [g]) h.m (by simp) fun j x hj => by
  match j, hj with
  | 0, hj =>
   obtain rfl := Option.some.inj hj; exact ⟨[.bool g], rfl, rfl, one_cell rfl⟩
theorem c_nil {α : Type} (d : Kd α) (w : World) : d.C w none 0 [] := ⟨rfl, Nat.zero_le _, fun h => absurd h (Nat.lt_irrefl 0)⟩
theorem marked_below {W w : World} {b1 b2 bv bm : Nat} (h : Below W.heap.size W w) (h1 : W.heap.size ≤ b1) (h2 : W.heap.size ≤ b2) (hv : W.heap.size ≤ bv) (hm : W.heap.size ≤ bm) : Below W.heap.size W (marked w b1 b2 bv bm) := by
 unfold marked set2; exact below_set (below_set (below_set (below_set (below_set (below_set (below_set (below_set h h1) h1) h2) h2) hv) hv) hv) hm
/-- A row of segments that is read. -/
def SpecAt (b : List (List S42)) (v : List S34) (m : List Bool) (W : World) (s0 s1 s2 : Sl) : Prop := (s0.2.1 = b.length ∧ b.length ≤ s0.2.2 ∧ Kd.C (Kd.slice 42 k42) W s0.1 b.length b) ∧ (s1.2.1 = v.length ∧ v.length ≤ s1.2.2 ∧ k34.C W s1.1 v.length v) ∧ (s2.2.1 = m.length ∧ m.length ≤ s2.2.2 ∧ Kd.C Kd.bool W s2.1 m.length m)
theorem SpecAt.below {b : List (List S42)} {v : List S34} {m : List Bool} {W W' : World} {s0 s1 s2 : Sl} (h : SpecAt b v m W s0 s1 s2) (hb : Below W.heap.size W W') : SpecAt b v m W' s0 s1 s2 :=
 ⟨⟨h.1.1, h.1.2.1, Kd.C_below h.1.2.2 hb⟩, ⟨h.2.1.1, h.2.1.2.1, Kd.C_below h.2.1.2.2 hb⟩, ⟨h.2.2.1, h.2.2.2.1, Kd.C_below h.2.2.2.2 hb⟩⟩
theorem SpecAt.eq {k : Nat} {b b' : List (List S42)} {v v' : List S34} {m m' : List Bool} {W : World} {s0 s1 s2 s0' s1' s2' : Sl} (h : SpecAt b v m W s0 s1 s2) (h' : SpecAt b' v' m' W s0' s1' s2') (he : laws_eqSeg.f k b v m b' v' m' = some true) :
  Calls Tryd.prog 7 #[.agg #[.slice s0.1 s0.2.1 s0.2.2, .slice s1.1 s1.2.1 s1.2.2, .slice s2.1 s2.2.1 s2.2.2], .agg #[.slice s0'.1 s0'.2.1 s0'.2.2, .slice s1'.1 s1'.2.1 s1'.2.2, .slice s2'.1 s2'.2.1 s2'.2.2]] W fun e w' => e = .returned (.bool true) ∧ Below W.heap.size W w' := by
 obtain ⟨⟨a1, a2, a3⟩, ⟨a4, a5, a6⟩, ⟨a7, a8, a9⟩⟩ := h; obtain ⟨⟨c1, c2, c3⟩, ⟨c4, c5, c6⟩, ⟨c7, c8, c9⟩⟩ := h'; rw [a1, a4, a7, c1, c4, c7]; exact laws_eqSeg.calls k _ _ b _ _ v _ _ m _ _ b' _ _ v' _ _ m' true W a3 a2 a6 a5 a9 a8 c3 c2 c6 c5 c9 c8 he
theorem SpecAt.held {k : Nat} {b : List (List S42)} {v : List S34} {m : List Bool} {W : World} {s0 s1 s2 : Sl} {r : Int} (h : SpecAt b v m W s0 s1 s2) (he : laws_heldSeg.f k b v m 1 = some r) :
  Calls Tryd.prog 9 #[.agg #[.slice s0.1 s0.2.1 s0.2.2, .slice s1.1 s1.2.1 s1.2.2, .slice s2.1 s2.2.1 s2.2.2], .int .i64 1] W fun e w' => e = .returned (.int .i64 r) ∧ Below W.heap.size W w' := by
 obtain ⟨⟨a1, a2, a3⟩, ⟨a4, a5, a6⟩, ⟨a7, a8, a9⟩⟩ := h; rw [a1, a4, a7]; exact laws_heldSeg.calls k _ _ b _ _ v _ _ m 1 r W a3 a2 a6 a5 a9 a8 he
/-- The made row of two bounds, of blocks from a world on. -/
def Own5 (p q r s t u : Int) (f g : Bool) (W0 W : World) (v0 v1 v2 : Sl) : Prop := ∃ bo b1 b2 bv bm : Nat, v0 = (some ⟨bo, 0, none⟩, 2, 2) ∧ v1 = (some ⟨bv, 0, none⟩, 1, 1) ∧ v2 = (some ⟨bm, 0, none⟩, 1, 1) ∧ Seg5 W bo b1 b2 bv bm p q r s t u f g ∧ W0.heap.size ≤ b1 ∧ W0.heap.size ≤ b2 ∧ W0.heap.size ≤ bv ∧ W0.heap.size ≤ bm
theorem Own5.below {p q r s t u : Int} {f g : Bool} {W0 W W' : World} {v0 v1 v2 : Sl} (h : Own5 p q r s t u f g W0 W v0 v1 v2) (hb : Below W.heap.size W W') : Own5 p q r s t u f g W0 W' v0 v1 v2 := by
 obtain ⟨bo, b1, b2, bv, bm, e0, e1, e2, h5, g⟩ := h; exact ⟨bo, b1, b2, bv, bm, e0, e1, e2, h5.below hb, g⟩
theorem Own5.reads {p q r s t u : Int} {f g : Bool} {W0 W : World} {v0 v1 v2 : Sl} (h : Own5 p q r s t u f g W0 W v0 v1 v2) : SpecAt [[⟨p, q⟩], [⟨r, s⟩]] [⟨⟨t, u⟩, f⟩] [g] W v0 v1 v2 := by
 obtain ⟨bo, b1, b2, bv, bm, rfl, rfl, rfl, h5, g⟩ := h; exact ⟨⟨rfl, Nat.le_refl _, h5.rows⟩, ⟨rfl, Nat.le_refl _, h5.val⟩, ⟨rfl, Nat.le_refl _, h5.flag⟩⟩
theorem Own5.mark {p q r s t u : Int} {f g : Bool} {W0 W : World} {v0 v1 v2 : Sl} (h : Own5 p q r s t u f g W0 W v0 v1 v2) (hb : Below W0.heap.size W0 W) :
  Calls Tryd.prog 8 #[.agg #[.slice v0.1 v0.2.1 v0.2.2, .slice v1.1 v1.2.1 v1.2.2, .slice v2.1 v2.2.1 v2.2.2], .int .i64 1] W fun e w' => e = .returned (.int .i64 9) ∧ Own5 1 2 3 4 5 6 false false W0 w' v0 v1 v2 ∧ Below W0.heap.size W0 w' ∧ ∀ (k : Nat) (cs : Array Value), W.heap[k]? = some (.cells cs 30 (0, 0)) → w'.heap[k]? = some (.cells cs 30 (0, 0)) := by
 obtain ⟨bo, b1, b2, bv, bm, rfl, rfl, rfl, h5, g1, g2, gv, gm⟩ := h; refine (markSeg2 bo b1 b2 bv bm p q r s t u f g W h5).mono ?_; rintro e w' ⟨rfl, o, rfl⟩; have hA : Below W.heap.size W (W.alloc o) := (Below.refl _ W).alloc (Nat.le_refl _) o; refine ⟨rfl, ⟨bo, b1, b2, bv, bm, rfl, rfl, rfl, (h5.below hA).marks, g1, g2, gv, gm⟩, marked_below (below_step hb hA) g1 g2 gv gm, fun k cs hk => ?_⟩; have hk' := al_old hk o; exact (marked_far (blk_ne hk h5.r1 (by decide)) (blk_ne hk h5.r2 (by decide)) (blk_ne hk h5.v (by decide)) (blk_ne hk h5.m (by decide))).trans hk'
/-- A row of nothing. -/
def NilAt (W0 W : World) (v0 v1 v2 : Sl) : Prop := v0 = (none, 0, 0) ∧ v1 = (none, 0, 0) ∧ v2 = (none, 0, 0)
theorem NilAt.reads {W0 W : World} {v0 v1 v2 : Sl} (h : NilAt W0 W v0 v1 v2) : SpecAt [] [] [] W v0 v1 v2 := by
 obtain ⟨rfl, rfl, rfl⟩ := h; exact ⟨⟨rfl, Nat.le_refl _, c_nil _ _⟩, ⟨rfl, Nat.le_refl _, c_nil _ _⟩, ⟨rfl, Nat.le_refl _, c_nil _ _⟩⟩
theorem NilAt.mark {W0 W : World} {v0 v1 v2 : Sl} (h : NilAt W0 W v0 v1 v2) (hb : Below W0.heap.size W0 W) :
  Calls Tryd.prog 8 #[.agg #[.slice v0.1 v0.2.1 v0.2.2, .slice v1.1 v1.2.1 v1.2.2, .slice v2.1 v2.2.1 v2.2.2], .int .i64 1] W fun e w' => e = .returned (.int .i64 1) ∧ NilAt W0 w' v0 v1 v2 ∧ Below W0.heap.size W0 w' ∧ ∀ (k : Nat) (cs : Array Value), W.heap[k]? = some (.cells cs 30 (0, 0)) → w'.heap[k]? = some (.cells cs 30 (0, 0)) := by
 obtain ⟨rfl, rfl, rfl⟩ := h; refine (markSeg0 W).mono ?_; rintro e w' ⟨rfl, o, rfl⟩; exact ⟨rfl, ⟨rfl, rfl, rfl⟩, below_step hb ((Below.refl _ W).alloc (Nat.le_refl _) o), fun k cs hk => al_old hk o⟩
theorem specTop (a0 a1 lo hi : Int) (su : Bool) (b : List (List S42)) (v : List S34) (m : List Bool) (h : spec_SegTop.f a0 a1 lo hi su = some (b, v, m)) (W : World) :
  Calls Tryd.prog 4 #[.int .i64 a0, .int .i64 a1, .agg #[.int .i64 lo, .int .i64 hi, .bool su]] W fun e w' => ∃ s0 s1 s2 : Sl, e = .returned (.agg #[.slice s0.1 s0.2.1 s0.2.2, .slice s1.1 s1.2.1 s1.2.2, .slice s2.1 s2.2.1 s2.2.2]) ∧ SpecAt b v m w' s0 s1 s2 ∧ Below W.heap.size W w' := by
 refine (spec_SegTop.calls a0 a1 lo hi su b v m W h).mono ?_; rintro e w' ⟨v0, v1, v2, rfl, hn, h1, h2, hb⟩; obtain ⟨A0, c0, rfl, l0, r0⟩ := Kd.N_reads hn; obtain ⟨A1, c1, rfl, l1, r1⟩ := Kd.R_reads h1; obtain ⟨A2, c2, rfl, l2, r2⟩ := Kd.R_reads h2; exact ⟨(A0, b.length, c0), (A1, v.length, c1), (A2, m.length, c2), rfl, ⟨⟨rfl, l0, r0⟩, ⟨rfl, l1, r1⟩, ⟨rfl, l2, r2⟩⟩, hb⟩
/-- What the law asks of the answers. -/
def laws_FnExactSegTop.f (k : Nat) (a0 a1 lo hi : Int) (su : Bool) : Option Bool :=
 (spec_SegTop.f a0 a1 lo hi su).bind fun s => (impl_isShape.f a0 a1).bind fun t1 => (impl_ValOk.f lo hi su).bind fun t2 =>
  if (t1 && t2) = true then (if laws_eqSeg.f k [[⟨0, 0⟩], [⟨a1, 0⟩]] [⟨⟨lo, hi⟩, su⟩] [true] s.1 s.2.1 s.2.2 = some true ∧ laws_heldSeg.f k [[⟨1, 2⟩], [⟨3, 4⟩]] [⟨⟨5, 6⟩, false⟩] [false] 1 = some 9 then some true else none)
  else (if laws_eqSeg.f k [] [] [] s.1 s.2.1 s.2.2 = some true ∧ laws_heldSeg.f k [] [] [] 1 = some 1 then some true else none)
theorem laws_FnExactSegTop.calls (k : Nat) (a0 a1 lo hi : Int) (su : Bool) (r : Bool) (w : World) (hG0 : GL0 w) (h : laws_FnExactSegTop.f k a0 a1 lo hi su = some r) (hr_ : r = true) :
  Calls Tryd.prog 3 #[.int .i64 a0, .int .i64 a1, .agg #[.int .i64 lo, .int .i64 hi, .bool su]] w fun e w' => e = .returned (.bool r) ∧ Below w.heap.size w w' := by
 subst hr_; unfold laws_FnExactSegTop.f at h; obtain ⟨⟨b, v, m⟩, hs, h⟩ := Option.bind_eq_some_iff.mp h; obtain ⟨t1, h1, h⟩ := Option.bind_eq_some_iff.mp h; obtain ⟨t2, h2, h⟩ := Option.bind_eq_some_iff.mp h; have hS := specTop a0 a1 lo hi su b v m hs
 have bad : ∀ (hI : ∀ W, Below w.heap.size w W → Calls Tryd.prog 6 #[.int .i64 a0, .int .i64 a1, .agg #[.int .i64 lo, .int .i64 hi, .bool su]] W fun e w' => e = .returned (.agg #[.slice none 0 0, .slice none 0 0, .slice none 0 0]) ∧ Below W.heap.size W w'), laws_eqSeg.f k [] [] [] b v m = some true → laws_heldSeg.f k [] [] [] 1 = some 1 → Calls Tryd.prog 3 #[.int .i64 a0, .int .i64 a1, .agg #[.int .i64 lo, .int .i64 hi, .bool su]] w fun e w' => e = .returned (.bool true) ∧ Below w.heap.size w w' := fun hI he hh =>
  law_walk a0 a1 lo hi su 1 (by decide) NilAt NilAt (SpecAt b v m) w hS (fun _ _ _ _ _ h hb => h.below hb) (fun W hW => (hI W hW).mono fun e w' h => ⟨(none, 0, 0), (none, 0, 0), (none, 0, 0), h.1, ⟨rfl, rfl, rfl⟩, h.2⟩) (fun _ _ _ _ _ _ h _ => h) (fun _ _ _ _ _ _ h _ => h)
   (fun _ _ _ _ _ _ _ _ h h' => h.reads.eq h' he) (fun _ _ _ _ _ h hb => h.mark hb) (fun _ _ _ _ _ h => h.reads.held hh)
 cases t1 with
 | false =>
  rw [Bool.false_and, if_neg (by decide)] at h
  split at h
  ·
   rename_i hc
   exact bad (fun W _ => segTop_bad1 a0 a1 lo hi su W h1) hc.1 hc.2
  ·
   cases h
 | true =>
  cases t2 with
  | false =>
   rw [Bool.and_false, if_neg (by decide)] at h
   split at h
   ·
    rename_i hc
    exact bad (fun W hW => segTop_bad2 a0 a1 lo hi su W (GL0.below hG0 hW) h1 h2) hc.1 hc.2
   ·
    cases h
  | true =>
   rw [Bool.and_self, if_pos rfl] at h
   split at h
   ·
    rename_i hc
    exact law_walk a0 a1 lo hi su 9 (by decide) (Own5 0 0 a1 0 lo hi su true) (Own5 1 2 3 4 5 6 false false) (SpecAt b v m) w hS (fun _ _ _ _ _ h hb => h.below hb)
     (fun W hW => (segTop_ok a0 a1 lo hi su W (GL0.below hG0 hW) h1 h2).mono fun e w' ⟨bo, b1, b2, bv, bm, he, h5, g0, g1, g2, gv, gm, hb⟩ => ⟨(some ⟨bo, 0, none⟩, 2, 2), (some ⟨bv, 0, none⟩, 1, 1), (some ⟨bm, 0, none⟩, 1, 1), he, ⟨bo, b1, b2, bv, bm, rfl, rfl, rfl, h5, g1, g2, gv, gm⟩, hb⟩)
     (fun _ _ _ _ _ _ h hb => h.below hb) (fun _ _ _ _ _ _ h hb => h.below hb) (fun _ _ _ _ _ _ _ _ h h' => h.reads.eq h' hc.1) (fun _ _ _ _ _ h hb => h.mark hb) (fun _ _ _ _ _ h => h.reads.held hc.2)
   ·
    cases h


end Go.Proofs.YtkmeihmfppcpaaaDoor.Q
