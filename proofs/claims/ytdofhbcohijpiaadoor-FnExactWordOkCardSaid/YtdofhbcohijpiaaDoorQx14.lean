/- Functions of the translation as Lean functions, each with a proof that a call answers so; out of the seat, by this claim's own program prt.py. -/
import Derived.Test.YtdofhbcohijpiaaDoorWRepsOne
import Derived.Test.YtdofhbcohijpiaaDoorQx0
namespace Go.Proofs.YtdofhbcohijpiaaDoor.Q
open Go.RowKit Go.Proofs.YtdofhbcohijpiaaDoorW.PrintWords Go.Proofs.YtdofhbcohijpiaaDoorW.PrintLast Go.Proofs.YtdofhbcohijpiaaDoorW.PrintMore
attribute [local go_sem] max2_int min2_int max_two min_two max_three min_three max_four min_four   -- for this text's walks alone
set_option linter.unusedVariables false
set_option linter.unusedSimpArgs false

/-! ### spec_l01Digit: function 73 -/
def spec_l01Digit.f (a0 : Int) : Option (Bool) := if a0 ≥ 48 then (some (decide (a0 ≤ 57))) else (some false)
set_option maxHeartbeats 8000000 in
set_option maxRecDepth 100000 in
theorem spec_l01Digit.calls (a0 : Int) (r : Bool) (w : World) (h : spec_l01Digit.f a0 = some r) :
  Calls Tryd.prog 73 #[.int .u8 a0] w fun e w' => e = .returned (.bool r) ∧ Drawn0 w w' := by
 have H : (if a0 ≥ 48 then (some (decide (a0 ≤ 57))) else (some false)) = some r := h; clear h
 by_cases c2 : a0 ≥ 48
 ·
  rw [if_pos c2] at H; have c2b0 : decide (48 ≤ a0) = true := decide_eq_true c2; clear c2; obtain rfl := Option.some.inj H
  go_enter Tryd.func73, Tryd.ntmps73
  go_wp2
  go_ret
  exact ⟨by first | rfl | (simp; done) | (simp [*]; done), by repeat (first | exact Drawn0.refl _ | apply Drawn0.step)⟩
 ·
  rw [if_neg c2] at H; have c2b0 : decide (48 ≤ a0) = false := decide_eq_false c2; clear c2; obtain rfl := Option.some.inj H
  go_enter Tryd.func73, Tryd.ntmps73
  go_wp2
  go_ret
  exact ⟨by first | rfl | (simp; done) | (simp [*]; done), by repeat (first | exact Drawn0.refl _ | apply Drawn0.step)⟩

/-! ### impl_readNum: function 53 -/
/-- The number that a text is in decimal, and whether it is just the text of that number. -/
def numOf (l : List UInt8) : Int × Bool :=
 match Lib.atoiAll l with
 | .ok v => (v, Lib.itoa v == l)
 | .«syntax» => (0, false)
 | .range => (Lib.atoiSat l, false)
def impl_readNum.f (a0 : ByteArray) : Option (Int × Bool) := if a0.size ≤ 281474976710656 then some (numOf a0.data.toList) else none
set_option maxRecDepth 100000 in
theorem impl_readNum.ok (s : ByteArray) (v : Int) (hs : s.size ≤ 281474976710656) (h : Lib.atoiAll s.data.toList = .ok v) (w : World) (hG : GL2 w) :
  Calls Tryd.prog 53 #[.string s] w fun e w' => e = .returned (.tuple #[.int .i64 v, .bool (Lib.itoa v == s.data.toList)]) ∧ Below w.heap.size w w' := by
 obtain ⟨vb0, vb1⟩ := Lib.atoiAll_bounds h
 have hb1 : ∀ w1, (w1 = w ∨ ∃ t, w1 = Lib.bytesWorld w 5 t) → Below w.heap.size w w1 := by
  rintro w1 (rfl | ⟨t, rfl⟩)
  ·
   exact Below.refl _ _
  ·
   exact Lib.bytesWorld_below _ _ _
 go_enter Tryd.func53, Tryd.ntmps53
 go_wp2_with (first | (go_at_call 75; refine (Tryd.strconv_Atoi_ok s (by omega) v h _).mono ?_; rintro e w1 ⟨rfl, hw⟩; replace hw := hb1 w1 hw) | (go_at_call 47; refine (Tryd.strconv_Itoa v (by omega) (by omega) _ (GL2.below hG hw)).mono ?_))
 rintro e w2 ⟨rfl, k, os, rfl⟩
 go_wp2
 go_ret2
 refine ⟨?_, hw.trans (Lib.below_grow _ w1 hw.size k os)⟩; rw [← Lib.toList_data]; rfl
set_option maxRecDepth 100000 in
theorem impl_readNum.noNum (s : ByteArray) (hs : s.size ≤ 281474976710656) (h : Lib.atoiAll s.data.toList = .«syntax») (w : World) (hG : GL3 w) :
  Calls Tryd.prog 53 #[.string s] w fun e w' => e = .returned (.tuple #[.int .i64 0, .bool false]) ∧ Below w.heap.size w w' := by
 obtain ⟨u, v, hv⟩ := hG
 go_enter Tryd.func53, Tryd.ntmps53
 go_wp2_with (go_at_call 75; refine (Tryd.strconv_Atoi_syntax s hs h _ _ hv (Or.inr ⟨u, v, rfl⟩)).mono ?_; rintro e w1 ⟨N, rfl, -, -, hb⟩)
 go_ret2
 exact ⟨rfl, hb⟩
set_option maxRecDepth 100000 in
theorem impl_readNum.far (s : ByteArray) (hs : s.size ≤ 281474976710656) (h : Lib.atoiAll s.data.toList = .range) (w : World) (hG : GL4 w) :
  Calls Tryd.prog 53 #[.string s] w fun e w' => e = .returned (.tuple #[.int .i64 (Lib.atoiSat s.data.toList), .bool false]) ∧ Below w.heap.size w w' := by
 obtain ⟨u, v, hv⟩ := hG
 go_enter Tryd.func53, Tryd.ntmps53
 go_wp2_with (go_at_call 75; refine (Tryd.strconv_Atoi_range s hs h _ _ hv (Or.inr ⟨u, v, rfl⟩)).mono ?_; rintro e w1 ⟨N, rfl, -, -, hb⟩)
 go_ret2
 exact ⟨rfl, hb⟩
theorem impl_readNum.calls (a0 : ByteArray) (r1 : Int) (r2 : Bool) (w : World) (hG2 : GL2 w) (hG3 : GL3 w) (hG4 : GL4 w) (h : impl_readNum.f a0 = some (r1, r2)) :
  Calls Tryd.prog 53 #[.string a0] w fun e w' => e = .returned (.tuple #[.int .i64 r1, .bool r2]) ∧ Below w.heap.size w w' := by
 unfold impl_readNum.f at h
 split at h
 ·
  rename_i hs
  injection h with h
  unfold numOf at h; cases e : Lib.atoiAll a0.data.toList with
  | ok v =>
   rw [e] at h; simp only [Prod.mk.injEq] at h; obtain ⟨rfl, rfl⟩ := h; exact impl_readNum.ok a0 v hs e w hG2
  | «syntax» =>
   rw [e] at h; simp only [Prod.mk.injEq] at h; obtain ⟨rfl, rfl⟩ := h; exact impl_readNum.noNum a0 hs e w hG3
  | range =>
   rw [e] at h; simp only [Prod.mk.injEq] at h; obtain ⟨rfl, rfl⟩ := h; exact impl_readNum.far a0 hs e w hG4
 ·
  cases h

end Go.Proofs.YtdofhbcohijpiaaDoor.Q
