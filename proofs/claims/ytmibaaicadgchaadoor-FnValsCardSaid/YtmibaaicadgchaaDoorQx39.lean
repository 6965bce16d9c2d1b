/- Functions of the translation as Lean functions, each with a proof that a call answers so; out of the seat, by this claim's own program prt.py. -/
import Derived.Test.YtmibaaicadgchaaDoorWRepsOne
import Derived.Test.YtmibaaicadgchaaDoorQx0
import Derived.Test.YtmibaaicadgchaaDoorQx26
import Derived.Test.YtmibaaicadgchaaDoorQx32
import Derived.Test.YtmibaaicadgchaaDoorQStep
namespace Go.Proofs.YtmibaaicadgchaaDoor.Q
open Go.RowKit Go.Proofs.YtmibaaicadgchaaDoorW.PrintWords Go.Proofs.YtmibaaicadgchaaDoorW.PrintLast Go.Proofs.YtmibaaicadgchaaDoorW.PrintMore
attribute [local go_sem] max2_int min2_int max_two min_two max_three min_three max_four min_four   -- for this text's walks alone
set_option linter.unusedVariables false
set_option linter.unusedSimpArgs false

/-! ### impl_ValText: function 43 -/
def impl_ValText.j0 : Nat → Bool → Int → Int → Bool → Option (ByteArray)
 | 0, _, _, _, _ => none
 | k + 1, x9, x726000, x726001, x726002 => if x9 = true then ((impl_RangeText.f x726000 x726001).bind fun t727 => (some t727)) else ((impl_RangeText.f x726000 x726001).bind fun t728 => (if t728.size + 13 ≤ 9223372036854775807 then (some (t728 ++ (⟨#[32, 111, 114, 32, 117, 110, 119, 114, 105, 116, 116, 101, 110]⟩ : ByteArray))) else (none)))
def impl_ValText.f (k : Nat) (a0_0 : Int) (a0_1 : Int) (a0_2 : Bool) : Option (ByteArray) := (impl_ValOk.f a0_0 a0_1 a0_2).bind fun t726 => (if t726 = true then (impl_ValText.j0 k a0_2 a0_0 a0_1 a0_2) else (impl_ValText.j0 k true a0_0 a0_1 a0_2))
theorem impl_ValText.mono_l : ∀ k, (∀ y0 y1 y2 y3, LeO (impl_ValText.j0 k y0 y1 y2 y3) (impl_ValText.j0 (k + 1) y0 y1 y2 y3))
 | 0 => fun _ _ _ _ r h => by simp [impl_ValText.j0] at h
 | k + 1 => by
  have ih0 := impl_ValText.mono_l k
  ·
   intro y0 y1 y2 y3; unfold impl_ValText.j0
   repeat' first
   | (with_reducible exact ih0 _ _ _ _)
   | (with_reducible exact LeO.refl _)
   | (with_reducible exact LeO.none _)
   | (with_reducible refine LeO.ite ?_ ?_)
   | (with_reducible refine LeO.bind ?_ (fun _ => ?_))
   | exact ih0 _ _ _ _
   | exact LeO.none _
   | refine LeO.ite ?_ ?_
   | refine LeO.bind ?_ (fun _ => ?_)
theorem impl_ValText.mono : ∀ a0 a1 a2 k, LeO (impl_ValText.f k a0 a1 a2) (impl_ValText.f (k + 1) a0 a1 a2) := by
 intro a0 a1 a2 k; have ih0 := impl_ValText.mono_l k; unfold impl_ValText.f
 repeat' first
   | (with_reducible exact ih0 _ _ _ _)
   | (with_reducible exact LeO.refl _)
   | (with_reducible exact LeO.none _)
   | (with_reducible refine LeO.ite ?_ ?_)
   | (with_reducible refine LeO.bind ?_ (fun _ => ?_))
   | exact ih0 _ _ _ _
   | exact LeO.none _
   | refine LeO.ite ?_ ?_
   | refine LeO.bind ?_ (fun _ => ?_)
set_option maxHeartbeats 8000000 in
set_option maxRecDepth 100000 in
theorem impl_ValText.calls (k : Nat) (a0_0 : Int) (a0_1 : Int) (a0_2 : Bool) (r : ByteArray) (w : World) (hG0 : GL0 w) (hG5 : GL5 w) (h : impl_ValText.f k a0_0 a0_1 a0_2 = some r) :
  Calls Tryd.prog 43 #[.agg #[.int .i64 a0_0, .int .i64 a0_1, .bool a0_2]] w fun e w' => e = .returned (.string r) ∧ Below w.heap.size w w' := by
 have hu44 := Tryd.underlying44; have hu25 := Tryd.underlying25; have HB := Aside0.mk (Below.refl w.heap.size w); have HG0 := Aside0.mk hG0; clear hG0; have HG5 := Aside0.mk hG5; clear hG5; have H : ((impl_ValOk.f a0_0 a0_1 a0_2).bind fun t726 => (if t726 = true then (impl_ValText.j0 k a0_2 a0_0 a0_1 a0_2) else (impl_ValText.j0 k true a0_0 a0_1 a0_2))) = some r := h; clear h; have HC2 := Aside0.mk H; clear H
 go_enter Tryd.func43, Tryd.ntmps43
 go_upto_region 1 with (first | ((with_reducible refine gate_dst (N := 1) rfl ?_); refine box_y 1 #[.int .i64 a0_0, .int .i64 a0_1, .bool a0_2] 44 (h := ?_); intro gb725 hg w3 hbox hb; have n0_ := Aside0.mk (below_step (sq_below HB.out) hb); have n1_ := Aside0.mk (hbox); have n2_ := ge_ hg (below_size (sq_below HB.out)); have n3_ := ge_ hg (below_size (sq_below HB.out)); clear HB; have HB := n0_; have BK725 := n1_; have GW725 := n2_; have GE725 := n3_; clear n0_ n1_ n2_ n3_; clear hb hbox hg))
 (try simp only [Act.put, List.setIfInBounds_toArray, List.set_cons_zero, List.set_cons_succ])
 go_cut [9] (fun v9 wc => ∃ (kq : Nat) (x9_1 : Bool), v9 = .bool x9_1 ∧ Aside0 (impl_ValText.j0 kq x9_1 a0_0 a0_1 a0_2 = some r) ∧ Aside0 (kq ≤ k) ∧ Aside0 (wc.heap[gb725]? = some (.cells #[.int .i64 a0_0, .int .i64 a0_1, .bool a0_2] 44 (0, 0))) ∧ Aside0 (Below w.heap.size w wc))
 case first =>
  have H := HC2.out; clear HC2; replace H := Option.bind_eq_some_iff.mp H; obtain ⟨t726, A40, H⟩ := H; (try dsimp only at H); have A4 := Aside0.mk A40; clear A40
  by_cases c5 : t726 = true
  ·
   subst c5; have H1 := ifp_ H
   clear H; have H := H1; clear H1; have H' := Aside0.mk H; clear H; have hcz6_0 := cl_ (v := .int .i64 a0_0) BK725 0; have hcz6_1 := cl_ (v := .int .i64 a0_1) BK725 1; have hcz6_2 := cl_ (v := .bool a0_2) BK725 2; have hfz6_0 := blk_frozen BK725.out 0; have hfz6_1 := blk_frozen BK725.out 1; have hfz6_2 := blk_frozen BK725.out 2
   go_wp2_with (first | ((with_reducible refine gate_callee (f := 69) rfl ?_); refine gl_ 4 Tryd.func69 #[.agg #[.int .i64 a0_0, .int .i64 a0_1, .bool a0_2]] (h := ?_); (with_reducible refine (impl_ValOk.calls a0_0 a0_1 a0_2 true _ ?side1 A4.out).mono ?_); (case side1 => exact GL0.below HG0.out (sq_below1 HB.out GE725.out)); rintro e w7 ⟨rfl, hb⟩; refine ⟨_, rfl, ?_⟩; replace BK725 := bb_ BK725 hb; replace HB := hb1_ HB hb GE725; (try clear hb); have hcz8_0 := cl_ (v := .int .i64 a0_0) BK725 0; have hcz8_1 := cl_ (v := .int .i64 a0_1) BK725 1; have hcz8_2 := cl_ (v := .bool a0_2) BK725 2; have hfz8_0 := blk_frozen BK725.out 0; have hfz8_1 := blk_frozen BK725.out 1; have hfz8_2 := blk_frozen BK725.out 2))
   go_meet
   case rel => exact ⟨_, (a0_2), (by first | rfl | (simp; done) | (simp [*]; done)), H', ⟨by first | omega | exact Nat.le_refl _⟩, bk_ BK725, ⟨by repeat (first | (with_reducible first | exact HB.out | apply below_alloc | apply pw_below_drewN | apply below_drew1 | refine below_set ?_ GE725.out) | exact HB.out)⟩⟩
  ·
   replace c5 := Bool.eq_false_iff.mpr c5; subst c5; have H1 := ifn_ H
   clear H; have H := H1; clear H1; have H' := Aside0.mk H; clear H; have hcz9_0 := cl_ (v := .int .i64 a0_0) BK725 0; have hcz9_1 := cl_ (v := .int .i64 a0_1) BK725 1; have hcz9_2 := cl_ (v := .bool a0_2) BK725 2; have hfz9_0 := blk_frozen BK725.out 0; have hfz9_1 := blk_frozen BK725.out 1; have hfz9_2 := blk_frozen BK725.out 2
   go_wp2_with (first | ((with_reducible refine gate_callee (f := 69) rfl ?_); refine gl_ 4 Tryd.func69 #[.agg #[.int .i64 a0_0, .int .i64 a0_1, .bool a0_2]] (h := ?_); (with_reducible refine (impl_ValOk.calls a0_0 a0_1 a0_2 false _ ?side1 A4.out).mono ?_); (case side1 => exact GL0.below HG0.out (sq_below1 HB.out GE725.out)); rintro e w10 ⟨rfl, hb⟩; refine ⟨_, rfl, ?_⟩; replace BK725 := bb_ BK725 hb; replace HB := hb1_ HB hb GE725; (try clear hb)))
   go_meet
   case rel => exact ⟨_, (true), (by first | rfl | (simp; done) | (simp [*]; done)), H', ⟨by first | omega | exact Nat.le_refl _⟩, bk_ BK725, ⟨by repeat (first | (with_reducible first | exact HB.out | apply below_alloc | apply pw_below_drewN | apply below_drew1 | refine below_set ?_ GE725.out) | exact HB.out)⟩⟩
 case rest =>
  clear HC2
  try clear p2
  try clear c4
  try clear c5
  try clear c6
  try clear hcz6_0
  try clear hcz6_1
  try clear hcz6_2
  try clear hcz8_0
  try clear hcz8_1
  try clear hcz8_2
  try clear hcz9_0
  try clear hcz9_1
  try clear hcz9_2
  try clear hfz6_0
  try clear hfz6_1
  try clear hfz6_2
  try clear hfz8_0
  try clear hfz8_1
  try clear hfz8_2
  try clear hfz9_0
  try clear hfz9_1
  try clear hfz9_2
  obtain ⟨kq, x9_1, rfl, HA, HJ1, BK725, HB⟩ := hcut; cases kq with
  | zero => exact absurd HA.out (by simp [impl_ValText.j0])
  | succ kj1 =>
   have H := HA.out; clear HA; simp only [impl_ValText.j0] at H
   by_cases c11 : x9_1 = true
   ·
    subst c11; have H1 := ifp_ H
    clear H; have H := H1; clear H1; replace H := Option.bind_eq_some_iff.mp H; obtain ⟨t727, A120, H⟩ := H; replace H : (some t727) = some r := H; have A12 := Aside0.mk A120; clear A120; obtain rfl := Option.some.inj H; have hcz13_0 := cl_ (v := .int .i64 a0_0) BK725 0; have hcz13_1 := cl_ (v := .int .i64 a0_1) BK725 1; have hcz13_2 := cl_ (v := .bool a0_2) BK725 2; have hfz13_0 := blk_frozen BK725.out 0; have hfz13_1 := blk_frozen BK725.out 1; have hfz13_2 := blk_frozen BK725.out 2
    go_wp2_with (first | ((with_reducible refine gate_callee (f := 32) rfl ?_); refine gl_ 12 Tryd.func32 #[.agg #[.int .i64 a0_0, .int .i64 a0_1]] (h := ?_); (with_reducible refine (impl_RangeText.calls a0_0 a0_1 t727 _ ?side1 ?side2 A12.out).mono ?_); (case side1 => exact GL0.below HG0.out (sq_below HB.out)); (case side2 => exact GL5.below HG5.out (sq_below HB.out)); rintro e w14 ⟨rfl, hb⟩; refine ⟨_, rfl, ?_⟩; replace HB := hb_ HB hb; (try clear hb)))
    go_ret
    exact ⟨by first | rfl | (simp [errW_none, errW_some] <;> rfl) | (simp [*, errW_none, errW_some] <;> rfl), by repeat (first | (with_reducible first | exact HB.out | apply below_alloc | apply pw_below_drewN | apply below_drew1) | exact HB.out)⟩
   ·
    replace c11 := Bool.eq_false_iff.mpr c11; subst c11; have H1 := ifn_ H
    clear H; have H := H1; clear H1; replace H := Option.bind_eq_some_iff.mp H; obtain ⟨t728, A150, H⟩ := H; (try dsimp only at H); have A15 := Aside0.mk A150; clear A150
    by_cases c16 : t728.size + 13 ≤ 9223372036854775807
    ·
     rw [if_pos c16] at H; have c16b0 := eq_true c16; have c16b1 : decide (t728.size + 13 ≤ 9223372036854775807) = true := decide_eq_true c16
     try have c16b2 : (9223372036854775807 < t728.size + 13) = False := eq_false (Nat.not_lt.2 c16)
     obtain rfl := Option.some.inj H; have hcz17_0 := cl_ (v := .int .i64 a0_0) BK725 0; have hcz17_1 := cl_ (v := .int .i64 a0_1) BK725 1; have hcz17_2 := cl_ (v := .bool a0_2) BK725 2; have hfz17_0 := blk_frozen BK725.out 0; have hfz17_1 := blk_frozen BK725.out 1; have hfz17_2 := blk_frozen BK725.out 2
     go_wp2_with (first | ((with_reducible refine gate_callee (f := 32) rfl ?_); refine gl_ 15 Tryd.func32 #[.agg #[.int .i64 a0_0, .int .i64 a0_1]] (h := ?_); (with_reducible refine (impl_RangeText.calls a0_0 a0_1 t728 _ ?side1 ?side2 A15.out).mono ?_); (case side1 => exact GL0.below HG0.out (sq_below HB.out)); (case side2 => exact GL5.below HG5.out (sq_below HB.out)); rintro e w18 ⟨rfl, hb⟩; refine ⟨_, rfl, ?_⟩; replace HB := hb_ HB hb; (try clear hb)))
     go_ret
     exact ⟨by first | rfl | (simp [errW_none, errW_some] <;> rfl) | (simp [*, errW_none, errW_some] <;> rfl), by repeat (first | (with_reducible first | exact HB.out | apply below_alloc | apply pw_below_drewN | apply below_drew1) | exact HB.out)⟩
    ·
     rw [if_neg c16] at H; exact absurd H (by simp)

/-! ### impl_ValLeq: function 44 -/
def impl_ValLeq.f (a0_0 : Int) (a0_1 : Int) (a0_2 : Bool) (a1_0 : Int) (a1_1 : Int) (a1_2 : Bool) : Option (Bool) := (impl_RangeLeq.f a0_0 a0_1 a1_0 a1_1).bind fun t731 => (if t731 = true then (if a0_2 = true then (some true) else (some (!a1_2))) else (some false))
set_option maxHeartbeats 8000000 in
set_option maxRecDepth 100000 in
theorem impl_ValLeq.calls (a0_0 : Int) (a0_1 : Int) (a0_2 : Bool) (a1_0 : Int) (a1_1 : Int) (a1_2 : Bool) (r : Bool) (w : World) (hG0 : GL0 w) (h : impl_ValLeq.f a0_0 a0_1 a0_2 a1_0 a1_1 a1_2 = some r) :
  Calls Tryd.prog 44 #[.agg #[.int .i64 a0_0, .int .i64 a0_1, .bool a0_2], .agg #[.int .i64 a1_0, .int .i64 a1_1, .bool a1_2]] w fun e w' => e = .returned (.bool r) ∧ Below w.heap.size w w' := by
 have hu44 := Tryd.underlying44; have hu25 := Tryd.underlying25; have HB := Aside0.mk (Below.refl w.heap.size w); have HG0 := Aside0.mk hG0; clear hG0; have H : ((impl_RangeLeq.f a0_0 a0_1 a1_0 a1_1).bind fun t731 => (if t731 = true then (if a0_2 = true then (some true) else (some (!a1_2))) else (some false))) = some r := h; clear h; replace H := Option.bind_eq_some_iff.mp H; obtain ⟨t731, A30, H⟩ := H; (try dsimp only at H); have A3 := Aside0.mk A30; clear A30
 by_cases c4 : t731 = true
 ·
  subst c4; have H1 := ifp_ H
  clear H; have H := H1; clear H1
  by_cases c5 : a0_2 = true
  ·
   subst c5; have H1 := ifp_ H
   clear H; have H := H1; clear H1; obtain rfl := Option.some.inj H
   go_enter Tryd.func44, Tryd.ntmps44
   go_wp2_with (first | ((with_reducible refine gate_dst (N := 2) rfl ?_); refine box_y 2 #[.int .i64 a0_0, .int .i64 a0_1, .bool true] 44 (h := ?_); intro gb729 hg w6 hbox hb; have n0_ := Aside0.mk (below_step (sq_below HB.out) hb); have n1_ := Aside0.mk (hbox); have n2_ := ge_ hg (below_size (sq_below HB.out)); have n3_ := ge_ hg (below_size (sq_below HB.out)); clear HB; have HB := n0_; have BK729 := n1_; have GW729 := n2_; have GE729 := n3_; clear n0_ n1_ n2_ n3_; clear hb hbox hg) | ((with_reducible refine gate_dst (N := 3) rfl ?_); refine box_y 3 #[.int .i64 a1_0, .int .i64 a1_1, .bool a1_2] 44 (h := ?_); intro gb730 hg w7 hbox hb; have n0_ := Aside0.mk (blk_below (sq_blk BK729.out) hb); have n1_ := Aside0.mk (below_step (sq_below1 HB.out GE729.out) hb); have n2_ := Aside0.mk (hbox); have n3_ := ge_ hg (below_size (sq_below1 HB.out GE729.out)); have n4_ := ge_ hg (below_size (sq_below1 HB.out GE729.out)); have n5_ := nb_ hg BK729; have n6_ := Aside0.mk (Ne.symm n5_.out); clear BK729; clear HB; have BK729 := n0_; have HB := n1_; have BK730 := n2_; have GW730 := n3_; have GE730 := n4_; have NB729_730 := n5_; have NB730_729 := n6_; clear n0_ n1_ n2_ n3_ n4_ n5_ n6_; clear hb hbox hg; have hnb8 := NB729_730.out; have hnc8 := NB730_729.out; have hcz9_0 := cl_ (v := .int .i64 a0_0) BK729 0; have hcz9_1 := cl_ (v := .int .i64 a0_1) BK729 1; have hcz9_2 := cl_ (v := .bool true) BK729 2; have hfz9_0 := blk_frozen BK729.out 0; have hfz9_1 := blk_frozen BK729.out 1; have hfz9_2 := blk_frozen BK729.out 2; have hcz10_0 := cl_ (v := .int .i64 a1_0) BK730 0; have hcz10_1 := cl_ (v := .int .i64 a1_1) BK730 1; have hcz10_2 := cl_ (v := .bool a1_2) BK730 2; have hfz10_0 := blk_frozen BK730.out 0; have hfz10_1 := blk_frozen BK730.out 1; have hfz10_2 := blk_frozen BK730.out 2) | ((with_reducible refine gate_callee (f := 28) rfl ?_); refine gl_ 9 Tryd.func28 #[.agg #[.int .i64 a0_0, .int .i64 a0_1], .agg #[.int .i64 a1_0, .int .i64 a1_1]] (h := ?_); (with_reducible refine (impl_RangeLeq.calls a0_0 a0_1 a1_0 a1_1 true _ ?side1 A3.out).mono ?_); (case side1 => exact GL0.below HG0.out (sq_below1 HB.out GE729.out)); rintro e w11 ⟨rfl, hb⟩; refine ⟨_, rfl, ?_⟩; replace BK729 := bb_ BK729 hb; replace HB := hb1_ HB hb GE729; (try clear hb); have hcz12_0 := cl_ (v := .int .i64 a0_0) BK729 0; have hcz12_1 := cl_ (v := .int .i64 a0_1) BK729 1; have hcz12_2 := cl_ (v := .bool true) BK729 2; have hfz12_0 := blk_frozen BK729.out 0; have hfz12_1 := blk_frozen BK729.out 1; have hfz12_2 := blk_frozen BK729.out 2))
   go_ret
   exact ⟨by first | rfl | (simp [errW_none, errW_some] <;> rfl) | (simp [*, errW_none, errW_some] <;> rfl), by repeat (first | (with_reducible first | exact HB.out | apply below_alloc | apply pw_below_drewN | apply below_drew1 | refine below_set ?_ GE729.out) | exact HB.out)⟩
  ·
   replace c5 := Bool.eq_false_iff.mpr c5; subst c5; have H1 := ifn_ H
   clear H; have H := H1; clear H1; obtain rfl := Option.some.inj H
   go_enter Tryd.func44, Tryd.ntmps44
   go_wp2_with (first | ((with_reducible refine gate_dst (N := 2) rfl ?_); refine box_y 2 #[.int .i64 a0_0, .int .i64 a0_1, .bool false] 44 (h := ?_); intro gb729 hg w13 hbox hb; have n0_ := Aside0.mk (below_step (sq_below HB.out) hb); have n1_ := Aside0.mk (hbox); have n2_ := ge_ hg (below_size (sq_below HB.out)); have n3_ := ge_ hg (below_size (sq_below HB.out)); clear HB; have HB := n0_; have BK729 := n1_; have GW729 := n2_; have GE729 := n3_; clear n0_ n1_ n2_ n3_; clear hb hbox hg) | ((with_reducible refine gate_dst (N := 3) rfl ?_); refine box_y 3 #[.int .i64 a1_0, .int .i64 a1_1, .bool a1_2] 44 (h := ?_); intro gb730 hg w14 hbox hb; have n0_ := Aside0.mk (blk_below (sq_blk BK729.out) hb); have n1_ := Aside0.mk (below_step (sq_below1 HB.out GE729.out) hb); have n2_ := Aside0.mk (hbox); have n3_ := ge_ hg (below_size (sq_below1 HB.out GE729.out)); have n4_ := ge_ hg (below_size (sq_below1 HB.out GE729.out)); have n5_ := nb_ hg BK729; have n6_ := Aside0.mk (Ne.symm n5_.out); clear BK729; clear HB; have BK729 := n0_; have HB := n1_; have BK730 := n2_; have GW730 := n3_; have GE730 := n4_; have NB729_730 := n5_; have NB730_729 := n6_; clear n0_ n1_ n2_ n3_ n4_ n5_ n6_; clear hb hbox hg; have hnb15 := NB729_730.out; have hnc15 := NB730_729.out; have hcz16_0 := cl_ (v := .int .i64 a0_0) BK729 0; have hcz16_1 := cl_ (v := .int .i64 a0_1) BK729 1; have hcz16_2 := cl_ (v := .bool false) BK729 2; have hfz16_0 := blk_frozen BK729.out 0; have hfz16_1 := blk_frozen BK729.out 1; have hfz16_2 := blk_frozen BK729.out 2; have hcz17_0 := cl_ (v := .int .i64 a1_0) BK730 0; have hcz17_1 := cl_ (v := .int .i64 a1_1) BK730 1; have hcz17_2 := cl_ (v := .bool a1_2) BK730 2; have hfz17_0 := blk_frozen BK730.out 0; have hfz17_1 := blk_frozen BK730.out 1; have hfz17_2 := blk_frozen BK730.out 2) | ((with_reducible refine gate_callee (f := 28) rfl ?_); refine gl_ 9 Tryd.func28 #[.agg #[.int .i64 a0_0, .int .i64 a0_1], .agg #[.int .i64 a1_0, .int .i64 a1_1]] (h := ?_); (with_reducible refine (impl_RangeLeq.calls a0_0 a0_1 a1_0 a1_1 true _ ?side1 A3.out).mono ?_); (case side1 => exact GL0.below HG0.out (sq_below2 HB.out GE729.out GE730.out)); rintro e w18 ⟨rfl, hb⟩; refine ⟨_, rfl, ?_⟩; replace BK729 := bb_ BK729 hb; replace BK730 := bb_ BK730 hb; replace HB := hb2_ HB hb GE729 GE730; (try clear hb); have hcz19_0 := cl_ (v := .int .i64 a0_0) BK729 0; have hcz19_1 := cl_ (v := .int .i64 a0_1) BK729 1; have hcz19_2 := cl_ (v := .bool false) BK729 2; have hfz19_0 := blk_frozen BK729.out 0; have hfz19_1 := blk_frozen BK729.out 1; have hfz19_2 := blk_frozen BK729.out 2; have hcz20_0 := cl_ (v := .int .i64 a1_0) BK730 0; have hcz20_1 := cl_ (v := .int .i64 a1_1) BK730 1; have hcz20_2 := cl_ (v := .bool a1_2) BK730 2; have hfz20_0 := blk_frozen BK730.out 0; have hfz20_1 := blk_frozen BK730.out 1; have hfz20_2 := blk_frozen BK730.out 2))
   go_ret
   exact ⟨by first | rfl | (simp [errW_none, errW_some] <;> rfl) | (simp [*, errW_none, errW_some] <;> rfl), by repeat (first | (with_reducible first | exact HB.out | apply below_alloc | apply pw_below_drewN | apply below_drew1 | refine below_set ?_ GE730.out) | exact HB.out)⟩
 ·
  replace c4 := Bool.eq_false_iff.mpr c4; subst c4; have H1 := ifn_ H
  clear H; have H := H1; clear H1; obtain rfl := Option.some.inj H
  go_enter Tryd.func44, Tryd.ntmps44
  go_wp2_with (first | ((with_reducible refine gate_dst (N := 2) rfl ?_); refine box_y 2 #[.int .i64 a0_0, .int .i64 a0_1, .bool a0_2] 44 (h := ?_); intro gb729 hg w21 hbox hb; have n0_ := Aside0.mk (below_step (sq_below HB.out) hb); have n1_ := Aside0.mk (hbox); have n2_ := ge_ hg (below_size (sq_below HB.out)); have n3_ := ge_ hg (below_size (sq_below HB.out)); clear HB; have HB := n0_; have BK729 := n1_; have GW729 := n2_; have GE729 := n3_; clear n0_ n1_ n2_ n3_; clear hb hbox hg) | ((with_reducible refine gate_dst (N := 3) rfl ?_); refine box_y 3 #[.int .i64 a1_0, .int .i64 a1_1, .bool a1_2] 44 (h := ?_); intro gb730 hg w22 hbox hb; have n0_ := Aside0.mk (blk_below (sq_blk BK729.out) hb); have n1_ := Aside0.mk (below_step (sq_below1 HB.out GE729.out) hb); have n2_ := Aside0.mk (hbox); have n3_ := ge_ hg (below_size (sq_below1 HB.out GE729.out)); have n4_ := ge_ hg (below_size (sq_below1 HB.out GE729.out)); have n5_ := nb_ hg BK729; have n6_ := Aside0.mk (Ne.symm n5_.out); clear BK729; clear HB; have BK729 := n0_; have HB := n1_; have BK730 := n2_; have GW730 := n3_; have GE730 := n4_; have NB729_730 := n5_; have NB730_729 := n6_; clear n0_ n1_ n2_ n3_ n4_ n5_ n6_; clear hb hbox hg; have hnb23 := NB729_730.out; have hnc23 := NB730_729.out; have hcz24_0 := cl_ (v := .int .i64 a0_0) BK729 0; have hcz24_1 := cl_ (v := .int .i64 a0_1) BK729 1; have hcz24_2 := cl_ (v := .bool a0_2) BK729 2; have hfz24_0 := blk_frozen BK729.out 0; have hfz24_1 := blk_frozen BK729.out 1; have hfz24_2 := blk_frozen BK729.out 2; have hcz25_0 := cl_ (v := .int .i64 a1_0) BK730 0; have hcz25_1 := cl_ (v := .int .i64 a1_1) BK730 1; have hcz25_2 := cl_ (v := .bool a1_2) BK730 2; have hfz25_0 := blk_frozen BK730.out 0; have hfz25_1 := blk_frozen BK730.out 1; have hfz25_2 := blk_frozen BK730.out 2) | ((with_reducible refine gate_callee (f := 28) rfl ?_); refine gl_ 9 Tryd.func28 #[.agg #[.int .i64 a0_0, .int .i64 a0_1], .agg #[.int .i64 a1_0, .int .i64 a1_1]] (h := ?_); (with_reducible refine (impl_RangeLeq.calls a0_0 a0_1 a1_0 a1_1 false _ ?side1 A3.out).mono ?_); (case side1 => exact GL0.below HG0.out (sq_below HB.out)); rintro e w26 ⟨rfl, hb⟩; refine ⟨_, rfl, ?_⟩; replace HB := hb_ HB hb; (try clear hb)))
  go_ret
  exact ⟨by first | rfl | (simp [errW_none, errW_some] <;> rfl) | (simp [*, errW_none, errW_some] <;> rfl), by repeat (first | (with_reducible first | exact HB.out | apply below_alloc | apply pw_below_drewN | apply below_drew1) | exact HB.out)⟩

end Go.Proofs.YtmibaaicadgchaaDoor.Q
