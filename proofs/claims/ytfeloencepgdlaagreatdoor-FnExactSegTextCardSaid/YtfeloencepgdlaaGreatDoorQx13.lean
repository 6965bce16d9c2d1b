/- Functions of the translation as Lean functions, each with a proof that a call answers so; out of the seat, by this claim's own program prt.py. -/
import Derived.Test.YtfeloencepgdlaaGreatDoorWTab
import Derived.Test.YtfeloencepgdlaaGreatDoorWRepsOne
import Derived.Test.YtfeloencepgdlaaGreatDoorQx0
import Derived.Test.YtfeloencepgdlaaGreatDoorQx6
import Derived.Test.YtfeloencepgdlaaGreatDoorQx7
import Derived.Test.YtfeloencepgdlaaGreatDoorQx12
import Derived.Test.YtfeloencepgdlaaGreatDoorQStep
namespace Go.Proofs.YtfeloencepgdlaaGreatDoor.Q
open Go.RowKit Go.Proofs.YtfeloencepgdlaaGreatDoorW.PrintWords Go.Proofs.YtfeloencepgdlaaGreatDoorW.PrintLast Go.Proofs.YtfeloencepgdlaaGreatDoorW.PrintMore
attribute [local go_sem] max2_int min2_int max_two min_two max_three min_three max_four min_four   -- for this text's walks alone
set_option linter.unusedVariables false
set_option linter.unusedSimpArgs false

/-! ### spec_RangeText: function 61 -/
def spec_RangeText.f (k : Nat) (a0_0 : Int) (a0_1 : Int) : Option (ByteArray) := (spec_RangeOk.f a0_0 a0_1).bind fun t173 => (if t173 = true then ((spec_l06Is.f a0_0 a0_1).bind fun t174 => (if t174 = true then ((spec_l01Digits.f k a0_0).bind fun t175 => (if t175.size + 2 ≤ 9223372036854775807 then ((spec_l01Digits.f k a0_1).bind fun t176 => (if t175.size + 2 + t176.size ≤ 9223372036854775807 then (some ((t175 ++ (⟨#[46, 46]⟩ : ByteArray)) ++ t176)) else (none))) else (none))) else (some (⟨#[110, 111, 110, 101]⟩ : ByteArray)))) else (some (⟨#[]⟩ : ByteArray)))
theorem spec_RangeText.mono : ∀ a0 a1 k, LeO (spec_RangeText.f k a0 a1) (spec_RangeText.f (k + 1) a0 a1) := by
 intro a0 a1 k; unfold spec_RangeText.f
 repeat' first
   | (with_reducible exact spec_l01Digits.mono _ _)
   | (with_reducible exact LeO.refl _)
   | (with_reducible exact LeO.none _)
   | (with_reducible refine LeO.ite ?_ ?_)
   | (with_reducible refine LeO.bind ?_ (fun _ => ?_))
   | exact spec_l01Digits.mono _ _
   | exact LeO.none _
   | refine LeO.ite ?_ ?_
   | refine LeO.bind ?_ (fun _ => ?_)
def spec_RangeText.T5 : Bool × List (List Nat × List Nat) := (true, [([], []), ([0], [0]), ([1], [1]), ([2], [2]), ([], []), ([4], [4]), ([5, 2], [5]), ([3, 6], [3, 6]), ([7, 6, 0, 1, 2, 3, 4, 5, 6, 7], [7])])
def spec_RangeText.B5 : List Nat := [0, 1, 3, 7, 0, 16, 55, 127, 255]
theorem spec_RangeText.tab5 : rtab .any (opsOf Tryz.f61 5) = spec_RangeText.T5 := by kernel_rfl
theorem spec_RangeText.bits5 : waitsOk spec_RangeText.T5.2 spec_RangeText.B5 = true := by kernel_rfl
set_option maxHeartbeats 8000000 in
set_option maxRecDepth 100000 in
theorem spec_RangeText.calls (k : Nat) (a0_0 : Int) (a0_1 : Int) (r : ByteArray) (w : World) (h : spec_RangeText.f k a0_0 a0_1 = some r) :
  Calls Tryz.prog 61 #[.agg #[.int .i64 a0_0, .int .i64 a0_1]] w fun e w' => e = .returned (.string r) ∧ Below w.heap.size w w' := by
 have hu64 := Tryz.underlying64; have HB := Aside0.mk (Below.refl w.heap.size w); have H : ((spec_RangeOk.f a0_0 a0_1).bind fun t173 => (if t173 = true then ((spec_l06Is.f a0_0 a0_1).bind fun t174 => (if t174 = true then ((spec_l01Digits.f k a0_0).bind fun t175 => (if t175.size + 2 ≤ 9223372036854775807 then ((spec_l01Digits.f k a0_1).bind fun t176 => (if t175.size + 2 + t176.size ≤ 9223372036854775807 then (some ((t175 ++ (⟨#[46, 46]⟩ : ByteArray)) ++ t176)) else (none))) else (none))) else (some (⟨#[110, 111, 110, 101]⟩ : ByteArray)))) else (some (⟨#[]⟩ : ByteArray)))) = some r := h; clear h; replace H := Option.bind_eq_some_iff.mp H; obtain ⟨t173, A20, H⟩ := H; (try dsimp only at H); have A2 := Aside0.mk A20; clear A20
 by_cases c3 : t173 = true
 ·
  subst c3; have H1 := ifp_ H
  clear H; have H := H1; clear H1; replace H := Option.bind_eq_some_iff.mp H; obtain ⟨t174, A40, H⟩ := H; (try dsimp only at H); have A4 := Aside0.mk A40; clear A40
  by_cases c5 : t174 = true
  ·
   subst c5; have H1 := ifp_ H
   clear H; have H := H1; clear H1; replace H := Option.bind_eq_some_iff.mp H; obtain ⟨t175, A60, H⟩ := H; (try dsimp only at H); have A6 := Aside0.mk A60; clear A60
   by_cases c7 : t175.size + 2 ≤ 9223372036854775807
   ·
    rw [if_pos c7] at H; have c7b0 := eq_true c7; have c7b1 : decide (t175.size + 2 ≤ 9223372036854775807) = true := decide_eq_true c7
    try have c7b2 : (9223372036854775807 < t175.size + 2) = False := eq_false (Nat.not_lt.2 c7)
    replace H := Option.bind_eq_some_iff.mp H; obtain ⟨t176, A80, H⟩ := H; (try dsimp only at H); have A8 := Aside0.mk A80; clear A80
    by_cases c9 : t175.size + 2 + t176.size ≤ 9223372036854775807
    ·
     rw [if_pos c9] at H; have c9b0 := eq_true c9; have c9b1 : decide (t175.size + 2 + t176.size ≤ 9223372036854775807) = true := decide_eq_true c9
     try have c9b2 : (9223372036854775807 < t175.size + 2 + t176.size) = False := eq_false (Nat.not_lt.2 c9)
     obtain rfl := Option.some.inj H
     go_enter Tryz.func61, Tryz.ntmps61
     try go_wp2_with (first | ((with_reducible refine gate_dst (N := 1) rfl ?_); refine box_y 1 #[.int .i64 a0_0, .int .i64 a0_1] 64 (h := ?_); intro gb172 hg w10 hbox hb; have n0_ := Aside0.mk (below_step (sq_below HB.out) hb); have n1_ := Aside0.mk (hbox); have n2_ := ge_ hg (below_size (sq_below HB.out)); have n3_ := ge_ hg (below_size (sq_below HB.out)); clear HB; have HB := n0_; have BK172 := n1_; have GW172 := n2_; have GE172 := n3_; clear n0_ n1_ n2_ n3_; clear hb hbox hg; have hcz11_0 := cl_ (v := .int .i64 a0_0) BK172 0; have hcz11_1 := cl_ (v := .int .i64 a0_1) BK172 1; have hfz11_0 := blk_frozen BK172.out 0; have hfz11_1 := blk_frozen BK172.out 1) | ((with_reducible refine gate_callee (f := 59) rfl ?_); refine gl_ 5 Tryz.func59 #[.agg #[.int .i64 a0_0, .int .i64 a0_1]] (h := ?_); (with_reducible refine (spec_RangeOk.calls a0_0 a0_1 true _ A2.out).mono ?_); rintro e w12 ⟨rfl, hb⟩; refine ⟨_, rfl, ?_⟩; replace BK172 := bb_ BK172 hb; replace HB := hb1_ HB hb GE172; (try clear hb); have hcz13_0 := cl_ (v := .int .i64 a0_0) BK172 0; have hcz13_1 := cl_ (v := .int .i64 a0_1) BK172 1; have hfz13_0 := blk_frozen BK172.out 0; have hfz13_1 := blk_frozen BK172.out 1) | ((with_reducible refine gate_callee (f := 85) rfl ?_); refine gl_ 9 Tryz.func85 #[.agg #[.int .i64 a0_0, .int .i64 a0_1]] (h := ?_); (with_reducible refine (spec_l06Is.calls a0_0 a0_1 true _ A4.out).mono ?_); rintro e w14 ⟨rfl, hb⟩; refine ⟨_, rfl, ?_⟩; replace BK172 := bb_ BK172 hb; replace HB := hb1_ HB hb GE172; (try clear hb)))
     replace BK172 := bd_ BK172; replace HB := hd_ HB; refine start_ (n := 9) (S := fun w' => w'.cell? ⟨gb172, 0, none⟩ = some (.int .i64 a0_0) ∧ w'.cell? ⟨gb172, 1, none⟩ = some (.int .i64 a0_1)) (ds := []) #[false, false, false, false, false, false, false, false, false] (by kernel_rfl) rfl rfl ⟨cl_ BK172 0, cl_ BK172 1⟩ (fun hHeld => ?_); refine with_tabW spec_RangeText.tab5 spec_RangeText.bits5 (fun HT_ HW_ => ?_); generalize w14.drew = w15 at BK172 HB hHeld ⊢; refine pure_y 0 (some 11) #[true, false, false, false, false, false, false, false, false] (any_of HT_.out (by kernel_rfl)) (h := ?_)
     refine pure_y 4 (some 15) #[true, false, false, false, true, false, false, false, false] (any_of HT_.out (by kernel_rfl)) (h := ?_)
     refine take_y 1 (some 12) #[true, true, false, false, true, false, false, false, false] rfl (take_ofW HT_.out HW_.out (by kernel_rfl)) hHeld (Or.inl ⟨by rfl, (by rintro w' ⟨s0, s1⟩; go_simp; with_reducible rfl)⟩) (h := ?_)
     refine take_y 5 (some 16) #[true, true, false, false, true, true, false, false, false] rfl (take_ofW HT_.out HW_.out (by kernel_rfl)) hHeld (Or.inl ⟨by rfl, (by rintro w' ⟨s0, s1⟩; go_simp; with_reducible rfl)⟩) (h := ?_)
     refine one_ (i := 2) (N := some 13) #[true, true, true, false, true, true, false, false, false] rfl rfl (one_of HT_.out (by kernel_rfl)) (by decide) (fun K hK => ?_); refine gs_ Tryz.func62 #[.int .i64 a0_0] (h := ?_); with_reducible refine (spec_l01Digits.calls k a0_0 t175 _ A6.out).mono ?_
     rintro e w16 ⟨rfl, hb⟩; refine ⟨_, rfl, ?_⟩; replace BK172 := bb_ BK172 hb; replace HB := hb1_ HB hb GE172
     (try clear hb)
     (try clear hb2)
     (try clear hk)
     (try clear hi)
     refine hK.out _ _ ⟨cl_ BK172 0, cl_ BK172 1⟩ (fun hHeld => ?_); clear hK K; refine norm_y 13 (h := ?_)
     refine pure_y 3 (some 14) #[true, true, true, true, true, true, false, false, false] (any_of HT_.out (by kernel_rfl)) (h := ?_)
     refine one_ (i := 6) (N := some 17) #[true, true, true, true, true, true, true, false, false] rfl rfl (one_of HT_.out (by kernel_rfl)) (by decide) (fun K hK => ?_); refine gs_ Tryz.func62 #[.int .i64 a0_1] (h := ?_); with_reducible refine (spec_l01Digits.calls k a0_1 t176 _ A8.out).mono ?_
     rintro e w17 ⟨rfl, hb⟩; refine ⟨_, rfl, ?_⟩; replace BK172 := bb_ BK172 hb; replace HB := hb1_ HB hb GE172
     (try clear hb)
     (try clear hb2)
     (try clear hk)
     (try clear hi)
     refine hK.out _ _ ⟨cl_ BK172 0, cl_ BK172 1⟩ (fun hHeld => ?_); clear hK K; refine norm_y 17 (h := ?_)
     refine pure_y 7 (some 18) #[true, true, true, true, true, true, true, true, false] (any_of HT_.out (by kernel_rfl)) (h := ?_)
     refine pure_y 8 (some 2) #[true, true, true, true, true, true, true, true, true] (any_of HT_.out (by kernel_rfl)) (h := ?_)
     refine done_ (done_of HT_.out (by kernel_rfl)) ?_
     try go_wp2
     go_ret
     exact ⟨by first | rfl | (simp [errW_none, errW_some] <;> rfl) | (simp [*, errW_none, errW_some] <;> rfl), sq_below1 HB.out GE172.out⟩
    ·
     rw [if_neg c9] at H; exact absurd H (by simp)
   ·
    rw [if_neg c7] at H; exact absurd H (by simp)
  ·
   replace c5 := Bool.eq_false_iff.mpr c5; subst c5; have H1 := ifn_ H
   clear H; have H := H1; clear H1; obtain rfl := Option.some.inj H
   go_enter Tryz.func61, Tryz.ntmps61
   go_wp2_with (first | ((with_reducible refine gate_dst (N := 1) rfl ?_); refine box_y 1 #[.int .i64 a0_0, .int .i64 a0_1] 64 (h := ?_); intro gb172 hg w18 hbox hb; have n0_ := Aside0.mk (below_step (sq_below HB.out) hb); have n1_ := Aside0.mk (hbox); have n2_ := ge_ hg (below_size (sq_below HB.out)); have n3_ := ge_ hg (below_size (sq_below HB.out)); clear HB; have HB := n0_; have BK172 := n1_; have GW172 := n2_; have GE172 := n3_; clear n0_ n1_ n2_ n3_; clear hb hbox hg; have hcz19_0 := cl_ (v := .int .i64 a0_0) BK172 0; have hcz19_1 := cl_ (v := .int .i64 a0_1) BK172 1; have hfz19_0 := blk_frozen BK172.out 0; have hfz19_1 := blk_frozen BK172.out 1) | ((with_reducible refine gate_callee (f := 59) rfl ?_); refine gl_ 5 Tryz.func59 #[.agg #[.int .i64 a0_0, .int .i64 a0_1]] (h := ?_); (with_reducible refine (spec_RangeOk.calls a0_0 a0_1 true _ A2.out).mono ?_); rintro e w20 ⟨rfl, hb⟩; refine ⟨_, rfl, ?_⟩; replace BK172 := bb_ BK172 hb; replace HB := hb1_ HB hb GE172; (try clear hb); have hcz21_0 := cl_ (v := .int .i64 a0_0) BK172 0; have hcz21_1 := cl_ (v := .int .i64 a0_1) BK172 1; have hfz21_0 := blk_frozen BK172.out 0; have hfz21_1 := blk_frozen BK172.out 1) | ((with_reducible refine gate_callee (f := 85) rfl ?_); refine gl_ 9 Tryz.func85 #[.agg #[.int .i64 a0_0, .int .i64 a0_1]] (h := ?_); (with_reducible refine (spec_l06Is.calls a0_0 a0_1 false _ A4.out).mono ?_); rintro e w22 ⟨rfl, hb⟩; refine ⟨_, rfl, ?_⟩; replace HB := hb_ HB hb; (try clear hb)))
   go_ret
   exact ⟨by first | rfl | (simp [errW_none, errW_some] <;> rfl) | (simp [*, errW_none, errW_some] <;> rfl), sq_below HB.out⟩
 ·
  replace c3 := Bool.eq_false_iff.mpr c3; subst c3; have H1 := ifn_ H
  clear H; have H := H1; clear H1; obtain rfl := Option.some.inj H
  go_enter Tryz.func61, Tryz.ntmps61
  go_wp2_with (first | ((with_reducible refine gate_dst (N := 1) rfl ?_); refine box_y 1 #[.int .i64 a0_0, .int .i64 a0_1] 64 (h := ?_); intro gb172 hg w23 hbox hb; have n0_ := Aside0.mk (below_step (sq_below HB.out) hb); have n1_ := Aside0.mk (hbox); have n2_ := ge_ hg (below_size (sq_below HB.out)); have n3_ := ge_ hg (below_size (sq_below HB.out)); clear HB; have HB := n0_; have BK172 := n1_; have GW172 := n2_; have GE172 := n3_; clear n0_ n1_ n2_ n3_; clear hb hbox hg; have hcz24_0 := cl_ (v := .int .i64 a0_0) BK172 0; have hcz24_1 := cl_ (v := .int .i64 a0_1) BK172 1; have hfz24_0 := blk_frozen BK172.out 0; have hfz24_1 := blk_frozen BK172.out 1) | ((with_reducible refine gate_callee (f := 59) rfl ?_); refine gl_ 5 Tryz.func59 #[.agg #[.int .i64 a0_0, .int .i64 a0_1]] (h := ?_); (with_reducible refine (spec_RangeOk.calls a0_0 a0_1 false _ A2.out).mono ?_); rintro e w25 ⟨rfl, hb⟩; refine ⟨_, rfl, ?_⟩; replace HB := hb_ HB hb; (try clear hb)))
  go_ret
  exact ⟨by first | rfl | (simp [errW_none, errW_some] <;> rfl) | (simp [*, errW_none, errW_some] <;> rfl), sq_below HB.out⟩

/-! ### spec_ValText: function 34 -/
def spec_ValText.f (k : Nat) (a0_0 : Int) (a0_1 : Int) (a0_2 : Bool) : Option (ByteArray) := (spec_ValOk.f a0_0 a0_1 a0_2).bind fun t178 => (if t178 = true then (if a0_2 = true then ((spec_RangeText.f k a0_0 a0_1).bind fun t179 => (some t179)) else ((spec_RangeText.f k a0_0 a0_1).bind fun t180 => (if t180.size + 13 ≤ 9223372036854775807 then (some (t180 ++ (⟨#[32, 111, 114, 32, 117, 110, 119, 114, 105, 116, 116, 101, 110]⟩ : ByteArray))) else (none)))) else (some (⟨#[]⟩ : ByteArray)))
theorem spec_ValText.mono : ∀ a0 a1 a2 k, LeO (spec_ValText.f k a0 a1 a2) (spec_ValText.f (k + 1) a0 a1 a2) := by
 intro a0 a1 a2 k; unfold spec_ValText.f
 repeat' first
   | (with_reducible exact spec_RangeText.mono _ _ _)
   | (with_reducible exact LeO.refl _)
   | (with_reducible exact LeO.none _)
   | (with_reducible refine LeO.ite ?_ ?_)
   | (with_reducible refine LeO.bind ?_ (fun _ => ?_))
   | exact spec_RangeText.mono _ _ _
   | exact LeO.none _
   | refine LeO.ite ?_ ?_
   | refine LeO.bind ?_ (fun _ => ?_)
set_option maxHeartbeats 8000000 in
set_option maxRecDepth 100000 in
theorem spec_ValText.calls (k : Nat) (a0_0 : Int) (a0_1 : Int) (a0_2 : Bool) (r : ByteArray) (w : World) (h : spec_ValText.f k a0_0 a0_1 a0_2 = some r) :
  Calls Tryz.prog 34 #[.agg #[.int .i64 a0_0, .int .i64 a0_1, .bool a0_2]] w fun e w' => e = .returned (.string r) ∧ Below w.heap.size w w' := by
 have hu66 := Tryz.underlying66; have hu64 := Tryz.underlying64; have HB := Aside0.mk (Below.refl w.heap.size w); have H : ((spec_ValOk.f a0_0 a0_1 a0_2).bind fun t178 => (if t178 = true then (if a0_2 = true then ((spec_RangeText.f k a0_0 a0_1).bind fun t179 => (some t179)) else ((spec_RangeText.f k a0_0 a0_1).bind fun t180 => (if t180.size + 13 ≤ 9223372036854775807 then (some (t180 ++ (⟨#[32, 111, 114, 32, 117, 110, 119, 114, 105, 116, 116, 101, 110]⟩ : ByteArray))) else (none)))) else (some (⟨#[]⟩ : ByteArray)))) = some r := h; clear h; replace H := Option.bind_eq_some_iff.mp H; obtain ⟨t178, A20, H⟩ := H; (try dsimp only at H); have A2 := Aside0.mk A20; clear A20
 by_cases c3 : t178 = true
 ·
  subst c3; have H1 := ifp_ H
  clear H; have H := H1; clear H1
  by_cases c4 : a0_2 = true
  ·
   subst c4; have H1 := ifp_ H
   clear H; have H := H1; clear H1; replace H := Option.bind_eq_some_iff.mp H; obtain ⟨t179, A50, H⟩ := H; replace H : (some t179) = some r := H; have A5 := Aside0.mk A50; clear A50; obtain rfl := Option.some.inj H
   go_enter Tryz.func34, Tryz.ntmps34
   go_wp2_with (first | ((with_reducible refine gate_dst (N := 1) rfl ?_); refine box_y 1 #[.int .i64 a0_0, .int .i64 a0_1, .bool true] 66 (h := ?_); intro gb177 hg w6 hbox hb; have n0_ := Aside0.mk (below_step (sq_below HB.out) hb); have n1_ := Aside0.mk (hbox); have n2_ := ge_ hg (below_size (sq_below HB.out)); have n3_ := ge_ hg (below_size (sq_below HB.out)); clear HB; have HB := n0_; have BK177 := n1_; have GW177 := n2_; have GE177 := n3_; clear n0_ n1_ n2_ n3_; clear hb hbox hg; have hcz7_0 := cl_ (v := .int .i64 a0_0) BK177 0; have hcz7_1 := cl_ (v := .int .i64 a0_1) BK177 1; have hcz7_2 := cl_ (v := .bool true) BK177 2; have hfz7_0 := blk_frozen BK177.out 0; have hfz7_1 := blk_frozen BK177.out 1; have hfz7_2 := blk_frozen BK177.out 2) | ((with_reducible refine gate_callee (f := 32) rfl ?_); refine gl_ 4 Tryz.func32 #[.agg #[.int .i64 a0_0, .int .i64 a0_1, .bool true]] (h := ?_); (with_reducible refine (spec_ValOk.calls a0_0 a0_1 true true _ A2.out).mono ?_); rintro e w8 ⟨rfl, hb⟩; refine ⟨_, rfl, ?_⟩; replace BK177 := bb_ BK177 hb; replace HB := hb1_ HB hb GE177; (try clear hb); have hcz9_0 := cl_ (v := .int .i64 a0_0) BK177 0; have hcz9_1 := cl_ (v := .int .i64 a0_1) BK177 1; have hcz9_2 := cl_ (v := .bool true) BK177 2; have hfz9_0 := blk_frozen BK177.out 0; have hfz9_1 := blk_frozen BK177.out 1; have hfz9_2 := blk_frozen BK177.out 2) | ((with_reducible refine gate_callee (f := 61) rfl ?_); refine gl_ 10 Tryz.func61 #[.agg #[.int .i64 a0_0, .int .i64 a0_1]] (h := ?_); (with_reducible refine (spec_RangeText.calls k a0_0 a0_1 t179 _ A5.out).mono ?_); rintro e w10 ⟨rfl, hb⟩; refine ⟨_, rfl, ?_⟩; replace HB := hb_ HB hb; (try clear hb)))
   go_ret
   exact ⟨by first | rfl | (simp [errW_none, errW_some] <;> rfl) | (simp [*, errW_none, errW_some] <;> rfl), sq_below HB.out⟩
  ·
   replace c4 := Bool.eq_false_iff.mpr c4; subst c4; have H1 := ifn_ H
   clear H; have H := H1; clear H1; replace H := Option.bind_eq_some_iff.mp H; obtain ⟨t180, A110, H⟩ := H; (try dsimp only at H); have A11 := Aside0.mk A110; clear A110
   by_cases c12 : t180.size + 13 ≤ 9223372036854775807
   ·
    rw [if_pos c12] at H; have c12b0 := eq_true c12; have c12b1 : decide (t180.size + 13 ≤ 9223372036854775807) = true := decide_eq_true c12
    try have c12b2 : (9223372036854775807 < t180.size + 13) = False := eq_false (Nat.not_lt.2 c12)
    obtain rfl := Option.some.inj H
    go_enter Tryz.func34, Tryz.ntmps34
    go_wp2_with (first | ((with_reducible refine gate_dst (N := 1) rfl ?_); refine box_y 1 #[.int .i64 a0_0, .int .i64 a0_1, .bool false] 66 (h := ?_); intro gb177 hg w13 hbox hb; have n0_ := Aside0.mk (below_step (sq_below HB.out) hb); have n1_ := Aside0.mk (hbox); have n2_ := ge_ hg (below_size (sq_below HB.out)); have n3_ := ge_ hg (below_size (sq_below HB.out)); clear HB; have HB := n0_; have BK177 := n1_; have GW177 := n2_; have GE177 := n3_; clear n0_ n1_ n2_ n3_; clear hb hbox hg; have hcz14_0 := cl_ (v := .int .i64 a0_0) BK177 0; have hcz14_1 := cl_ (v := .int .i64 a0_1) BK177 1; have hcz14_2 := cl_ (v := .bool false) BK177 2; have hfz14_0 := blk_frozen BK177.out 0; have hfz14_1 := blk_frozen BK177.out 1; have hfz14_2 := blk_frozen BK177.out 2) | ((with_reducible refine gate_callee (f := 32) rfl ?_); refine gl_ 4 Tryz.func32 #[.agg #[.int .i64 a0_0, .int .i64 a0_1, .bool false]] (h := ?_); (with_reducible refine (spec_ValOk.calls a0_0 a0_1 false true _ A2.out).mono ?_); rintro e w15 ⟨rfl, hb⟩; refine ⟨_, rfl, ?_⟩; replace BK177 := bb_ BK177 hb; replace HB := hb1_ HB hb GE177; (try clear hb); have hcz16_0 := cl_ (v := .int .i64 a0_0) BK177 0; have hcz16_1 := cl_ (v := .int .i64 a0_1) BK177 1; have hcz16_2 := cl_ (v := .bool false) BK177 2; have hfz16_0 := blk_frozen BK177.out 0; have hfz16_1 := blk_frozen BK177.out 1; have hfz16_2 := blk_frozen BK177.out 2) | ((with_reducible refine gate_callee (f := 61) rfl ?_); refine gl_ 13 Tryz.func61 #[.agg #[.int .i64 a0_0, .int .i64 a0_1]] (h := ?_); (with_reducible refine (spec_RangeText.calls k a0_0 a0_1 t180 _ A11.out).mono ?_); rintro e w17 ⟨rfl, hb⟩; refine ⟨_, rfl, ?_⟩; replace HB := hb_ HB hb; (try clear hb)))
    go_ret
    exact ⟨by first | rfl | (simp [errW_none, errW_some] <;> rfl) | (simp [*, errW_none, errW_some] <;> rfl), sq_below HB.out⟩
   ·
    rw [if_neg c12] at H; exact absurd H (by simp)
 ·
  replace c3 := Bool.eq_false_iff.mpr c3; subst c3; have H1 := ifn_ H
  clear H; have H := H1; clear H1; obtain rfl := Option.some.inj H
  go_enter Tryz.func34, Tryz.ntmps34
  go_wp2_with (first | ((with_reducible refine gate_dst (N := 1) rfl ?_); refine box_y 1 #[.int .i64 a0_0, .int .i64 a0_1, .bool a0_2] 66 (h := ?_); intro gb177 hg w18 hbox hb; have n0_ := Aside0.mk (below_step (sq_below HB.out) hb); have n1_ := Aside0.mk (hbox); have n2_ := ge_ hg (below_size (sq_below HB.out)); have n3_ := ge_ hg (below_size (sq_below HB.out)); clear HB; have HB := n0_; have BK177 := n1_; have GW177 := n2_; have GE177 := n3_; clear n0_ n1_ n2_ n3_; clear hb hbox hg; have hcz19_0 := cl_ (v := .int .i64 a0_0) BK177 0; have hcz19_1 := cl_ (v := .int .i64 a0_1) BK177 1; have hcz19_2 := cl_ (v := .bool a0_2) BK177 2; have hfz19_0 := blk_frozen BK177.out 0; have hfz19_1 := blk_frozen BK177.out 1; have hfz19_2 := blk_frozen BK177.out 2) | ((with_reducible refine gate_callee (f := 32) rfl ?_); refine gl_ 4 Tryz.func32 #[.agg #[.int .i64 a0_0, .int .i64 a0_1, .bool a0_2]] (h := ?_); (with_reducible refine (spec_ValOk.calls a0_0 a0_1 a0_2 false _ A2.out).mono ?_); rintro e w20 ⟨rfl, hb⟩; refine ⟨_, rfl, ?_⟩; replace HB := hb_ HB hb; (try clear hb)))
  go_ret
  exact ⟨by first | rfl | (simp [errW_none, errW_some] <;> rfl) | (simp [*, errW_none, errW_some] <;> rfl), sq_below HB.out⟩

end Go.Proofs.YtfeloencepgdlaaGreatDoor.Q
