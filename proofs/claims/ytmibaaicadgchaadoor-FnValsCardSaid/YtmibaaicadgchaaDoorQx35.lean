/- Functions of the translation as Lean functions, each with a proof that a call answers so; out of the seat, by this claim's own program prt.py. -/
import Derived.Test.YtmibaaicadgchaaDoorQx0
import Derived.Test.YtmibaaicadgchaaDoorQx3
import Derived.Test.YtmibaaicadgchaaDoorQx6
import Derived.Test.YtmibaaicadgchaaDoorQStep
namespace Go.Proofs.YtmibaaicadgchaaDoor.Q
open Go.RowKit Go.Proofs.YtmibaaicadgchaaDoorW.PrintWords Go.Proofs.YtmibaaicadgchaaDoorW.PrintLast Go.Proofs.YtmibaaicadgchaaDoorW.PrintMore
attribute [local go_sem] max2_int min2_int max_two min_two max_three min_three max_four min_four   -- for this text's walks alone
set_option linter.unusedVariables false
set_option linter.unusedSimpArgs false

/-! ### spec_ValOk: function 41 -/
def spec_ValOk.f (a0_0 : Int) (a0_1 : Int) (a0_2 : Bool) : Option (Bool) := (spec_RangeOk.f a0_0 a0_1).bind fun t680 => (some t680)
set_option maxHeartbeats 8000000 in
set_option maxRecDepth 100000 in
theorem spec_ValOk.calls (a0_0 : Int) (a0_1 : Int) (a0_2 : Bool) (r : Bool) (w : World) (h : spec_ValOk.f a0_0 a0_1 a0_2 = some r) :
  Calls Tryd.prog 41 #[.agg #[.int .i64 a0_0, .int .i64 a0_1, .bool a0_2]] w fun e w' => e = .returned (.bool r) ∧ Below w.heap.size w w' := by
 have hu44 := Tryd.underlying44; have hu25 := Tryd.underlying25; have HB := Aside0.mk (Below.refl w.heap.size w); have H : ((spec_RangeOk.f a0_0 a0_1).bind fun t680 => (some t680)) = some r := h; clear h; replace H := Option.bind_eq_some_iff.mp H; obtain ⟨t680, A20, H⟩ := H; replace H : (some t680) = some r := H; have A2 := Aside0.mk A20; clear A20; obtain rfl := Option.some.inj H
 go_enter Tryd.func41, Tryd.ntmps41
 go_wp2_with (first | ((with_reducible refine gate_dst (N := 1) rfl ?_); refine box_y 1 #[.int .i64 a0_0, .int .i64 a0_1, .bool a0_2] 44 (h := ?_); intro gb679 hg w3 hbox hb; have n0_ := Aside0.mk (below_step (sq_below HB.out) hb); have n1_ := Aside0.mk (hbox); have n2_ := ge_ hg (below_size (sq_below HB.out)); have n3_ := ge_ hg (below_size (sq_below HB.out)); clear HB; have HB := n0_; have BK679 := n1_; have GW679 := n2_; have GE679 := n3_; clear n0_ n1_ n2_ n3_; clear hb hbox hg; have hcz4_0 := cl_ (v := .int .i64 a0_0) BK679 0; have hcz4_1 := cl_ (v := .int .i64 a0_1) BK679 1; have hcz4_2 := cl_ (v := .bool a0_2) BK679 2; have hfz4_0 := blk_frozen BK679.out 0; have hfz4_1 := blk_frozen BK679.out 1; have hfz4_2 := blk_frozen BK679.out 2) | ((with_reducible refine gate_callee (f := 16) rfl ?_); refine gl_ 5 Tryd.func16 #[.agg #[.int .i64 a0_0, .int .i64 a0_1]] (h := ?_); (with_reducible refine (spec_RangeOk.calls a0_0 a0_1 t680 _ A2.out).mono ?_); rintro e w5 ⟨rfl, hb⟩; refine ⟨_, rfl, ?_⟩; replace HB := hb_ HB hb; (try clear hb)))
 go_ret
 exact ⟨by first | rfl | (simp [errW_none, errW_some] <;> rfl) | (simp [*, errW_none, errW_some] <;> rfl), by repeat (first | (with_reducible first | exact HB.out | apply below_alloc | apply pw_below_drewN | apply below_drew1) | exact HB.out)⟩

/-! ### spec_l09None: function 70 -/
def spec_l09None.f  : Option (Int × Int × Bool) := (spec_l06None.f).bind fun bt682 => (some (bt682.1, bt682.2, true))
set_option maxHeartbeats 8000000 in
set_option maxRecDepth 100000 in
theorem spec_l09None.calls  (r1 : Int) (r2 : Int) (r3 : Bool) (w : World) (h : spec_l09None.f  = some (r1, r2, r3)) :
  Calls Tryd.prog 70 #[] w fun e w' => e = .returned (.agg #[.int .i64 r1, .int .i64 r2, .bool r3]) ∧ Below w.heap.size w w' := by
 have hu44 := Tryd.underlying44; have HB := Aside0.mk (Below.refl w.heap.size w); have H : ((spec_l06None.f).bind fun bt682 => (some (bt682.1, bt682.2, true))) = some (r1, r2, r3) := h; clear h; replace H := Option.bind_eq_some_iff.mp H; obtain ⟨⟨t682, t683⟩, A10, H⟩ := H; replace H : (some (t682, t683, true)) = some (r1, r2, r3) := H; have A1 := Aside0.mk A10; clear A10; simp only [Option.some.injEq, Prod.mk.injEq] at H; obtain ⟨rfl, rfl, rfl⟩ := H
 go_enter Tryd.func70, Tryd.ntmps70
 go_wp2_with (first | ((with_reducible refine gate_dst (N := 0) rfl ?_); refine box_y 0 #[.int .i64 0, .int .i64 0, .bool false] 44 (h := ?_); intro gb681 hg w2 hbox hb; have n0_ := Aside0.mk (below_step (sq_below HB.out) hb); have n1_ := Aside0.mk (hbox); have n2_ := ge_ hg (below_size (sq_below HB.out)); have n3_ := ge_ hg (below_size (sq_below HB.out)); clear HB; have HB := n0_; have BK681 := n1_; have GW681 := n2_; have GE681 := n3_; clear n0_ n1_ n2_ n3_; clear hb hbox hg) | ((with_reducible refine gate_callee (f := 51) rfl ?_); refine gl_ 1 Tryd.func51 #[] (h := ?_); (with_reducible refine (spec_l06None.calls  t682 t683 _ A1.out).mono ?_); rintro e w3 ⟨rfl, hb⟩; refine ⟨_, rfl, ?_⟩; replace BK681 := bb_ BK681 hb; replace HB := hb1_ HB hb GE681; (try clear hb); have hcz4_0 := cl_ (v := .int .i64 0) BK681 0; have hcz4_1 := cl_ (v := .int .i64 0) BK681 1; have hcz4_2 := cl_ (v := .bool false) BK681 2; have hfz4_0 := blk_frozen BK681.out 0; have hfz4_1 := blk_frozen BK681.out 1; have hfz4_2 := blk_frozen BK681.out 2))
 refine bodyPost_ret (results_cell_row rfl _ _ gb681 44 #[.int .i64 t682, .int .i64 t683, .bool true] (0, 0) _ rfl (bp_ BK681) Tryd.underlying44 rfl (by kernel_rfl)) rfl ?_; exact ⟨by first | rfl | (simp [errW_none, errW_some] <;> rfl) | (simp [*, errW_none, errW_some] <;> rfl), by repeat (first | (with_reducible first | exact HB.out | apply below_alloc | apply pw_below_drewN | apply below_drew1 | refine below_set ?_ GE681.out) | exact HB.out)⟩

end Go.Proofs.YtmibaaicadgchaaDoor.Q
