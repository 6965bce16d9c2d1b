/- Functions of the translation as Lean functions, each with a proof that a call answers so; out of the seat, by this claim's own program prt.py. -/
import Derived.Test.YtdmdalapckcobaaDoorWRepsOne
import Derived.Test.YtdmdalapckcobaaDoorQx0
import Derived.Test.YtdmdalapckcobaaDoorQStep3
namespace Go.Proofs.YtdmdalapckcobaaDoor.Q
open Go.RowKit Go.Proofs.YtdmdalapckcobaaDoorW.PrintWords Go.Proofs.YtdmdalapckcobaaDoorW.PrintLast Go.Proofs.YtdmdalapckcobaaDoorW.PrintMore
attribute [local go_sem] max2_int min2_int max_two min_two max_three min_three max_four min_four   -- for this text's walks alone
set_option linter.unusedVariables false
set_option maxHeartbeats 8000000
set_option maxRecDepth 100000
set_option linter.unusedSimpArgs false

/-! ### laws_eqSym: function 39 -/
def laws_eqSym.f (af : Int) (ag : Int) (ah : Int) (ai : Int) : Option (Bool) := if af = ah then (if ag = ai then (some true) else (some false)) else (some false)
theorem laws_eqSym.calls (af : Int) (ag : Int) (ah : Int) (ai : Int) (r : Bool) (w : World) (h : laws_eqSym.f af ag ah ai = some r) :
  Calls Tryd.prog 39 #[.agg #[.int .i64 af, .int .i64 ag], .agg #[.int .i64 ah, .int .i64 ai]] w fun e w' => e = .returned (.bool r) ∧ Below w.heap.size w w' := by
 have hu54 := Tryd.underlying54; have HB := am_ (Below.refl w.heap.size w); have H : (if af = ah then (if ag = ai then (some true) else (some false)) else (some false)) = some r := h; clear h
 by_cases c3 : af = ah
 ·
  rw [if_pos c3] at H; have aM : (af == ah) = true := beq_iff_eq.mpr c3; have aN : (af != ah) = false := bne_eq_false_iff_eq.mpr c3; clear c3
  by_cases c4 : ag = ai
  ·
   rw [if_pos c4] at H; have aQ : (ag == ai) = true := beq_iff_eq.mpr c4; have aT : (ag != ai) = false := bne_eq_false_iff_eq.mpr c4; clear c4; obtain rfl := Option.some.inj H
   go_enter Tryd.func39, Tryd.ntmps39
   go_wp2_with (first | ((with_reducible refine gate_dst (N := 2) rfl ?_); refine box_y 2 #[.int .i64 af, .int .i64 ag] 54 (h := ?_); intro ao hg w5 hbox hb; have ab := am_ hbox; have al := gz_ hg HB; have ae := gz_ hg HB; replace HB := hb_ HB hb; clear hb hbox hg) | ((with_reducible refine gate_dst (N := 3) rfl ?_); refine box_y 3 #[.int .i64 ah, .int .i64 ai] 54 (h := ?_); intro ap hg w6 hbox hb; have aj := am_ hbox; have am := gz1_ hg HB ae; have ak := gz1_ hg HB ae; replace HB := hb1_ HB hb ae; have aa := nb_ hg ab; replace ab := bb_ ab hb; have ac := ns_ aa; clear hb hbox hg; have bj := aa.out; have bk := ac.out; obtain ⟨aU, aV, aY, aZ⟩ := cz2_ ab; obtain ⟨aW, aX, ba, bc⟩ := cz2_ aj))
   go_ret
   exact ⟨lf_, sq_below1 HB.out ak.out⟩
  ·
   rw [if_neg c4] at H; have aQ : (ag == ai) = false := beq_eq_false_iff_ne.mpr c4; have aT : (ag != ai) = true := bne_iff_ne.mpr c4; obtain rfl := Option.some.inj H
   go_enter Tryd.func39, Tryd.ntmps39
   go_wp2_with (first | ((with_reducible refine gate_dst (N := 2) rfl ?_); refine box_y 2 #[.int .i64 af, .int .i64 ag] 54 (h := ?_); intro ao hg bl hbox hb; have ab := am_ hbox; have al := gz_ hg HB; have ae := gz_ hg HB; replace HB := hb_ HB hb; clear hb hbox hg) | ((with_reducible refine gate_dst (N := 3) rfl ?_); refine box_y 3 #[.int .i64 ah, .int .i64 ai] 54 (h := ?_); intro ap hg bm hbox hb; have aj := am_ hbox; have am := gz1_ hg HB ae; have ak := gz1_ hg HB ae; replace HB := hb1_ HB hb ae; have aa := nb_ hg ab; replace ab := bb_ ab hb; have ac := ns_ aa; clear hb hbox hg; have bd := aa.out; have bh := ac.out; obtain ⟨aq, ar, aA, aC⟩ := cz2_ ab; obtain ⟨au, av, aD, aG⟩ := cz2_ aj))
   go_ret
   exact ⟨lf_, sq_below1 HB.out ak.out⟩
 ·
  rw [if_neg c3] at H; have aM : (af == ah) = false := beq_eq_false_iff_ne.mpr c3; have aN : (af != ah) = true := bne_iff_ne.mpr c3; obtain rfl := Option.some.inj H
  go_enter Tryd.func39, Tryd.ntmps39
  go_wp2_with (first | ((with_reducible refine gate_dst (N := 2) rfl ?_); refine box_y 2 #[.int .i64 af, .int .i64 ag] 54 (h := ?_); intro ao hg bn hbox hb; have ab := am_ hbox; have al := gz_ hg HB; have ae := gz_ hg HB; replace HB := hb_ HB hb; clear hb hbox hg) | ((with_reducible refine gate_dst (N := 3) rfl ?_); refine box_y 3 #[.int .i64 ah, .int .i64 ai] 54 (h := ?_); intro ap hg bo hbox hb; have aj := am_ hbox; have am := gz1_ hg HB ae; have ak := gz1_ hg HB ae; replace HB := hb1_ HB hb ae; have aa := nb_ hg ab; replace ab := bb_ ab hb; have ac := ns_ aa; clear hb hbox hg; have bf := aa.out; have bi := ac.out; obtain ⟨aw, ax, aH, aI⟩ := cz2_ ab; obtain ⟨ay, az, aJ, aK⟩ := cz2_ aj))
  go_ret
  exact ⟨lf_, sq_below1 HB.out ak.out⟩

end Go.Proofs.YtdmdalapckcobaaDoor.Q
