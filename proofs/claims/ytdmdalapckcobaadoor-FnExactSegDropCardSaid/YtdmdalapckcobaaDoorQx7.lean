/- Functions of the translation as Lean functions, each with a proof that a call answers so; out of the seat, by this claim's own program prt.py. -/
import Derived.Test.YtdmdalapckcobaaDoorWRepsOne
import Derived.Test.YtdmdalapckcobaaDoorQx0
import Derived.Test.YtdmdalapckcobaaDoorQx6
import Derived.Test.YtdmdalapckcobaaDoorQStep3
namespace Go.Proofs.YtdmdalapckcobaaDoor.Q
open Go.RowKit Go.Proofs.YtdmdalapckcobaaDoorW.PrintWords Go.Proofs.YtdmdalapckcobaaDoorW.PrintLast Go.Proofs.YtdmdalapckcobaaDoorW.PrintMore
attribute [local go_sem] max2_int min2_int max_two min_two max_three min_three max_four min_four   -- for this text's walks alone
set_option linter.unusedVariables false
set_option maxHeartbeats 8000000
set_option maxRecDepth 100000
set_option linter.unusedSimpArgs false

/-! ### spec_RangeOk: function 104 -/
def spec_RangeOk.f (ab : Int) (ac : Int) : Option (Bool) := if ab = 1 then (if ac = 0 then (some true) else ((spec_l06Is.f ab ac).bind fun aj => (if aj = true then ((spec_l05Val.f ab).bind fun ak => (if ak = true then ((spec_l05Val.f ac).bind fun ah => (some ah)) else (some false))) else (some false)))) else ((spec_l06Is.f ab ac).bind fun al => (if al = true then ((spec_l05Val.f ab).bind fun am => (if am = true then ((spec_l05Val.f ac).bind fun ai => (some ai)) else (some false))) else (some false)))
theorem spec_RangeOk.calls (ab : Int) (ac : Int) (r : Bool) (w : World) (h : spec_RangeOk.f ab ac = some r) :
  Calls Tryd.prog 104 #[.agg #[.int .i64 ab, .int .i64 ac]] w fun e w' => e = .returned (.bool r) ∧ Below w.heap.size w w' := by
 have hu88 := Tryd.underlying88; have HB := am_ (Below.refl w.heap.size w); have H : (if ab = 1 then (if ac = 0 then (some true) else ((spec_l06Is.f ab ac).bind fun aj => (if aj = true then ((spec_l05Val.f ab).bind fun ak => (if ak = true then ((spec_l05Val.f ac).bind fun ah => (some ah)) else (some false))) else (some false)))) else ((spec_l06Is.f ab ac).bind fun al => (if al = true then ((spec_l05Val.f ab).bind fun am => (if am = true then ((spec_l05Val.f ac).bind fun ai => (some ai)) else (some false))) else (some false)))) = some r := h; clear h
 by_cases c2 : ab = 1
 ·
  rw [if_pos c2] at H; have bp : (ab == 1) = true := beq_iff_eq.mpr c2; have bq : (ab != 1) = false := bne_eq_false_iff_eq.mpr c2; clear c2
  by_cases c3 : ac = 0
  ·
   rw [if_pos c3] at H; have br : (ac == 0) = true := beq_iff_eq.mpr c3; have bt : (ac != 0) = false := bne_eq_false_iff_eq.mpr c3; clear c3; obtain rfl := Option.some.inj H
   go_enter Tryd.func104, Tryd.ntmps104
   go_wp2_with (first | ((with_reducible refine gate_dst (N := 1) rfl ?_); refine box_y 1 #[.int .i64 ab, .int .i64 ac] 88 (h := ?_); intro ag hg w4 hbox hb; have aa := am_ hbox; have af := gz_ hg HB; have ae := gz_ hg HB; replace HB := hb_ HB hb; clear hb hbox hg; obtain ⟨bu, bv, bw, bx⟩ := cz2_ aa))
   go_ret
   exact ⟨lf_, sq_below1 HB.out ae.out⟩
  ·
   rw [if_neg c3] at H; have br : (ac == 0) = false := beq_eq_false_iff_ne.mpr c3; have bt : (ac != 0) = true := bne_iff_ne.mpr c3; obtain ⟨aj, A6, H⟩ := be_ H; (try dsimp only at H)
   by_cases c7 : aj = true
   ·
    subst c7; have H1 := ifp_ H
    clear H; have H := H1; clear H1; obtain ⟨ak, A8, H⟩ := be_ H; (try dsimp only at H)
    by_cases c9 : ak = true
    ·
     subst c9; have H1 := ifp_ H
     clear H; have H := H1; clear H1; replace H := Option.bind_eq_some_iff.mp H; obtain ⟨ah, A100, H⟩ := H; replace H : (some ah) = some r := H; have A10 := am_ A100; clear A100; obtain rfl := Option.some.inj H
     go_enter Tryd.func104, Tryd.ntmps104
     go_wp2_with (first | ((with_reducible refine gate_dst (N := 1) rfl ?_); refine box_y 1 #[.int .i64 ab, .int .i64 ac] 88 (h := ?_); intro ag hg bz hbox hb; have aa := am_ hbox; have af := gz_ hg HB; have ae := gz_ hg HB; replace HB := hb_ HB hb; clear hb hbox hg; obtain ⟨ao, ap, aQ, aT⟩ := cz2_ aa) | (go_at_call 117; (with_reducible refine (spec_l06Is.calls ab ac true _ A6.out).mono ?_); rintro e bA ⟨rfl, hb⟩; replace aa := bb_ aa hb; replace HB := hb1_ HB hb ae; (try clear hb); obtain ⟨aq, ar, aU, aV⟩ := cz2_ aa) | (go_at_call 100; (with_reducible refine (spec_l05Val.calls ab true _ A8.out).mono ?_); rintro e w' ⟨rfl, ⟨nd, rfl⟩⟩) | (go_at_call 100; (with_reducible refine (spec_l05Val.calls ac ah _ A10.out).mono ?_); rintro e w' ⟨rfl, ⟨nd, rfl⟩⟩))
     go_ret
     exact ⟨lf_, sq_below HB.out⟩
    ·
     replace c9 := Bool.eq_false_iff.mpr c9; subst c9; have H1 := ifn_ H
     clear H; have H := H1; clear H1; obtain rfl := Option.some.inj H
     go_enter Tryd.func104, Tryd.ntmps104
     go_wp2_with (first | ((with_reducible refine gate_dst (N := 1) rfl ?_); refine box_y 1 #[.int .i64 ab, .int .i64 ac] 88 (h := ?_); intro ag hg bB hbox hb; have aa := am_ hbox; have af := gz_ hg HB; have ae := gz_ hg HB; replace HB := hb_ HB hb; clear hb hbox hg; obtain ⟨au, av, aW, aX⟩ := cz2_ aa) | (go_at_call 117; (with_reducible refine (spec_l06Is.calls ab ac true _ A6.out).mono ?_); rintro e bC ⟨rfl, hb⟩; replace aa := bb_ aa hb; replace HB := hb1_ HB hb ae; (try clear hb); obtain ⟨aw, ax, aY, aZ⟩ := cz2_ aa) | (go_at_call 100; (with_reducible refine (spec_l05Val.calls ab false _ A8.out).mono ?_); rintro e w' ⟨rfl, ⟨nd, rfl⟩⟩))
     go_ret
     exact ⟨lf_, sq_below HB.out⟩
   ·
    replace c7 := Bool.eq_false_iff.mpr c7; subst c7; have H1 := ifn_ H
    clear H; have H := H1; clear H1; obtain rfl := Option.some.inj H
    go_enter Tryd.func104, Tryd.ntmps104
    go_wp2_with (first | ((with_reducible refine gate_dst (N := 1) rfl ?_); refine box_y 1 #[.int .i64 ab, .int .i64 ac] 88 (h := ?_); intro ag hg bD hbox hb; have aa := am_ hbox; have af := gz_ hg HB; have ae := gz_ hg HB; replace HB := hb_ HB hb; clear hb hbox hg; obtain ⟨ay, az, ba, bc⟩ := cz2_ aa) | (go_at_call 117; (with_reducible refine (spec_l06Is.calls ab ac false _ A6.out).mono ?_); rintro e bE ⟨rfl, hb⟩; replace HB := hb_ HB hb; (try clear hb)))
    go_ret
    exact ⟨lf_, sq_below HB.out⟩
 ·
  rw [if_neg c2] at H; have bp : (ab == 1) = false := beq_eq_false_iff_ne.mpr c2; have bq : (ab != 1) = true := bne_iff_ne.mpr c2; obtain ⟨al, A22, H⟩ := be_ H; (try dsimp only at H)
  by_cases c23 : al = true
  ·
   subst c23; have H1 := ifp_ H
   clear H; have H := H1; clear H1; obtain ⟨am, A24, H⟩ := be_ H; (try dsimp only at H)
   by_cases c25 : am = true
   ·
    subst c25; have H1 := ifp_ H
    clear H; have H := H1; clear H1; replace H := Option.bind_eq_some_iff.mp H; obtain ⟨ai, A260, H⟩ := H; replace H : (some ai) = some r := H; have A26 := am_ A260; clear A260; obtain rfl := Option.some.inj H
    go_enter Tryd.func104, Tryd.ntmps104
    go_wp2_with (first | ((with_reducible refine gate_dst (N := 1) rfl ?_); refine box_y 1 #[.int .i64 ab, .int .i64 ac] 88 (h := ?_); intro ag hg bF hbox hb; have aa := am_ hbox; have af := gz_ hg HB; have ae := gz_ hg HB; replace HB := hb_ HB hb; clear hb hbox hg; obtain ⟨aA, aC, bd, bf⟩ := cz2_ aa) | (go_at_call 117; (with_reducible refine (spec_l06Is.calls ab ac true _ A22.out).mono ?_); rintro e bG ⟨rfl, hb⟩; replace aa := bb_ aa hb; replace HB := hb1_ HB hb ae; (try clear hb); obtain ⟨aD, aG, bh, bi⟩ := cz2_ aa) | (go_at_call 100; (with_reducible refine (spec_l05Val.calls ab true _ A24.out).mono ?_); rintro e w' ⟨rfl, ⟨nd, rfl⟩⟩) | (go_at_call 100; (with_reducible refine (spec_l05Val.calls ac ai _ A26.out).mono ?_); rintro e w' ⟨rfl, ⟨nd, rfl⟩⟩))
    go_ret
    exact ⟨lf_, sq_below HB.out⟩
   ·
    replace c25 := Bool.eq_false_iff.mpr c25; subst c25; have H1 := ifn_ H
    clear H; have H := H1; clear H1; obtain rfl := Option.some.inj H
    go_enter Tryd.func104, Tryd.ntmps104
    go_wp2_with (first | ((with_reducible refine gate_dst (N := 1) rfl ?_); refine box_y 1 #[.int .i64 ab, .int .i64 ac] 88 (h := ?_); intro ag hg bH hbox hb; have aa := am_ hbox; have af := gz_ hg HB; have ae := gz_ hg HB; replace HB := hb_ HB hb; clear hb hbox hg; obtain ⟨aH, aI, bj, bk⟩ := cz2_ aa) | (go_at_call 117; (with_reducible refine (spec_l06Is.calls ab ac true _ A22.out).mono ?_); rintro e bI ⟨rfl, hb⟩; replace aa := bb_ aa hb; replace HB := hb1_ HB hb ae; (try clear hb); obtain ⟨aJ, aK, bl, bm⟩ := cz2_ aa) | (go_at_call 100; (with_reducible refine (spec_l05Val.calls ab false _ A24.out).mono ?_); rintro e w' ⟨rfl, ⟨nd, rfl⟩⟩))
    go_ret
    exact ⟨lf_, sq_below HB.out⟩
  ·
   replace c23 := Bool.eq_false_iff.mpr c23; subst c23; have H1 := ifn_ H
   clear H; have H := H1; clear H1; obtain rfl := Option.some.inj H
   go_enter Tryd.func104, Tryd.ntmps104
   go_wp2_with (first | ((with_reducible refine gate_dst (N := 1) rfl ?_); refine box_y 1 #[.int .i64 ab, .int .i64 ac] 88 (h := ?_); intro ag hg bJ hbox hb; have aa := am_ hbox; have af := gz_ hg HB; have ae := gz_ hg HB; replace HB := hb_ HB hb; clear hb hbox hg; obtain ⟨aM, aN, bn, bo⟩ := cz2_ aa) | (go_at_call 117; (with_reducible refine (spec_l06Is.calls ab ac false _ A22.out).mono ?_); rintro e bK ⟨rfl, hb⟩; replace HB := hb_ HB hb; (try clear hb)))
   go_ret
   exact ⟨lf_, sq_below HB.out⟩

/-! ### spec_ValOk: function 65 -/
def spec_ValOk.f (aa : Int) (ab : Int) (ae : Bool) : Option (Bool) := (spec_RangeOk.f aa ab).bind fun ac => (some ac)
theorem spec_ValOk.calls (aa : Int) (ab : Int) (ae : Bool) (r : Bool) (w : World) (h : spec_ValOk.f aa ab ae = some r) :
  Calls Tryd.prog 65 #[.agg #[.int .i64 aa, .int .i64 ab, .bool ae]] w fun e w' => e = .returned (.bool r) ∧ Below w.heap.size w w' := by
 have hu90 := Tryd.underlying90; have hu88 := Tryd.underlying88; have HB := am_ (Below.refl w.heap.size w); have H : ((spec_RangeOk.f aa ab).bind fun ac => (some ac)) = some r := h; clear h; replace H := Option.bind_eq_some_iff.mp H; obtain ⟨ac, A20, H⟩ := H; replace H : (some ac) = some r := H; have A2 := am_ A20; clear A20; obtain rfl := Option.some.inj H
 go_enter Tryd.func65, Tryd.ntmps65
 go_wp2_with (first | ((with_reducible refine gate_dst (N := 1) rfl ?_); refine box_y 1 #[.int .i64 aa, .int .i64 ab, .bool ae] 90 (h := ?_); intro ap hg w3 hbox hb; have af := am_ hbox; have ao := gz_ hg HB; have am := gz_ hg HB; replace HB := hb_ HB hb; clear hb hbox hg; obtain ⟨ag, ah, ai, aj, ak, al⟩ := cz3_ af) | ((with_reducible refine gate_callee (f := 104) rfl ?_); refine gl_ 5 Tryd.func104 #[.agg #[.int .i64 aa, .int .i64 ab]] (h := ?_); (with_reducible refine (spec_RangeOk.calls aa ab ac _ A2.out).mono ?_); rintro e w5 ⟨rfl, hb⟩; refine ⟨_, rfl, ?_⟩; replace HB := hb_ HB hb; (try clear hb)))
 go_ret
 exact ⟨lf_, sq_below HB.out⟩

end Go.Proofs.YtdmdalapckcobaaDoor.Q
