/- Functions of the translation as Lean functions, each with a proof that a call answers so; out of the seat, by this claim's own program prt.py. -/
import Derived.Test.YtdmdalapckcobaaDoorWTab
import Derived.Test.YtdmdalapckcobaaDoorWRepsOne
import Derived.Test.YtdmdalapckcobaaDoorQx0
import Derived.Test.YtdmdalapckcobaaDoorQx17
import Derived.Test.YtdmdalapckcobaaDoorQx21
import Derived.Test.YtdmdalapckcobaaDoorQStep3
namespace Go.Proofs.YtdmdalapckcobaaDoor.Q
open Go.RowKit Go.Proofs.YtdmdalapckcobaaDoorW.PrintWords Go.Proofs.YtdmdalapckcobaaDoorW.PrintLast Go.Proofs.YtdmdalapckcobaaDoorW.PrintMore
attribute [local go_sem] max2_int min2_int max_two min_two max_three min_three max_four min_four   -- for this text's walks alone
set_option linter.unusedVariables false
set_option maxHeartbeats 8000000
set_option maxRecDepth 100000
set_option linter.unusedSimpArgs false

/-! ### impl_ValJoin: function 113 -/
def impl_ValJoin.f (k : Nat) (ap : Int) (aq : Int) (ax : Bool) (au : Int) (av : Int) (aw : Bool) : Option (Int × Int × Bool) := (impl_ValOk.f ap aq ax).bind fun aJ => (if aJ = true then ((impl_ValOk.f au av aw).bind fun aK => (if aK = true then ((impl_RangeJoin.f k ap aq au av).bind fun ay => (if ax = true then (some (ay.1, ay.2, aw)) else (some (ay.1, ay.2, false)))) else (some (1, 0, true)))) else (some (1, 0, true)))
theorem impl_ValJoin.mono : ∀ a0 a1 a2 a3 a4 a5 k, LeO (impl_ValJoin.f k a0 a1 a2 a3 a4 a5) (impl_ValJoin.f (k + 1) a0 a1 a2 a3 a4 a5) := by
 intro a0 a1 a2 a3 a4 a5 k; unfold impl_ValJoin.f
 repeat' first
   | (with_reducible exact impl_RangeJoin.mono _ _ _ _ _) | (with_reducible exact LeO.refl _) | (with_reducible exact LeO.none _) | (with_reducible refine LeO.ite ?_ ?_) | (with_reducible refine LeO.bind ?_ fun _ => ?_) | exact impl_RangeJoin.mono _ _ _ _ _ | exact LeO.none _ | refine LeO.ite ?_ ?_ | refine LeO.bind ?_ fun _ => ?_
def impl_ValJoin.T3 : Bool × List (List Nat × List Nat) := (true, [([], []), ([0], [0]), ([], []), ([2], [2]), ([1, 3], [1, 3]), ([], []), ([5], [5]), ([6, 4], [6]), ([7], [7]), ([8, 7], [7, 8]), ([7, 9], [7, 9]), ([4, 10], [4, 10]), ([11, 7, 0, 1, 2, 3, 4, 5, 6, 7, 8, 9, 10, 11], [11])])
def impl_ValJoin.B3 : List Nat := [0, 1, 0, 4, 15, 0, 32, 127, 255, 511, 1023, 2047, 4095]
theorem impl_ValJoin.tab3 : rtab .any (opsOf Tryd.f113 3) = impl_ValJoin.T3 := by kernel_rfl
theorem impl_ValJoin.bits3 : waitsOk impl_ValJoin.T3.2 impl_ValJoin.B3 = true := by kernel_rfl
theorem impl_ValJoin.calls (k : Nat) (ap : Int) (aq : Int) (ax : Bool) (au : Int) (av : Int) (aw : Bool) (r1 : Int) (r2 : Int) (r3 : Bool) (w : World) (hG0 : GL0 w) (hG1 : GL1 w) (h : impl_ValJoin.f k ap aq ax au av aw = some (r1, r2, r3)) :
  Calls Tryd.prog 113 #[.agg #[.int .i64 ap, .int .i64 aq, .bool ax], .agg #[.int .i64 au, .int .i64 av, .bool aw]] w fun e w' => e = .returned (.agg #[.int .i64 r1, .int .i64 r2, .bool r3]) ∧ Below w.heap.size w w' := by
 have hu90 := Tryd.underlying90; have hu88 := Tryd.underlying88; have HB := am_ (Below.refl w.heap.size w); have HG0 := am_ hG0; clear hG0; have HG1 := am_ hG1; clear hG1; have H : ((impl_ValOk.f ap aq ax).bind fun aJ => (if aJ = true then ((impl_ValOk.f au av aw).bind fun aK => (if aK = true then ((impl_RangeJoin.f k ap aq au av).bind fun ay => (if ax = true then (some (ay.1, ay.2, aw)) else (some (ay.1, ay.2, false)))) else (some (1, 0, true)))) else (some (1, 0, true)))) = some (r1, r2, r3) := h; clear h; obtain ⟨aJ, A3, H⟩ := be_ H; (try dsimp only at H)
 by_cases c4 : aJ = true
 ·
  subst c4; have H1 := ifp_ H
  clear H; have H := H1; clear H1; obtain ⟨aK, A5, H⟩ := be_ H; (try dsimp only at H)
  by_cases c6 : aK = true
  ·
   subst c6; have H1 := ifp_ H
   clear H; have H := H1; clear H1; replace H := Option.bind_eq_some_iff.mp H; obtain ⟨⟨aM, aN⟩, A70, H⟩ := H; (try dsimp only at H); have A7 := am_ A70; clear A70
   by_cases c8 : ax = true
   ·
    subst c8; have H1 := ifp_ H
    clear H; have H := H1; clear H1; simp only [Option.some.injEq, Prod.mk.injEq] at H; obtain ⟨rfl, rfl, rfl⟩ := H
    go_enter Tryd.func113, Tryd.ntmps113
    try go_wp2_with (first | ((with_reducible refine gate_dst (N := 2) rfl ?_); refine box_y 2 #[.int .i64 ap, .int .i64 aq, .bool true] 90 (h := ?_); intro az hg w9 hbox hb; have ac := am_ hbox; have aH := gz_ hg HB; have ah := gz_ hg HB; replace HB := hb_ HB hb; clear hb hbox hg) | ((with_reducible refine gate_dst (N := 3) rfl ?_); refine box_y 3 #[.int .i64 au, .int .i64 av, .bool aw] 90 (h := ?_); intro aA hg dp hbox hb; have af := am_ hbox; have aI := gz1_ hg HB ah; have aj := gz1_ hg HB ah; replace HB := hb1_ HB hb ah; have am := nb_ hg ac; replace ac := bb_ ac hb; have ar := ns_ am; clear hb hbox hg) | ((with_reducible refine gate_dst (N := 4) rfl ?_); refine box_y 4 #[.int .i64 0, .int .i64 0, .bool false] 90 (h := ?_); intro ae hg dq hbox hb; have ag := am_ hbox; have aC := gz2_ hg HB ah aj; have ak := gz2_ hg HB ah aj; replace HB := hb2_ HB hb ah aj; have aa := nb_ hg ac; replace ac := bb_ ac hb; have ai := ns_ aa; have ab := nb_ hg af; replace af := bb_ af hb; have al := ns_ ab; clear hb hbox hg; have cM := am.out; have cW := ar.out; have cN := aa.out; have cX := ai.out; obtain ⟨aQ, aT, aU, bx, bz, bA⟩ := cz3_ ac) | ((with_reducible refine gate_callee (f := 73) rfl ?_); refine gl_ 6 Tryd.func73 #[.agg #[.int .i64 ap, .int .i64 aq, .bool true]] (h := ?_); (with_reducible refine (impl_ValOk.calls ap aq true true _ ?ao A3.out).mono ?_); (case ao => exact GL0.below HG0.out (sq_below3 HB.out ah.out aj.out ak.out)); rintro e dr ⟨rfl, hb⟩; refine ⟨_, rfl, ?_⟩; replace ac := bb_ ac hb; replace af := bb_ af hb; replace ag := bb_ ag hb; replace HB := hb3_ HB hb ah aj ak; (try clear hb); have cO := ab.out; have cY := al.out; obtain ⟨aV, aW, aX, bB, bC, bD⟩ := cz3_ af) | (go_at_call 73; (with_reducible refine (impl_ValOk.calls au av aw true _ ?ao A5.out).mono ?_); (case ao => exact GL0.below HG0.out (sq_below3 HB.out ah.out aj.out ak.out)); rintro e dm ⟨rfl, hb⟩; replace ac := bb_ ac hb; replace af := bb_ af hb; replace ag := bb_ ag hb; replace HB := hb3_ HB hb ah aj ak; (try clear hb)))
    replace ac := bd_ ac; replace af := bd_ af; replace ag := bd_ ag; replace HB := hd_ HB; refine start_ (n := 13) (S := fun w' => w'.cell? ⟨az, 0, none⟩ = some (.int .i64 ap) ∧ w'.cell? ⟨az, 1, none⟩ = some (.int .i64 aq) ∧ w'.cell? ⟨az, 2, none⟩ = some (.bool true) ∧ w'.cell? ⟨aA, 0, none⟩ = some (.int .i64 au) ∧ w'.cell? ⟨aA, 1, none⟩ = some (.int .i64 av) ∧ w'.cell? ⟨aA, 2, none⟩ = some (.bool aw)) (ds := []) #[false, false, false, false, false, false, false, false, false, false, false, false, false] (by kernel_rfl) rfl rfl ⟨cl_ ac 0, cl_ ac 1, cl_ ac 2, cl_ af 0, cl_ af 1, cl_ af 2⟩ (fun hHeld => ?_); refine with_tabW impl_ValJoin.tab3 impl_ValJoin.bits3 (fun HT_ HW_ => ?_); generalize dm.drew = dt at ac af ag HB hHeld ⊢; refine py_ HT_ 0 14 ?_
    refine py_ HT_ 2 16 ?_
    refine py_ HT_ 5 19 ?_
    refine ty_ HT_ HW_ 1 15 rfl hHeld (by rintro w' ⟨s0, s1, s2, s3, s4, s5⟩; go_simp; with_reducible rfl) ?_
    refine ty_ HT_ HW_ 3 17 rfl hHeld (by rintro w' ⟨s0, s1, s2, s3, s4, s5⟩; go_simp; with_reducible rfl) ?_
    refine ty_ HT_ HW_ 6 20 rfl hHeld (by rintro w' ⟨s0, s1, s2, s3, s4, s5⟩; go_simp; with_reducible rfl) ?_
    refine oy_ HT_ 4 (some 18) (fun K hK => ?_); refine gs_ Tryd.func119 #[.agg #[.int .i64 ap, .int .i64 aq], .agg #[.int .i64 au, .int .i64 av]] (h := ?_); with_reducible refine (impl_RangeJoin.calls k ap aq au av aM aN _ ?ao A7.out).mono ?_
    (case ao => exact GL0.below HG0.out (sq_below3 HB.out ah.out aj.out ak.out))
    rintro e cC ⟨rfl, hb⟩; refine ⟨_, rfl, ?_⟩; replace ac := bb_ ac hb; replace af := bb_ af hb; replace ag := bb_ ag hb; replace HB := hb3_ HB hb ah aj ak
    (try clear hb)
    (try clear hb2)
    (try clear hk)
    (try clear hi)
    refine hK.out _ _ ⟨cl_ ac 0, cl_ ac 1, cl_ ac 2, cl_ af 0, cl_ af 1, cl_ af 2⟩ (fun hHeld => ?_); clear hK K; refine norm_y 18 (h := ?_)
    refine py_ HT_ 7 21 ?_
    refine py_ HT_ 8 22 ?_
    refine ty_ HT_ HW_ 9 23 rfl hHeld (by rintro w' ⟨s0, s1, s2, s3, s4, s5⟩; go_simp; with_reducible rfl) ?_
    refine py_ HT_ 10 24 ?_
    refine py_ HT_ 11 25 ?_
    refine oy_ HT_ 12 none (fun K hK => ?_); have dg : cC.cell? ⟨ae, 0, none⟩ = some (.int .i64 0) := (blk_cell ag.out 0).trans rfl; have cG := blk_frozen ag.out 0; have co := aa.out; have cp := ab.out; have bZ := ai.out; have ca := al.out; have dh : cC.cell? ⟨ae, 1, none⟩ = some (.int .i64 0) := (blk_cell ag.out 1).trans rfl; have cH := blk_frozen ag.out 1; have cq := aa.out; have cr := ab.out; have cb := ai.out; have cd := al.out; have di : cC.cell? ⟨ae, 2, none⟩ = some (.bool false) := (blk_cell ag.out 2).trans rfl; have cI := blk_frozen ag.out 2; have cu := aa.out; have cv := ab.out; have ce := ai.out; have cf := al.out; refine skip_ (w1 := ?_) (by rfl) rfl ?_ ?_; rotate_left
    ·
     go_simp; rfl
    refine hK.out _ _ ⟨((cell_far (p := ⟨ae, _, none⟩) aa.out _).trans (((cell_far (p := ⟨ae, _, none⟩) aa.out _).trans (((cell_far (p := ⟨ae, _, none⟩) aa.out _).trans (hHeld.1)))))), ((cell_far (p := ⟨ae, _, none⟩) aa.out _).trans (((cell_far (p := ⟨ae, _, none⟩) aa.out _).trans (((cell_far (p := ⟨ae, _, none⟩) aa.out _).trans (hHeld.2.1)))))), ((cell_far (p := ⟨ae, _, none⟩) aa.out _).trans (((cell_far (p := ⟨ae, _, none⟩) aa.out _).trans (((cell_far (p := ⟨ae, _, none⟩) aa.out _).trans (hHeld.2.2.1)))))), ((cell_far (p := ⟨ae, _, none⟩) ab.out _).trans (((cell_far (p := ⟨ae, _, none⟩) ab.out _).trans (((cell_far (p := ⟨ae, _, none⟩) ab.out _).trans (hHeld.2.2.2.1)))))), ((cell_far (p := ⟨ae, _, none⟩) ab.out _).trans (((cell_far (p := ⟨ae, _, none⟩) ab.out _).trans (((cell_far (p := ⟨ae, _, none⟩) ab.out _).trans (hHeld.2.2.2.2.1)))))), ((cell_far (p := ⟨ae, _, none⟩) ab.out _).trans (((cell_far (p := ⟨ae, _, none⟩) ab.out _).trans (((cell_far (p := ⟨ae, _, none⟩) ab.out _).trans (hHeld.2.2.2.2.2))))))⟩ (fun hHeld => ?_); clear hK K; refine done_ (done_of HT_.out (by kernel_rfl)) ?_
    try go_wp2
    refine bodyPost_ret (results_cell_row rfl _ _ ae 90 #[.int .i64 aM, .int .i64 aN, .bool aw] (0, 0) _ rfl (bp_ ag) Tryd.underlying90 rfl (by kernel_rfl)) rfl ?_; exact ⟨lf_, sq_below3 HB.out ah.out aj.out ak.out⟩
   ·
    replace c8 := Bool.eq_false_iff.mpr c8; subst c8; have H1 := ifn_ H
    clear H; have H := H1; clear H1; simp only [Option.some.injEq, Prod.mk.injEq] at H; obtain ⟨rfl, rfl, rfl⟩ := H
    go_enter Tryd.func113, Tryd.ntmps113
    try go_wp2_with (first | ((with_reducible refine gate_dst (N := 2) rfl ?_); refine box_y 2 #[.int .i64 ap, .int .i64 aq, .bool false] 90 (h := ?_); intro az hg du hbox hb; have ac := am_ hbox; have aH := gz_ hg HB; have ah := gz_ hg HB; replace HB := hb_ HB hb; clear hb hbox hg) | ((with_reducible refine gate_dst (N := 3) rfl ?_); refine box_y 3 #[.int .i64 au, .int .i64 av, .bool aw] 90 (h := ?_); intro aA hg dv hbox hb; have af := am_ hbox; have aI := gz1_ hg HB ah; have aj := gz1_ hg HB ah; replace HB := hb1_ HB hb ah; have am := nb_ hg ac; replace ac := bb_ ac hb; have ar := ns_ am; clear hb hbox hg) | ((with_reducible refine gate_dst (N := 4) rfl ?_); refine box_y 4 #[.int .i64 0, .int .i64 0, .bool false] 90 (h := ?_); intro ae hg dw hbox hb; have ag := am_ hbox; have aC := gz2_ hg HB ah aj; have ak := gz2_ hg HB ah aj; replace HB := hb2_ HB hb ah aj; have aa := nb_ hg ac; replace ac := bb_ ac hb; have ai := ns_ aa; have ab := nb_ hg af; replace af := bb_ af hb; have al := ns_ ab; clear hb hbox hg; have cP := am.out; have cZ := ar.out; have cQ := aa.out; have da := ai.out; obtain ⟨aY, aZ, ba, bE, bF, bG⟩ := cz3_ ac) | ((with_reducible refine gate_callee (f := 73) rfl ?_); refine gl_ 6 Tryd.func73 #[.agg #[.int .i64 ap, .int .i64 aq, .bool false]] (h := ?_); (with_reducible refine (impl_ValOk.calls ap aq false true _ ?ao A3.out).mono ?_); (case ao => exact GL0.below HG0.out (sq_below3 HB.out ah.out aj.out ak.out)); rintro e dx ⟨rfl, hb⟩; refine ⟨_, rfl, ?_⟩; replace ac := bb_ ac hb; replace af := bb_ af hb; replace ag := bb_ ag hb; replace HB := hb3_ HB hb ah aj ak; (try clear hb); have cR := ab.out; have db := al.out; obtain ⟨bc, bd, bf, bH, bI, bJ⟩ := cz3_ af) | (go_at_call 73; (with_reducible refine (impl_ValOk.calls au av aw true _ ?ao A5.out).mono ?_); (case ao => exact GL0.below HG0.out (sq_below3 HB.out ah.out aj.out ak.out)); rintro e dn ⟨rfl, hb⟩; replace ac := bb_ ac hb; replace af := bb_ af hb; replace ag := bb_ ag hb; replace HB := hb3_ HB hb ah aj ak; (try clear hb)))
    replace ac := bd_ ac; replace af := bd_ af; replace ag := bd_ ag; replace HB := hd_ HB; refine start_ (n := 13) (S := fun w' => w'.cell? ⟨az, 0, none⟩ = some (.int .i64 ap) ∧ w'.cell? ⟨az, 1, none⟩ = some (.int .i64 aq) ∧ w'.cell? ⟨az, 2, none⟩ = some (.bool false) ∧ w'.cell? ⟨aA, 0, none⟩ = some (.int .i64 au) ∧ w'.cell? ⟨aA, 1, none⟩ = some (.int .i64 av) ∧ w'.cell? ⟨aA, 2, none⟩ = some (.bool aw)) (ds := []) #[false, false, false, false, false, false, false, false, false, false, false, false, false] (by kernel_rfl) rfl rfl ⟨cl_ ac 0, cl_ ac 1, cl_ ac 2, cl_ af 0, cl_ af 1, cl_ af 2⟩ (fun hHeld => ?_); refine with_tabW impl_ValJoin.tab3 impl_ValJoin.bits3 (fun HT_ HW_ => ?_); generalize dn.drew = dy at ac af ag HB hHeld ⊢; refine py_ HT_ 0 14 ?_
    refine py_ HT_ 2 16 ?_
    refine py_ HT_ 5 19 ?_
    refine ty_ HT_ HW_ 1 15 rfl hHeld (by rintro w' ⟨s0, s1, s2, s3, s4, s5⟩; go_simp; with_reducible rfl) ?_
    refine ty_ HT_ HW_ 3 17 rfl hHeld (by rintro w' ⟨s0, s1, s2, s3, s4, s5⟩; go_simp; with_reducible rfl) ?_
    refine ty_ HT_ HW_ 6 20 rfl hHeld (by rintro w' ⟨s0, s1, s2, s3, s4, s5⟩; go_simp; with_reducible rfl) ?_
    refine oy_ HT_ 4 (some 18) (fun K hK => ?_); refine gs_ Tryd.func119 #[.agg #[.int .i64 ap, .int .i64 aq], .agg #[.int .i64 au, .int .i64 av]] (h := ?_); with_reducible refine (impl_RangeJoin.calls k ap aq au av aM aN _ ?ao A7.out).mono ?_
    (case ao => exact GL0.below HG0.out (sq_below3 HB.out ah.out aj.out ak.out))
    rintro e cD ⟨rfl, hb⟩; refine ⟨_, rfl, ?_⟩; replace ac := bb_ ac hb; replace af := bb_ af hb; replace ag := bb_ ag hb; replace HB := hb3_ HB hb ah aj ak
    (try clear hb)
    (try clear hb2)
    (try clear hk)
    (try clear hi)
    refine hK.out _ _ ⟨cl_ ac 0, cl_ ac 1, cl_ ac 2, cl_ af 0, cl_ af 1, cl_ af 2⟩ (fun hHeld => ?_); clear hK K; refine norm_y 18 (h := ?_)
    refine py_ HT_ 7 21 ?_
    refine pn_ HT_ 8 22 ?_
    refine pn_ HT_ 9 23 ?_
    refine py_ HT_ 10 24 ?_
    refine py_ HT_ 11 25 ?_
    refine oy_ HT_ 12 none (fun K hK => ?_); have dj : cD.cell? ⟨ae, 0, none⟩ = some (.int .i64 0) := (blk_cell ag.out 0).trans rfl; have cJ := blk_frozen ag.out 0; have cw := aa.out; have cx := ab.out; have ch := ai.out; have cj := al.out; have dk : cD.cell? ⟨ae, 1, none⟩ = some (.int .i64 0) := (blk_cell ag.out 1).trans rfl; have cK := blk_frozen ag.out 1; have cy := aa.out; have cz := ab.out; have ck := ai.out; have cl := al.out; have dl : cD.cell? ⟨ae, 2, none⟩ = some (.bool false) := (blk_cell ag.out 2).trans rfl; have cL := blk_frozen ag.out 2; have cA := aa.out; have cB := ab.out; have cm := ai.out; have cn := al.out; refine skip_ (w1 := ?_) (by rfl) rfl ?_ ?_; rotate_left
    ·
     go_simp; rfl
    refine hK.out _ _ ⟨((cell_far (p := ⟨ae, _, none⟩) aa.out _).trans (((cell_far (p := ⟨ae, _, none⟩) aa.out _).trans (((cell_far (p := ⟨ae, _, none⟩) aa.out _).trans (hHeld.1)))))), ((cell_far (p := ⟨ae, _, none⟩) aa.out _).trans (((cell_far (p := ⟨ae, _, none⟩) aa.out _).trans (((cell_far (p := ⟨ae, _, none⟩) aa.out _).trans (hHeld.2.1)))))), ((cell_far (p := ⟨ae, _, none⟩) aa.out _).trans (((cell_far (p := ⟨ae, _, none⟩) aa.out _).trans (((cell_far (p := ⟨ae, _, none⟩) aa.out _).trans (hHeld.2.2.1)))))), ((cell_far (p := ⟨ae, _, none⟩) ab.out _).trans (((cell_far (p := ⟨ae, _, none⟩) ab.out _).trans (((cell_far (p := ⟨ae, _, none⟩) ab.out _).trans (hHeld.2.2.2.1)))))), ((cell_far (p := ⟨ae, _, none⟩) ab.out _).trans (((cell_far (p := ⟨ae, _, none⟩) ab.out _).trans (((cell_far (p := ⟨ae, _, none⟩) ab.out _).trans (hHeld.2.2.2.2.1)))))), ((cell_far (p := ⟨ae, _, none⟩) ab.out _).trans (((cell_far (p := ⟨ae, _, none⟩) ab.out _).trans (((cell_far (p := ⟨ae, _, none⟩) ab.out _).trans (hHeld.2.2.2.2.2))))))⟩ (fun hHeld => ?_); clear hK K; refine done_ (done_of HT_.out (by kernel_rfl)) ?_
    try go_wp2
    refine bodyPost_ret (results_cell_row rfl _ _ ae 90 #[.int .i64 aM, .int .i64 aN, .bool false] (0, 0) _ rfl (bp_ ag) Tryd.underlying90 rfl (by kernel_rfl)) rfl ?_; exact ⟨lf_, sq_below3 HB.out ah.out aj.out ak.out⟩
  ·
   replace c6 := Bool.eq_false_iff.mpr c6; subst c6; have H1 := ifn_ H
   clear H; have H := H1; clear H1; simp only [Option.some.injEq, Prod.mk.injEq] at H; obtain ⟨rfl, rfl, rfl⟩ := H
   go_enter Tryd.func113, Tryd.ntmps113
   go_wp2_with (first | ((with_reducible refine gate_dst (N := 2) rfl ?_); refine box_y 2 #[.int .i64 ap, .int .i64 aq, .bool ax] 90 (h := ?_); intro az hg dz hbox hb; have ac := am_ hbox; have aH := gz_ hg HB; have ah := gz_ hg HB; replace HB := hb_ HB hb; clear hb hbox hg) | ((with_reducible refine gate_dst (N := 3) rfl ?_); refine box_y 3 #[.int .i64 au, .int .i64 av, .bool aw] 90 (h := ?_); intro aA hg dA hbox hb; have af := am_ hbox; have aI := gz1_ hg HB ah; have aj := gz1_ hg HB ah; replace HB := hb1_ HB hb ah; have am := nb_ hg ac; replace ac := bb_ ac hb; have ar := ns_ am; clear hb hbox hg) | ((with_reducible refine gate_dst (N := 4) rfl ?_); refine box_y 4 #[.int .i64 0, .int .i64 0, .bool false] 90 (h := ?_); intro ae hg dB hbox hb; have ag := am_ hbox; have aC := gz2_ hg HB ah aj; have ak := gz2_ hg HB ah aj; replace HB := hb2_ HB hb ah aj; have aa := nb_ hg ac; replace ac := bb_ ac hb; have ai := ns_ aa; have ab := nb_ hg af; replace af := bb_ af hb; have al := ns_ ab; clear hb hbox hg; have cS := am.out; have dc := ar.out; have cT := aa.out; have dd := ai.out; obtain ⟨bh, bi, bj, bK, bL, bM⟩ := cz3_ ac) | ((with_reducible refine gate_callee (f := 73) rfl ?_); refine gl_ 6 Tryd.func73 #[.agg #[.int .i64 ap, .int .i64 aq, .bool ax]] (h := ?_); (with_reducible refine (impl_ValOk.calls ap aq ax true _ ?ao A3.out).mono ?_); (case ao => exact GL0.below HG0.out (sq_below2 HB.out aj.out ak.out)); rintro e dC ⟨rfl, hb⟩; refine ⟨_, rfl, ?_⟩; replace af := bb_ af hb; replace ag := bb_ ag hb; replace HB := hb2_ HB hb aj ak; (try clear hb); have cU := ab.out; have de := al.out; obtain ⟨bk, bl, bm, bN, bO, bP⟩ := cz3_ af) | (go_at_call 73; (with_reducible refine (impl_ValOk.calls au av aw false _ ?ao A5.out).mono ?_); (case ao => exact GL0.below HG0.out (sq_below1 HB.out ak.out)); rintro e cE ⟨rfl, hb⟩; replace ag := bb_ ag hb; replace HB := hb1_ HB hb ak; (try clear hb); have hgl49_0 : cE.cell? ⟨1, 0, none⟩ = some (.int .i64 1) := GL1.c0 (GL1.below HG1.out HB.out); have hgl49_1 : cE.cell? ⟨1, 1, none⟩ = some (.int .i64 0) := GL1.c1 (GL1.below HG1.out HB.out); have hgl49_2 : cE.cell? ⟨1, 2, none⟩ = some (.bool true) := GL1.c2 (GL1.below HG1.out HB.out); have aD : ae ≠ 1 := (by first | exact Nat.ne_of_gt (Nat.lt_of_lt_of_le (World.block_lt_of_cell? _ _ (GL1.c0 HG1.out)) ak.out) | exact Nat.ne_of_gt (Nat.lt_of_lt_of_le (World.block_lt_of_cell? _ _ (GL1.c0 HG1.out)) aC.out)); have hnhgl49_410 := Ne.symm aD; obtain ⟨bn, bo, bp, bQ, bR, bS⟩ := cz3_ ag))
   refine bodyPost_ret (results_cell_row rfl _ _ ae 90 #[.int .i64 1, .int .i64 0, .bool true] (0, 0) _ rfl (bp_ ag) Tryd.underlying90 rfl (by kernel_rfl)) rfl ?_; exact ⟨lf_, sq_below1 HB.out ak.out⟩
 ·
  replace c4 := Bool.eq_false_iff.mpr c4; subst c4; have H1 := ifn_ H
  clear H; have H := H1; clear H1; simp only [Option.some.injEq, Prod.mk.injEq] at H; obtain ⟨rfl, rfl, rfl⟩ := H
  go_enter Tryd.func113, Tryd.ntmps113
  go_wp2_with (first | ((with_reducible refine gate_dst (N := 2) rfl ?_); refine box_y 2 #[.int .i64 ap, .int .i64 aq, .bool ax] 90 (h := ?_); intro az hg dD hbox hb; have ac := am_ hbox; have aH := gz_ hg HB; have ah := gz_ hg HB; replace HB := hb_ HB hb; clear hb hbox hg) | ((with_reducible refine gate_dst (N := 3) rfl ?_); refine box_y 3 #[.int .i64 au, .int .i64 av, .bool aw] 90 (h := ?_); intro aA hg dE hbox hb; have af := am_ hbox; have aI := gz1_ hg HB ah; have aj := gz1_ hg HB ah; replace HB := hb1_ HB hb ah; have am := nb_ hg ac; replace ac := bb_ ac hb; have ar := ns_ am; clear hb hbox hg) | ((with_reducible refine gate_dst (N := 4) rfl ?_); refine box_y 4 #[.int .i64 0, .int .i64 0, .bool false] 90 (h := ?_); intro ae hg dF hbox hb; have ag := am_ hbox; have aC := gz1_ hg HB ah; have ak := gz1_ hg HB ah; replace HB := hb1_ HB hb ah; have aa := nb_ hg ac; replace ac := bb_ ac hb; have ai := ns_ aa; clear hb hbox hg; have cV := aa.out; have df := ai.out; obtain ⟨bq, br, bt, bT, bU, bV⟩ := cz3_ ac) | ((with_reducible refine gate_callee (f := 73) rfl ?_); refine gl_ 6 Tryd.func73 #[.agg #[.int .i64 ap, .int .i64 aq, .bool ax]] (h := ?_); (with_reducible refine (impl_ValOk.calls ap aq ax false _ ?ao A3.out).mono ?_); (case ao => exact GL0.below HG0.out (sq_below1 HB.out ak.out)); rintro e cF ⟨rfl, hb⟩; refine ⟨_, rfl, ?_⟩; replace ag := bb_ ag hb; replace HB := hb1_ HB hb ak; (try clear hb); have hgl57_0 : cF.cell? ⟨1, 0, none⟩ = some (.int .i64 1) := GL1.c0 (GL1.below HG1.out HB.out); have hgl57_1 : cF.cell? ⟨1, 1, none⟩ = some (.int .i64 0) := GL1.c1 (GL1.below HG1.out HB.out); have hgl57_2 : cF.cell? ⟨1, 2, none⟩ = some (.bool true) := GL1.c2 (GL1.below HG1.out HB.out); have aG : ae ≠ 1 := (by first | exact Nat.ne_of_gt (Nat.lt_of_lt_of_le (World.block_lt_of_cell? _ _ (GL1.c0 HG1.out)) ak.out) | exact Nat.ne_of_gt (Nat.lt_of_lt_of_le (World.block_lt_of_cell? _ _ (GL1.c0 HG1.out)) aC.out)); have hnhgl57_410 := Ne.symm aG; obtain ⟨bu, bv, bw, bW, bX, bY⟩ := cz3_ ag))
  refine bodyPost_ret (results_cell_row rfl _ _ ae 90 #[.int .i64 1, .int .i64 0, .bool true] (0, 0) _ rfl (bp_ ag) Tryd.underlying90 rfl (by kernel_rfl)) rfl ?_; exact ⟨lf_, sq_below1 HB.out ak.out⟩

end Go.Proofs.YtdmdalapckcobaaDoor.Q
