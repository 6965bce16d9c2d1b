/- Functions of the translation as Lean functions, each with a proof that a call answers so; out of the seat, by this claim's own program prt.py. -/
import Derived.Test.YtdmdalapckcobaaDoorWTab
import Derived.Test.YtdmdalapckcobaaDoorWRepsOne
import Derived.Test.YtdmdalapckcobaaDoorQx0
import Derived.Test.YtdmdalapckcobaaDoorQx6
import Derived.Test.YtdmdalapckcobaaDoorQx7
import Derived.Test.YtdmdalapckcobaaDoorQx9
import Derived.Test.YtdmdalapckcobaaDoorQStep3
namespace Go.Proofs.YtdmdalapckcobaaDoor.Q
open Go.RowKit Go.Proofs.YtdmdalapckcobaaDoorW.PrintWords Go.Proofs.YtdmdalapckcobaaDoorW.PrintLast Go.Proofs.YtdmdalapckcobaaDoorW.PrintMore
attribute [local go_sem] max2_int min2_int max_two min_two max_three min_three max_four min_four   -- for this text's walks alone
set_option linter.unusedVariables false
set_option maxHeartbeats 8000000
set_option maxRecDepth 100000
set_option linter.unusedSimpArgs false

/-! ### spec_RangeJoin: function 91 -/
def spec_RangeJoin.j0 : Nat → Bool → Int → Int → Int → Int → Option (Int × Int)
 | 0, _, _, _, _, _ => none
 | k + 1, x5, av, aw, ax, ay => if x5 = true then ((spec_l06None.f).bind fun ba => (some (ba.1, ba.2))) else ((spec_l06Is.f av aw).bind fun bh => (if bh = true then ((spec_l06Is.f ax ay).bind fun bi => (if bi = true then ((spec_l06Min.f av ax).bind fun aG => ((spec_l06Max.f aw ay).bind fun aH => ((spec_l06Make.f aG aH).bind fun bc => (some (bc.1, bc.2))))) else (some (av, aw)))) else (some (ax, ay))))
def spec_RangeJoin.f (k : Nat) (ai : Int) (aj : Int) (aq : Int) (ar : Int) : Option (Int × Int) := (spec_RangeOk.f ai aj).bind fun aD => (if aD = true then ((spec_RangeOk.f aq ar).bind fun az => (spec_RangeJoin.j0 k (!az) ai aj aq ar)) else (spec_RangeJoin.j0 k true ai aj aq ar))
theorem spec_RangeJoin.mono_l : ∀ k, (∀ y0 y1 y2 y3 y4, LeO (spec_RangeJoin.j0 k y0 y1 y2 y3 y4) (spec_RangeJoin.j0 (k + 1) y0 y1 y2 y3 y4))
 | 0 => fun _ _ _ _ _ r h => by simp [spec_RangeJoin.j0] at h
 | k + 1 => by
  have ih0 := spec_RangeJoin.mono_l k
  ·
   intro y0 y1 y2 y3 y4; unfold spec_RangeJoin.j0
   repeat' first
   | (with_reducible exact ih0 _ _ _ _ _) | (with_reducible exact LeO.refl _) | (with_reducible exact LeO.none _) | (with_reducible refine LeO.ite ?_ ?_) | (with_reducible refine LeO.bind ?_ fun _ => ?_) | exact ih0 _ _ _ _ _ | exact LeO.none _ | refine LeO.ite ?_ ?_ | refine LeO.bind ?_ fun _ => ?_
theorem spec_RangeJoin.mono : ∀ a0 a1 a2 a3 k, LeO (spec_RangeJoin.f k a0 a1 a2 a3) (spec_RangeJoin.f (k + 1) a0 a1 a2 a3) := by
 intro a0 a1 a2 a3 k; have ih0 := spec_RangeJoin.mono_l k; unfold spec_RangeJoin.f
 repeat' first
   | (with_reducible exact ih0 _ _ _ _ _) | (with_reducible exact LeO.refl _) | (with_reducible exact LeO.none _) | (with_reducible refine LeO.ite ?_ ?_) | (with_reducible refine LeO.bind ?_ fun _ => ?_) | exact ih0 _ _ _ _ _ | exact LeO.none _ | refine LeO.ite ?_ ?_ | refine LeO.bind ?_ fun _ => ?_
def spec_RangeJoin.T7 : Bool × List (List Nat × List Nat) := (true, [([], []), ([0], [0]), ([], []), ([2], [2]), ([1, 3], [1, 3]), ([], []), ([5], [5]), ([], []), ([7], [7]), ([6, 8, 4], [6, 8]), ([4, 9, 9], [4, 9]), ([10, 10, 0, 1, 2, 3, 4, 5, 6, 7, 8, 9, 10], [10])])
def spec_RangeJoin.B7 : List Nat := [0, 1, 0, 4, 15, 0, 32, 0, 128, 511, 1023, 2047]
theorem spec_RangeJoin.tab7 : rtab .any (opsOf Tryd.f91 7) = spec_RangeJoin.T7 := by kernel_rfl
theorem spec_RangeJoin.bits7 : waitsOk spec_RangeJoin.T7.2 spec_RangeJoin.B7 = true := by kernel_rfl
theorem spec_RangeJoin.calls (k : Nat) (ai : Int) (aj : Int) (aq : Int) (ar : Int) (r1 : Int) (r2 : Int) (w : World) (h : spec_RangeJoin.f k ai aj aq ar = some (r1, r2)) :
  Calls Tryd.prog 91 #[.agg #[.int .i64 ai, .int .i64 aj], .agg #[.int .i64 aq, .int .i64 ar]] w fun e w' => e = .returned (.agg #[.int .i64 r1, .int .i64 r2]) ∧ Below w.heap.size w w' := by
 have hu88 := Tryd.underlying88; have HB := am_ (Below.refl w.heap.size w); have H : ((spec_RangeOk.f ai aj).bind fun aD => (if aD = true then ((spec_RangeOk.f aq ar).bind fun az => (spec_RangeJoin.j0 k (!az) ai aj aq ar)) else (spec_RangeJoin.j0 k true ai aj aq ar))) = some (r1, r2) := h; clear h; have cm := am_ H; clear H
 go_enter Tryd.func91, Tryd.ntmps91
 go_upto_region 1 with (first | ((with_reducible refine gate_dst (N := 2) rfl ?_); refine box_y 2 #[.int .i64 ai, .int .i64 aj] 88 (h := ?_); intro aA hg w4 hbox hb; have aa := am_ hbox; have cn := gz_ hg HB; have ah := gz_ hg HB; replace HB := hb_ HB hb; clear hb hbox hg) | ((with_reducible refine gate_dst (N := 3) rfl ?_); refine box_y 3 #[.int .i64 aq, .int .i64 ar] 88 (h := ?_); intro aC hg w5 hbox hb; have ab := am_ hbox; have co := gz1_ hg HB ah; have ap := gz1_ hg HB ah; replace HB := hb1_ HB hb ah; have al := nb_ hg aa; replace aa := bb_ aa hb; have au := ns_ al; clear hb hbox hg) | ((with_reducible refine gate_dst (N := 4) rfl ?_); refine box_y 4 #[.int .i64 0, .int .i64 0] 88 (h := ?_); intro ao hg w6 hbox hb; have ac := am_ hbox; have cp := gz2_ hg HB ah ap; have ak := gz2_ hg HB ah ap; replace HB := hb2_ HB hb ah ap; have ae := nb_ hg aa; replace aa := bb_ aa hb; have ag := ns_ ae; have af := nb_ hg ab; replace ab := bb_ ab hb; have am := ns_ af; clear hb hbox hg))
 (try simp only [Act.put, List.setIfInBounds_toArray, List.set_cons_zero, List.set_cons_succ])
 go_cut [5] (fun v5 wc => ∃ (kq : Nat) (aZ : Bool), v5 = .bool aZ ∧ Aside0 (spec_RangeJoin.j0 kq aZ ai aj aq ar = some (r1, r2)) ∧ Aside0 (kq ≤ k) ∧ Aside0 (wc.heap[aA]? = some (.cells #[.int .i64 ai, .int .i64 aj] 88 (0, 0))) ∧ Aside0 (wc.heap[aC]? = some (.cells #[.int .i64 aq, .int .i64 ar] 88 (0, 0))) ∧ Aside0 (wc.heap[ao]? = some (.cells #[.int .i64 0, .int .i64 0] 88 (0, 0))) ∧ Aside0 (Below w.heap.size w wc))
 case first =>
  have H := cm.out; clear cm; obtain ⟨aD, A7, H⟩ := be_ H; (try dsimp only at H)
  by_cases c8 : aD = true
  ·
   subst c8; have H1 := ifp_ H
   clear H; have H := H1; clear H1; obtain ⟨az, A9, H⟩ := be_ H; (try dsimp only at H); have H' := am_ H; clear H; have cu := al.out; have cI := au.out; have cv := ae.out; have cJ := ag.out; obtain ⟨aI, aJ, aT, aU⟩ := cz2_ aa
   go_wp2_with (first | ((with_reducible refine gate_callee (f := 104) rfl ?_); refine gl_ 7 Tryd.func104 #[.agg #[.int .i64 ai, .int .i64 aj]] (h := ?_); (with_reducible refine (spec_RangeOk.calls ai aj true _ A7.out).mono ?_); rintro e db ⟨rfl, hb⟩; refine ⟨_, rfl, ?_⟩; replace aa := bb_ aa hb; replace ab := bb_ ab hb; replace ac := bb_ ac hb; replace HB := hb3_ HB hb ah ap ak; (try clear hb); have cw := af.out; have cK := am.out; obtain ⟨aK, aM, aV, aW⟩ := cz2_ ab) | (go_at_call 104; (with_reducible refine (spec_RangeOk.calls aq ar az _ A9.out).mono ?_); rintro e dc ⟨rfl, hb⟩; replace aa := bb_ aa hb; replace ab := bb_ ab hb; replace ac := bb_ ac hb; replace HB := hb3_ HB hb ah ap ak; (try clear hb)))
   go_meet
   case rel => exact ⟨_, (!az), sr_, H', om_, bk_ aa, bk_ ab, bk_ ac, ⟨sq_below3 HB.out ah.out ap.out ak.out⟩⟩
  ·
   replace c8 := Bool.eq_false_iff.mpr c8; subst c8; have H1 := ifn_ H
   clear H; have H := H1; clear H1; have H' := am_ H; clear H; have cx := al.out; have cL := au.out; have cy := ae.out; have cM := ag.out; obtain ⟨aN, aQ, aX, aY⟩ := cz2_ aa
   go_wp2_with (first | ((with_reducible refine gate_callee (f := 104) rfl ?_); refine gl_ 7 Tryd.func104 #[.agg #[.int .i64 ai, .int .i64 aj]] (h := ?_); (with_reducible refine (spec_RangeOk.calls ai aj false _ A7.out).mono ?_); rintro e dd ⟨rfl, hb⟩; refine ⟨_, rfl, ?_⟩; replace aa := bb_ aa hb; replace ab := bb_ ab hb; replace ac := bb_ ac hb; replace HB := hb3_ HB hb ah ap ak; (try clear hb)))
   go_meet
   case rel => exact ⟨_, (true), sr_, H', om_, bk_ aa, bk_ ab, bk_ ac, ⟨sq_below3 HB.out ah.out ap.out ak.out⟩⟩
 case rest =>
  clear cm
  obtain ⟨kq, aZ, rfl, HA, HJ2, aa, ab, ac, HB⟩ := hcut; cases kq with
  | zero => exact absurd HA.out (by simp [spec_RangeJoin.j0])
  | succ da =>
   have H := HA.out; clear HA; simp only [spec_RangeJoin.j0] at H
   by_cases c21 : aZ = true
   ·
    subst c21; have H1 := ifp_ H
    clear H; have H := H1; clear H1; replace H := Option.bind_eq_some_iff.mp H; obtain ⟨⟨bd, bf⟩, A220, H⟩ := H; replace H : (some (bd, bf)) = some (r1, r2) := H; have A22 := am_ A220; clear A220; simp only [Option.some.injEq, Prod.mk.injEq] at H; obtain ⟨rfl, rfl⟩ := H
    go_wp2_with (first | ((with_reducible refine gate_callee (f := 88) rfl ?_); refine gl_ 14 Tryd.func88 #[] (h := ?_); (with_reducible refine (spec_l06None.calls  bd bf _ A22.out).mono ?_); rintro e de ⟨rfl, hb⟩; refine ⟨_, rfl, ?_⟩; replace ac := bb_ ac hb; replace HB := hb1_ HB hb ak; (try clear hb); obtain ⟨bl, bm, bH, bI⟩ := cz2_ ac))
    refine bodyPost_ret (results_cell_row rfl _ _ ao 88 #[.int .i64 bd, .int .i64 bf] (0, 0) _ rfl (bp_ ac) Tryd.underlying88 rfl (by kernel_rfl)) rfl ?_; exact ⟨lf_, sq_below1 HB.out ak.out⟩
   ·
    replace c21 := Bool.eq_false_iff.mpr c21; subst c21; have H1 := ifn_ H
    clear H; have H := H1; clear H1; obtain ⟨bh, A25, H⟩ := be_ H; (try dsimp only at H)
    by_cases c26 : bh = true
    ·
     subst c26; have H1 := ifp_ H
     clear H; have H := H1; clear H1; obtain ⟨bi, A27, H⟩ := be_ H; (try dsimp only at H)
     by_cases c28 : bi = true
     ·
      subst c28; have H1 := ifp_ H
      clear H; have H := H1; clear H1; obtain ⟨aG, A29, H⟩ := be_ H; (try dsimp only at H); obtain ⟨aH, A30, H⟩ := be_ H; (try dsimp only at H); replace H := Option.bind_eq_some_iff.mp H; obtain ⟨⟨bj, bk⟩, A310, H⟩ := H; replace H : (some (bj, bk)) = some (r1, r2) := H; have A31 := am_ A310; clear A310; simp only [Option.some.injEq, Prod.mk.injEq] at H; obtain ⟨rfl, rfl⟩ := H; have cz := al.out; have cN := au.out; have cA := ae.out; have cO := ag.out; obtain ⟨bn, bo, bJ, bK⟩ := cz2_ aa
      try go_wp2_with (first | ((with_reducible refine gate_callee (f := 117) rfl ?_); refine gl_ 17 Tryd.func117 #[.agg #[.int .i64 ai, .int .i64 aj]] (h := ?_); (with_reducible refine (spec_l06Is.calls ai aj true _ A25.out).mono ?_); rintro e df ⟨rfl, hb⟩; refine ⟨_, rfl, ?_⟩; replace aa := bb_ aa hb; replace ab := bb_ ab hb; replace ac := bb_ ac hb; replace HB := hb3_ HB hb ah ap ak; (try clear hb); have cB := af.out; have cP := am.out; obtain ⟨bp, bq, bL, bM⟩ := cz2_ ab) | ((with_reducible refine gate_callee (f := 117) rfl ?_); refine gl_ 22 Tryd.func117 #[.agg #[.int .i64 aq, .int .i64 ar]] (h := ?_); (with_reducible refine (spec_l06Is.calls aq ar true _ A27.out).mono ?_); rintro e cZ ⟨rfl, hb⟩; refine ⟨_, rfl, ?_⟩; replace aa := bb_ aa hb; replace ab := bb_ ab hb; replace ac := bb_ ac hb; replace HB := hb3_ HB hb ah ap ak; (try clear hb)))
      replace aa := bd_ aa; replace ab := bd_ ab; replace ac := bd_ ac; replace HB := hd_ HB; refine start_ (n := 12) (S := fun w' => w'.cell? ⟨aA, 0, none⟩ = some (.int .i64 ai) ∧ w'.cell? ⟨aA, 1, none⟩ = some (.int .i64 aj) ∧ w'.cell? ⟨aC, 0, none⟩ = some (.int .i64 aq) ∧ w'.cell? ⟨aC, 1, none⟩ = some (.int .i64 ar)) (ds := []) #[false, false, false, false, false, false, false, false, false, false, false, false] (by kernel_rfl) rfl rfl ⟨cl_ aa 0, cl_ aa 1, cl_ ab 0, cl_ ab 1⟩ (fun hHeld => ?_); refine with_tabW spec_RangeJoin.tab7 spec_RangeJoin.bits7 (fun HT_ HW_ => ?_); generalize cZ.drew = dg at aa ab ac HB hHeld ⊢; refine py_ HT_ 0 25 ?_
      refine py_ HT_ 2 27 ?_
      refine py_ HT_ 5 30 ?_
      refine py_ HT_ 7 32 ?_
      refine ty_ HT_ HW_ 1 26 rfl hHeld (by rintro w' ⟨s0, s1, s2, s3⟩; go_simp; with_reducible rfl) ?_
      refine ty_ HT_ HW_ 3 28 rfl hHeld (by rintro w' ⟨s0, s1, s2, s3⟩; go_simp; with_reducible rfl) ?_
      refine ty_ HT_ HW_ 6 31 rfl hHeld (by rintro w' ⟨s0, s1, s2, s3⟩; go_simp; with_reducible rfl) ?_
      refine ty_ HT_ HW_ 8 33 rfl hHeld (by rintro w' ⟨s0, s1, s2, s3⟩; go_simp; with_reducible rfl) ?_
      refine oy_ HT_ 4 (some 29) (fun K hK => ?_); refine gs_ Tryd.func116 #[.int .i64 ai, .int .i64 aq] (h := ?_); with_reducible refine (spec_l06Min.calls ai aq aG _ A29.out).mono ?_
      rintro e w' ⟨rfl, ⟨nd, rfl⟩⟩; refine ⟨_, rfl, ?_⟩; refine hK.out _ _ ⟨cl_ aa 0, cl_ aa 1, cl_ ab 0, cl_ ab 1⟩ (fun hHeld => ?_); clear hK K; refine norm_y 29 (h := ?_)
      refine oy_ HT_ 9 (some 34) (fun K hK => ?_); refine gs_ Tryd.func115 #[.int .i64 aj, .int .i64 ar] (h := ?_); with_reducible refine (spec_l06Max.calls aj ar aH _ A30.out).mono ?_
      rintro e w' ⟨rfl, ⟨nd, rfl⟩⟩; refine ⟨_, rfl, ?_⟩; refine hK.out _ _ ⟨cl_ aa 0, cl_ aa 1, cl_ ab 0, cl_ ab 1⟩ (fun hHeld => ?_); clear hK K; refine norm_y 34 (h := ?_)
      refine oy_ HT_ 10 (some 35) (fun K hK => ?_); refine gs_ Tryd.func89 #[.int .i64 aG, .int .i64 aH] (h := ?_); with_reducible refine (spec_l06Make.calls aG aH bj bk _ A31.out).mono ?_
      rintro e cW ⟨rfl, hb⟩; refine ⟨_, rfl, ?_⟩; replace aa := bb_ aa hb; replace ab := bb_ ab hb; replace ac := bb_ ac hb; replace HB := hb3_ HB hb ah ap ak
      (try clear hb)
      (try clear hb2)
      (try clear hk)
      (try clear hi)
      refine hK.out _ _ ⟨cl_ aa 0, cl_ aa 1, cl_ ab 0, cl_ ab 1⟩ (fun hHeld => ?_); clear hK K; refine norm_y 35 (h := ?_)
      refine oy_ HT_ 11 none (fun K hK => ?_); have cX : cW.cell? ⟨ao, 0, none⟩ = some (.int .i64 0) := (blk_cell ac.out 0).trans rfl; have cq := blk_frozen ac.out 0; have ch := ae.out; have cj := af.out; have cb := ag.out; have cd := am.out; have cY : cW.cell? ⟨ao, 1, none⟩ = some (.int .i64 0) := (blk_cell ac.out 1).trans rfl; have cr := blk_frozen ac.out 1; have ck := ae.out; have cl := af.out; have ce := ag.out; have cf := am.out; refine skip_ (w1 := ?_) (by rfl) rfl ?_ ?_; rotate_left
      ·
       go_simp; rfl
      refine hK.out _ _ ⟨((cell_far (p := ⟨ao, _, none⟩) ae.out _).trans (((cell_far (p := ⟨ao, _, none⟩) ae.out _).trans (hHeld.1)))), ((cell_far (p := ⟨ao, _, none⟩) ae.out _).trans (((cell_far (p := ⟨ao, _, none⟩) ae.out _).trans (hHeld.2.1)))), ((cell_far (p := ⟨ao, _, none⟩) af.out _).trans (((cell_far (p := ⟨ao, _, none⟩) af.out _).trans (hHeld.2.2.1)))), ((cell_far (p := ⟨ao, _, none⟩) af.out _).trans (((cell_far (p := ⟨ao, _, none⟩) af.out _).trans (hHeld.2.2.2))))⟩ (fun hHeld => ?_); clear hK K; refine done_ (done_of HT_.out (by kernel_rfl)) ?_
      try go_wp2
      refine bodyPost_ret (results_cell_row rfl _ _ ao 88 #[.int .i64 bj, .int .i64 bk] (0, 0) _ rfl (bp_ ac) Tryd.underlying88 rfl (by kernel_rfl)) rfl ?_; exact ⟨lf_, sq_below3 HB.out ah.out ap.out ak.out⟩
     ·
      replace c28 := Bool.eq_false_iff.mpr c28; subst c28; have H1 := ifn_ H
      clear H; have H := H1; clear H1; simp only [Option.some.injEq, Prod.mk.injEq] at H; obtain ⟨rfl, rfl⟩ := H; have cC := al.out; have cQ := au.out; have cD := ae.out; have cR := ag.out; obtain ⟨br, bt, bN, bO⟩ := cz2_ aa
      go_wp2_with (first | ((with_reducible refine gate_callee (f := 117) rfl ?_); refine gl_ 17 Tryd.func117 #[.agg #[.int .i64 ai, .int .i64 aj]] (h := ?_); (with_reducible refine (spec_l06Is.calls ai aj true _ A25.out).mono ?_); rintro e dh ⟨rfl, hb⟩; refine ⟨_, rfl, ?_⟩; replace aa := bb_ aa hb; replace ab := bb_ ab hb; replace ac := bb_ ac hb; replace HB := hb3_ HB hb ah ap ak; (try clear hb); have cE := af.out; have cS := am.out; obtain ⟨bu, bv, bP, bQ⟩ := cz2_ ab) | ((with_reducible refine gate_callee (f := 117) rfl ?_); refine gl_ 22 Tryd.func117 #[.agg #[.int .i64 aq, .int .i64 ar]] (h := ?_); (with_reducible refine (spec_l06Is.calls aq ar false _ A27.out).mono ?_); rintro e di ⟨rfl, hb⟩; refine ⟨_, rfl, ?_⟩; replace aa := bb_ aa hb; replace ac := bb_ ac hb; replace HB := hb2_ HB hb ah ak; (try clear hb); obtain ⟨bw, bx, bR, bS⟩ := cz2_ aa; obtain ⟨bz, bA, bT, bU⟩ := cz2_ ac))
      refine bodyPost_ret (results_cell_row rfl _ _ ao 88 #[.int .i64 ai, .int .i64 aj] (0, 0) _ rfl (bp_ ac) Tryd.underlying88 rfl (by kernel_rfl)) rfl ?_; exact ⟨lf_, sq_below1 HB.out ak.out⟩
    ·
     replace c26 := Bool.eq_false_iff.mpr c26; subst c26; have H1 := ifn_ H
     clear H; have H := H1; clear H1; simp only [Option.some.injEq, Prod.mk.injEq] at H; obtain ⟨rfl, rfl⟩ := H; have cF := al.out; have cT := au.out; have cG := ae.out; have cU := ag.out; obtain ⟨bB, bC, bV, bW⟩ := cz2_ aa
     go_wp2_with (first | ((with_reducible refine gate_callee (f := 117) rfl ?_); refine gl_ 17 Tryd.func117 #[.agg #[.int .i64 ai, .int .i64 aj]] (h := ?_); (with_reducible refine (spec_l06Is.calls ai aj false _ A25.out).mono ?_); rintro e dj ⟨rfl, hb⟩; refine ⟨_, rfl, ?_⟩; replace ab := bb_ ab hb; replace ac := bb_ ac hb; replace HB := hb2_ HB hb ap ak; (try clear hb); have cH := af.out; have cV := am.out; obtain ⟨bD, bE, bX, bY⟩ := cz2_ ab; obtain ⟨bF, bG, bZ, ca⟩ := cz2_ ac))
     refine bodyPost_ret (results_cell_row rfl _ _ ao 88 #[.int .i64 aq, .int .i64 ar] (0, 0) _ rfl (bp_ ac) Tryd.underlying88 rfl (by kernel_rfl)) rfl ?_; exact ⟨lf_, sq_below1 HB.out ak.out⟩

end Go.Proofs.YtdmdalapckcobaaDoor.Q
