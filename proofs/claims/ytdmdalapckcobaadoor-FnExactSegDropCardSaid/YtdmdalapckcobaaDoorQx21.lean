/- Functions of the translation as Lean functions, each with a proof that a call answers so; out of the seat, by this claim's own program prt.py. -/
import Derived.Test.YtdmdalapckcobaaDoorWRepsOne
import Derived.Test.YtdmdalapckcobaaDoorQx0
import Derived.Test.YtdmdalapckcobaaDoorQx2
import Derived.Test.YtdmdalapckcobaaDoorQx17
import Derived.Test.YtdmdalapckcobaaDoorQStep3
namespace Go.Proofs.YtdmdalapckcobaaDoor.Q
open Go.RowKit Go.Proofs.YtdmdalapckcobaaDoorW.PrintWords Go.Proofs.YtdmdalapckcobaaDoorW.PrintLast Go.Proofs.YtdmdalapckcobaaDoorW.PrintMore
attribute [local go_sem] max2_int min2_int max_two min_two max_three min_three max_four min_four   -- for this text's walks alone
set_option linter.unusedVariables false
set_option maxHeartbeats 8000000
set_option maxRecDepth 100000
set_option linter.unusedSimpArgs false

attribute [local go_sem high] eqA88
/-! ### impl_orOther: function 120 -/
def impl_orOther.f (al : Int) (am : Int) (ao : Int) (ap : Int) : Option (Int × Int × Bool) := if (al == 1 && (am == 0)) = true then (some (ao, ap, true)) else (if (ao == 1 && (ap == 0)) = true then (some (al, am, true)) else (some (1, 0, false)))
theorem impl_orOther.calls (al : Int) (am : Int) (ao : Int) (ap : Int) (r1 : Int) (r2 : Int) (r3 : Bool) (w : World) (hG0 : GL0 w) (h : impl_orOther.f al am ao ap = some (r1, r2, r3)) :
  Calls Tryd.prog 120 #[.agg #[.int .i64 al, .int .i64 am], .agg #[.int .i64 ao, .int .i64 ap]] w fun e w' => e = .returned (.tuple #[.agg #[.int .i64 r1, .int .i64 r2], .bool r3]) ∧ Below w.heap.size w w' := by
 have hu88 := Tryd.underlying88; have HB := am_ (Below.refl w.heap.size w); have HG0 := am_ hG0; clear hG0; have H : (if (al == 1 && (am == 0)) = true then (some (ao, ap, true)) else (if (ao == 1 && (ap == 0)) = true then (some (al, am, true)) else (some (1, 0, false)))) = some (r1, r2, r3) := h; clear h
 by_cases c3 : (al == 1 && (am == 0)) = true
 ·
  rw [if_pos c3] at H; have bD : (al == 1 && (am == 0)) = true := c3
  (try (have bE : decide (al = 1 && (am == 0)) = true := by simpa using c3))
  (try (have bF : (al == 1 && (am == 0)) = true := by simpa using c3))
  clear c3; simp only [Option.some.injEq, Prod.mk.injEq] at H; obtain ⟨rfl, rfl, rfl⟩ := H
  go_enter Tryd.func120, Tryd.ntmps120
  go_wp2_with (first | ((with_reducible refine gate_dst (N := 2) rfl ?_); refine box_y 2 #[.int .i64 al, .int .i64 am] 88 (h := ?_); intro aJ hg w4 hbox hb; have aa := am_ hbox; have aI := gz_ hg HB; have ab := gz_ hg HB; replace HB := hb_ HB hb; clear hb hbox hg) | ((with_reducible refine gate_dst (N := 3) rfl ?_); refine box_y 3 #[.int .i64 ao, .int .i64 ap] 88 (h := ?_); intro ax hg w5 hbox hb; have ag := am_ hbox; have av := gz1_ hg HB ab; have ah := gz1_ hg HB ab; replace HB := hb1_ HB hb ab; have ac := nb_ hg aa; replace aa := bb_ aa hb; have ai := ns_ ac; clear hb hbox hg) | ((with_reducible refine gate_dst (N := 4) rfl ?_); refine box_y 4 #[.int .i64 0, .int .i64 0] 88 (h := ?_); intro au hg w6 hbox hb; have aq := am_ hbox; have aw := gz2_ hg HB ab ah; have ar := gz2_ hg HB ab ah; replace HB := hb2_ HB hb ab ah; have ae := nb_ hg aa; replace aa := bb_ aa hb; have aj := ns_ ae; have af := nb_ hg ag; replace ag := bb_ ag hb; have ak := ns_ af; clear hb hbox hg; have cd := ac.out; have cf := ai.out; have ce := ae.out; have ch := aj.out; obtain ⟨bG, bH, bI, bJ⟩ := cz2_ aa; have hgl10_0 : w6.cell? ⟨0, 0, none⟩ = some (.int .i64 1) := GL0.c0 (GL0.below HG0.out HB.out); have hgl10_1 : w6.cell? ⟨0, 1, none⟩ = some (.int .i64 0) := GL0.c1 (GL0.below HG0.out HB.out); have ay : ax ≠ 0 := (by first | exact Nat.ne_of_gt (Nat.lt_of_lt_of_le (World.block_lt_of_cell? _ _ (GL0.c0 HG0.out)) ah.out) | exact Nat.ne_of_gt (Nat.lt_of_lt_of_le (World.block_lt_of_cell? _ _ (GL0.c0 HG0.out)) av.out)); have hnhgl10_397 := Ne.symm ay; have az : au ≠ 0 := (by first | exact Nat.ne_of_gt (Nat.lt_of_lt_of_le (World.block_lt_of_cell? _ _ (GL0.c0 HG0.out)) ar.out) | exact Nat.ne_of_gt (Nat.lt_of_lt_of_le (World.block_lt_of_cell? _ _ (GL0.c0 HG0.out)) aw.out)); have hnhgl10_398 := Ne.symm az; have bL := af.out; have bS := ak.out; obtain ⟨aQ, aT, bl, bm⟩ := cz2_ ag; obtain ⟨aU, aV, bn, bo⟩ := cz2_ aq))
  refine bodyPost_ret (results_ct rfl _ _ au 88 #[.int .i64 ao, .int .i64 ap] (0, 0) _ rfl (bp_ aq) Tryd.underlying88 rfl (by kernel_rfl)) rfl ?_; exact ⟨lf_, sq_below1 HB.out ar.out⟩
 ·
  rw [if_neg c3] at H; have bD : (al == 1 && (am == 0)) = false := by simpa using c3
  (try (have bE : decide (al = 1 && (am == 0)) = false := by simpa using c3))
  (try (have bF : (al == 1 && (am == 0)) = false := by simpa using c3))
  (try (have cb : ¬ (al = 1 && (am == 0)) := by simpa using c3))
  clear c3
  by_cases c14 : (ao == 1 && (ap == 0)) = true
  ·
   rw [if_pos c14] at H; have aK : (ao == 1 && (ap == 0)) = true := c14
   (try (have aM : decide (ao = 1 && (ap == 0)) = true := by simpa using c14))
   (try (have aN : (ao == 1 && (ap == 0)) = true := by simpa using c14))
   clear c14; simp only [Option.some.injEq, Prod.mk.injEq] at H; obtain ⟨rfl, rfl, rfl⟩ := H
   go_enter Tryd.func120, Tryd.ntmps120
   go_wp2_with (first | ((with_reducible refine gate_dst (N := 2) rfl ?_); refine box_y 2 #[.int .i64 al, .int .i64 am] 88 (h := ?_); intro aJ hg cj hbox hb; have aa := am_ hbox; have aI := gz_ hg HB; have ab := gz_ hg HB; replace HB := hb_ HB hb; clear hb hbox hg) | ((with_reducible refine gate_dst (N := 3) rfl ?_); refine box_y 3 #[.int .i64 ao, .int .i64 ap] 88 (h := ?_); intro ax hg ck hbox hb; have ag := am_ hbox; have av := gz1_ hg HB ab; have ah := gz1_ hg HB ab; replace HB := hb1_ HB hb ab; have ac := nb_ hg aa; replace aa := bb_ aa hb; have ai := ns_ ac; clear hb hbox hg) | ((with_reducible refine gate_dst (N := 4) rfl ?_); refine box_y 4 #[.int .i64 0, .int .i64 0] 88 (h := ?_); intro au hg bZ hbox hb; have aq := am_ hbox; have aw := gz2_ hg HB ab ah; have ar := gz2_ hg HB ab ah; replace HB := hb2_ HB hb ab ah; have ae := nb_ hg aa; replace aa := bb_ aa hb; have aj := ns_ ae; have af := nb_ hg ag; replace ag := bb_ ag hb; have ak := ns_ af; clear hb hbox hg; have bM := ac.out; have bT := ai.out; have bN := ae.out; have bU := aj.out; obtain ⟨aW, aX, bp, bq⟩ := cz2_ aa; have hgl21_0 : bZ.cell? ⟨0, 0, none⟩ = some (.int .i64 1) := GL0.c0 (GL0.below HG0.out HB.out); have hgl21_1 : bZ.cell? ⟨0, 1, none⟩ = some (.int .i64 0) := GL0.c1 (GL0.below HG0.out HB.out); have aA : aJ ≠ 0 := (by first | exact Nat.ne_of_gt (Nat.lt_of_lt_of_le (World.block_lt_of_cell? _ _ (GL0.c0 HG0.out)) ab.out) | exact Nat.ne_of_gt (Nat.lt_of_lt_of_le (World.block_lt_of_cell? _ _ (GL0.c0 HG0.out)) aI.out)); have hnhgl21_396 := Ne.symm aA; have aC : ax ≠ 0 := (by first | exact Nat.ne_of_gt (Nat.lt_of_lt_of_le (World.block_lt_of_cell? _ _ (GL0.c0 HG0.out)) ah.out) | exact Nat.ne_of_gt (Nat.lt_of_lt_of_le (World.block_lt_of_cell? _ _ (GL0.c0 HG0.out)) av.out)); have hnhgl21_397 := Ne.symm aC; have aD : au ≠ 0 := (by first | exact Nat.ne_of_gt (Nat.lt_of_lt_of_le (World.block_lt_of_cell? _ _ (GL0.c0 HG0.out)) ar.out) | exact Nat.ne_of_gt (Nat.lt_of_lt_of_le (World.block_lt_of_cell? _ _ (GL0.c0 HG0.out)) aw.out)); have hnhgl21_398 := Ne.symm aD; have bO := af.out; have bV := ak.out; obtain ⟨aY, aZ, br, bt⟩ := cz2_ ag; obtain ⟨ba, bc, bu, bv⟩ := cz2_ aq))
   refine bodyPost_ret (results_ct rfl _ _ au 88 #[.int .i64 al, .int .i64 am] (0, 0) _ rfl (bp_ aq) Tryd.underlying88 rfl (by kernel_rfl)) rfl ?_; exact ⟨lf_, sq_below1 HB.out ar.out⟩
  ·
   rw [if_neg c14] at H; have aK : (ao == 1 && (ap == 0)) = false := by simpa using c14
   (try (have aM : decide (ao = 1 && (ap == 0)) = false := by simpa using c14))
   (try (have aN : (ao == 1 && (ap == 0)) = false := by simpa using c14))
   (try (have bK : ¬ (ao = 1 && (ap == 0)) := by simpa using c14))
   clear c14; simp only [Option.some.injEq, Prod.mk.injEq] at H; obtain ⟨rfl, rfl, rfl⟩ := H
   go_enter Tryd.func120, Tryd.ntmps120
   go_wp2_with (first | ((with_reducible refine gate_dst (N := 2) rfl ?_); refine box_y 2 #[.int .i64 al, .int .i64 am] 88 (h := ?_); intro aJ hg cl hbox hb; have aa := am_ hbox; have aI := gz_ hg HB; have ab := gz_ hg HB; replace HB := hb_ HB hb; clear hb hbox hg) | ((with_reducible refine gate_dst (N := 3) rfl ?_); refine box_y 3 #[.int .i64 ao, .int .i64 ap] 88 (h := ?_); intro ax hg cm hbox hb; have ag := am_ hbox; have av := gz1_ hg HB ab; have ah := gz1_ hg HB ab; replace HB := hb1_ HB hb ab; have ac := nb_ hg aa; replace aa := bb_ aa hb; have ai := ns_ ac; clear hb hbox hg) | ((with_reducible refine gate_dst (N := 4) rfl ?_); refine box_y 4 #[.int .i64 0, .int .i64 0] 88 (h := ?_); intro au hg ca hbox hb; have aq := am_ hbox; have aw := gz2_ hg HB ab ah; have ar := gz2_ hg HB ab ah; replace HB := hb2_ HB hb ab ah; have ae := nb_ hg aa; replace aa := bb_ aa hb; have aj := ns_ ae; have af := nb_ hg ag; replace ag := bb_ ag hb; have ak := ns_ af; clear hb hbox hg; have bP := ac.out; have bW := ai.out; have bQ := ae.out; have bX := aj.out; obtain ⟨bd, bf, bw, bx⟩ := cz2_ aa; have hgl31_0 : ca.cell? ⟨0, 0, none⟩ = some (.int .i64 1) := GL0.c0 (GL0.below HG0.out HB.out); have hgl31_1 : ca.cell? ⟨0, 1, none⟩ = some (.int .i64 0) := GL0.c1 (GL0.below HG0.out HB.out); have aG : ax ≠ 0 := (by first | exact Nat.ne_of_gt (Nat.lt_of_lt_of_le (World.block_lt_of_cell? _ _ (GL0.c0 HG0.out)) ah.out) | exact Nat.ne_of_gt (Nat.lt_of_lt_of_le (World.block_lt_of_cell? _ _ (GL0.c0 HG0.out)) av.out)); have hnhgl31_397 := Ne.symm aG; have aH : au ≠ 0 := (by first | exact Nat.ne_of_gt (Nat.lt_of_lt_of_le (World.block_lt_of_cell? _ _ (GL0.c0 HG0.out)) ar.out) | exact Nat.ne_of_gt (Nat.lt_of_lt_of_le (World.block_lt_of_cell? _ _ (GL0.c0 HG0.out)) aw.out)); have hnhgl31_398 := Ne.symm aH; have bR := af.out; have bY := ak.out; obtain ⟨bh, bi, bz, bA⟩ := cz2_ ag; obtain ⟨bj, bk, bB, bC⟩ := cz2_ aq))
   refine bodyPost_ret (results_ct rfl _ _ au 88 #[.int .i64 1, .int .i64 0] (0, 0) _ rfl (bp_ aq) Tryd.underlying88 rfl (by kernel_rfl)) rfl ?_; exact ⟨lf_, sq_below1 HB.out ar.out⟩

/-! ### impl_RangeJoin: function 119 -/
def impl_RangeJoin.j0 : Nat → Bool → Int → Int → Int → Int → Option (Int × Int)
 | 0, _, _, _, _, _ => none
 | k + 1, x14, aH, aI, aJ, aK => if x14 = true then (some (1, 0)) else ((impl_orOther.f aH aI aJ aK).bind fun aV => (if aV.2.2 = true then (some (aV.1, aV.2.1)) else (some (mn aH aJ, mx aI aK))))
def impl_RangeJoin.f (k : Nat) (aj : Int) (ai : Int) (ao : Int) (ak : Int) : Option (Int × Int) := (impl_RangeOk.f aj ai).bind fun aW => (if aW = true then ((impl_RangeOk.f ao ak).bind fun aQ => (impl_RangeJoin.j0 k (!aQ) aj ai ao ak)) else (impl_RangeJoin.j0 k true aj ai ao ak))
theorem impl_RangeJoin.mono_l : ∀ k, (∀ y0 y1 y2 y3 y4, LeO (impl_RangeJoin.j0 k y0 y1 y2 y3 y4) (impl_RangeJoin.j0 (k + 1) y0 y1 y2 y3 y4))
 | 0 => fun _ _ _ _ _ r h => by simp [impl_RangeJoin.j0] at h
 | k + 1 => by
  have ih0 := impl_RangeJoin.mono_l k
  ·
   intro y0 y1 y2 y3 y4; unfold impl_RangeJoin.j0
   repeat' first
   | (with_reducible exact ih0 _ _ _ _ _) | (with_reducible exact LeO.refl _) | (with_reducible exact LeO.none _) | (with_reducible refine LeO.ite ?_ ?_) | (with_reducible refine LeO.bind ?_ fun _ => ?_) | exact ih0 _ _ _ _ _ | exact LeO.none _ | refine LeO.ite ?_ ?_ | refine LeO.bind ?_ fun _ => ?_
theorem impl_RangeJoin.mono : ∀ a0 a1 a2 a3 k, LeO (impl_RangeJoin.f k a0 a1 a2 a3) (impl_RangeJoin.f (k + 1) a0 a1 a2 a3) := by
 intro a0 a1 a2 a3 k; have ih0 := impl_RangeJoin.mono_l k; unfold impl_RangeJoin.f
 repeat' first
   | (with_reducible exact ih0 _ _ _ _ _) | (with_reducible exact LeO.refl _) | (with_reducible exact LeO.none _) | (with_reducible refine LeO.ite ?_ ?_) | (with_reducible refine LeO.bind ?_ fun _ => ?_) | exact ih0 _ _ _ _ _ | exact LeO.none _ | refine LeO.ite ?_ ?_ | refine LeO.bind ?_ fun _ => ?_
theorem impl_RangeJoin.calls (k : Nat) (aj : Int) (ai : Int) (ao : Int) (ak : Int) (r1 : Int) (r2 : Int) (w : World) (hG0 : GL0 w) (h : impl_RangeJoin.f k aj ai ao ak = some (r1, r2)) :
  Calls Tryd.prog 119 #[.agg #[.int .i64 aj, .int .i64 ai], .agg #[.int .i64 ao, .int .i64 ak]] w fun e w' => e = .returned (.agg #[.int .i64 r1, .int .i64 r2]) ∧ Below w.heap.size w w' := by
 have hu88 := Tryd.underlying88; have HB := am_ (Below.refl w.heap.size w); have HG0 := am_ hG0; clear hG0; have H : ((impl_RangeOk.f aj ai).bind fun aW => (if aW = true then ((impl_RangeOk.f ao ak).bind fun aQ => (impl_RangeJoin.j0 k (!aQ) aj ai ao ak)) else (impl_RangeJoin.j0 k true aj ai ao ak))) = some (r1, r2) := h; clear h; have cu := am_ H; clear H
 go_enter Tryd.func119, Tryd.ntmps119
 go_upto_region 1 with (first | ((with_reducible refine gate_dst (N := 2) rfl ?_); refine box_y 2 #[.int .i64 aj, .int .i64 ai] 88 (h := ?_); intro bt hg w4 hbox hb; have aa := am_ hbox; have cw := gz_ hg HB; have af := gz_ hg HB; replace HB := hb_ HB hb; clear hb hbox hg) | ((with_reducible refine gate_dst (N := 3) rfl ?_); refine box_y 3 #[.int .i64 ao, .int .i64 ak] 88 (h := ?_); intro bu hg w5 hbox hb; have ae := am_ hbox; have cx := gz1_ hg HB af; have ah := gz1_ hg HB af; replace HB := hb1_ HB hb af; have al := nb_ hg aa; replace aa := bb_ aa hb; have ap := ns_ al; clear hb hbox hg) | ((with_reducible refine gate_dst (N := 4) rfl ?_); refine box_y 4 #[.int .i64 0, .int .i64 0] 88 (h := ?_); intro az hg w6 hbox hb; have ab := am_ hbox; have bq := gz2_ hg HB af ah; have ac := gz2_ hg HB af ah; replace HB := hb2_ HB hb af ah; have am := nb_ hg aa; replace aa := bb_ aa hb; have ar := ns_ am; have aq := nb_ hg ae; replace ae := bb_ ae hb; have av := ns_ aq; clear hb hbox hg))
 (try simp only [Act.put, List.setIfInBounds_toArray, List.set_cons_zero, List.set_cons_succ])
 go_cut [14] (fun v14 wc => ∃ (kq : Nat) (aG : Bool), v14 = .bool aG ∧ Aside0 (impl_RangeJoin.j0 kq aG aj ai ao ak = some (r1, r2)) ∧ Aside0 (kq ≤ k) ∧ Aside0 (wc.heap[bt]? = some (.cells #[.int .i64 aj, .int .i64 ai] 88 (0, 0))) ∧ Aside0 (wc.heap[bu]? = some (.cells #[.int .i64 ao, .int .i64 ak] 88 (0, 0))) ∧ Aside0 (wc.heap[az]? = some (.cells #[.int .i64 0, .int .i64 0] 88 (0, 0))) ∧ Aside0 (Below w.heap.size w wc))
 case first =>
  have H := cu.out; clear cu; obtain ⟨aW, A7, H⟩ := be_ H; (try dsimp only at H)
  by_cases c8 : aW = true
  ·
   subst c8; have H1 := ifp_ H
   clear H; have H := H1; clear H1; obtain ⟨aQ, A9, H⟩ := be_ H; (try dsimp only at H); have H' := am_ H; clear H; have cy := al.out; have cN := ap.out; have cz := am.out; have cO := ar.out; obtain ⟨aX, aY, bf, bh⟩ := cz2_ aa
   go_wp2_with (first | ((with_reducible refine gate_callee (f := 107) rfl ?_); refine gl_ 8 Tryd.func107 #[.agg #[.int .i64 aj, .int .i64 ai]] (h := ?_); (with_reducible refine (impl_RangeOk.calls aj ai true _ ?au A7.out).mono ?_); (case au => exact GL0.below HG0.out (sq_below3 HB.out af.out ah.out ac.out)); rintro e dd ⟨rfl, hb⟩; refine ⟨_, rfl, ?_⟩; replace aa := bb_ aa hb; replace ae := bb_ ae hb; replace ab := bb_ ab hb; replace HB := hb3_ HB hb af ah ac; (try clear hb); have cA := aq.out; have cP := av.out; obtain ⟨aZ, ba, bi, bj⟩ := cz2_ ae) | (go_at_call 107; (with_reducible refine (impl_RangeOk.calls ao ak aQ _ ?au A9.out).mono ?_); (case au => exact GL0.below HG0.out (sq_below3 HB.out af.out ah.out ac.out)); rintro e de ⟨rfl, hb⟩; replace aa := bb_ aa hb; replace ae := bb_ ae hb; replace ab := bb_ ab hb; replace HB := hb3_ HB hb af ah ac; (try clear hb)))
   go_meet
   case rel => exact ⟨_, (!aQ), sr_, H', om_, bk_ aa, bk_ ae, bk_ ab, ⟨sq_below3 HB.out af.out ah.out ac.out⟩⟩
  ·
   replace c8 := Bool.eq_false_iff.mpr c8; subst c8; have H1 := ifn_ H
   clear H; have H := H1; clear H1; have H' := am_ H; clear H; have cB := al.out; have cQ := ap.out; have cC := am.out; have cR := ar.out; obtain ⟨bc, bd, bk, bl⟩ := cz2_ aa
   go_wp2_with (first | ((with_reducible refine gate_callee (f := 107) rfl ?_); refine gl_ 8 Tryd.func107 #[.agg #[.int .i64 aj, .int .i64 ai]] (h := ?_); (with_reducible refine (impl_RangeOk.calls aj ai false _ ?au A7.out).mono ?_); (case au => exact GL0.below HG0.out (sq_below3 HB.out af.out ah.out ac.out)); rintro e df ⟨rfl, hb⟩; refine ⟨_, rfl, ?_⟩; replace aa := bb_ aa hb; replace ae := bb_ ae hb; replace ab := bb_ ab hb; replace HB := hb3_ HB hb af ah ac; (try clear hb)))
   go_meet
   case rel => exact ⟨_, (true), sr_, H', om_, bk_ aa, bk_ ae, bk_ ab, ⟨sq_below3 HB.out af.out ah.out ac.out⟩⟩
 case rest =>
  clear cu
  obtain ⟨kq, aG, rfl, HA, HJ2, aa, ae, ab, HB⟩ := hcut; cases kq with
  | zero => exact absurd HA.out (by simp [impl_RangeJoin.j0])
  | succ dc =>
   have H := HA.out; clear HA; simp only [impl_RangeJoin.j0] at H
   by_cases c21 : aG = true
   ·
    subst c21; have H1 := ifp_ H
    clear H; have H := H1; clear H1; simp only [Option.some.injEq, Prod.mk.injEq] at H; obtain ⟨rfl, rfl⟩ := H; have hgl22_0 : wc.cell? ⟨0, 0, none⟩ = some (.int .i64 1) := GL0.c0 (GL0.below HG0.out HB.out); have hgl22_1 : wc.cell? ⟨0, 1, none⟩ = some (.int .i64 0) := GL0.c1 (GL0.below HG0.out HB.out); have aD : az ≠ 0 := (by first | exact Nat.ne_of_gt (Nat.lt_of_lt_of_le (World.block_lt_of_cell? _ _ (GL0.c0 HG0.out)) ac.out) | exact Nat.ne_of_gt (Nat.lt_of_lt_of_le (World.block_lt_of_cell? _ _ (GL0.c0 HG0.out)) bq.out)); have hnhgl22_401 := Ne.symm aD; obtain ⟨bw, bx, bT, bU⟩ := cz2_ ab
    go_wp2
    refine bodyPost_ret (results_cell_row rfl _ _ az 88 #[.int .i64 1, .int .i64 0] (0, 0) _ rfl (bp_ ab) Tryd.underlying88 rfl (by kernel_rfl)) rfl ?_; exact ⟨lf_, sq_below1 HB.out ac.out⟩
   ·
    replace c21 := Bool.eq_false_iff.mpr c21; subst c21; have H1 := ifn_ H
    clear H; have H := H1; clear H1; replace H := Option.bind_eq_some_iff.mp H; obtain ⟨⟨bo, bp, cv⟩, A240, H⟩ := H; (try dsimp only at H); have A24 := am_ A240; clear A240
    by_cases c25 : cv = true
    ·
     subst c25; have H1 := ifp_ H
     clear H; have H := H1; clear H1; simp only [Option.some.injEq, Prod.mk.injEq] at H; obtain ⟨rfl, rfl⟩ := H; have cD := al.out; have cS := ap.out; have cE := am.out; have cT := ar.out; obtain ⟨bz, bA, bV, bW⟩ := cz2_ aa; have cF := aq.out; have cU := av.out; obtain ⟨bB, bC, bX, bY⟩ := cz2_ ae
     go_wp2_with (first | ((with_reducible refine gate_callee (f := 120) rfl ?_); refine gl_ 19 Tryd.func120 #[.agg #[.int .i64 aj, .int .i64 ai], .agg #[.int .i64 ao, .int .i64 ak]] (h := ?_); (with_reducible refine (impl_orOther.calls aj ai ao ak bo bp true _ ?au A24.out).mono ?_); (case au => exact GL0.below HG0.out (sq_below1 HB.out ac.out)); rintro e dg ⟨rfl, hb⟩; refine ⟨_, rfl, ?_⟩; replace ab := bb_ ab hb; replace HB := hb1_ HB hb ac; (try clear hb)) | ((with_reducible refine gate_dst (N := 5) rfl ?_); refine box_y 5 #[.int .i64 0, .int .i64 0] 88 (h := ?_); intro bv hg dh hbox hb; have aT := am_ hbox; have br := gz1_ hg HB ac; have aU := gz1_ hg HB ac; replace HB := hb1_ HB hb ac; have ag := nb_ hg ab; replace ab := bb_ ab hb; have aw := ns_ ag; clear hb hbox hg; have cG := aw.out; have cV := ag.out; obtain ⟨bD, bE, bZ, ca⟩ := cz2_ aT; obtain ⟨bF, bG, cb, cd⟩ := cz2_ ab))
     refine bodyPost_ret (results_cell_row rfl _ _ az 88 #[.int .i64 bo, .int .i64 bp] (0, 0) _ rfl (bp1_ ab ag) Tryd.underlying88 rfl (by kernel_rfl)) rfl ?_; exact ⟨lf_, sq_below2 HB.out ac.out aU.out⟩
    ·
     replace c25 := Bool.eq_false_iff.mpr c25; subst c25; have H1 := ifn_ H
     clear H; have H := H1; clear H1; obtain ⟨bm, aA⟩ : ∃ j_ : Int, (mn aj ao) = j_ := ⟨_, rfl⟩; replace H : (some (bm, mx ai ak)) = some (r1, r2) := by first | (rw [aA] at H; exact H) | (simp only [aA] at H ⊢; exact H)
     (try rw [aA] at A24)
     have hji36_ : (if ao < aj then ao else aj) = bm := aA; obtain ⟨bn, aC⟩ : ∃ j_ : Int, (mx ai ak) = j_ := ⟨_, rfl⟩; replace H : (some (bm, bn)) = some (r1, r2) := by first | (rw [aC] at H; exact H) | (simp only [aC] at H ⊢; exact H)
     (try rw [aC] at A24)
     have hji37_ : (if ai < ak then ak else ai) = bn := aC; simp only [Option.some.injEq, Prod.mk.injEq] at H; obtain ⟨rfl, rfl⟩ := H; have cH := al.out; have cW := ap.out; have cI := am.out; have cX := ar.out; obtain ⟨bH, bI, ce, cf⟩ := cz2_ aa; have cJ := aq.out; have cY := av.out; obtain ⟨bJ, bK, ch, cj⟩ := cz2_ ae
     go_wp2_with (first | ((with_reducible refine gate_callee (f := 120) rfl ?_); refine gl_ 19 Tryd.func120 #[.agg #[.int .i64 aj, .int .i64 ai], .agg #[.int .i64 ao, .int .i64 ak]] (h := ?_); (with_reducible refine (impl_orOther.calls aj ai ao ak bo bp false _ ?au A24.out).mono ?_); (case au => exact GL0.below HG0.out (sq_below3 HB.out af.out ah.out ac.out)); rintro e di ⟨rfl, hb⟩; refine ⟨_, rfl, ?_⟩; replace aa := bb_ aa hb; replace ae := bb_ ae hb; replace ab := bb_ ab hb; replace HB := hb3_ HB hb af ah ac; (try clear hb)) | ((with_reducible refine gate_dst (N := 5) rfl ?_); refine box_y 5 #[.int .i64 0, .int .i64 0] 88 (h := ?_); intro bv hg dj hbox hb; have aT := am_ hbox; have br := gz3_ hg HB af ah ac; have aU := gz3_ hg HB af ah ac; replace HB := hb3_ HB hb af ah ac; have ax := nb_ hg aa; replace aa := bb_ aa hb; have aM := ns_ ax; have ay := nb_ hg ae; replace ae := bb_ ae hb; have aN := ns_ ay; have ag := nb_ hg ab; replace ab := bb_ ab hb; have aw := ns_ ag; clear hb hbox hg; have cK := aM.out; have cZ := ax.out; have cL := aN.out; have da := ay.out; have cM := aw.out; have db := ag.out; obtain ⟨bL, bM, ck, cl⟩ := cz2_ aT; obtain ⟨bN, bO, cm, cn⟩ := cz2_ aa; obtain ⟨bP, bQ, co, cp⟩ := cz2_ ae; obtain ⟨bR, bS, cq, cr⟩ := cz2_ ab))
     refine bodyPost_ret (results_cell_row rfl _ _ az 88 #[.int .i64 bm, .int .i64 bn] (0, 0) _ rfl (bp1_ ab ag) Tryd.underlying88 rfl (by kernel_rfl)) rfl ?_; exact ⟨by first | rfl | (simp [errW_none, errW_some] <;> rfl) | (simp only [← aA, ← aC]; first | rfl | (simp [errW_none, errW_some] <;> rfl)) | (simp [*, errW_none, errW_some] <;> rfl), sq_below2 HB.out ac.out aU.out⟩

end Go.Proofs.YtdmdalapckcobaaDoor.Q
