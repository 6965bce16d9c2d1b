/- Functions of the translation as Lean functions, each with a proof that a call answers so; out of the seat, by this claim's own program prt.py. -/
import Derived.Test.YtdmdalapckcobaaDoorWTab
import Derived.Test.YtdmdalapckcobaaDoorWRepsOne
import Derived.Test.YtdmdalapckcobaaDoorQx0
import Derived.Test.YtdmdalapckcobaaDoorQx7
import Derived.Test.YtdmdalapckcobaaDoorQx9
import Derived.Test.YtdmdalapckcobaaDoorQx10
import Derived.Test.YtdmdalapckcobaaDoorQStep3
namespace Go.Proofs.YtdmdalapckcobaaDoor.Q
open Go.RowKit Go.Proofs.YtdmdalapckcobaaDoorW.PrintWords Go.Proofs.YtdmdalapckcobaaDoorW.PrintLast Go.Proofs.YtdmdalapckcobaaDoorW.PrintMore
attribute [local go_sem] max2_int min2_int max_two min_two max_three min_three max_four min_four   -- for this text's walks alone
set_option linter.unusedVariables false
set_option maxHeartbeats 8000000
set_option maxRecDepth 100000
set_option linter.unusedSimpArgs false

/-! ### spec_ValJoin: function 90 -/
def spec_ValJoin.j0 : Nat → Bool → Int → Int → Bool → Int → Int → Bool → Option (Int × Int × Bool)
 | 0, _, _, _, _, _, _, _ => none
 | k + 1, x12, bj, bk, bl, bm, bn, bo => if x12 = true then ((spec_l09None.f).bind fun aD => (some (aD.1, aD.2.1, aD.2.2))) else ((spec_RangeJoin.f k bj bk bm bn).bind fun az => (if bl = true then (some (az.1, az.2, bo)) else (some (az.1, az.2, false))))
def spec_ValJoin.f (k : Nat) (ak : Int) (al : Int) (ar : Bool) (am : Int) (ao : Int) (au : Bool) : Option (Int × Int × Bool) := (spec_ValOk.f ak al ar).bind fun aG => (if aG = true then ((spec_ValOk.f am ao au).bind fun aC => (spec_ValJoin.j0 k (!aC) ak al ar am ao au)) else (spec_ValJoin.j0 k true ak al ar am ao au))
theorem spec_ValJoin.mono_l : ∀ k, (∀ y0 y1 y2 y3 y4 y5 y6, LeO (spec_ValJoin.j0 k y0 y1 y2 y3 y4 y5 y6) (spec_ValJoin.j0 (k + 1) y0 y1 y2 y3 y4 y5 y6))
 | 0 => fun _ _ _ _ _ _ _ r h => by simp [spec_ValJoin.j0] at h
 | k + 1 => by
  have ih0 := spec_ValJoin.mono_l k
  ·
   intro y0 y1 y2 y3 y4 y5 y6; unfold spec_ValJoin.j0
   repeat' first
   | (with_reducible exact ih0 _ _ _ _ _ _ _) | (with_reducible exact spec_RangeJoin.mono _ _ _ _ _) | (with_reducible exact LeO.refl _) | (with_reducible exact LeO.none _) | (with_reducible refine LeO.ite ?_ ?_) | (with_reducible refine LeO.bind ?_ fun _ => ?_) | exact ih0 _ _ _ _ _ _ _ | exact spec_RangeJoin.mono _ _ _ _ _ | exact LeO.none _ | refine LeO.ite ?_ ?_ | refine LeO.bind ?_ fun _ => ?_
theorem spec_ValJoin.mono : ∀ a0 a1 a2 a3 a4 a5 k, LeO (spec_ValJoin.f k a0 a1 a2 a3 a4 a5) (spec_ValJoin.f (k + 1) a0 a1 a2 a3 a4 a5) := by
 intro a0 a1 a2 a3 a4 a5 k; have ih0 := spec_ValJoin.mono_l k; unfold spec_ValJoin.f
 repeat' first
   | (with_reducible exact ih0 _ _ _ _ _ _ _) | (with_reducible exact spec_RangeJoin.mono _ _ _ _ _) | (with_reducible exact LeO.refl _) | (with_reducible exact LeO.none _) | (with_reducible refine LeO.ite ?_ ?_) | (with_reducible refine LeO.bind ?_ fun _ => ?_) | exact ih0 _ _ _ _ _ _ _ | exact spec_RangeJoin.mono _ _ _ _ _ | exact LeO.none _ | refine LeO.ite ?_ ?_ | refine LeO.bind ?_ fun _ => ?_
def spec_ValJoin.T3 : Bool × List (List Nat × List Nat) := (true, [([], []), ([0], [0]), ([], []), ([2], [2]), ([1, 3], [1, 3]), ([], []), ([5], [5]), ([6, 4], [6]), ([7], [7]), ([8, 7], [7, 8]), ([7, 9], [7, 9]), ([4, 10], [4, 10]), ([11, 7, 0, 1, 2, 3, 4, 5, 6, 7, 8, 9, 10, 11], [11])])
def spec_ValJoin.B3 : List Nat := [0, 1, 0, 4, 15, 0, 32, 127, 255, 511, 1023, 2047, 4095]
theorem spec_ValJoin.tab3 : rtab .any (opsOf Tryd.f90 3) = spec_ValJoin.T3 := by kernel_rfl
theorem spec_ValJoin.bits3 : waitsOk spec_ValJoin.T3.2 spec_ValJoin.B3 = true := by kernel_rfl
theorem spec_ValJoin.calls (k : Nat) (ak : Int) (al : Int) (ar : Bool) (am : Int) (ao : Int) (au : Bool) (r1 : Int) (r2 : Int) (r3 : Bool) (w : World) (h : spec_ValJoin.f k ak al ar am ao au = some (r1, r2, r3)) :
  Calls Tryd.prog 90 #[.agg #[.int .i64 ak, .int .i64 al, .bool ar], .agg #[.int .i64 am, .int .i64 ao, .bool au]] w fun e w' => e = .returned (.agg #[.int .i64 r1, .int .i64 r2, .bool r3]) ∧ Below w.heap.size w w' := by
 have hu90 := Tryd.underlying90; have hu88 := Tryd.underlying88; have HB := am_ (Below.refl w.heap.size w); have H : ((spec_ValOk.f ak al ar).bind fun aG => (if aG = true then ((spec_ValOk.f am ao au).bind fun aC => (spec_ValJoin.j0 k (!aC) ak al ar am ao au)) else (spec_ValJoin.j0 k true ak al ar am ao au))) = some (r1, r2, r3) := h; clear h; have bY := am_ H; clear H
 go_enter Tryd.func90, Tryd.ntmps90
 go_upto_region 1 with (first | ((with_reducible refine gate_dst (N := 2) rfl ?_); refine box_y 2 #[.int .i64 ak, .int .i64 al, .bool ar] 90 (h := ?_); intro aw hg w4 hbox hb; have ae := am_ hbox; have cb := gz_ hg HB; have aj := gz_ hg HB; replace HB := hb_ HB hb; clear hb hbox hg) | ((with_reducible refine gate_dst (N := 3) rfl ?_); refine box_y 3 #[.int .i64 am, .int .i64 ao, .bool au] 90 (h := ?_); intro ax hg w5 hbox hb; have ag := am_ hbox; have cd := gz1_ hg HB aj; have ap := gz1_ hg HB aj; replace HB := hb1_ HB hb aj; have av := nb_ hg ae; replace ae := bb_ ae hb; have ay := ns_ av; clear hb hbox hg) | ((with_reducible refine gate_dst (N := 4) rfl ?_); refine box_y 4 #[.int .i64 0, .int .i64 0, .bool false] 90 (h := ?_); intro ac hg w6 hbox hb; have af := am_ hbox; have ce := gz2_ hg HB aj ap; have aq := gz2_ hg HB aj ap; replace HB := hb2_ HB hb aj ap; have aa := nb_ hg ae; replace ae := bb_ ae hb; have ah := ns_ aa; have ab := nb_ hg ag; replace ag := bb_ ag hb; have ai := ns_ ab; clear hb hbox hg))
 (try simp only [Act.put, List.setIfInBounds_toArray, List.set_cons_zero, List.set_cons_succ])
 go_cut [12] (fun v12 wc => ∃ (kq : Nat) (aA : Bool), v12 = .bool aA ∧ Aside0 (spec_ValJoin.j0 kq aA ak al ar am ao au = some (r1, r2, r3)) ∧ Aside0 (kq ≤ k) ∧ Aside0 (wc.heap[aw]? = some (.cells #[.int .i64 ak, .int .i64 al, .bool ar] 90 (0, 0))) ∧ Aside0 (wc.heap[ax]? = some (.cells #[.int .i64 am, .int .i64 ao, .bool au] 90 (0, 0))) ∧ Aside0 (wc.heap[ac]? = some (.cells #[.int .i64 0, .int .i64 0, .bool false] 90 (0, 0))) ∧ Aside0 (Below w.heap.size w wc))
 case first =>
  have H := bY.out; clear bY; obtain ⟨aG, A7, H⟩ := be_ H; (try dsimp only at H)
  by_cases c8 : aG = true
  ·
   subst c8; have H1 := ifp_ H
   clear H; have H := H1; clear H1; obtain ⟨aC, A9, H⟩ := be_ H; (try dsimp only at H); have H' := am_ H; clear H; have cn := av.out; have cu := ay.out; have co := aa.out; have cv := ah.out; obtain ⟨aH, aI, aJ, aV, aW, aX⟩ := cz3_ ae
   go_wp2_with (first | ((with_reducible refine gate_callee (f := 65) rfl ?_); refine gl_ 6 Tryd.func65 #[.agg #[.int .i64 ak, .int .i64 al, .bool ar]] (h := ?_); (with_reducible refine (spec_ValOk.calls ak al ar true _ A7.out).mono ?_); rintro e cG ⟨rfl, hb⟩; refine ⟨_, rfl, ?_⟩; replace ae := bb_ ae hb; replace ag := bb_ ag hb; replace af := bb_ af hb; replace HB := hb3_ HB hb aj ap aq; (try clear hb); have cp := ab.out; have cw := ai.out; obtain ⟨aK, aM, aN, aY, aZ, ba⟩ := cz3_ ag) | (go_at_call 65; (with_reducible refine (spec_ValOk.calls am ao au aC _ A9.out).mono ?_); rintro e cH ⟨rfl, hb⟩; replace ae := bb_ ae hb; replace ag := bb_ ag hb; replace af := bb_ af hb; replace HB := hb3_ HB hb aj ap aq; (try clear hb)))
   go_meet
   case rel => exact ⟨_, (!aC), sr_, H', om_, bk_ ae, bk_ ag, bk_ af, ⟨sq_below3 HB.out aj.out ap.out aq.out⟩⟩
  ·
   replace c8 := Bool.eq_false_iff.mpr c8; subst c8; have H1 := ifn_ H
   clear H; have H := H1; clear H1; have H' := am_ H; clear H; have cq := av.out; have cx := ay.out; have cr := aa.out; have cy := ah.out; obtain ⟨aQ, aT, aU, bc, bd, bf⟩ := cz3_ ae
   go_wp2_with (first | ((with_reducible refine gate_callee (f := 65) rfl ?_); refine gl_ 6 Tryd.func65 #[.agg #[.int .i64 ak, .int .i64 al, .bool ar]] (h := ?_); (with_reducible refine (spec_ValOk.calls ak al ar false _ A7.out).mono ?_); rintro e cI ⟨rfl, hb⟩; refine ⟨_, rfl, ?_⟩; replace ae := bb_ ae hb; replace ag := bb_ ag hb; replace af := bb_ af hb; replace HB := hb3_ HB hb aj ap aq; (try clear hb)))
   go_meet
   case rel => exact ⟨_, (true), sr_, H', om_, bk_ ae, bk_ ag, bk_ af, ⟨sq_below3 HB.out aj.out ap.out aq.out⟩⟩
 case rest =>
  clear bY
  obtain ⟨kq, aA, rfl, HA, HJ2, ae, ag, af, HB⟩ := hcut; cases kq with
  | zero => exact absurd HA.out (by simp [spec_ValJoin.j0])
  | succ cz =>
   have H := HA.out; clear HA; simp only [spec_ValJoin.j0] at H
   by_cases c21 : aA = true
   ·
    subst c21; have H1 := ifp_ H
    clear H; have H := H1; clear H1; replace H := Option.bind_eq_some_iff.mp H; obtain ⟨⟨bp, bq, br⟩, A220, H⟩ := H; replace H : (some (bp, bq, br)) = some (r1, r2, r3) := H; have A22 := am_ A220; clear A220; simp only [Option.some.injEq, Prod.mk.injEq] at H; obtain ⟨rfl, rfl, rfl⟩ := H
    go_wp2_with (first | ((with_reducible refine gate_callee (f := 87) rfl ?_); refine gl_ 13 Tryd.func87 #[] (h := ?_); (with_reducible refine (spec_l09None.calls  bp bq br _ A22.out).mono ?_); rintro e cJ ⟨rfl, hb⟩; refine ⟨_, rfl, ?_⟩; replace af := bb_ af hb; replace HB := hb1_ HB hb aq; (try clear hb); obtain ⟨bt, bu, bv, bw, bx, bz⟩ := cz3_ af))
    refine bodyPost_ret (results_cell_row rfl _ _ ac 90 #[.int .i64 bp, .int .i64 bq, .bool br] (0, 0) _ rfl (bp_ af) Tryd.underlying90 rfl (by kernel_rfl)) rfl ?_; exact ⟨lf_, sq_below1 HB.out aq.out⟩
   ·
    replace c21 := Bool.eq_false_iff.mpr c21; subst c21; have H1 := ifn_ H
    clear H; have H := H1; clear H1; replace H := Option.bind_eq_some_iff.mp H; obtain ⟨⟨bh, bi⟩, A250, H⟩ := H; (try dsimp only at H); have A25 := am_ A250; clear A250
    by_cases c26 : ar = true
    ·
     subst c26; have H1 := ifp_ H
     clear H; have H := H1; clear H1; simp only [Option.some.injEq, Prod.mk.injEq] at H; obtain ⟨rfl, rfl, rfl⟩ := H
     try go_wp2
     replace ae := bd_ ae; replace ag := bd_ ag; replace af := bd_ af; replace HB := hd_ HB; refine start_ (n := 13) (S := fun w' => w'.cell? ⟨aw, 0, none⟩ = some (.int .i64 ak) ∧ w'.cell? ⟨aw, 1, none⟩ = some (.int .i64 al) ∧ w'.cell? ⟨aw, 2, none⟩ = some (.bool true) ∧ w'.cell? ⟨ax, 0, none⟩ = some (.int .i64 am) ∧ w'.cell? ⟨ax, 1, none⟩ = some (.int .i64 ao) ∧ w'.cell? ⟨ax, 2, none⟩ = some (.bool au)) (ds := []) #[false, false, false, false, false, false, false, false, false, false, false, false, false] (by kernel_rfl) rfl rfl ⟨cl_ ae 0, cl_ ae 1, cl_ ae 2, cl_ ag 0, cl_ ag 1, cl_ ag 2⟩ (fun hHeld => ?_); refine with_tabW spec_ValJoin.tab3 spec_ValJoin.bits3 (fun HT_ HW_ => ?_); generalize wc.drew = cK at ae ag af HB hHeld ⊢; refine py_ HT_ 0 14 ?_
     refine py_ HT_ 2 16 ?_
     refine py_ HT_ 5 19 ?_
     refine ty_ HT_ HW_ 1 15 rfl hHeld (by rintro w' ⟨s0, s1, s2, s3, s4, s5⟩; go_simp; with_reducible rfl) ?_
     refine ty_ HT_ HW_ 3 17 rfl hHeld (by rintro w' ⟨s0, s1, s2, s3, s4, s5⟩; go_simp; with_reducible rfl) ?_
     refine ty_ HT_ HW_ 6 20 rfl hHeld (by rintro w' ⟨s0, s1, s2, s3, s4, s5⟩; go_simp; with_reducible rfl) ?_
     refine oy_ HT_ 4 (some 18) (fun K hK => ?_); refine gs_ Tryd.func91 #[.agg #[.int .i64 ak, .int .i64 al], .agg #[.int .i64 am, .int .i64 ao]] (h := ?_); with_reducible refine (spec_RangeJoin.calls cz ak al am ao bh bi _ A25.out).mono ?_
     rintro e bZ ⟨rfl, hb⟩; refine ⟨_, rfl, ?_⟩; replace ae := bb_ ae hb; replace ag := bb_ ag hb; replace af := bb_ af hb; replace HB := hb3_ HB hb aj ap aq
     (try clear hb)
     (try clear hb2)
     (try clear hk)
     (try clear hi)
     refine hK.out _ _ ⟨cl_ ae 0, cl_ ae 1, cl_ ae 2, cl_ ag 0, cl_ ag 1, cl_ ag 2⟩ (fun hHeld => ?_); clear hK K; refine norm_y 18 (h := ?_)
     refine py_ HT_ 7 21 ?_
     refine py_ HT_ 8 22 ?_
     refine ty_ HT_ HW_ 9 23 rfl hHeld (by rintro w' ⟨s0, s1, s2, s3, s4, s5⟩; go_simp; with_reducible rfl) ?_
     refine py_ HT_ 10 24 ?_
     refine py_ HT_ 11 25 ?_
     refine oy_ HT_ 12 none (fun K hK => ?_); have cA : bZ.cell? ⟨ac, 0, none⟩ = some (.int .i64 0) := (blk_cell af.out 0).trans rfl; have cf := blk_frozen af.out 0; have bM := aa.out; have bN := ab.out; have bA := ah.out; have bB := ai.out; have cB : bZ.cell? ⟨ac, 1, none⟩ = some (.int .i64 0) := (blk_cell af.out 1).trans rfl; have ch := blk_frozen af.out 1; have bO := aa.out; have bP := ab.out; have bC := ah.out; have bD := ai.out; have cC : bZ.cell? ⟨ac, 2, none⟩ = some (.bool false) := (blk_cell af.out 2).trans rfl; have cj := blk_frozen af.out 2; have bQ := aa.out; have bR := ab.out; have bE := ah.out; have bF := ai.out; refine skip_ (w1 := ?_) (by rfl) rfl ?_ ?_; rotate_left
     ·
      go_simp; rfl
     refine hK.out _ _ ⟨((cell_far (p := ⟨ac, _, none⟩) aa.out _).trans (((cell_far (p := ⟨ac, _, none⟩) aa.out _).trans (((cell_far (p := ⟨ac, _, none⟩) aa.out _).trans (hHeld.1)))))), ((cell_far (p := ⟨ac, _, none⟩) aa.out _).trans (((cell_far (p := ⟨ac, _, none⟩) aa.out _).trans (((cell_far (p := ⟨ac, _, none⟩) aa.out _).trans (hHeld.2.1)))))), ((cell_far (p := ⟨ac, _, none⟩) aa.out _).trans (((cell_far (p := ⟨ac, _, none⟩) aa.out _).trans (((cell_far (p := ⟨ac, _, none⟩) aa.out _).trans (hHeld.2.2.1)))))), ((cell_far (p := ⟨ac, _, none⟩) ab.out _).trans (((cell_far (p := ⟨ac, _, none⟩) ab.out _).trans (((cell_far (p := ⟨ac, _, none⟩) ab.out _).trans (hHeld.2.2.2.1)))))), ((cell_far (p := ⟨ac, _, none⟩) ab.out _).trans (((cell_far (p := ⟨ac, _, none⟩) ab.out _).trans (((cell_far (p := ⟨ac, _, none⟩) ab.out _).trans (hHeld.2.2.2.2.1)))))), ((cell_far (p := ⟨ac, _, none⟩) ab.out _).trans (((cell_far (p := ⟨ac, _, none⟩) ab.out _).trans (((cell_far (p := ⟨ac, _, none⟩) ab.out _).trans (hHeld.2.2.2.2.2))))))⟩ (fun hHeld => ?_); clear hK K; refine done_ (done_of HT_.out (by kernel_rfl)) ?_
     try go_wp2
     refine bodyPost_ret (results_cell_row rfl _ _ ac 90 #[.int .i64 bh, .int .i64 bi, .bool au] (0, 0) _ rfl (bp_ af) Tryd.underlying90 rfl (by kernel_rfl)) rfl ?_; exact ⟨lf_, sq_below3 HB.out aj.out ap.out aq.out⟩
    ·
     replace c26 := Bool.eq_false_iff.mpr c26; subst c26; have H1 := ifn_ H
     clear H; have H := H1; clear H1; simp only [Option.some.injEq, Prod.mk.injEq] at H; obtain ⟨rfl, rfl, rfl⟩ := H
     try go_wp2
     replace ae := bd_ ae; replace ag := bd_ ag; replace af := bd_ af; replace HB := hd_ HB; refine start_ (n := 13) (S := fun w' => w'.cell? ⟨aw, 0, none⟩ = some (.int .i64 ak) ∧ w'.cell? ⟨aw, 1, none⟩ = some (.int .i64 al) ∧ w'.cell? ⟨aw, 2, none⟩ = some (.bool false) ∧ w'.cell? ⟨ax, 0, none⟩ = some (.int .i64 am) ∧ w'.cell? ⟨ax, 1, none⟩ = some (.int .i64 ao) ∧ w'.cell? ⟨ax, 2, none⟩ = some (.bool au)) (ds := []) #[false, false, false, false, false, false, false, false, false, false, false, false, false] (by kernel_rfl) rfl rfl ⟨cl_ ae 0, cl_ ae 1, cl_ ae 2, cl_ ag 0, cl_ ag 1, cl_ ag 2⟩ (fun hHeld => ?_); refine with_tabW spec_ValJoin.tab3 spec_ValJoin.bits3 (fun HT_ HW_ => ?_); generalize wc.drew = cL at ae ag af HB hHeld ⊢; refine py_ HT_ 0 14 ?_
     refine py_ HT_ 2 16 ?_
     refine py_ HT_ 5 19 ?_
     refine ty_ HT_ HW_ 1 15 rfl hHeld (by rintro w' ⟨s0, s1, s2, s3, s4, s5⟩; go_simp; with_reducible rfl) ?_
     refine ty_ HT_ HW_ 3 17 rfl hHeld (by rintro w' ⟨s0, s1, s2, s3, s4, s5⟩; go_simp; with_reducible rfl) ?_
     refine ty_ HT_ HW_ 6 20 rfl hHeld (by rintro w' ⟨s0, s1, s2, s3, s4, s5⟩; go_simp; with_reducible rfl) ?_
     refine oy_ HT_ 4 (some 18) (fun K hK => ?_); refine gs_ Tryd.func91 #[.agg #[.int .i64 ak, .int .i64 al], .agg #[.int .i64 am, .int .i64 ao]] (h := ?_); with_reducible refine (spec_RangeJoin.calls cz ak al am ao bh bi _ A25.out).mono ?_
     rintro e ca ⟨rfl, hb⟩; refine ⟨_, rfl, ?_⟩; replace ae := bb_ ae hb; replace ag := bb_ ag hb; replace af := bb_ af hb; replace HB := hb3_ HB hb aj ap aq
     (try clear hb)
     (try clear hb2)
     (try clear hk)
     (try clear hi)
     refine hK.out _ _ ⟨cl_ ae 0, cl_ ae 1, cl_ ae 2, cl_ ag 0, cl_ ag 1, cl_ ag 2⟩ (fun hHeld => ?_); clear hK K; refine norm_y 18 (h := ?_)
     refine py_ HT_ 7 21 ?_
     refine pn_ HT_ 8 22 ?_
     refine pn_ HT_ 9 23 ?_
     refine py_ HT_ 10 24 ?_
     refine py_ HT_ 11 25 ?_
     refine oy_ HT_ 12 none (fun K hK => ?_); have cD : ca.cell? ⟨ac, 0, none⟩ = some (.int .i64 0) := (blk_cell af.out 0).trans rfl; have ck := blk_frozen af.out 0; have bS := aa.out; have bT := ab.out; have bG := ah.out; have bH := ai.out; have cE : ca.cell? ⟨ac, 1, none⟩ = some (.int .i64 0) := (blk_cell af.out 1).trans rfl; have cl := blk_frozen af.out 1; have bU := aa.out; have bV := ab.out; have bI := ah.out; have bJ := ai.out; have cF : ca.cell? ⟨ac, 2, none⟩ = some (.bool false) := (blk_cell af.out 2).trans rfl; have cm := blk_frozen af.out 2; have bW := aa.out; have bX := ab.out; have bK := ah.out; have bL := ai.out; refine skip_ (w1 := ?_) (by rfl) rfl ?_ ?_; rotate_left
     ·
      go_simp; rfl
     refine hK.out _ _ ⟨((cell_far (p := ⟨ac, _, none⟩) aa.out _).trans (((cell_far (p := ⟨ac, _, none⟩) aa.out _).trans (((cell_far (p := ⟨ac, _, none⟩) aa.out _).trans (hHeld.1)))))), ((cell_far (p := ⟨ac, _, none⟩) aa.out _).trans (((cell_far (p := ⟨ac, _, none⟩) aa.out _).trans (((cell_far (p := ⟨ac, _, none⟩) aa.out _).trans (hHeld.2.1)))))), ((cell_far (p := ⟨ac, _, none⟩) aa.out _).trans (((cell_far (p := ⟨ac, _, none⟩) aa.out _).trans (((cell_far (p := ⟨ac, _, none⟩) aa.out _).trans (hHeld.2.2.1)))))), ((cell_far (p := ⟨ac, _, none⟩) ab.out _).trans (((cell_far (p := ⟨ac, _, none⟩) ab.out _).trans (((cell_far (p := ⟨ac, _, none⟩) ab.out _).trans (hHeld.2.2.2.1)))))), ((cell_far (p := ⟨ac, _, none⟩) ab.out _).trans (((cell_far (p := ⟨ac, _, none⟩) ab.out _).trans (((cell_far (p := ⟨ac, _, none⟩) ab.out _).trans (hHeld.2.2.2.2.1)))))), ((cell_far (p := ⟨ac, _, none⟩) ab.out _).trans (((cell_far (p := ⟨ac, _, none⟩) ab.out _).trans (((cell_far (p := ⟨ac, _, none⟩) ab.out _).trans (hHeld.2.2.2.2.2))))))⟩ (fun hHeld => ?_); clear hK K; refine done_ (done_of HT_.out (by kernel_rfl)) ?_
     try go_wp2
     refine bodyPost_ret (results_cell_row rfl _ _ ac 90 #[.int .i64 bh, .int .i64 bi, .bool false] (0, 0) _ rfl (bp_ af) Tryd.underlying90 rfl (by kernel_rfl)) rfl ?_; exact ⟨lf_, sq_below3 HB.out aj.out ap.out aq.out⟩

end Go.Proofs.YtdmdalapckcobaaDoor.Q
