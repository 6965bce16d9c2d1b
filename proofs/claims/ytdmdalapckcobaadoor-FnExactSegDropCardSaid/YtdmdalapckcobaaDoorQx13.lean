/- Functions of the translation as Lean functions, each with a proof that a call answers so; out of the seat, by this claim's own program prt.py. -/
import Derived.Test.YtdmdalapckcobaaDoorWTab
import Derived.Test.YtdmdalapckcobaaDoorWRepsOne
import Derived.Test.YtdmdalapckcobaaDoorQx0
import Derived.Test.YtdmdalapckcobaaDoorQx9
import Derived.Test.YtdmdalapckcobaaDoorQx12
import Derived.Test.YtdmdalapckcobaaDoorQStep3
namespace Go.Proofs.YtdmdalapckcobaaDoor.Q
open Go.RowKit Go.Proofs.YtdmdalapckcobaaDoorW.PrintWords Go.Proofs.YtdmdalapckcobaaDoorW.PrintLast Go.Proofs.YtdmdalapckcobaaDoorW.PrintMore
attribute [local go_sem] max2_int min2_int max_two min_two max_three min_three max_four min_four   -- for this text's walks alone
set_option linter.unusedVariables false
set_option maxHeartbeats 8000000
set_option maxRecDepth 100000
set_option linter.unusedSimpArgs false

/-! ### spec_l10Drop: function 28 -/
def spec_l10Drop.l0 : Nat → Int → List (S54) → Int → List (List (S54)) → List (S90) → List Bool → List (List (S54)) → List (S90) → List Bool → Option ((List (List (S54))) × (List (S90)) × List Bool)
 | 0, _, _, _, _, _, _, _, _, _ => none
 | k + 1, x0, x2, x8, aI, bA, bB, aJ, aU, aV => if x8 < (aI.length : Int) then (if 0 ≤ x8 then ((spec_l10Without.f k (rd_L7 aI x8) x0 x2).bind fun aM => (if aJ.length < 5864062014805 then (spec_l10Drop.l0 k x0 x2 (wrap64 (x8 + 1)) aI bA bB (aJ ++ [aM]) aU aV) else (none))) else (none)) else ((spec_l10Tidy.f k aJ aU aV).bind fun ba => (some (ba.1, ba.2.1, ba.2.2)))
def spec_l10Drop.f (k : Nat) (a0 : Int) (am : List (List (S54))) (aj : List (S90)) (ak : List Bool) (l2 : List (S54)) : Option ((List (List (S54))) × (List (S90)) × List Bool) := spec_l10Drop.l0 k a0 l2 0 am aj ak ([] : List (List (S54))) aj ak
theorem spec_l10Drop.mono_l : ∀ k, (∀ y0 y1 y2 y3 y4 y5 y6 y7 y8, LeO (spec_l10Drop.l0 k y0 y1 y2 y3 y4 y5 y6 y7 y8) (spec_l10Drop.l0 (k + 1) y0 y1 y2 y3 y4 y5 y6 y7 y8))
 | 0 => fun _ _ _ _ _ _ _ _ _ r h => by simp [spec_l10Drop.l0] at h
 | k + 1 => by
  have ih0 := spec_l10Drop.mono_l k
  ·
   intro y0 y1 y2 y3 y4 y5 y6 y7 y8; unfold spec_l10Drop.l0
   repeat' first
   | (with_reducible exact ih0 _ _ _ _ _ _ _ _ _) | (with_reducible exact spec_l10Tidy.mono _ _ _ _) | (with_reducible exact spec_l10Without.mono _ _ _ _) | (with_reducible exact LeO.refl _) | (with_reducible exact LeO.none _) | (with_reducible refine LeO.ite ?_ ?_) | (with_reducible refine LeO.bind ?_ fun _ => ?_) | exact ih0 _ _ _ _ _ _ _ _ _ | exact spec_l10Tidy.mono _ _ _ _ | exact spec_l10Without.mono _ _ _ _ | exact LeO.none _ | refine LeO.ite ?_ ?_ | refine LeO.bind ?_ fun _ => ?_
theorem spec_l10Drop.mono : ∀ a0 a1 a2 a3 a4 k, LeO (spec_l10Drop.f k a0 a1 a2 a3 a4) (spec_l10Drop.f (k + 1) a0 a1 a2 a3 a4) := by
 intro a0 a1 a2 a3 a4 k; have ih0 := spec_l10Drop.mono_l k; unfold spec_l10Drop.f
 repeat' first
   | (with_reducible exact ih0 _ _ _ _ _ _ _ _ _) | (with_reducible exact spec_l10Tidy.mono _ _ _ _) | (with_reducible exact spec_l10Without.mono _ _ _ _) | (with_reducible exact LeO.refl _) | (with_reducible exact LeO.none _) | (with_reducible refine LeO.ite ?_ ?_) | (with_reducible refine LeO.bind ?_ fun _ => ?_) | exact ih0 _ _ _ _ _ _ _ _ _ | exact spec_l10Tidy.mono _ _ _ _ | exact spec_l10Without.mono _ _ _ _ | exact LeO.none _ | refine LeO.ite ?_ ?_ | refine LeO.bind ?_ fun _ => ?_
def spec_l10Drop.T5 : Bool × List (List Nat × List Nat) := (true, [([], []), ([0], [0]), ([], []), ([2], [2]), ([], []), ([3, 4], [3, 4]), ([5], [5]), ([], []), ([], []), ([6, 7, 8], [6, 7, 8]), ([9], [9]), ([1, 10, 9], [1, 10]), ([0, 1, 2, 3, 4, 5, 6, 7, 8, 9, 10, 11], []), ([12, 11, 11, 0, 1, 2, 3, 4, 5, 6, 7, 8, 9, 10, 11], [11, 12])])
def spec_l10Drop.B5 : List Nat := [0, 1, 0, 4, 0, 28, 60, 0, 0, 508, 1020, 2047, 4095, 8191]
theorem spec_l10Drop.tab5 : rtab .any (opsOf Tryd.f28 5) = spec_l10Drop.T5 := by kernel_rfl
theorem spec_l10Drop.bits5 : waitsOk spec_l10Drop.T5.2 spec_l10Drop.B5 = true := by kernel_rfl
theorem spec_l10Drop.calls (k : Nat) (a0 : Int) (bk : Option Addr) (bc : Nat) (am : List (List (S54))) (az : Option Addr) (aA : Nat) (aj : List (S90)) (aG : Option Addr) (aH : Nat) (ak : List Bool) (A2 : Option Addr) (c2 : Nat) (l2 : List (S54)) (r1 : List (List (S54))) (r2 : List (S90)) (r3 : List Bool) (w : World) (bL : Kd.C (Kd.slice 54 k54) w bk am.length am) (bI : am.length ≤ bc) (bM : Kd.C k90 w az aj.length aj) (bJ : aj.length ≤ aA) (bN : Kd.C Kd.bool w aG ak.length ak) (bK : ak.length ≤ aH) (hr2 : Kd.C k54 w A2 l2.length l2) (hc2 : l2.length ≤ c2) (h : spec_l10Drop.f k a0 am aj ak l2 = some (r1, r2, r3)) :
  Calls Tryd.prog 28 #[.int .i64 a0, .agg #[.slice bk am.length bc, .slice az aj.length aA, .slice aG ak.length aH], .slice A2 l2.length c2] w fun e w' => ∃ v0_ v1_ v2_ : Value, e = .returned (.agg #[v0_, v1_, v2_]) ∧ Kd.S (Kd.slice 54 k54) 36 w' w.heap.size (fun _ => True) v0_ r1 ∧ Kd.R k90 90 w' w.heap.size (fun _ => True) v1_ r2 ∧ Kd.R Kd.bool 4 w' w.heap.size (fun _ => True) v2_ r3 ∧ Below w.heap.size w w' := by
 have hu33 := Tryd.underlying33; have ca := am_ bL; have dd := am_ bI; clear bL bI; have cb := am_ bM; have bY := am_ bJ; clear bM bJ; have cd := am_ bN; have bZ := am_ bK; clear bN bK; have dv := am_ hr2; have du := am_ hc2; clear hr2 hc2; have HB := am_ (Below.refl w.heap.size w); have H : (spec_l10Drop.l0 k a0 l2 0 am aj ak ([] : List (List (S54))) aj ak) = some (r1, r2, r3) := h; clear h; have H' := am_ H; clear H
 go_enter Tryd.func28, Tryd.ntmps28
 go_wp2_with (first | ((with_reducible refine gate_dst (N := 4) rfl ?_); refine box_y 4 #[.slice bk am.length bc, .slice az aj.length aA, .slice aG ak.length aH] 33 (h := ?_); intro aT hg w4 hbox hb; have ab := am_ hbox; have da := gz_ hg HB; have ao := gz_ hg HB; replace HB := hb_ HB hb; clear hb hbox hg) | ((with_reducible refine gate_dst (N := 6) rfl ?_); refine box_y 6 #[.slice none 0 0, .slice none 0 0, .slice none 0 0] 33 (h := ?_); intro ap hg w5 hbox hb; have ae := am_ hbox; have db := gz1_ hg HB ao; have al := gz1_ hg HB ao; replace HB := hb1_ HB hb ao; have ar := nb_ hg ab; replace ab := bb_ ab hb; have aw := ns_ ar; clear hb hbox hg; have dw := ar.out; have dy := aw.out; obtain ⟨bO, bP, bQ, bR, bS, bT⟩ := cz3_ ab) | ((with_reducible refine gate_dst (N := 7) rfl ?_); refine box_y 7 #[.slice none 0 0, .slice none 0 0, .slice none 0 0] 33 (h := ?_); intro aD hg w8 hbox hb; have ac := am_ hbox; have dc := gz2_ hg HB ao al; have aC := gz2_ hg HB ao al; replace HB := hb2_ HB hb ao al; have ag := nb_ hg ab; replace ab := bb_ ab hb; have au := ns_ ag; have ai := nb_ hg ae; replace ae := bb_ ae hb; have ax := ns_ ai; clear hb hbox hg; have dx := au.out; have dz := ag.out; have dg := ax.out; have dm := ai.out; obtain ⟨bt, bu, bv, bw, bx, bz⟩ := cz3_ ac))
 go_loopg [8] k (fun kq v8 w' => ∃ (aq : Int) (af : List (List (S54))) (ah : Value), v8 = .int .i64 aq ∧ Aside0 (spec_l10Drop.l0 kq a0 l2 aq am aj ak af aj ak = some (r1, r2, r3)) ∧ Aside0 (kq ≤ k) ∧ Aside0 (Kd.S (Kd.slice 54 k54) 36 w' w.heap.size (fun _ => True) ah af) ∧ Aside0 (w'.heap[aT]? = some (.cells #[(.slice bk am.length bc), (.slice az aj.length aA), (.slice aG ak.length aH)] 33 (0, 0))) ∧ Aside0 (w'.heap[ap]? = some (.cells #[(.slice none 0 0), (.slice none 0 0), (.slice none 0 0)] 33 (0, 0))) ∧ Aside0 (w'.heap[aD]? = some (.cells #[ah, (.slice az aj.length aA), (.slice aG ak.length aH)] 33 (0, 0))) ∧ Aside0 (Below w.heap.size w w'))
 case atStart => exact ⟨(0), (([] : List (List (S54)))), (.slice none 0 0), sr_, H', ⟨Nat.le_refl _⟩, ⟨by first | exact Kd.S_nil _ _ _ _ _ | exact Kd.N_nil _ _ _ _ _ | exact Kd.V_nil _ _ _ _ _ | exact Kd.Q_nil _ _ _ _ _ | exact Kd.R_nil _ _ _ _ _⟩, bf_ ab ag, bf_ ae ai, ⟨by (with_reducible repeat (first | refine blk_drewN ?_ _ | refine blk_drew ?_ | refine blk_alloc ?_ _)); refine blk_put (cs := #[.slice none 0 0, .slice az aj.length aA, .slice none 0 0]) ?_ 2 _ rfl; (with_reducible repeat (first | refine blk_drewN ?_ _ | refine blk_drew ?_ | refine blk_alloc ?_ _)); refine blk_put (cs := #[.slice none 0 0, .slice none 0 0, .slice none 0 0]) ?_ 1 _ rfl; (with_reducible repeat (first | refine blk_drewN ?_ _ | refine blk_drew ?_ | refine blk_alloc ?_ _)); refine blk_put (cs := #[.slice none 0 0, .slice none 0 0, .slice none 0 0]) ?_ 0 _ rfl; (with_reducible repeat (first | refine blk_drewN ?_ _ | refine blk_drew ?_ | refine blk_alloc ?_ _)); exact ac.out⟩, ⟨sq_below3 HB.out ao.out al.out aC.out⟩⟩
 case round =>
  clear H'
  obtain ⟨aq, af, ah, rfl, HA, HK1, aa, ab, ae, ac, HB⟩ := hrel; cases gk with
  | zero => exact absurd HA.out (by simp [spec_l10Drop.l0])
  | succ k1 =>
   have H := HA.out; clear HA; simp only [spec_l10Drop.l0] at H
   by_cases c12 : aq < (am.length : Int)
   ·
    rw [if_pos c12] at H; have ch := decide_eq_true (p := aq < (am.length : Int)) c12; clear c12
    by_cases c13 : 0 ≤ aq
    ·
     rw [if_pos c13] at H; have de := decide_eq_true (p := 0 ≤ aq) c13; clear c13; obtain ⟨aM, A14, H⟩ := be_ H; (try dsimp only at H)
     by_cases c15 : af.length < 5864062014805
     ·
      rw [if_pos c15] at H; have ce := am_ c15; clear c15; obtain ⟨bC, aK⟩ : ∃ y_ : List (List (S54)), y_ = (af ++ [aM]) := ⟨_, rfl⟩; replace H : (spec_l10Drop.l0 k1 a0 l2 (wrap64 (aq + 1)) am aj ak bC aj ak) = some (r1, r2, r3) := by first | (rw [aK]; with_reducible exact H) | (have H2_ := (Option.bind_some _ _).symm.trans H; rw [aK]; with_reducible exact H2_) | (have H2_ := (Option.bind_some _ _).symm.trans H; with_reducible exact H2_) | with_reducible exact H | (rw [aK]; exact H) | exact H
      have cf := am_ aK; clear aK; have H' := am_ H; clear H; have dh := ar.out; have dn := aw.out; have di := ag.out; have dp := au.out; obtain ⟨cp, cq, cr, cD, cE, cF⟩ := cz3_ ab
      try go_wp2
      replace aa := am_ (Kd.S_drew aa.out); replace ab := bd_ ab; replace ae := bd_ ae; replace ac := bd_ ac; replace HB := hd_ HB; have bU : 0 ≤ (aq : Int) := sq_dec; have bV : aq < (am.length : Int) := sq_dec; obtain ⟨bH, aZ, bd, cV, ay, hl247_0, hi247_0⟩ := at_L7 ca.out aq bU bV; have av := ay; cases cV; replace ay := cb_ HB ay; have aQ := am_ hi247_0; have bo := am_ hl247_0; clear hi247_0 hl247_0; replace bU := eq_true bU; replace bV := eq_true bV; refine start_ (n := 14) (S := fun w' => w'.cell? ⟨aD, 0, none⟩ = some (ah) ∧ w'.cell? ⟨aD, 1, none⟩ = some (.slice az aj.length aA) ∧ w'.cell? ⟨aD, 2, none⟩ = some (.slice aG ak.length aH) ∧ w'.cell? ⟨aT, 0, none⟩ = some (.slice (some bH) am.length bc) ∧ w'.cell? ⟨aT, 1, none⟩ = some (.slice az aj.length aA) ∧ w'.cell? ⟨aT, 2, none⟩ = some (.slice aG ak.length aH) ∧ w'.cell? (bH.add (aq).toNat) = some (.slice aZ (rd_L7 am aq).length bd)) (ds := [13]) #[false, false, false, false, false, false, false, false, false, false, false, false, false, false] (by kernel_rfl) rfl rfl ⟨cl_ ac 0, cl_ ac 1, cl_ ac 2, cl_ ab 0, cl_ ab 1, cl_ ab 2, (cb_ HB av)⟩ (fun hHeld => ?_); refine with_tabW spec_l10Drop.tab5 spec_l10Drop.bits5 (fun HT_ HW_ => ?_); generalize wr.drew = dC at aa ab ae ac HB aQ ay hHeld ⊢; refine py_ HT_ 0 21 ?_
      refine py_ HT_ 2 23 ?_
      refine py_ HT_ 4 25 ?_
      refine py_ HT_ 7 28 ?_
      refine py_ HT_ 8 29 ?_
      refine ty_ HT_ HW_ 1 22 rfl hHeld (by rintro w' ⟨s0, s1, s2, s3, s4, s5, s6⟩; go_simp; with_reducible rfl) ?_
      refine ty_ HT_ HW_ 3 24 rfl hHeld (by rintro w' ⟨s0, s1, s2, s3, s4, s5, s6⟩; go_simp; with_reducible rfl) ?_
      refine py_ HT_ 5 26 ?_
      refine ty_ HT_ HW_ 6 27 rfl hHeld (by rintro w' ⟨s0, s1, s2, s3, s4, s5, s6⟩; go_simp; with_reducible rfl) ?_
      refine oy_ HT_ 9 (some 30) (fun K hK => ?_); refine gs_ Tryd.func74 #[.slice aZ (rd_L7 am aq).length bd, .int .i64 a0, .slice A2 l2.length c2] (h := ?_); with_reducible refine (spec_l10Without.calls k1 _ _ (rd_L7 am aq) a0 _ _ l2 aM _ ?bf ?bh ?bi ?bj A14.out).mono ?_
      (case bf => exact sq_c (Kd.C_below aQ.out HB.out))
      (case bh => exact bo.out)
      (case bi => exact sq_c (Kd.C_below dv.out HB.out))
      (case bj => exact du.out)
      rintro e dD ⟨v249, rfl, ho0, hb⟩; refine ⟨_, rfl, ?_⟩; replace aa := am_ (Kd.S_elder' (by (with_reducible repeat (first | apply Kd.S_alloc | apply Kd.S_drewN | apply Kd.S_drew)); exact aa.out) (Kd.R_base ho0) hb); have aN := am_ (Kd.R_lower ho0 (below_size (sq_below3 HB.out ao.out al.out aC.out))); replace ab := bb_ ab hb; replace ae := bb_ ae hb; replace ac := bb_ ac hb; replace HB := hb3_ HB hb ao al aC
      (try clear hb)
      (try clear hb2)
      (try clear hk)
      (try clear hi)
      (try clear ho0)
      obtain ⟨bW, cj, cl⟩ := Kd.R_slice aN.out
      (first | subst cl | (injection cl with f1_ f2_ f3_; have f4_ := f1_.symm; have f5_ := f3_.symm; clear f1_ f2_ f3_; subst f4_; subst f5_))
      refine hK.out _ _ ⟨cl_ ac 0, cl_ ac 1, cl_ ac 2, cl_ ab 0, cl_ ab 1, cl_ ab 2, (cb_ HB av)⟩ (fun hHeld => ?_); clear hK K; refine norm_y 30 (h := ?_)
      refine oy_ HT_ 10 (some 31) (fun K hK => ?_); refine value_ (w1 := ?_) (v := ?_) (by rfl) rfl ?_ ?_; rotate_left 2
      ·
       go_simp
       constructor
       ·
        rfl
       ·
        rfl
      refine hK.out _ _ ⟨(blk_cell (blk_alloc ac.out _) 0).trans rfl, (blk_cell (blk_alloc ac.out _) 1).trans rfl, (blk_cell (blk_alloc ac.out _) 2).trans rfl, (blk_cell (blk_alloc ab.out _) 0).trans rfl, (blk_cell (blk_alloc ab.out _) 1).trans rfl, (blk_cell (blk_alloc ab.out _) 2).trans rfl, (World.cell?_alloc_lt _ _ _ (World.block_lt_of_cell? _ _ (cb_ HB av))).trans (cb_ HB av)⟩ (fun hHeld => ?_); clear hK K; refine norm_y 31 (h := ?_)
      refine oy_ HT_ 11 (some 32) (fun K hK => ?_); refine Kd.S_append_step (Kd.slice 54 k54) (w0 := w) w.heap.size (by rfl) (.tmp 22) (.tmp 31) 30 36 (.slice none 0 0) 24 rfl Tryd.underlying30 info36 rfl (by decide) (by omega) ah af aM [.slice bW aM.length cj] (fun _ => True) (fun k_ => some k_ = (.slice bW aM.length cj : Value).ownBlock) rfl rfl ?aP (fun k_ hk_ => ((Kd.R_mono (ok' := fun k_ => ((fun _ => True)) k_ ∧ some k_ ≠ (ah : Value).ownBlock) (Kd.R_apart' (aN.out) (Kd.S_typed aa.out) (by decide)) (fun k_ hk => ⟨trivial, hk.2⟩))).1 k_ hk_.symm) ?aF ?aO ?aB ?aS ?aL ?_
      (case aP => exact Kd.M_row (Kd.R_mono (Kd.R_tight rfl (Kd.R_mono (ok' := fun k_ => ((fun _ => True)) k_ ∧ some k_ ≠ (ah : Value).ownBlock) (Kd.R_apart' (aN.out) (Kd.S_typed aa.out) (by decide)) (fun k_ hk => ⟨trivial, hk.2⟩))) (fun _ h_ => h_)))
      (case aB => exact (sq_below3 HB.out ao.out al.out aC.out))
      (case aF => exact (fun _ _ => trivial))
      (case aO => exact (by (with_reducible repeat (first | apply Kd.S_alloc | apply Kd.S_drewN | apply Kd.S_drew)); exact Kd.S_mono aa.out (fun k_ hk => ⟨trivial, fun e_ => hk.2 e_⟩)))
      (case aS => exact (below_size (sq_below3 HB.out ao.out al.out aC.out)))
      (case aL => have := ce.out; omega)
      intro v252 dB ho hb hg hat; rw [← cf.out] at ho; replace ab := bgS_ ab aa hg; replace ae := bgS_ ae aa hg; replace ac := bgS_ ac aa hg; replace HB := am_ hb; have bD := am_ ho; clear aa aN; clear ho hb hg hat; obtain ⟨bX, ck, cm⟩ := Kd.S_slice bD.out
      (first | subst cm | (injection cm with f1_ f2_ f3_; have f4_ := f1_.symm; have f5_ := f3_.symm; clear f1_ f2_ f3_; subst f4_; subst f5_))
      refine hK.out _ _ ⟨cl_ ac 0, cl_ ac 1, cl_ ac 2, cl_ ab 0, cl_ ab 1, cl_ ab 2, (cb_ HB av)⟩ (fun hHeld => ?_); clear hK K; refine norm_y 32 (h := ?_)
      refine py_ HT_ 12 33 ?_
      refine ly_ HT_ 13 none (fun K hK => ?_); have dA : dB.cell? ⟨aD, 0, none⟩ = some (ah) := (blk_cell ac.out 0).trans rfl; have df := blk_frozen ac.out 0; have cR := ag.out; have cS := ai.out; have cP := au.out; have cQ := ax.out; refine skip_ (w1 := ?_) (by rfl) rfl ?_ ?_; rotate_left
      ·
       go_simp; rfl
      refine hK.out _ _ ?_; clear hK K; refine done_ (done_of HT_.out (by kernel_rfl)) ?_
      try go_wp2
      go_roundg k1
      case measure => have := HK1.out; omega
      case rel => exact ⟨(wrap64 (aq + 1)), (bC), (.slice bX bC.length ck), sr_, H', ⟨by have := HK1.out; omega⟩, ⟨by (with_reducible repeat (first | apply Kd.S_alloc | apply Kd.S_drewN | apply Kd.S_drew)); exact Kd.S_mono (Kd.S_far (p := ⟨aD, 0, none⟩) (Kd.S_types bD.out ac.out (by decide)) (fun _ hk => hk.2) (.slice bX bC.length ck)) (fun _ hk => trivial)⟩, bf_ ab ag, bf_ ae ai, ⟨by (with_reducible repeat (first | refine blk_drewN ?_ _ | refine blk_drew ?_ | refine blk_alloc ?_ _)); refine blk_put (cs := #[ah, .slice az aj.length aA, .slice aG ak.length aH]) ?_ 0 _ rfl; (with_reducible repeat (first | refine blk_drewN ?_ _ | refine blk_drew ?_ | refine blk_alloc ?_ _)); exact ac.out⟩, ⟨sq_below3 HB.out ao.out al.out aC.out⟩⟩
     ·
      rw [if_neg c15] at H; exact absurd H (by simp)
    ·
     rw [if_neg c13] at H; exact absurd H (by simp)
   ·
    rw [if_neg c12] at H; have ch := decide_eq_false (p := aq < (am.length : Int)) c12; clear c12; replace H := Option.bind_eq_some_iff.mp H; obtain ⟨⟨aW, aX, aY⟩, A250, H⟩ := H; replace H : (some (aW, aX, aY)) = some (r1, r2, r3) := H; have A25 := am_ A250; clear A250; simp only [Option.some.injEq, Prod.mk.injEq] at H; obtain ⟨rfl, rfl, rfl⟩ := H; have dj := ar.out; have dq := aw.out; have dk := ag.out; have dr := au.out; obtain ⟨cu, cv, cw, cG, cH, cI⟩ := cz3_ ab; have dl := ax.out; have dt := ai.out; obtain ⟨cx, cy, cz, cJ, cK, cL⟩ := cz3_ ac; obtain ⟨cT, cU, cW⟩ := Kd.S_slice aa.out; subst cW
    go_wp2_with (first | ((with_reducible refine gate_callee (f := 75) rfl ?_); refine gl_ 35 Tryd.func75 #[.agg #[.slice cT af.length cU, .slice az aj.length aA, .slice aG ak.length aH]] (h := ?_); (with_reducible refine (spec_l10Tidy.calls k1 _ _ af _ _ aj _ _ ak aW aX aY _ ?bf ?bh ?bi ?bj ?cn ?co A25.out).mono ?_); (case bf => exact sq_c ((Kd.S_reads' aa.out).2.2)); (case bh => exact (Kd.S_reads' aa.out).2.1); (case bi => exact sq_c (Kd.C_below cb.out HB.out)); (case bj => exact bY.out); (case cn => exact sq_c (Kd.C_below cd.out HB.out)); (case co => exact bZ.out); rintro e dE ⟨v255, v258, v261, rfl, ho0, ho1, ho2, hb⟩; refine ⟨_, rfl, ?_⟩; have bE := am_ (Kd.S_lower (Kd.S_new' ho0 (Kd.S_lt (by (with_reducible repeat (first | apply Kd.S_alloc | apply Kd.S_drewN | apply Kd.S_drew)); exact aa.out))) (below_size (sq_below1 HB.out al.out))); replace aa := am_ (Kd.S_elder' (by (with_reducible repeat (first | apply Kd.S_alloc | apply Kd.S_drewN | apply Kd.S_drew)); exact aa.out) (Kd.S_base ho0) hb); have bF := am_ (Kd.R_lower ho1 (below_size (sq_below1 HB.out al.out))); have bG := am_ (Kd.R_lower ho2 (below_size (sq_below1 HB.out al.out))); replace ae := bb_ ae hb; replace HB := hb1_ HB hb al; (try clear hb); (try clear ho0); (try clear ho1); (try clear ho2); obtain ⟨bl, bp, cX⟩ := Kd.S_slice bE.out; subst cX; obtain ⟨cA, cB, cC, cM, cN, cO⟩ := cz3_ ae; obtain ⟨bm, bq, cY⟩ := Kd.R_slice bF.out; subst cY; obtain ⟨bn, br, cZ⟩ := Kd.R_slice bG.out; subst cZ))
    refine bodyPost_ret (results_cell_row rfl _ _ ap 33 #[.slice bl aW.length bp, .slice bm aX.length bq, .slice bn aY.length br] (0, 0) _ rfl (bp_ ae) Tryd.underlying33 rfl (by kernel_rfl)) rfl ?_; exact ⟨_, _, _, by first | rfl | (simp [errW_none, errW_some] <;> rfl) | (simp [*, errW_none, errW_some] <;> rfl), by (with_reducible repeat (first | apply Kd.S_alloc | apply Kd.S_drewN | apply Kd.S_drew)); exact Kd.S_mono (Kd.S_far (p := ⟨ap, 2, none⟩) (Kd.S_far (p := ⟨ap, 1, none⟩) (Kd.S_far (p := ⟨ap, 0, none⟩) (Kd.S_types bE.out ae.out (by decide)) (fun _ hk => hk.2) (.slice bl aW.length bp)) (fun _ hk => hk.2) (.slice bm aX.length bq)) (fun _ hk => hk.2) (.slice bn aY.length br)) (fun _ hk => trivial), by (with_reducible repeat (first | apply Kd.R_alloc | apply Kd.R_drewN | apply Kd.R_drew)); exact Kd.R_mono (Kd.R_far (p := ⟨ap, 2, none⟩) (Kd.R_far (p := ⟨ap, 1, none⟩) (Kd.R_far (p := ⟨ap, 0, none⟩) (Kd.R_types bF.out ae.out (by decide)) (fun _ hk => hk.2) (.slice bl aW.length bp)) (fun _ hk => hk.2) (.slice bm aX.length bq)) (fun _ hk => hk.2) (.slice bn aY.length br)) (fun _ hk => trivial), by (with_reducible repeat (first | apply Kd.R_alloc | apply Kd.R_drewN | apply Kd.R_drew)); exact Kd.R_mono (Kd.R_far (p := ⟨ap, 2, none⟩) (Kd.R_far (p := ⟨ap, 1, none⟩) (Kd.R_far (p := ⟨ap, 0, none⟩) (Kd.R_types bG.out ae.out (by decide)) (fun _ hk => hk.2) (.slice bl aW.length bp)) (fun _ hk => hk.2) (.slice bm aX.length bq)) (fun _ hk => hk.2) (.slice bn aY.length br)) (fun _ hk => trivial), sq_below1 HB.out al.out⟩

end Go.Proofs.YtdmdalapckcobaaDoor.Q
