/- Functions of the translation as Lean functions, each with a proof that a call answers so; out of the seat, by this claim's own program prt.py. -/
import Derived.Test.YtdmdalapckcobaaDoorWTab
import Derived.Test.YtdmdalapckcobaaDoorWRepsOne
import Derived.Test.YtdmdalapckcobaaDoorQx0
import Derived.Test.YtdmdalapckcobaaDoorQx4
import Derived.Test.YtdmdalapckcobaaDoorQx5
import Derived.Test.YtdmdalapckcobaaDoorQStep3
namespace Go.Proofs.YtdmdalapckcobaaDoor.Q
open Go.RowKit Go.Proofs.YtdmdalapckcobaaDoorW.PrintWords Go.Proofs.YtdmdalapckcobaaDoorW.PrintLast Go.Proofs.YtdmdalapckcobaaDoorW.PrintMore
attribute [local go_sem] max2_int min2_int max_two min_two max_three min_three max_four min_four   -- for this text's walks alone
set_option linter.unusedVariables false
set_option maxHeartbeats 8000000
set_option maxRecDepth 100000
set_option linter.unusedSimpArgs false

/-! ### spec_l10In: function 64 -/
def spec_l10In.l0 : Nat → Int → List (List (S54)) → List (S90) → List Bool → Int → Int → Option (Int)
 | 0, _, _, _, _, _, _ => none
 | k + 1, x5, aw, aV, aW, aG, aH => if x5 < (aw.length : Int) then (if 0 ≤ x5 then ((spec_l10Find.f k (rd_L7 aw x5) aG aH).bind fun aD => (if aD ≥ 0 then (some x5) else (spec_l10In.l0 k (wrap64 (x5 + 1)) aw aV aW aG aH))) else (none)) else (some (-1))
def spec_l10In.f (k : Nat) (ae : List (List (S54))) (am : List (S90)) (ao : List Bool) (ai : Int) (aj : Int) : Option (Int) := spec_l10In.l0 k 0 ae am ao ai aj
theorem spec_l10In.mono_l : ∀ k, (∀ y0 y1 y2 y3 y4 y5, LeO (spec_l10In.l0 k y0 y1 y2 y3 y4 y5) (spec_l10In.l0 (k + 1) y0 y1 y2 y3 y4 y5))
 | 0 => fun _ _ _ _ _ _ r h => by simp [spec_l10In.l0] at h
 | k + 1 => by
  have ih0 := spec_l10In.mono_l k
  ·
   intro y0 y1 y2 y3 y4 y5; unfold spec_l10In.l0
   repeat' first
   | (with_reducible exact ih0 _ _ _ _ _ _) | (with_reducible exact spec_l10Find.mono _ _ _ _) | (with_reducible exact LeO.refl _) | (with_reducible exact LeO.none _) | (with_reducible refine LeO.ite ?_ ?_) | (with_reducible refine LeO.bind ?_ fun _ => ?_) | exact ih0 _ _ _ _ _ _ | exact spec_l10Find.mono _ _ _ _ | exact LeO.none _ | refine LeO.ite ?_ ?_ | refine LeO.bind ?_ fun _ => ?_
theorem spec_l10In.mono : ∀ a0 a1 a2 a3 a4 k, LeO (spec_l10In.f k a0 a1 a2 a3 a4) (spec_l10In.f (k + 1) a0 a1 a2 a3 a4) := by
 intro a0 a1 a2 a3 a4 k; have ih0 := spec_l10In.mono_l k; unfold spec_l10In.f
 repeat' first
   | (with_reducible exact ih0 _ _ _ _ _ _) | (with_reducible exact spec_l10Find.mono _ _ _ _) | (with_reducible exact LeO.refl _) | (with_reducible exact LeO.none _) | (with_reducible refine LeO.ite ?_ ?_) | (with_reducible refine LeO.bind ?_ fun _ => ?_) | exact ih0 _ _ _ _ _ _ | exact spec_l10Find.mono _ _ _ _ | exact LeO.none _ | refine LeO.ite ?_ ?_ | refine LeO.bind ?_ fun _ => ?_
def spec_l10In.T4 : Bool × List (List Nat × List Nat) := (true, [([], []), ([0], [0]), ([], []), ([1, 2], [1, 2]), ([3], [3]), ([], []), ([4, 5], [4, 5]), ([6], [6])])
def spec_l10In.B4 : List Nat := [0, 1, 0, 7, 15, 0, 63, 127]
theorem spec_l10In.tab4 : rtab .any (opsOf Tryd.f64 4) = spec_l10In.T4 := by kernel_rfl
theorem spec_l10In.bits4 : waitsOk spec_l10In.T4.2 spec_l10In.B4 = true := by kernel_rfl
theorem spec_l10In.calls (k : Nat) (aU : Option Addr) (aK : Nat) (ae : List (List (S54))) (aI : Option Addr) (aM : Nat) (am : List (S90)) (aJ : Option Addr) (aN : Nat) (ao : List Bool) (ai : Int) (aj : Int) (r : Int) (w : World) (bc : Kd.C (Kd.slice 54 k54) w aU ae.length ae) (aY : ae.length ≤ aK) (bd : Kd.C k90 w aI am.length am) (aZ : am.length ≤ aM) (bf : Kd.C Kd.bool w aJ ao.length ao) (ba : ao.length ≤ aN) (h : spec_l10In.f k ae am ao ai aj = some r) :
  Calls Tryd.prog 64 #[.agg #[.slice aU ae.length aK, .slice aI am.length aM, .slice aJ ao.length aN], .agg #[.int .i64 ai, .int .i64 aj]] w fun e w' => e = .returned (.int .i64 r) ∧ Below w.heap.size w w' := by
 have hu33 := Tryd.underlying33; have hu54 := Tryd.underlying54; have aX := am_ bc; have bG := am_ aY; clear bc aY; have bJ := am_ bd; have bH := am_ aZ; clear bd aZ; have bK := am_ bf; have bI := am_ ba; clear bf ba; have HB := am_ (Below.refl w.heap.size w); have H : (spec_l10In.l0 k 0 ae am ao ai aj) = some r := h; clear h; have H' := am_ H; clear H
 go_enter Tryd.func64, Tryd.ntmps64
 go_wp2_with (first | ((with_reducible refine gate_dst (N := 2) rfl ?_); refine box_y 2 #[.slice aU ae.length aK, .slice aI am.length aM, .slice aJ ao.length aN] 33 (h := ?_); intro ar hg w3 hbox hb; have aa := am_ hbox; have bE := gz_ hg HB; have ag := gz_ hg HB; replace HB := hb_ HB hb; clear hb hbox hg) | ((with_reducible refine gate_dst (N := 3) rfl ?_); refine box_y 3 #[.int .i64 ai, .int .i64 aj] 54 (h := ?_); intro az hg w4 hbox hb; have ab := am_ hbox; have bF := gz1_ hg HB ag; have ax := gz1_ hg HB ag; replace HB := hb1_ HB hb ag; have al := nb_ hg aa; replace aa := bb_ aa hb; have au := ns_ al; clear hb hbox hg))
 go_loopg [5] k (fun kq v5 w' => ∃ (af : Int), v5 = .int .i64 af ∧ Aside0 (spec_l10In.l0 kq af ae am ao ai aj = some r) ∧ Aside0 (kq ≤ k) ∧ Aside0 (w'.heap[ar]? = some (.cells #[(.slice aU ae.length aK), (.slice aI am.length aM), (.slice aJ ao.length aN)] 33 (0, 0))) ∧ Aside0 (w'.heap[az]? = some (.cells #[.int .i64 ai, .int .i64 aj] 54 (0, 0))) ∧ Aside0 (Below w.heap.size w w'))
 case atStart => exact ⟨(0), sr_, H', ⟨Nat.le_refl _⟩, bk_ aa, bk_ ab, ⟨sq_below2 HB.out ag.out ax.out⟩⟩
 case round =>
  clear H'
  obtain ⟨af, rfl, HA, HK1, aa, ab, HB⟩ := hrel; cases gk with
  | zero => exact absurd HA.out (by simp [spec_l10In.l0])
  | succ k1 =>
   have H := HA.out; clear HA; simp only [spec_l10In.l0] at H
   by_cases c5 : af < (ae.length : Int)
   ·
    rw [if_pos c5] at H; have bC := decide_eq_true (p := af < (ae.length : Int)) c5; clear c5
    by_cases c6 : 0 ≤ af
    ·
     rw [if_pos c6] at H; have bN := decide_eq_true (p := 0 ≤ af) c6; clear c6; obtain ⟨aD, A7, H⟩ := be_ H; (try dsimp only at H)
     by_cases c8 : aD ≥ 0
     ·
      rw [if_pos c8] at H; have bD := decide_eq_true (p := 0 ≤ aD) c8; clear c8; obtain rfl := Option.some.inj H; have bO := al.out; have bP := au.out; obtain ⟨bi, bj, bk, br, bt, bu⟩ := cz3_ aa
      try go_wp2
      replace aa := bd_ aa; replace ab := bd_ ab; replace HB := hd_ HB; have aA : 0 ≤ (af : Int) := sq_dec; have aC : af < (ae.length : Int) := sq_dec; obtain ⟨ay, ap, aq, bh, ac, hl119_0, hi119_0⟩ := at_L7 aX.out af aA aC; have ak := ac; cases bh; replace ac := cb_ HB ac; have ah := am_ hi119_0; have av := am_ hl119_0; clear hi119_0 hl119_0; replace aA := eq_true aA; replace aC := eq_true aC; refine start_ (n := 8) (S := fun w' => w'.cell? ⟨ar, 0, none⟩ = some (.slice (some ay) ae.length aK) ∧ w'.cell? ⟨ar, 1, none⟩ = some (.slice aI am.length aM) ∧ w'.cell? ⟨ar, 2, none⟩ = some (.slice aJ ao.length aN) ∧ w'.cell? ⟨az, 0, none⟩ = some (.int .i64 ai) ∧ w'.cell? ⟨az, 1, none⟩ = some (.int .i64 aj) ∧ w'.cell? (ay.add (af).toNat) = some (.slice ap (rd_L7 ae af).length aq)) (ds := []) #[false, false, false, false, false, false, false, false] (by kernel_rfl) rfl rfl ⟨cl_ aa 0, cl_ aa 1, cl_ aa 2, cl_ ab 0, cl_ ab 1, (cb_ HB ak)⟩ (fun hHeld => ?_); refine with_tabW spec_l10In.tab4 spec_l10In.bits4 (fun HT_ HW_ => ?_); generalize wr.drew = bQ at aa ab HB ah ac hHeld ⊢; refine py_ HT_ 0 13 ?_
      refine py_ HT_ 2 15 ?_
      refine ty_ HT_ HW_ 1 14 rfl hHeld (by rintro w' ⟨s0, s1, s2, s3, s4, s5⟩; go_simp; with_reducible rfl) ?_
      refine py_ HT_ 3 16 ?_
      refine ty_ HT_ HW_ 4 17 rfl hHeld (by rintro w' ⟨s0, s1, s2, s3, s4, s5⟩; go_simp; with_reducible rfl) ?_
      refine ty_ HT_ HW_ 5 18 rfl hHeld (by rintro w' ⟨s0, s1, s2, s3, s4, s5⟩; go_simp; with_reducible rfl) ?_
      refine oy_ HT_ 6 (some 19) (fun K hK => ?_); refine gs_ Tryd.func85 #[.slice ap (rd_L7 ae af).length aq, .agg #[.int .i64 ai, .int .i64 aj]] (h := ?_); with_reducible refine (spec_l10Find.calls k1 _ _ (rd_L7 ae af) ai aj aD _ ?aQ ?aT A7.out).mono ?_
      (case aQ => exact sq_c (Kd.C_below ah.out HB.out))
      (case aT => exact av.out)
      rintro e bR ⟨rfl, hb⟩; refine ⟨_, rfl, ?_⟩; replace aa := bb_ aa hb; replace ab := bb_ ab hb; replace HB := hb2_ HB hb ag ax
      (try clear hb)
      (try clear hb2)
      (try clear hk)
      (try clear hi)
      refine hK.out _ _ ⟨cl_ aa 0, cl_ aa 1, cl_ aa 2, cl_ ab 0, cl_ ab 1, (cb_ HB ak)⟩ (fun hHeld => ?_); clear hK K; refine norm_y 19 (h := ?_)
      refine py_ HT_ 7 20 ?_
      refine done_ (done_of HT_.out (by kernel_rfl)) ?_
      try go_wp2
      go_ret
      exact ⟨lf_, sq_below2 HB.out ag.out ax.out⟩
     ·
      rw [if_neg c8] at H; have bD := decide_eq_false (p := 0 ≤ aD) c8; clear c8; have H' := am_ H; clear H; have bL := al.out; have bM := au.out; obtain ⟨bl, bm, bn, bv, bw, bx⟩ := cz3_ aa
      try go_wp2
      replace aa := bd_ aa; replace ab := bd_ ab; replace HB := hd_ HB; have aA : 0 ≤ (af : Int) := sq_dec; have aC : af < (ae.length : Int) := sq_dec; obtain ⟨ay, ap, aq, bh, ac, hl119_0, hi119_0⟩ := at_L7 aX.out af aA aC; have ak := ac; cases bh; replace ac := cb_ HB ac; have ah := am_ hi119_0; have av := am_ hl119_0; clear hi119_0 hl119_0; replace aA := eq_true aA; replace aC := eq_true aC; refine start_ (n := 8) (S := fun w' => w'.cell? ⟨ar, 0, none⟩ = some (.slice (some ay) ae.length aK) ∧ w'.cell? ⟨ar, 1, none⟩ = some (.slice aI am.length aM) ∧ w'.cell? ⟨ar, 2, none⟩ = some (.slice aJ ao.length aN) ∧ w'.cell? ⟨az, 0, none⟩ = some (.int .i64 ai) ∧ w'.cell? ⟨az, 1, none⟩ = some (.int .i64 aj) ∧ w'.cell? (ay.add (af).toNat) = some (.slice ap (rd_L7 ae af).length aq)) (ds := []) #[false, false, false, false, false, false, false, false] (by kernel_rfl) rfl rfl ⟨cl_ aa 0, cl_ aa 1, cl_ aa 2, cl_ ab 0, cl_ ab 1, (cb_ HB ak)⟩ (fun hHeld => ?_); refine with_tabW spec_l10In.tab4 spec_l10In.bits4 (fun HT_ HW_ => ?_); generalize wr.drew = bS at aa ab HB ah ac hHeld ⊢; refine py_ HT_ 0 13 ?_
      refine py_ HT_ 2 15 ?_
      refine ty_ HT_ HW_ 1 14 rfl hHeld (by rintro w' ⟨s0, s1, s2, s3, s4, s5⟩; go_simp; with_reducible rfl) ?_
      refine py_ HT_ 3 16 ?_
      refine ty_ HT_ HW_ 4 17 rfl hHeld (by rintro w' ⟨s0, s1, s2, s3, s4, s5⟩; go_simp; with_reducible rfl) ?_
      refine ty_ HT_ HW_ 5 18 rfl hHeld (by rintro w' ⟨s0, s1, s2, s3, s4, s5⟩; go_simp; with_reducible rfl) ?_
      refine oy_ HT_ 6 (some 19) (fun K hK => ?_); refine gs_ Tryd.func85 #[.slice ap (rd_L7 ae af).length aq, .agg #[.int .i64 ai, .int .i64 aj]] (h := ?_); with_reducible refine (spec_l10Find.calls k1 _ _ (rd_L7 ae af) ai aj aD _ ?aQ ?aT A7.out).mono ?_
      (case aQ => exact sq_c (Kd.C_below ah.out HB.out))
      (case aT => exact av.out)
      rintro e bT ⟨rfl, hb⟩; refine ⟨_, rfl, ?_⟩; replace aa := bb_ aa hb; replace ab := bb_ ab hb; replace HB := hb2_ HB hb ag ax
      (try clear hb)
      (try clear hb2)
      (try clear hk)
      (try clear hi)
      refine hK.out _ _ ⟨cl_ aa 0, cl_ aa 1, cl_ aa 2, cl_ ab 0, cl_ ab 1, (cb_ HB ak)⟩ (fun hHeld => ?_); clear hK K; refine norm_y 19 (h := ?_)
      refine py_ HT_ 7 20 ?_
      refine done_ (done_of HT_.out (by kernel_rfl)) ?_
      try go_wp2
      go_roundg k1
      case measure => have := HK1.out; omega
      case rel => exact ⟨(wrap64 (af + 1)), sr_, H', ⟨by have := HK1.out; omega⟩, bk_ aa, bk_ ab, ⟨sq_below2 HB.out ag.out ax.out⟩⟩
    ·
     rw [if_neg c6] at H; exact absurd H (by simp)
   ·
    rw [if_neg c5] at H; have bC := decide_eq_false (p := af < (ae.length : Int)) c5; clear c5; obtain rfl := Option.some.inj H; obtain ⟨bo, bp, bq, bz, bA, bB⟩ := cz3_ aa
    go_wp2
    go_ret
    exact ⟨lf_, sq_below1 HB.out ag.out⟩

/-! ### spec_l05Val: function 100 -/
def spec_l05Val.f (a0 : Int) : Option (Bool) := (spec_l01Between.f a0 (-1000000) 1000000).bind fun aa => (some aa)
theorem spec_l05Val.calls (a0 : Int) (r : Bool) (w : World) (h : spec_l05Val.f a0 = some r) :
  Calls Tryd.prog 100 #[.int .i64 a0] w fun e w' => e = .returned (.bool r) ∧ Drawn0 w w' := by
 have H : ((spec_l01Between.f a0 (-1000000) 1000000).bind fun aa => (some aa)) = some r := h; clear h; replace H := Option.bind_eq_some_iff.mp H; obtain ⟨aa, A20, H⟩ := H; replace H : (some aa) = some r := H; have A2 := am_ A20; clear A20; obtain rfl := Option.some.inj H
 go_enter Tryd.func100, Tryd.ntmps100
 go_wp2_with (first | ((with_reducible refine gate_callee (f := 103) rfl ?_); refine gl_ 4 Tryd.func103 #[.int .i64 a0, .int .i64 (-1000000), .int .i64 1000000] (h := ?_); (with_reducible refine (spec_l01Between.calls a0 (-1000000) 1000000 aa _ A2.out).mono ?_); rintro e w' ⟨rfl, ⟨nd, rfl⟩⟩; refine ⟨_, rfl, ?_⟩))
 go_ret
 exact ⟨by first | rfl | (simp; done) | (simp [*]; done), by repeat (first | exact Drawn0.refl _ | apply Drawn0.step)⟩

/-! ### spec_l06Is: function 117 -/
def spec_l06Is.f (aa : Int) (ab : Int) : Option (Bool) := some (decide (aa ≤ ab))
theorem spec_l06Is.calls (aa : Int) (ab : Int) (r : Bool) (w : World) (h : spec_l06Is.f aa ab = some r) :
  Calls Tryd.prog 117 #[.agg #[.int .i64 aa, .int .i64 ab]] w fun e w' => e = .returned (.bool r) ∧ Below w.heap.size w w' := by
 have hu88 := Tryd.underlying88; have HB := am_ (Below.refl w.heap.size w); have H : (some (decide (aa ≤ ab))) = some r := h; clear h; obtain rfl := Option.some.inj H
 go_enter Tryd.func117, Tryd.ntmps117
 go_wp2_with (first | ((with_reducible refine gate_dst (N := 1) rfl ?_); refine box_y 1 #[.int .i64 aa, .int .i64 ab] 88 (h := ?_); intro ak hg w2 hbox hb; have ac := am_ hbox; have aj := gz_ hg HB; have ae := gz_ hg HB; replace HB := hb_ HB hb; clear hb hbox hg; obtain ⟨af, ag, ah, ai⟩ := cz2_ ac))
 go_ret
 exact ⟨lf_, sq_below1 HB.out ae.out⟩

end Go.Proofs.YtdmdalapckcobaaDoor.Q
