/- Functions of the translation as Lean functions, each with a proof that a call answers so; out of the seat, by this claim's own program prt.py. -/
import Derived.Test.YtdmdalapckcobaaDoorWRepsOne
import Derived.Test.YtdmdalapckcobaaDoorQx0
import Derived.Test.YtdmdalapckcobaaDoorQx1
import Derived.Test.YtdmdalapckcobaaDoorQx4
import Derived.Test.YtdmdalapckcobaaDoorQStep3
namespace Go.Proofs.YtdmdalapckcobaaDoor.Q
open Go.RowKit Go.Proofs.YtdmdalapckcobaaDoorW.PrintWords Go.Proofs.YtdmdalapckcobaaDoorW.PrintLast Go.Proofs.YtdmdalapckcobaaDoorW.PrintMore
attribute [local go_sem] max2_int min2_int max_two min_two max_three min_three max_four min_four   -- for this text's walks alone
set_option linter.unusedVariables false
set_option maxHeartbeats 8000000
set_option maxRecDepth 100000
set_option linter.unusedSimpArgs false

attribute [local go_sem high] eqA54
/-! ### spec_SymOk: function 62 -/
def spec_SymOk.f (a0 : Int) (aa : Int) (ab : Int) : Option (Bool) := (spec_l01Between.f a0 1 13).bind fun af => (if af = true then ((spec_l01Between.f aa 0 (wrap64 (a0 - 1))).bind fun ag => (if ag = true then ((spec_l01Between.f ab (-1000) 1000).bind fun ae => (some ae)) else (some false))) else (some false))
theorem spec_SymOk.calls (a0 : Int) (aa : Int) (ab : Int) (r : Bool) (w : World) (h : spec_SymOk.f a0 aa ab = some r) :
  Calls Tryd.prog 62 #[.int .i64 a0, .agg #[.int .i64 aa, .int .i64 ab]] w fun e w' => e = .returned (.bool r) ∧ Below w.heap.size w w' := by
 have hu54 := Tryd.underlying54; have HB := am_ (Below.refl w.heap.size w); have H : ((spec_l01Between.f a0 1 13).bind fun af => (if af = true then ((spec_l01Between.f aa 0 (wrap64 (a0 - 1))).bind fun ag => (if ag = true then ((spec_l01Between.f ab (-1000) 1000).bind fun ae => (some ae)) else (some false))) else (some false))) = some r := h; clear h; obtain ⟨af, A3, H⟩ := be_ H; (try dsimp only at H)
 by_cases c4 : af = true
 ·
  subst c4; have H1 := ifp_ H
  clear H; have H := H1; clear H1; obtain ⟨ag, A5, H⟩ := be_ H; (try dsimp only at H)
  by_cases c6 : ag = true
  ·
   subst c6; have H1 := ifp_ H
   clear H; have H := H1; clear H1; replace H := Option.bind_eq_some_iff.mp H; obtain ⟨ae, A70, H⟩ := H; replace H : (some ae) = some r := H; have A7 := am_ A70; clear A70; obtain rfl := Option.some.inj H
   go_enter Tryd.func62, Tryd.ntmps62
   go_wp2_with (first | ((with_reducible refine gate_dst (N := 3) rfl ?_); refine box_y 3 #[.int .i64 aa, .int .i64 ab] 54 (h := ?_); intro aj hg w8 hbox hb; have ac := am_ hbox; have ai := gz_ hg HB; have ah := gz_ hg HB; replace HB := hb_ HB hb; clear hb hbox hg) | ((with_reducible refine gate_callee (f := 103) rfl ?_); refine gl_ 6 Tryd.func103 #[.int .i64 a0, .int .i64 1, .int .i64 13] (h := ?_); (with_reducible refine (spec_l01Between.calls a0 1 13 true _ A3.out).mono ?_); rintro e w' ⟨rfl, ⟨nd, rfl⟩⟩; refine ⟨_, rfl, ?_⟩; obtain ⟨ap, aq, ar, au⟩ := cz2_ ac) | (go_at_call 103; (with_reducible refine (spec_l01Between.calls aa 0 (wrap64 (a0 - 1)) true _ A5.out).mono ?_); rintro e w' ⟨rfl, ⟨nd, rfl⟩⟩) | (go_at_call 103; (with_reducible refine (spec_l01Between.calls ab (-1000) 1000 ae _ A7.out).mono ?_); rintro e w' ⟨rfl, ⟨nd, rfl⟩⟩))
   go_ret
   exact ⟨lf_, sq_below HB.out⟩
  ·
   replace c6 := Bool.eq_false_iff.mpr c6; subst c6; have H1 := ifn_ H
   clear H; have H := H1; clear H1; obtain rfl := Option.some.inj H
   go_enter Tryd.func62, Tryd.ntmps62
   go_wp2_with (first | ((with_reducible refine gate_dst (N := 3) rfl ?_); refine box_y 3 #[.int .i64 aa, .int .i64 ab] 54 (h := ?_); intro aj hg av hbox hb; have ac := am_ hbox; have ai := gz_ hg HB; have ah := gz_ hg HB; replace HB := hb_ HB hb; clear hb hbox hg) | ((with_reducible refine gate_callee (f := 103) rfl ?_); refine gl_ 6 Tryd.func103 #[.int .i64 a0, .int .i64 1, .int .i64 13] (h := ?_); (with_reducible refine (spec_l01Between.calls a0 1 13 true _ A3.out).mono ?_); rintro e w' ⟨rfl, ⟨nd, rfl⟩⟩; refine ⟨_, rfl, ?_⟩; obtain ⟨ak, al, am, ao⟩ := cz2_ ac) | (go_at_call 103; (with_reducible refine (spec_l01Between.calls aa 0 (wrap64 (a0 - 1)) false _ A5.out).mono ?_); rintro e w' ⟨rfl, ⟨nd, rfl⟩⟩))
   go_ret
   exact ⟨lf_, sq_below HB.out⟩
 ·
  replace c4 := Bool.eq_false_iff.mpr c4; subst c4; have H1 := ifn_ H
  clear H; have H := H1; clear H1; obtain rfl := Option.some.inj H
  go_enter Tryd.func62, Tryd.ntmps62
  go_wp2_with (first | ((with_reducible refine gate_dst (N := 3) rfl ?_); refine box_y 3 #[.int .i64 aa, .int .i64 ab] 54 (h := ?_); intro aj hg aw hbox hb; have ac := am_ hbox; have ai := gz_ hg HB; have ah := gz_ hg HB; replace HB := hb_ HB hb; clear hb hbox hg) | ((with_reducible refine gate_callee (f := 103) rfl ?_); refine gl_ 6 Tryd.func103 #[.int .i64 a0, .int .i64 1, .int .i64 13] (h := ?_); (with_reducible refine (spec_l01Between.calls a0 1 13 false _ A3.out).mono ?_); rintro e w' ⟨rfl, ⟨nd, rfl⟩⟩; refine ⟨_, rfl, ?_⟩))
  go_ret
  exact ⟨lf_, sq_below HB.out⟩

/-! ### spec_SymLess: function 63 -/
def spec_SymLess.f (ae : Int) (aj : Int) (af : Int) (ak : Int) : Option (Bool) := if ae < af then (some true) else (if ae = af then (some (decide (aj < ak))) else (some false))
theorem spec_SymLess.calls (ae : Int) (aj : Int) (af : Int) (ak : Int) (r : Bool) (w : World) (h : spec_SymLess.f ae aj af ak = some r) :
  Calls Tryd.prog 63 #[.agg #[.int .i64 ae, .int .i64 aj], .agg #[.int .i64 af, .int .i64 ak]] w fun e w' => e = .returned (.bool r) ∧ Below w.heap.size w w' := by
 have hu54 := Tryd.underlying54; have HB := am_ (Below.refl w.heap.size w); have H : (if ae < af then (some true) else (if ae = af then (some (decide (aj < ak))) else (some false))) = some r := h; clear h
 by_cases c3 : ae < af
 ·
  rw [if_pos c3] at H; have aM := decide_eq_true (p := ae < af) c3; clear c3; obtain rfl := Option.some.inj H
  go_enter Tryd.func63, Tryd.ntmps63
  go_wp2_with (first | ((with_reducible refine gate_dst (N := 2) rfl ?_); refine box_y 2 #[.int .i64 ae, .int .i64 aj] 54 (h := ?_); intro ao hg w4 hbox hb; have ab := am_ hbox; have al := gz_ hg HB; have ag := gz_ hg HB; replace HB := hb_ HB hb; clear hb hbox hg) | ((with_reducible refine gate_dst (N := 3) rfl ?_); refine box_y 3 #[.int .i64 af, .int .i64 ak] 54 (h := ?_); intro ap hg w5 hbox hb; have ah := am_ hbox; have am := gz1_ hg HB ag; have ai := gz1_ hg HB ag; replace HB := hb1_ HB hb ag; have aa := nb_ hg ab; replace ab := bb_ ab hb; have ac := ns_ aa; clear hb hbox hg; have bi := aa.out; have bj := ac.out; obtain ⟨aT, aU, aX, aY⟩ := cz2_ ab; obtain ⟨aV, aW, aZ, ba⟩ := cz2_ ah))
  go_ret
  exact ⟨lf_, sq_below1 HB.out ai.out⟩
 ·
  rw [if_neg c3] at H; have aM := decide_eq_false (p := ae < af) c3; clear c3
  by_cases c9 : ae = af
  ·
   rw [if_pos c9] at H; have aN : (ae == af) = true := beq_iff_eq.mpr c9; have aQ : (ae != af) = false := bne_eq_false_iff_eq.mpr c9; clear c9; obtain rfl := Option.some.inj H
   go_enter Tryd.func63, Tryd.ntmps63
   go_wp2_with (first | ((with_reducible refine gate_dst (N := 2) rfl ?_); refine box_y 2 #[.int .i64 ae, .int .i64 aj] 54 (h := ?_); intro ao hg bk hbox hb; have ab := am_ hbox; have al := gz_ hg HB; have ag := gz_ hg HB; replace HB := hb_ HB hb; clear hb hbox hg) | ((with_reducible refine gate_dst (N := 3) rfl ?_); refine box_y 3 #[.int .i64 af, .int .i64 ak] 54 (h := ?_); intro ap hg bl hbox hb; have ah := am_ hbox; have am := gz1_ hg HB ag; have ai := gz1_ hg HB ag; replace HB := hb1_ HB hb ag; have aa := nb_ hg ab; replace ab := bb_ ab hb; have ac := ns_ aa; clear hb hbox hg; have bc := aa.out; have bf := ac.out; obtain ⟨aq, ar, aA, aC⟩ := cz2_ ab; obtain ⟨au, av, aD, aG⟩ := cz2_ ah))
   go_ret
   exact ⟨lf_, sq_below1 HB.out ai.out⟩
  ·
   rw [if_neg c9] at H; have aN : (ae == af) = false := beq_eq_false_iff_ne.mpr c9; have aQ : (ae != af) = true := bne_iff_ne.mpr c9; obtain rfl := Option.some.inj H
   go_enter Tryd.func63, Tryd.ntmps63
   go_wp2_with (first | ((with_reducible refine gate_dst (N := 2) rfl ?_); refine box_y 2 #[.int .i64 ae, .int .i64 aj] 54 (h := ?_); intro ao hg bm hbox hb; have ab := am_ hbox; have al := gz_ hg HB; have ag := gz_ hg HB; replace HB := hb_ HB hb; clear hb hbox hg) | ((with_reducible refine gate_dst (N := 3) rfl ?_); refine box_y 3 #[.int .i64 af, .int .i64 ak] 54 (h := ?_); intro ap hg bn hbox hb; have ah := am_ hbox; have am := gz1_ hg HB ag; have ai := gz1_ hg HB ag; replace HB := hb1_ HB hb ag; have aa := nb_ hg ab; replace ab := bb_ ab hb; have ac := ns_ aa; clear hb hbox hg; have bd := aa.out; have bh := ac.out; obtain ⟨aw, ax, aH, aI⟩ := cz2_ ab; obtain ⟨ay, az, aJ, aK⟩ := cz2_ ah))
   go_ret
   exact ⟨lf_, sq_below1 HB.out ai.out⟩

/-! ### spec_l10Find: function 85 -/
def spec_l10Find.l0 : Nat → List (S54) → Int → Int → Int → Option (Int)
 | 0, _, _, _, _ => none
 | k + 1, x0, x5, ak, al => if x5 < (x0.length : Int) then (if 0 ≤ x5 then (if (((rd_T54 x0 x5).f0) == ak && (((rd_T54 x0 x5).f1) == al)) = true then (some x5) else (spec_l10Find.l0 k x0 (wrap64 (x5 + 1)) ak al)) else (none)) else (some (-1))
def spec_l10Find.f (k : Nat) (l0 : List (S54)) (ab : Int) (ac : Int) : Option (Int) := spec_l10Find.l0 k l0 0 ab ac
theorem spec_l10Find.mono_l : ∀ k, (∀ y0 y1 y2 y3, LeO (spec_l10Find.l0 k y0 y1 y2 y3) (spec_l10Find.l0 (k + 1) y0 y1 y2 y3))
 | 0 => fun _ _ _ _ r h => by simp [spec_l10Find.l0] at h
 | k + 1 => by
  have ih0 := spec_l10Find.mono_l k
  ·
   intro y0 y1 y2 y3; unfold spec_l10Find.l0
   repeat' first
   | (with_reducible exact ih0 _ _ _ _) | (with_reducible exact LeO.refl _) | (with_reducible exact LeO.none _) | (with_reducible refine LeO.ite ?_ ?_) | (with_reducible refine LeO.bind ?_ fun _ => ?_) | exact ih0 _ _ _ _ | exact LeO.none _ | refine LeO.ite ?_ ?_ | refine LeO.bind ?_ fun _ => ?_
theorem spec_l10Find.mono : ∀ a0 a1 a2 k, LeO (spec_l10Find.f k a0 a1 a2) (spec_l10Find.f (k + 1) a0 a1 a2) := by
 intro a0 a1 a2 k; have ih0 := spec_l10Find.mono_l k; unfold spec_l10Find.f
 repeat' first
   | (with_reducible exact ih0 _ _ _ _) | (with_reducible exact LeO.refl _) | (with_reducible exact LeO.none _) | (with_reducible refine LeO.ite ?_ ?_) | (with_reducible refine LeO.bind ?_ fun _ => ?_) | exact ih0 _ _ _ _ | exact LeO.none _ | refine LeO.ite ?_ ?_ | refine LeO.bind ?_ fun _ => ?_
theorem spec_l10Find.calls (k : Nat) (A0 : Option Addr) (c0 : Nat) (l0 : List (S54)) (ab : Int) (ac : Int) (r : Int) (w : World) (hr0 : Kd.C k54 w A0 l0.length l0) (hc0 : l0.length ≤ c0) (h : spec_l10Find.f k l0 ab ac = some r) :
  Calls Tryd.prog 85 #[.slice A0 l0.length c0, .agg #[.int .i64 ab, .int .i64 ac]] w fun e w' => e = .returned (.int .i64 r) ∧ Below w.heap.size w w' := by
 have hu54 := Tryd.underlying54; have aI := am_ hr0; have aM := am_ hc0; clear hr0 hc0; have HB := am_ (Below.refl w.heap.size w); have H : (spec_l10Find.l0 k l0 0 ab ac) = some r := h; clear h; have H' := am_ H; clear H
 go_enter Tryd.func85, Tryd.ntmps85
 go_wp2_with (first | ((with_reducible refine gate_dst (N := 3) rfl ?_); refine box_y 3 #[.int .i64 ab, .int .i64 ac] 54 (h := ?_); intro am hg w3 hbox hb; have ag := am_ hbox; have ao := gz_ hg HB; have ah := gz_ hg HB; replace HB := hb_ HB hb; clear hb hbox hg))
 repeat (go_quiet (first | ((with_reducible refine gate_dst (N := 3) rfl ?_); refine box_y 3 #[.int .i64 ab, .int .i64 ac] 54 (h := ?_); intro am hg w3 hbox hb; have ag := am_ hbox; have ao := gz_ hg HB; have ah := gz_ hg HB; replace HB := hb_ HB hb; clear hb hbox hg)); try go_wp2_with (first | ((with_reducible refine gate_dst (N := 3) rfl ?_); refine box_y 3 #[.int .i64 ab, .int .i64 ac] 54 (h := ?_); intro am hg w3 hbox hb; have ag := am_ hbox; have ao := gz_ hg HB; have ah := gz_ hg HB; replace HB := hb_ HB hb; clear hb hbox hg)))
 go_loopg [5] k (fun kq v5 w' => ∃ (aa : Int), v5 = .int .i64 aa ∧ Aside0 (spec_l10Find.l0 kq l0 aa ab ac = some r) ∧ Aside0 (kq ≤ k) ∧ Aside0 (w'.heap[am]? = some (.cells #[.int .i64 ab, .int .i64 ac] 54 (0, 0))) ∧ Aside0 (Below w.heap.size w w'))
 case atStart => exact ⟨(0), sr_, H', ⟨Nat.le_refl _⟩, bk_ ag, ⟨sq_below1 HB.out ah.out⟩⟩
 case round =>
  clear H'
  obtain ⟨aa, rfl, HA, HK1, ag, HB⟩ := hrel; cases gk with
  | zero => exact absurd HA.out (by simp [spec_l10Find.l0])
  | succ k1 =>
   have H := HA.out; clear HA; simp only [spec_l10Find.l0] at H
   by_cases c4 : aa < (l0.length : Int)
   ·
    rw [if_pos c4] at H; have ar := decide_eq_true (p := aa < (l0.length : Int)) c4; clear c4
    by_cases c5 : 0 ≤ aa
    ·
     rw [if_pos c5] at H; have aJ := decide_eq_true (p := 0 ≤ aa) c5; clear c5
     by_cases c6 : (((rd_T54 l0 aa).f0) == ab && (((rd_T54 l0 aa).f1) == ac)) = true
     ·
      rw [if_pos c6] at H; have au : (((rd_T54 l0 aa).f0) == ab && (((rd_T54 l0 aa).f1) == ac)) = true := c6
      (try (have av : decide (((rd_T54 l0 aa).f0) = ab && (((rd_T54 l0 aa).f1) == ac)) = true := by simpa using c6))
      (try (have aw : (((rd_T54 l0 aa).f0) == ab && (((rd_T54 l0 aa).f1) == ac)) = true := by simpa using c6))
      clear c6; obtain rfl := Option.some.inj H; have ai : 0 ≤ (aa : Int) := sq_dec; have aj : aa < (l0.length : Int) := sq_dec; obtain ⟨aq, ap, ae, af⟩ := at_T54 aI.out aa ai aj; cases ap; replace ae := cb_ HB ae; replace af := cb_ HB af; replace ai := eq_true ai; replace aj := eq_true aj; obtain ⟨ax, ay, aC, aD⟩ := cz2_ ag
      go_wp2
      repeat (go_quiet (fail); try go_wp2)
      go_ret
      exact ⟨lf_, sq_below1 HB.out ah.out⟩
     ·
      rw [if_neg c6] at H; have au : (((rd_T54 l0 aa).f0) == ab && (((rd_T54 l0 aa).f1) == ac)) = false := by simpa using c6
      (try (have av : decide (((rd_T54 l0 aa).f0) = ab && (((rd_T54 l0 aa).f1) == ac)) = false := by simpa using c6))
      (try (have aw : (((rd_T54 l0 aa).f0) == ab && (((rd_T54 l0 aa).f1) == ac)) = false := by simpa using c6))
      (try (have aK : ¬ (((rd_T54 l0 aa).f0) = ab && (((rd_T54 l0 aa).f1) == ac)) := by simpa using c6))
      clear c6; have H' := am_ H; clear H; have ai : 0 ≤ (aa : Int) := sq_dec; have aj : aa < (l0.length : Int) := sq_dec; obtain ⟨aq, ap, ae, af⟩ := at_T54 aI.out aa ai aj; cases ap; replace ae := cb_ HB ae; replace af := cb_ HB af; replace ai := eq_true ai; replace aj := eq_true aj; obtain ⟨az, aA, aG, aH⟩ := cz2_ ag
      go_wp2
      repeat (go_quiet (fail); try go_wp2)
      go_roundg k1
      case measure => have := HK1.out; omega
      case rel => exact ⟨(wrap64 (aa + 1)), sr_, H', ⟨by have := HK1.out; omega⟩, bk_ ag, ⟨sq_below1 HB.out ah.out⟩⟩
    ·
     rw [if_neg c5] at H; exact absurd H (by simp)
   ·
    rw [if_neg c4] at H; have ar := decide_eq_false (p := aa < (l0.length : Int)) c4; clear c4; obtain rfl := Option.some.inj H
    go_wp2
    repeat (go_quiet (fail); try go_wp2)
    go_ret
    exact ⟨lf_, sq_below1 HB.out ah.out⟩

end Go.Proofs.YtdmdalapckcobaaDoor.Q
