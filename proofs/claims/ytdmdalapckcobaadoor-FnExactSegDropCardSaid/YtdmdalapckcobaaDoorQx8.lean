/- Functions of the translation as Lean functions, each with a proof that a call answers so; out of the seat, by this claim's own program prt.py. -/
import Derived.Test.YtdmdalapckcobaaDoorWTab
import Derived.Test.YtdmdalapckcobaaDoorWRepsOne
import Derived.Test.YtdmdalapckcobaaDoorWGuard
import Derived.Test.YtdmdalapckcobaaDoorQx0
import Derived.Test.YtdmdalapckcobaaDoorQx4
import Derived.Test.YtdmdalapckcobaaDoorQx5
import Derived.Test.YtdmdalapckcobaaDoorQx6
import Derived.Test.YtdmdalapckcobaaDoorQx7
import Derived.Test.YtdmdalapckcobaaDoorQStep3
namespace Go.Proofs.YtdmdalapckcobaaDoor.Q
open Go.RowKit Go.Proofs.YtdmdalapckcobaaDoorW.PrintWords Go.Proofs.YtdmdalapckcobaaDoorW.PrintLast Go.Proofs.YtdmdalapckcobaaDoorW.PrintMore
attribute [local go_sem] max2_int min2_int max_two min_two max_three min_three max_four min_four   -- for this text's walks alone
set_option linter.unusedVariables false
set_option maxHeartbeats 8000000
set_option maxRecDepth 100000
set_option linter.unusedSimpArgs false

/-! ### spec_SegOk: function 23 -/
mutual
def spec_SegOk.j0 : Nat → Int → Int → Int → Bool → List (List (S54)) → List (S90) → List Bool → Option (Bool)
 | 0, _, _, _, _, _, _, _ => none
 | k + 1, x0, x1, x7, x43, al, am, au => if x43 = true then (some false) else (spec_SegOk.l0 k x0 x1 x7 0 0 al am au)
def spec_SegOk.l0 : Nat → Int → Int → Int → Int → Int → List (List (S54)) → List (S90) → List Bool → Option (Bool)
 | 0, _, _, _, _, _, _, _, _ => none
 | k + 1, x0, x1, x7, x8, x9, al, am, au => if x9 < x7 then (if 0 ≤ x9 then (if x9 < (al.length : Int) then (if ((rd_L7 al x9).length : Int) = 0 then (spec_SegOk.j2 k x0 x1 x7 (wrap64 (x8 + ((rd_L7 al x9).length : Int))) x9 (rd_L7 al x9) true al am au) else (spec_SegOk.j2 k x0 x1 x7 (wrap64 (x8 + ((rd_L7 al x9).length : Int))) x9 (rd_L7 al x9) (decide ((wrap64 (x8 + ((rd_L7 al x9).length : Int))) > 40)) al am au)) else (none)) else (none)) else (spec_SegOk.l2 k x1 x7 0 al am au)
def spec_SegOk.j2 : Nat → Int → Int → Int → Int → Int → List (S54) → Bool → List (List (S54)) → List (S90) → List Bool → Option (Bool)
 | 0, _, _, _, _, _, _, _, _, _, _ => none
 | k + 1, x0, x1, x7, x8, x9, x10, x64, al, am, au => if x64 = true then (some false) else (spec_SegOk.l1 k x0 x1 x7 x8 x9 x10 0 al am au)
def spec_SegOk.l1 : Nat → Int → Int → Int → Int → Int → List (S54) → Int → List (List (S54)) → List (S90) → List Bool → Option (Bool)
 | 0, _, _, _, _, _, _, _, _, _, _ => none
 | k + 1, x0, x1, x7, x8, x9, x10, x11, al, am, au => if x11 < (x10.length : Int) then (if 0 ≤ x11 then ((spec_SymOk.f x0 ((rd_T54 x10 x11).f0) ((rd_T54 x10 x11).f1)).bind fun dd => (if dd = true then (if x11 > 0 then (if 0 ≤ (wrap64 (x11 - 1)) then (if (wrap64 (x11 - 1)) < (x10.length : Int) then ((spec_SymLess.f ((rd_T54 x10 (wrap64 (x11 - 1))).f0) ((rd_T54 x10 (wrap64 (x11 - 1))).f1) ((rd_T54 x10 x11).f0) ((rd_T54 x10 x11).f1)).bind fun cM => (if cM = true then ((spec_l10In.f k al am au ((rd_T54 x10 x11).f0) ((rd_T54 x10 x11).f1)).bind fun bR => (if bR = x9 then (spec_SegOk.l1 k x0 x1 x7 x8 x9 x10 (wrap64 (x11 + 1)) al am au) else (some false))) else (some false))) else (none)) else (none)) else ((spec_l10In.f k al am au ((rd_T54 x10 x11).f0) ((rd_T54 x10 x11).f1)).bind fun bZ => (if bZ = x9 then (spec_SegOk.l1 k x0 x1 x7 x8 x9 x10 (wrap64 (x11 + 1)) al am au) else (some false)))) else (some false))) else (none)) else (spec_SegOk.l0 k x0 x1 x7 x8 (wrap64 (x9 + 1)) al am au)
def spec_SegOk.l2 : Nat → Int → Int → Int → List (List (S54)) → List (S90) → List Bool → Option (Bool)
 | 0, _, _, _, _, _, _ => none
 | k + 1, x1, x7, x12, al, am, au => if x12 < (wrap64 (x7 - 1)) then (if 0 ≤ x12 then (if x12 < (am.length : Int) then ((spec_ValOk.f ((rd_T90 am x12).f0.f0) ((rd_T90 am x12).f0.f1) ((rd_T90 am x12).f1)).bind fun de => (if de = true then (spec_SegOk.l2 k x1 x7 (wrap64 (x12 + 1)) al am au) else (some false))) else (none)) else (none)) else ((spec_l10In.f k al am au 0 0).bind fun ca => (if ca = 0 then ((spec_l10In.f k al am au x1 0).bind fun df => (some (df == (wrap64 (x7 - 1))))) else (some false)))
end
def spec_SegOk.f (k : Nat) (a0 : Int) (a1 : Int) (ab : List (List (S54))) (ai : List (S90)) (ao : List Bool) : Option (Bool) := (spec_l10Size.f a0 a1).bind fun cL => (if cL = true then (if (ab.length : Int) < 1 then (spec_SegOk.j0 k a0 a1 (ab.length : Int) true ab ai ao) else (if (ab.length : Int) > 16 then (spec_SegOk.j0 k a0 a1 (ab.length : Int) true ab ai ao) else (if (ai.length : Int) = (wrap64 ((ab.length : Int) - 1)) then (spec_SegOk.j0 k a0 a1 (ab.length : Int) ((ao.length : Int) != (wrap64 ((ab.length : Int) - 1))) ab ai ao) else (spec_SegOk.j0 k a0 a1 (ab.length : Int) true ab ai ao)))) else (spec_SegOk.j0 k a0 a1 (ab.length : Int) true ab ai ao))
theorem spec_SegOk.mono_l : ∀ k, (∀ y0 y1 y2 y3 y4 y5 y6, LeO (spec_SegOk.j0 k y0 y1 y2 y3 y4 y5 y6) (spec_SegOk.j0 (k + 1) y0 y1 y2 y3 y4 y5 y6)) ∧ (∀ y0 y1 y2 y3 y4 y5 y6 y7, LeO (spec_SegOk.l0 k y0 y1 y2 y3 y4 y5 y6 y7) (spec_SegOk.l0 (k + 1) y0 y1 y2 y3 y4 y5 y6 y7)) ∧ (∀ y0 y1 y2 y3 y4 y5 y6 y7 y8 y9, LeO (spec_SegOk.j2 k y0 y1 y2 y3 y4 y5 y6 y7 y8 y9) (spec_SegOk.j2 (k + 1) y0 y1 y2 y3 y4 y5 y6 y7 y8 y9)) ∧ (∀ y0 y1 y2 y3 y4 y5 y6 y7 y8 y9, LeO (spec_SegOk.l1 k y0 y1 y2 y3 y4 y5 y6 y7 y8 y9) (spec_SegOk.l1 (k + 1) y0 y1 y2 y3 y4 y5 y6 y7 y8 y9)) ∧ (∀ y0 y1 y2 y3 y4 y5, LeO (spec_SegOk.l2 k y0 y1 y2 y3 y4 y5) (spec_SegOk.l2 (k + 1) y0 y1 y2 y3 y4 y5))
 | 0 => ⟨fun _ _ _ _ _ _ _ r h => by simp [spec_SegOk.j0] at h, fun _ _ _ _ _ _ _ _ r h => by simp [spec_SegOk.l0] at h, fun _ _ _ _ _ _ _ _ _ _ r h => by simp [spec_SegOk.j2] at h, fun _ _ _ _ _ _ _ _ _ _ r h => by simp [spec_SegOk.l1] at h, fun _ _ _ _ _ _ r h => by simp [spec_SegOk.l2] at h⟩
 | k + 1 => by
  obtain ⟨ih0, ih1, ih2, ih3, ih4⟩ := spec_SegOk.mono_l k; refine ⟨?_, ?_, ?_, ?_, ?_⟩
  all_goals (intros; first | unfold spec_SegOk.j0 | unfold spec_SegOk.l0 | unfold spec_SegOk.j2 | unfold spec_SegOk.l1 | unfold spec_SegOk.l2)
  all_goals repeat' first
   | (with_reducible exact ih0 _ _ _ _ _ _ _) | (with_reducible exact ih1 _ _ _ _ _ _ _ _) | (with_reducible exact ih2 _ _ _ _ _ _ _ _ _ _) | (with_reducible exact ih3 _ _ _ _ _ _ _ _ _ _) | (with_reducible exact ih4 _ _ _ _ _ _) | (with_reducible exact spec_l10In.mono _ _ _ _ _ _) | (with_reducible exact LeO.refl _) | (with_reducible exact LeO.none _) | (with_reducible refine LeO.ite ?_ ?_) | (with_reducible refine LeO.bind ?_ fun _ => ?_) | exact ih0 _ _ _ _ _ _ _ | exact ih1 _ _ _ _ _ _ _ _ | exact ih2 _ _ _ _ _ _ _ _ _ _ | exact ih3 _ _ _ _ _ _ _ _ _ _ | exact ih4 _ _ _ _ _ _ | exact spec_l10In.mono _ _ _ _ _ _ | exact LeO.none _ | refine LeO.ite ?_ ?_ | refine LeO.bind ?_ fun _ => ?_
theorem spec_SegOk.mono : ∀ a0 a1 a2 a3 a4 k, LeO (spec_SegOk.f k a0 a1 a2 a3 a4) (spec_SegOk.f (k + 1) a0 a1 a2 a3 a4) := by
 intro a0 a1 a2 a3 a4 k; obtain ⟨ih0, ih1, ih2, ih3, ih4⟩ := spec_SegOk.mono_l k; unfold spec_SegOk.f
 repeat' first
   | (with_reducible exact ih0 _ _ _ _ _ _ _) | (with_reducible exact ih1 _ _ _ _ _ _ _ _) | (with_reducible exact ih2 _ _ _ _ _ _ _ _ _ _) | (with_reducible exact ih3 _ _ _ _ _ _ _ _ _ _) | (with_reducible exact ih4 _ _ _ _ _ _) | (with_reducible exact spec_l10In.mono _ _ _ _ _ _) | (with_reducible exact LeO.refl _) | (with_reducible exact LeO.none _) | (with_reducible refine LeO.ite ?_ ?_) | (with_reducible refine LeO.bind ?_ fun _ => ?_) | exact ih0 _ _ _ _ _ _ _ | exact ih1 _ _ _ _ _ _ _ _ | exact ih2 _ _ _ _ _ _ _ _ _ _ | exact ih3 _ _ _ _ _ _ _ _ _ _ | exact ih4 _ _ _ _ _ _ | exact spec_l10In.mono _ _ _ _ _ _ | exact LeO.none _ | refine LeO.ite ?_ ?_ | refine LeO.bind ?_ fun _ => ?_
def spec_SegOk.T15 : Bool × List (List Nat × List Nat) := (true, [([], []), ([], []), ([], []), ([1, 2], [1, 2]), ([3], [3]), ([0, 4], [0, 4]), ([5], [5]), ([6, 5], [6]), ([7], [7]), ([8, 7], [7, 8]), ([9, 7, 7], [7, 9]), ([10], [10]), ([10], [10]), ([12, 10], [10, 12]), ([11, 13, 10], [10, 11, 13]), ([14, 10], [10, 14]), ([10], [10]), ([10], [10]), ([16, 17, 10], [10, 16, 17]), ([18, 10], [10, 18]), ([15, 19, 10, 10], [10, 15, 19]), ([20, 10], [10, 20]), ([10, 21, 7], [7, 10, 21]), ([7, 22], [7, 22]), ([23, 20], [23]), ([24], [24]), ([24], [24]), ([24], [24]), ([26, 27, 24], [24, 26, 27]), ([28, 24], [24, 28]), ([25, 29, 24, 24], [24, 25, 29]), ([24], [24]), ([30, 31, 24], [24, 30, 31]), ([24, 32], [24, 32])])
def spec_SegOk.B15 : List Nat := [0, 0, 0, 6, 14, 31, 63, 127, 255, 511, 1023, 2047, 2047, 6143, 16383, 32767, 2047, 2047, 198655, 460799, 1048575, 2097151, 4194303, 8388607, 16777215, 33554431, 33554431, 33554431, 234881023, 503316479, 1073741823, 33554431, 4294967295, 8589934591]
theorem spec_SegOk.tab15 : rtab .any (opsOf Tryd.f23 15) = spec_SegOk.T15 := by kernel_rfl
theorem spec_SegOk.bits15 : waitsOk spec_SegOk.T15.2 spec_SegOk.B15 = true := by kernel_rfl
theorem spec_SegOk.calls (k : Nat) (a0 : Int) (a1 : Int) (cd : Option Addr) (bi : Nat) (ab : List (List (S54))) (bf : Option Addr) (bj : Nat) (ai : List (S90)) (bh : Option Addr) (bk : Nat) (ao : List Bool) (r : Bool) (w : World) (cW : Kd.C (Kd.slice 54 k54) w cd ab.length ab) (cT : ab.length ≤ bi) (cX : Kd.C k90 w bf ai.length ai) (cU : ai.length ≤ bj) (cY : Kd.C Kd.bool w bh ao.length ao) (cV : ao.length ≤ bk) (h : spec_SegOk.f k a0 a1 ab ai ao = some r) :
  Calls Tryd.prog 23 #[.int .i64 a0, .int .i64 a1, .agg #[.slice cd ab.length bi, .slice bf ai.length bj, .slice bh ao.length bk]] w fun e w' => e = .returned (.bool r) ∧ Below w.heap.size w w' := by
 have hu33 := Tryd.underlying33; have hu54 := Tryd.underlying54; have hu90 := Tryd.underlying90; have br := am_ cW; have bH := am_ cT; clear cW cT; have bm := am_ cX; have bI := am_ cU; clear cX cU; have bK := am_ cY; have bJ := am_ cV; clear cY cV; have HB := am_ (Below.refl w.heap.size w); have H : ((spec_l10Size.f a0 a1).bind fun cL => (if cL = true then (if (ab.length : Int) < 1 then (spec_SegOk.j0 k a0 a1 (ab.length : Int) true ab ai ao) else (if (ab.length : Int) > 16 then (spec_SegOk.j0 k a0 a1 (ab.length : Int) true ab ai ao) else (if (ai.length : Int) = (wrap64 ((ab.length : Int) - 1)) then (spec_SegOk.j0 k a0 a1 (ab.length : Int) ((ao.length : Int) != (wrap64 ((ab.length : Int) - 1))) ab ai ao) else (spec_SegOk.j0 k a0 a1 (ab.length : Int) true ab ai ao)))) else (spec_SegOk.j0 k a0 a1 (ab.length : Int) true ab ai ao))) = some r := h; clear h; have dW := am_ H; clear H
 go_enter Tryd.func23, Tryd.ntmps23
 go_upto_region 2 with (first | ((with_reducible refine gate_dst (N := 5) rfl ?_); (try (refine gate_guard (by rfl) ?_; dsimp only)); refine box_y 5 #[.slice cd ab.length bi, .slice bf ai.length bj, .slice bh ao.length bk] 33 (h := ?_); intro aJ hg w5 hbox hb; have ae := am_ hbox; have dZ := gz_ hg HB; have ap := gz_ hg HB; replace HB := hb_ HB hb; clear hb hbox hg; obtain ⟨bT, bU, bV, bW, bX, bY⟩ := cz3_ ae))
 (try simp only [Act.put, List.setIfInBounds_toArray, List.set_cons_zero, List.set_cons_succ])
 go_cut [43] (fun v43 wc => ∃ (kq : Nat) (cC : Bool), v43 = .bool cC ∧ Aside0 (spec_SegOk.j0 kq a0 a1 (ab.length : Int) cC ab ai ao = some r) ∧ Aside0 (kq ≤ k) ∧ Aside0 (wc.heap[aJ]? = some (.cells #[(.slice cd ab.length bi), (.slice bf ai.length bj), (.slice bh ao.length bk)] 33 (0, 0))) ∧ Aside0 (Below w.heap.size w wc))
 case first =>
  have H := dW.out; clear dW; obtain ⟨cL, A7, H⟩ := be_ H; (try dsimp only at H)
  by_cases c8 : cL = true
  ·
   subst c8; have H1 := ifp_ H
   clear H; have H := H1; clear H1
   by_cases c9 : (ab.length : Int) < 1
   ·
    rw [if_pos c9] at H; have bS := decide_eq_true (p := (ab.length : Int) < 1) c9; have cG : decide (ab.length < 1) = true := decide_eq_true (by omega); clear c9
    (first | rw [bS] | (simp only [i64_w, i32_w]; rw [bS]) | skip)
    have H' := am_ H; clear H
    go_wp2_with (first | ((with_reducible refine gate_callee (f := 61) rfl ?_); refine gl_ 18 Tryd.func61 #[.int .i64 a0, .int .i64 a1] (h := ?_); (with_reducible refine (spec_l10Size.calls a0 a1 true _ A7.out).mono ?_); rintro e w' ⟨rfl, ⟨nd, rfl⟩⟩; refine ⟨_, rfl, ?_⟩))
    go_meet
    case rel => exact ⟨_, (true), sr_, H', om_, bk_ ae, ⟨sq_below1 HB.out ap.out⟩⟩
   ·
    rw [if_neg c9] at H; have bS := decide_eq_false (p := (ab.length : Int) < 1) c9; have cG : decide (ab.length < 1) = false := decide_eq_false (by omega); clear c9
    (first | rw [bS] | (simp only [i64_w, i32_w]; rw [bS]) | skip)
    by_cases c10 : (ab.length : Int) > 16
    ·
     rw [if_pos c10] at H; have ch := decide_eq_true (p := 16 < (ab.length : Int)) c10; have cj : decide (16 < ab.length) = true := decide_eq_true (by omega); clear c10; have H' := am_ H; clear H
     go_wp2_with (first | ((with_reducible refine gate_callee (f := 61) rfl ?_); refine gl_ 18 Tryd.func61 #[.int .i64 a0, .int .i64 a1] (h := ?_); (with_reducible refine (spec_l10Size.calls a0 a1 true _ A7.out).mono ?_); rintro e w' ⟨rfl, ⟨nd, rfl⟩⟩; refine ⟨_, rfl, ?_⟩))
     go_meet
     case rel => exact ⟨_, (true), sr_, H', om_, bk_ ae, ⟨sq_below1 HB.out ap.out⟩⟩
    ·
     rw [if_neg c10] at H; have ch := decide_eq_false (p := 16 < (ab.length : Int)) c10; have cj : decide (16 < ab.length) = false := decide_eq_false (by omega); clear c10
     by_cases c11 : (ai.length : Int) = (wrap64 ((ab.length : Int) - 1))
     ·
      rw [if_pos c11] at H; have ck : ((ai.length : Int) == (wrap64 ((ab.length : Int) - 1))) = true := beq_iff_eq.mpr c11; have cl : ((ai.length : Int) != (wrap64 ((ab.length : Int) - 1))) = false := bne_eq_false_iff_eq.mpr c11; clear c11; have H' := am_ H; clear H
      go_wp2_with (first | ((with_reducible refine gate_callee (f := 61) rfl ?_); refine gl_ 18 Tryd.func61 #[.int .i64 a0, .int .i64 a1] (h := ?_); (with_reducible refine (spec_l10Size.calls a0 a1 true _ A7.out).mono ?_); rintro e w' ⟨rfl, ⟨nd, rfl⟩⟩; refine ⟨_, rfl, ?_⟩; obtain ⟨bt, bu, bv, bA, bB, bC⟩ := cz3_ ae))
      go_meet
      case rel => exact ⟨_, (((ao.length : Int) != (wrap64 ((ab.length : Int) - 1)))), sr_, H', om_, bk_ ae, ⟨sq_below1 HB.out ap.out⟩⟩
     ·
      rw [if_neg c11] at H; have ck : ((ai.length : Int) == (wrap64 ((ab.length : Int) - 1))) = false := beq_eq_false_iff_ne.mpr c11; have cl : ((ai.length : Int) != (wrap64 ((ab.length : Int) - 1))) = true := bne_iff_ne.mpr c11; have H' := am_ H; clear H
      go_wp2_with (first | ((with_reducible refine gate_callee (f := 61) rfl ?_); refine gl_ 18 Tryd.func61 #[.int .i64 a0, .int .i64 a1] (h := ?_); (with_reducible refine (spec_l10Size.calls a0 a1 true _ A7.out).mono ?_); rintro e w' ⟨rfl, ⟨nd, rfl⟩⟩; refine ⟨_, rfl, ?_⟩; obtain ⟨bw, bx, bz, bD, bE, bF⟩ := cz3_ ae))
      go_meet
      case rel => exact ⟨_, (true), sr_, H', om_, bk_ ae, ⟨sq_below1 HB.out ap.out⟩⟩
  ·
   replace c8 := Bool.eq_false_iff.mpr c8; subst c8; have H1 := ifn_ H
   clear H; have H := H1; clear H1; have H' := am_ H; clear H
   go_wp2_with (first | ((with_reducible refine gate_callee (f := 61) rfl ?_); refine gl_ 18 Tryd.func61 #[.int .i64 a0, .int .i64 a1] (h := ?_); (with_reducible refine (spec_l10Size.calls a0 a1 false _ A7.out).mono ?_); rintro e w' ⟨rfl, ⟨nd, rfl⟩⟩; refine ⟨_, rfl, ?_⟩))
   go_meet
   case rel => exact ⟨_, (true), sr_, H', om_, bk_ ae, ⟨sq_below1 HB.out ap.out⟩⟩
 case rest =>
  clear dW
  obtain ⟨kq, cC, rfl, HA, HJ3, ae, HB⟩ := hcut; cases kq with
  | zero => exact absurd HA.out (by simp [spec_SegOk.j0])
  | succ d8 =>
   have H := HA.out; clear HA; simp only [spec_SegOk.j0] at H
   by_cases c14 : cC = true
   ·
    subst c14; have H1 := ifp_ H
    clear H; have H := H1; clear H1; obtain rfl := Option.some.inj H
    go_wp2
    go_ret
    exact ⟨lf_, sq_below1 HB.out ap.out⟩
   ·
    replace c14 := Bool.eq_false_iff.mpr c14; subst c14; have H1 := ifn_ H
    clear H; have H := H1; clear H1; have H' := am_ H; clear H
    go_wp2
    go_loopg [8, 9] d8 (fun kq v8 v9 w' => ∃ (co : Int) (ac : Int), v8 = .int .i64 co ∧ v9 = .int .i64 ac ∧ Aside0 (spec_SegOk.l0 kq a0 a1 (ab.length : Int) co ac ab ai ao = some r) ∧ Aside0 (kq ≤ d8) ∧ Aside0 (w'.heap[aJ]? = some (.cells #[(.slice cd ab.length bi), (.slice bf ai.length bj), (.slice bh ao.length bk)] 33 (0, 0))) ∧ Aside0 (Below w.heap.size w w'))
    case atStart => exact ⟨(0), (0), sr_, sr_, H', ⟨Nat.le_refl _⟩, bk_ ae, ⟨sq_below1 HB.out ap.out⟩⟩
    case round =>
     clear H'
     obtain ⟨co, ac, rfl, rfl, HA, HK2, ae, HB⟩ := hrel; cases gk with
     | zero => exact absurd HA.out (by simp [spec_SegOk.l0])
     | succ k2 =>
      have H := HA.out; clear HA; simp only [spec_SegOk.l0] at H
      by_cases c15 : ac < (ab.length : Int)
      ·
       rw [if_pos c15] at H; have cv := decide_eq_true (p := ac < (ab.length : Int)) c15; clear c15
       by_cases c16 : 0 ≤ ac
       ·
        rw [if_pos c16] at H; have cN := decide_eq_true (p := 0 ≤ ac) c16; clear c16
        by_cases c17 : ac < (ab.length : Int)
        ·
         rw [if_pos c17] at H; have cO := decide_eq_true (p := ac < (ab.length : Int)) c17; clear c17; have cZ := am_ H; clear H; obtain ⟨cw, cx, cy, cz, cA, cB⟩ := cz3_ ae; have cJ : 0 ≤ (ac : Int) := sq_dec; have cK : ac < (ab.length : Int) := sq_dec; obtain ⟨bl, dV, dX, dY, bG, hl134_0, hi134_0⟩ := at_L7 br.out ac cJ cK; cases dY; replace bG := cb_ HB bG; have av := am_ hi134_0; have dp := am_ hl134_0; clear hi134_0 hl134_0; replace cJ := eq_true cJ; replace cK := eq_true cK
         go_upto_region 10 with (fail)
         go_cut [64] (fun v64 wc => ∃ (kq : Nat) (cb : Bool), v64 = .bool cb ∧ Aside0 (spec_SegOk.j2 kq a0 a1 (ab.length : Int) (wrap64 (co + ((rd_L7 ab ac).length : Int))) ac (rd_L7 ab ac) cb ab ai ao = some r) ∧ Aside0 (kq ≤ k2) ∧ Aside0 (wc.heap[aJ]? = some (.cells #[(.slice (some bl) ab.length bi), (.slice bf ai.length bj), (.slice bh ao.length bk)] 33 (0, 0))) ∧ Aside0 (Below w.heap.size w wc))
         case first =>
          have H := cZ.out; clear cZ
          by_cases c20 : ((rd_L7 ab ac).length : Int) = 0
          ·
           rw [if_pos c20] at H; have bL : (((rd_L7 ab ac).length : Int) == 0) = true := beq_iff_eq.mpr c20; have cF : (((rd_L7 ab ac).length : Int) != 0) = false := bne_eq_false_iff_eq.mpr c20; clear c20
           (first | rw [bL] | (simp only [i64_w, i32_w]; rw [bL]) | skip)
           have H' := am_ H; clear H
           go_wp2
           go_meet
           case rel => exact ⟨_, (true), sr_, H', ⟨by have := HJ3.out; have := HK2.out; first | omega | exact Nat.le_refl _⟩, bk_ ae, ⟨sq_below1 HB.out ap.out⟩⟩
          ·
           rw [if_neg c20] at H; have bL : (((rd_L7 ab ac).length : Int) == 0) = false := beq_eq_false_iff_ne.mpr c20; have cF : (((rd_L7 ab ac).length : Int) != 0) = true := bne_iff_ne.mpr c20; have cP : ¬ ((rd_L7 ab ac) = []) := fun h_ => c20 (by rw [h_]; rfl)
           (first | rw [bL] | (simp only [i64_w, i32_w]; rw [bL]) | skip)
           have H' := am_ H; clear H
           go_wp2
           go_meet
           case rel => exact ⟨_, (decide ((wrap64 (co + ((rd_L7 ab ac).length : Int))) > 40)), sr_, H', ⟨by have := HJ3.out; have := HK2.out; first | omega | exact Nat.le_refl _⟩, bk_ ae, ⟨sq_below1 HB.out ap.out⟩⟩
         case rest =>
          clear cZ
          obtain ⟨kq, cb, rfl, HA, HJ17, ae, HB⟩ := hcut; cases kq with
          | zero => exact absurd HA.out (by simp [spec_SegOk.j2])
          | succ dn =>
           have H := HA.out; clear HA; simp only [spec_SegOk.j2] at H
           by_cases c21 : cb = true
           ·
            subst c21; have H1 := ifp_ H
            clear H; have H := H1; clear H1; obtain rfl := Option.some.inj H
            go_wp2
            go_ret
            exact ⟨lf_, sq_below1 HB.out ap.out⟩
           ·
            replace c21 := Bool.eq_false_iff.mpr c21; subst c21; have H1 := ifn_ H
            clear H; have H := H1; clear H1; have H' := am_ H; clear H
            go_wp2
            go_loopg [11] dn (fun kq v11 w' => ∃ (aa : Int), v11 = .int .i64 aa ∧ Aside0 (spec_SegOk.l1 kq a0 a1 (ab.length : Int) (wrap64 (co + ((rd_L7 ab ac).length : Int))) ac (rd_L7 ab ac) aa ab ai ao = some r) ∧ Aside0 (kq ≤ dn) ∧ Aside0 (w'.heap[aJ]? = some (.cells #[(.slice (some bl) ab.length bi), (.slice bf ai.length bj), (.slice bh ao.length bk)] 33 (0, 0))) ∧ Aside0 (Below w.heap.size w w'))
            case atStart => exact ⟨(0), sr_, H', ⟨Nat.le_refl _⟩, bk_ ae, ⟨sq_below1 HB.out ap.out⟩⟩
            case round =>
             clear H'
             obtain ⟨aa, rfl, HA, HK4, ae, HB⟩ := hrel; cases gk with
             | zero => exact absurd HA.out (by simp [spec_SegOk.l1])
             | succ k4 =>
              have H := HA.out; clear HA; simp only [spec_SegOk.l1] at H
              by_cases c22 : aa < ((rd_L7 ab ac).length : Int)
              ·
               rw [if_pos c22] at H; have cQ := decide_eq_true (p := aa < ((rd_L7 ab ac).length : Int)) c22; clear c22
               by_cases c23 : 0 ≤ aa
               ·
                rw [if_pos c23] at H; have d3 := decide_eq_true (p := 0 ≤ aa) c23; clear c23; obtain ⟨dd, A24, H⟩ := be_ H; (try dsimp only at H)
                by_cases c25 : dd = true
                ·
                 subst c25; have H1 := ifp_ H
                 clear H; have H := H1; clear H1
                 by_cases c26 : aa > 0
                 ·
                  rw [if_pos c26] at H; have dh := decide_eq_true (p := 0 < aa) c26; clear c26; obtain ⟨aq, bn⟩ : ∃ j_ : Int, (wrap64 (aa - 1)) = j_ := ⟨_, rfl⟩; replace H : (if 0 ≤ (aq) then (if (aq) < ((rd_L7 ab ac).length : Int) then ((spec_SymLess.f ((rd_T54 (rd_L7 ab ac) (aq)).f0) ((rd_T54 (rd_L7 ab ac) (aq)).f1) ((rd_T54 (rd_L7 ab ac) aa).f0) ((rd_T54 (rd_L7 ab ac) aa).f1)).bind fun cM => (if cM = true then ((spec_l10In.f k4 ab ai ao ((rd_T54 (rd_L7 ab ac) aa).f0) ((rd_T54 (rd_L7 ab ac) aa).f1)).bind fun bR => (if bR = ac then (spec_SegOk.l1 k4 a0 a1 (ab.length : Int) (wrap64 (co + ((rd_L7 ab ac).length : Int))) ac (rd_L7 ab ac) (wrap64 (aa + 1)) ab ai ao) else (some false))) else (some false))) else (none)) else (none)) = some r := by first | (rw [bn] at H; exact H) | (simp only [bn] at H ⊢; exact H)
                  (try rw [bn] at A24)
                  have hji27w : (IntKind.i64.wrap (aa - 1)) = aq := (i64_w _).trans bn
                  by_cases c28 : 0 ≤ (aq)
                  ·
                   rw [if_pos c28] at H; have d4 := decide_eq_true (p := 0 ≤ (aq)) c28; clear c28
                   by_cases c29 : (aq) < ((rd_L7 ab ac).length : Int)
                   ·
                    rw [if_pos c29] at H; have d5 := decide_eq_true (p := (aq) < ((rd_L7 ab ac).length : Int)) c29; clear c29; obtain ⟨cM, A30, H⟩ := be_ H; (try dsimp only at H)
                    by_cases c31 : cM = true
                    ·
                     subst c31; have H1 := ifp_ H
                     clear H; have H := H1; clear H1; obtain ⟨bR, A32, H⟩ := be_ H; (try dsimp only at H)
                     by_cases c33 : bR = ac
                     ·
                      rw [if_pos c33] at H; have di : (bR == ac) = true := beq_iff_eq.mpr c33; have dj : (bR != ac) = false := bne_eq_false_iff_eq.mpr c33; clear c33; have H' := am_ H; clear H
                      try go_wp2
                      replace ae := bd_ ae; replace HB := hd_ HB; have aT : 0 ≤ (aa : Int) := sq_dec; have aU : aa < ((rd_L7 ab ac).length : Int) := sq_dec; obtain ⟨af, bM, ag, ah⟩ := at_T54 av.out aa aT aU; have ak := ah; have aj := ag; cases bM; replace ag := cb_ HB ag; replace ah := cb_ HB ah; replace aT := eq_true aT; replace aU := eq_true aU; have bN : 0 ≤ ((aq) : Int) := sq_dec; have bP : (aq) < ((rd_L7 ab ac).length : Int) := sq_dec; obtain ⟨ce, cH, aw, ax⟩ := at_T54 av.out (aq) bN bP; have aC := ax; have aA := aw; obtain rfl : af = ce := (by injection cH); replace aw := cb_ HB aw; replace ax := cb_ HB ax; replace bN := eq_true bN; replace bP := eq_true bP; have bO : 0 ≤ (aa : Int) := sq_dec; have bQ : aa < ((rd_L7 ab ac).length : Int) := sq_dec; obtain ⟨cf, cI, ay, az⟩ := at_T54 av.out aa bO bQ; have aG := az; have aD := ay; obtain rfl : af = cf := (by injection cI); replace ay := cb_ HB ay; replace az := cb_ HB az; replace bO := eq_true bO; replace bQ := eq_true bQ; have cp : 0 ≤ (aa : Int) := sq_dec; have cr : aa < ((rd_L7 ab ac).length : Int) := sq_dec; obtain ⟨cD, da, aN, aQ⟩ := at_T54 av.out aa cp cr; have aM := aQ; have aK := aN; obtain rfl : af = cD := (by injection da); replace aN := cb_ HB aN; replace aQ := cb_ HB aQ; replace cp := eq_true cp; replace cr := eq_true cr; refine start_ (n := 34) (S := fun w' => w'.cell? ⟨aJ, 0, none⟩ = some (.slice (some bl) ab.length bi) ∧ w'.cell? ⟨aJ, 1, none⟩ = some (.slice bf ai.length bj) ∧ w'.cell? ⟨aJ, 2, none⟩ = some (.slice bh ao.length bk) ∧ w'.cell? (af.add ((aa).toNat * 2)) = some (.int .i64 ((rd_T54 (rd_L7 ab ac) aa).f0)) ∧ w'.cell? ⟨(af.add ((aa).toNat * 2)).block, (af.add ((aa).toNat * 2)).off + 1, none⟩ = some (.int .i64 ((rd_T54 (rd_L7 ab ac) aa).f1)) ∧ w'.cell? (af.add (((aq)).toNat * 2)) = some (.int .i64 ((rd_T54 (rd_L7 ab ac) (aq)).f0)) ∧ w'.cell? ⟨(af.add (((aq)).toNat * 2)).block, (af.add (((aq)).toNat * 2)).off + 1, none⟩ = some (.int .i64 ((rd_T54 (rd_L7 ab ac) (aq)).f1)) ∧ w'.cell? (af.add ((aa).toNat * 2)) = some (.int .i64 ((rd_T54 (rd_L7 ab ac) aa).f0)) ∧ w'.cell? ⟨(af.add ((aa).toNat * 2)).block, (af.add ((aa).toNat * 2)).off + 1, none⟩ = some (.int .i64 ((rd_T54 (rd_L7 ab ac) aa).f1)) ∧ w'.cell? (af.add ((aa).toNat * 2)) = some (.int .i64 ((rd_T54 (rd_L7 ab ac) aa).f0)) ∧ w'.cell? ⟨(af.add ((aa).toNat * 2)).block, (af.add ((aa).toNat * 2)).off + 1, none⟩ = some (.int .i64 ((rd_T54 (rd_L7 ab ac) aa).f1))) (ds := []) #[false, false, false, false, false, false, false, false, false, false, false, false, false, false, false, false, false, false, false, false, false, false, false, false, false, false, false, false, false, false, false, false, false, false] (by kernel_rfl) rfl rfl ⟨cl_ ae 0, cl_ ae 1, cl_ ae 2, (cb_ HB aj), (cb_ HB ak), (cb_ HB aA), (cb_ HB aC), (cb_ HB aD), (cb_ HB aG), (cb_ HB aK), (cb_ HB aM)⟩ (fun hHeld => ?_); refine with_tabW spec_SegOk.tab15 spec_SegOk.bits15 (fun HT_ HW_ => ?_); generalize wr.drew = d9 at ae HB ag ah aw ax ay az aN aQ hHeld ⊢; refine py_ HT_ 0 71 ?_
                      refine py_ HT_ 1 72 ?_
                      refine py_ HT_ 2 73 ?_
                      refine py_ HT_ 3 74 ?_
                      refine ty_ HT_ HW_ 4 75 rfl hHeld (by rintro w' ⟨s0, s1, s2, s3, s4, s5, s6, s7, s8, s9, s10⟩; go_simp; with_reducible rfl) ?_
                      refine oy_ HT_ 5 (some 76) (fun K hK => ?_); refine gs_ Tryd.func62 #[.int .i64 a0, .agg #[.int .i64 ((rd_T54 (rd_L7 ab ac) aa).f0), .int .i64 ((rd_T54 (rd_L7 ab ac) aa).f1)]] (h := ?_); with_reducible refine (spec_SymOk.calls a0 ((rd_T54 (rd_L7 ab ac) aa).f0) ((rd_T54 (rd_L7 ab ac) aa).f1) true _ A24.out).mono ?_
                      rintro e ea ⟨rfl, hb⟩; refine ⟨_, rfl, ?_⟩; replace ae := bb_ ae hb; replace HB := hb1_ HB hb ap
                      (try clear hb)
                      (try clear hb2)
                      (try clear hk)
                      (try clear hi)
                      refine hK.out _ _ ⟨cl_ ae 0, cl_ ae 1, cl_ ae 2, (cb_ HB aj), (cb_ HB ak), (cb_ HB aA), (cb_ HB aC), (cb_ HB aD), (cb_ HB aG), (cb_ HB aK), (cb_ HB aM)⟩ (fun hHeld => ?_); clear hK K; refine norm_y 76 (h := ?_)
                      refine py_ HT_ 6 77 ?_
                      refine py_ HT_ 7 78 ?_
                      refine py_ HT_ 8 79 ?_
                      refine py_ HT_ 9 80 ?_
                      refine py_ HT_ 10 81 ?_
                      refine py_ HT_ 11 82 ?_
                      refine py_ HT_ 12 83 ?_
                      refine py_ HT_ 13 84 ?_
                      refine py_ HT_ 14 85 ?_
                      refine py_ HT_ 16 87 ?_
                      refine py_ HT_ 17 88 ?_
                      refine py_ HT_ 18 89 ?_
                      refine ty_ HT_ HW_ 15 86 rfl hHeld (by rintro w' ⟨s0, s1, s2, s3, s4, s5, s6, s7, s8, s9, s10⟩; go_simp; with_reducible rfl) ?_
                      refine ty_ HT_ HW_ 19 90 rfl hHeld (by rintro w' ⟨s0, s1, s2, s3, s4, s5, s6, s7, s8, s9, s10⟩; go_simp; with_reducible rfl) ?_
                      refine oy_ HT_ 20 (some 91) (fun K hK => ?_); refine goes_ Tryd.func63 (by kernel_rfl) rfl #[.agg #[.int .i64 ((rd_T54 (rd_L7 ab ac) (aq)).f0), .int .i64 ((rd_T54 (rd_L7 ab ac) (aq)).f1)], .agg #[.int .i64 ((rd_T54 (rd_L7 ab ac) aa).f0), .int .i64 ((rd_T54 (rd_L7 ab ac) aa).f1)]] (by rfl) rfl rfl (by (try simp only [List.map_toArray, List.map_cons, List.map_nil]); first | done | (simp only [bn]; rfl) | rfl | (simp only [List.length_drop, List.length_take]; rfl)) ?_; with_reducible refine (spec_SymLess.calls ((rd_T54 (rd_L7 ab ac) (aq)).f0) ((rd_T54 (rd_L7 ab ac) (aq)).f1) ((rd_T54 (rd_L7 ab ac) aa).f0) ((rd_T54 (rd_L7 ab ac) aa).f1) true _ A30.out).mono ?_
                      rintro e eb ⟨rfl, hb⟩; refine ⟨_, rfl, ?_⟩; replace ae := bb_ ae hb; replace HB := hb1_ HB hb ap
                      (try clear hb)
                      (try clear hb2)
                      (try clear hk)
                      (try clear hi)
                      refine hK.out _ _ ⟨cl_ ae 0, cl_ ae 1, cl_ ae 2, (cb_ HB aj), (cb_ HB ak), (cb_ HB aA), (cb_ HB aC), (cb_ HB aD), (cb_ HB aG), (cb_ HB aK), (cb_ HB aM)⟩ (fun hHeld => ?_); clear hK K; refine norm_y 91 (h := ?_)
                      refine py_ HT_ 21 92 ?_
                      refine py_ HT_ 22 93 ?_
                      refine py_ HT_ 23 94 ?_
                      refine py_ HT_ 24 95 ?_
                      refine py_ HT_ 26 97 ?_
                      refine py_ HT_ 27 98 ?_
                      refine py_ HT_ 28 99 ?_
                      refine py_ HT_ 31 102 ?_
                      refine ty_ HT_ HW_ 25 96 rfl hHeld (by rintro w' ⟨s0, s1, s2, s3, s4, s5, s6, s7, s8, s9, s10⟩; go_simp; with_reducible rfl) ?_
                      refine ty_ HT_ HW_ 29 100 rfl hHeld (by rintro w' ⟨s0, s1, s2, s3, s4, s5, s6, s7, s8, s9, s10⟩; go_simp; with_reducible rfl) ?_
                      refine oy_ HT_ 30 (some 101) (fun K hK => ?_); refine gs_ Tryd.func64 #[.agg #[.slice (some bl) ab.length bi, .slice bf ai.length bj, .slice bh ao.length bk], .agg #[.int .i64 ((rd_T54 (rd_L7 ab ac) aa).f0), .int .i64 ((rd_T54 (rd_L7 ab ac) aa).f1)]] (h := ?_); with_reducible refine (spec_l10In.calls k4 _ _ ab _ _ ai _ _ ao ((rd_T54 (rd_L7 ab ac) aa).f0) ((rd_T54 (rd_L7 ab ac) aa).f1) bR _ ?aV ?aW ?aX ?aY ?aZ ?ba A32.out).mono ?_
                      (case aV => exact sq_c (Kd.C_below br.out HB.out))
                      (case aW => exact bH.out)
                      (case aX => exact sq_c (Kd.C_below bm.out HB.out))
                      (case aY => exact bI.out)
                      (case aZ => exact sq_c (Kd.C_below bK.out HB.out))
                      (case ba => exact bJ.out)
                      rintro e ec ⟨rfl, hb⟩; refine ⟨_, rfl, ?_⟩; replace ae := bb_ ae hb; replace HB := hb1_ HB hb ap
                      (try clear hb)
                      (try clear hb2)
                      (try clear hk)
                      (try clear hi)
                      refine hK.out _ _ ⟨cl_ ae 0, cl_ ae 1, cl_ ae 2, (cb_ HB aj), (cb_ HB ak), (cb_ HB aA), (cb_ HB aC), (cb_ HB aD), (cb_ HB aG), (cb_ HB aK), (cb_ HB aM)⟩ (fun hHeld => ?_); clear hK K; refine norm_y 101 (h := ?_)
                      refine py_ HT_ 32 103 ?_
                      refine py_ HT_ 33 104 ?_
                      refine done_ (done_of HT_.out (by kernel_rfl)) ?_
                      try go_wp2
                      go_roundg k4
                      case measure => have := HJ3.out; have := HK2.out; have := HJ17.out; have := HK4.out; omega
                      case rel => exact ⟨(wrap64 (aa + 1)), sr_, H', ⟨by have := HJ3.out; have := HK2.out; have := HJ17.out; have := HK4.out; omega⟩, bk_ ae, ⟨sq_below1 HB.out ap.out⟩⟩
                     ·
                      rw [if_neg c33] at H; have di : (bR == ac) = false := beq_eq_false_iff_ne.mpr c33; have dj : (bR != ac) = true := bne_iff_ne.mpr c33; obtain rfl := Option.some.inj H
                      try go_wp2
                      replace ae := bd_ ae; replace HB := hd_ HB; have aT : 0 ≤ (aa : Int) := sq_dec; have aU : aa < ((rd_L7 ab ac).length : Int) := sq_dec; obtain ⟨af, bM, ag, ah⟩ := at_T54 av.out aa aT aU; have ak := ah; have aj := ag; cases bM; replace ag := cb_ HB ag; replace ah := cb_ HB ah; replace aT := eq_true aT; replace aU := eq_true aU; have bN : 0 ≤ ((aq) : Int) := sq_dec; have bP : (aq) < ((rd_L7 ab ac).length : Int) := sq_dec; obtain ⟨ce, cH, aw, ax⟩ := at_T54 av.out (aq) bN bP; have aC := ax; have aA := aw; obtain rfl : af = ce := (by injection cH); replace aw := cb_ HB aw; replace ax := cb_ HB ax; replace bN := eq_true bN; replace bP := eq_true bP; have bO : 0 ≤ (aa : Int) := sq_dec; have bQ : aa < ((rd_L7 ab ac).length : Int) := sq_dec; obtain ⟨cf, cI, ay, az⟩ := at_T54 av.out aa bO bQ; have aG := az; have aD := ay; obtain rfl : af = cf := (by injection cI); replace ay := cb_ HB ay; replace az := cb_ HB az; replace bO := eq_true bO; replace bQ := eq_true bQ; have cp : 0 ≤ (aa : Int) := sq_dec; have cr : aa < ((rd_L7 ab ac).length : Int) := sq_dec; obtain ⟨cD, da, aN, aQ⟩ := at_T54 av.out aa cp cr; have aM := aQ; have aK := aN; obtain rfl : af = cD := (by injection da); replace aN := cb_ HB aN; replace aQ := cb_ HB aQ; replace cp := eq_true cp; replace cr := eq_true cr; refine start_ (n := 34) (S := fun w' => w'.cell? ⟨aJ, 0, none⟩ = some (.slice (some bl) ab.length bi) ∧ w'.cell? ⟨aJ, 1, none⟩ = some (.slice bf ai.length bj) ∧ w'.cell? ⟨aJ, 2, none⟩ = some (.slice bh ao.length bk) ∧ w'.cell? (af.add ((aa).toNat * 2)) = some (.int .i64 ((rd_T54 (rd_L7 ab ac) aa).f0)) ∧ w'.cell? ⟨(af.add ((aa).toNat * 2)).block, (af.add ((aa).toNat * 2)).off + 1, none⟩ = some (.int .i64 ((rd_T54 (rd_L7 ab ac) aa).f1)) ∧ w'.cell? (af.add (((aq)).toNat * 2)) = some (.int .i64 ((rd_T54 (rd_L7 ab ac) (aq)).f0)) ∧ w'.cell? ⟨(af.add (((aq)).toNat * 2)).block, (af.add (((aq)).toNat * 2)).off + 1, none⟩ = some (.int .i64 ((rd_T54 (rd_L7 ab ac) (aq)).f1)) ∧ w'.cell? (af.add ((aa).toNat * 2)) = some (.int .i64 ((rd_T54 (rd_L7 ab ac) aa).f0)) ∧ w'.cell? ⟨(af.add ((aa).toNat * 2)).block, (af.add ((aa).toNat * 2)).off + 1, none⟩ = some (.int .i64 ((rd_T54 (rd_L7 ab ac) aa).f1)) ∧ w'.cell? (af.add ((aa).toNat * 2)) = some (.int .i64 ((rd_T54 (rd_L7 ab ac) aa).f0)) ∧ w'.cell? ⟨(af.add ((aa).toNat * 2)).block, (af.add ((aa).toNat * 2)).off + 1, none⟩ = some (.int .i64 ((rd_T54 (rd_L7 ab ac) aa).f1))) (ds := []) #[false, false, false, false, false, false, false, false, false, false, false, false, false, false, false, false, false, false, false, false, false, false, false, false, false, false, false, false, false, false, false, false, false, false] (by kernel_rfl) rfl rfl ⟨cl_ ae 0, cl_ ae 1, cl_ ae 2, (cb_ HB aj), (cb_ HB ak), (cb_ HB aA), (cb_ HB aC), (cb_ HB aD), (cb_ HB aG), (cb_ HB aK), (cb_ HB aM)⟩ (fun hHeld => ?_); refine with_tabW spec_SegOk.tab15 spec_SegOk.bits15 (fun HT_ HW_ => ?_); generalize wr.drew = ed at ae HB ag ah aw ax ay az aN aQ hHeld ⊢; refine py_ HT_ 0 71 ?_
                      refine py_ HT_ 1 72 ?_
                      refine py_ HT_ 2 73 ?_
                      refine py_ HT_ 3 74 ?_
                      refine ty_ HT_ HW_ 4 75 rfl hHeld (by rintro w' ⟨s0, s1, s2, s3, s4, s5, s6, s7, s8, s9, s10⟩; go_simp; with_reducible rfl) ?_
                      refine oy_ HT_ 5 (some 76) (fun K hK => ?_); refine gs_ Tryd.func62 #[.int .i64 a0, .agg #[.int .i64 ((rd_T54 (rd_L7 ab ac) aa).f0), .int .i64 ((rd_T54 (rd_L7 ab ac) aa).f1)]] (h := ?_); with_reducible refine (spec_SymOk.calls a0 ((rd_T54 (rd_L7 ab ac) aa).f0) ((rd_T54 (rd_L7 ab ac) aa).f1) true _ A24.out).mono ?_
                      rintro e ee ⟨rfl, hb⟩; refine ⟨_, rfl, ?_⟩; replace ae := bb_ ae hb; replace HB := hb1_ HB hb ap
                      (try clear hb)
                      (try clear hb2)
                      (try clear hk)
                      (try clear hi)
                      refine hK.out _ _ ⟨cl_ ae 0, cl_ ae 1, cl_ ae 2, (cb_ HB aj), (cb_ HB ak), (cb_ HB aA), (cb_ HB aC), (cb_ HB aD), (cb_ HB aG), (cb_ HB aK), (cb_ HB aM)⟩ (fun hHeld => ?_); clear hK K; refine norm_y 76 (h := ?_)
                      refine py_ HT_ 6 77 ?_
                      refine py_ HT_ 7 78 ?_
                      refine py_ HT_ 8 79 ?_
                      refine py_ HT_ 9 80 ?_
                      refine py_ HT_ 10 81 ?_
                      refine py_ HT_ 11 82 ?_
                      refine py_ HT_ 12 83 ?_
                      refine py_ HT_ 13 84 ?_
                      refine py_ HT_ 14 85 ?_
                      refine py_ HT_ 16 87 ?_
                      refine py_ HT_ 17 88 ?_
                      refine py_ HT_ 18 89 ?_
                      refine ty_ HT_ HW_ 15 86 rfl hHeld (by rintro w' ⟨s0, s1, s2, s3, s4, s5, s6, s7, s8, s9, s10⟩; go_simp; with_reducible rfl) ?_
                      refine ty_ HT_ HW_ 19 90 rfl hHeld (by rintro w' ⟨s0, s1, s2, s3, s4, s5, s6, s7, s8, s9, s10⟩; go_simp; with_reducible rfl) ?_
                      refine oy_ HT_ 20 (some 91) (fun K hK => ?_); refine goes_ Tryd.func63 (by kernel_rfl) rfl #[.agg #[.int .i64 ((rd_T54 (rd_L7 ab ac) (aq)).f0), .int .i64 ((rd_T54 (rd_L7 ab ac) (aq)).f1)], .agg #[.int .i64 ((rd_T54 (rd_L7 ab ac) aa).f0), .int .i64 ((rd_T54 (rd_L7 ab ac) aa).f1)]] (by rfl) rfl rfl (by (try simp only [List.map_toArray, List.map_cons, List.map_nil]); first | done | (simp only [bn]; rfl) | rfl | (simp only [List.length_drop, List.length_take]; rfl)) ?_; with_reducible refine (spec_SymLess.calls ((rd_T54 (rd_L7 ab ac) (aq)).f0) ((rd_T54 (rd_L7 ab ac) (aq)).f1) ((rd_T54 (rd_L7 ab ac) aa).f0) ((rd_T54 (rd_L7 ab ac) aa).f1) true _ A30.out).mono ?_
                      rintro e ef ⟨rfl, hb⟩; refine ⟨_, rfl, ?_⟩; replace ae := bb_ ae hb; replace HB := hb1_ HB hb ap
                      (try clear hb)
                      (try clear hb2)
                      (try clear hk)
                      (try clear hi)
                      refine hK.out _ _ ⟨cl_ ae 0, cl_ ae 1, cl_ ae 2, (cb_ HB aj), (cb_ HB ak), (cb_ HB aA), (cb_ HB aC), (cb_ HB aD), (cb_ HB aG), (cb_ HB aK), (cb_ HB aM)⟩ (fun hHeld => ?_); clear hK K; refine norm_y 91 (h := ?_)
                      refine py_ HT_ 21 92 ?_
                      refine py_ HT_ 22 93 ?_
                      refine py_ HT_ 23 94 ?_
                      refine py_ HT_ 24 95 ?_
                      refine py_ HT_ 26 97 ?_
                      refine py_ HT_ 27 98 ?_
                      refine py_ HT_ 28 99 ?_
                      refine py_ HT_ 31 102 ?_
                      refine ty_ HT_ HW_ 25 96 rfl hHeld (by rintro w' ⟨s0, s1, s2, s3, s4, s5, s6, s7, s8, s9, s10⟩; go_simp; with_reducible rfl) ?_
                      refine ty_ HT_ HW_ 29 100 rfl hHeld (by rintro w' ⟨s0, s1, s2, s3, s4, s5, s6, s7, s8, s9, s10⟩; go_simp; with_reducible rfl) ?_
                      refine oy_ HT_ 30 (some 101) (fun K hK => ?_); refine gs_ Tryd.func64 #[.agg #[.slice (some bl) ab.length bi, .slice bf ai.length bj, .slice bh ao.length bk], .agg #[.int .i64 ((rd_T54 (rd_L7 ab ac) aa).f0), .int .i64 ((rd_T54 (rd_L7 ab ac) aa).f1)]] (h := ?_); with_reducible refine (spec_l10In.calls k4 _ _ ab _ _ ai _ _ ao ((rd_T54 (rd_L7 ab ac) aa).f0) ((rd_T54 (rd_L7 ab ac) aa).f1) bR _ ?aV ?aW ?aX ?aY ?aZ ?ba A32.out).mono ?_
                      (case aV => exact sq_c (Kd.C_below br.out HB.out))
                      (case aW => exact bH.out)
                      (case aX => exact sq_c (Kd.C_below bm.out HB.out))
                      (case aY => exact bI.out)
                      (case aZ => exact sq_c (Kd.C_below bK.out HB.out))
                      (case ba => exact bJ.out)
                      rintro e eh ⟨rfl, hb⟩; refine ⟨_, rfl, ?_⟩; replace ae := bb_ ae hb; replace HB := hb1_ HB hb ap
                      (try clear hb)
                      (try clear hb2)
                      (try clear hk)
                      (try clear hi)
                      refine hK.out _ _ ⟨cl_ ae 0, cl_ ae 1, cl_ ae 2, (cb_ HB aj), (cb_ HB ak), (cb_ HB aA), (cb_ HB aC), (cb_ HB aD), (cb_ HB aG), (cb_ HB aK), (cb_ HB aM)⟩ (fun hHeld => ?_); clear hK K; refine norm_y 101 (h := ?_)
                      refine py_ HT_ 32 103 ?_
                      refine py_ HT_ 33 104 ?_
                      refine done_ (done_of HT_.out (by kernel_rfl)) ?_
                      try go_wp2
                      go_ret
                      exact ⟨by first | rfl | (simp [errW_none, errW_some] <;> rfl) | (simp only [← bn]; first | rfl | (simp [errW_none, errW_some] <;> rfl)) | (simp [*, errW_none, errW_some] <;> rfl), sq_below1 HB.out ap.out⟩
                    ·
                     replace c31 := Bool.eq_false_iff.mpr c31; subst c31; have H1 := ifn_ H
                     clear H; have H := H1; clear H1; obtain rfl := Option.some.inj H
                     try go_wp2
                     replace HB := hd_ HB; have aT : 0 ≤ (aa : Int) := sq_dec; have aU : aa < ((rd_L7 ab ac).length : Int) := sq_dec; obtain ⟨af, bM, ag, ah⟩ := at_T54 av.out aa aT aU; have ak := ah; have aj := ag; cases bM; replace ag := cb_ HB ag; replace ah := cb_ HB ah; replace aT := eq_true aT; replace aU := eq_true aU; have bN : 0 ≤ ((aq) : Int) := sq_dec; have bP : (aq) < ((rd_L7 ab ac).length : Int) := sq_dec; obtain ⟨ce, cH, aw, ax⟩ := at_T54 av.out (aq) bN bP; have aC := ax; have aA := aw; obtain rfl : af = ce := (by injection cH); replace aw := cb_ HB aw; replace ax := cb_ HB ax; replace bN := eq_true bN; replace bP := eq_true bP; have bO : 0 ≤ (aa : Int) := sq_dec; have bQ : aa < ((rd_L7 ab ac).length : Int) := sq_dec; obtain ⟨cf, cI, ay, az⟩ := at_T54 av.out aa bO bQ; have aG := az; have aD := ay; obtain rfl : af = cf := (by injection cI); replace ay := cb_ HB ay; replace az := cb_ HB az; replace bO := eq_true bO; replace bQ := eq_true bQ; refine start_ (n := 34) (S := fun w' => w'.cell? (af.add ((aa).toNat * 2)) = some (.int .i64 ((rd_T54 (rd_L7 ab ac) aa).f0)) ∧ w'.cell? ⟨(af.add ((aa).toNat * 2)).block, (af.add ((aa).toNat * 2)).off + 1, none⟩ = some (.int .i64 ((rd_T54 (rd_L7 ab ac) aa).f1)) ∧ w'.cell? (af.add (((aq)).toNat * 2)) = some (.int .i64 ((rd_T54 (rd_L7 ab ac) (aq)).f0)) ∧ w'.cell? ⟨(af.add (((aq)).toNat * 2)).block, (af.add (((aq)).toNat * 2)).off + 1, none⟩ = some (.int .i64 ((rd_T54 (rd_L7 ab ac) (aq)).f1)) ∧ w'.cell? (af.add ((aa).toNat * 2)) = some (.int .i64 ((rd_T54 (rd_L7 ab ac) aa).f0)) ∧ w'.cell? ⟨(af.add ((aa).toNat * 2)).block, (af.add ((aa).toNat * 2)).off + 1, none⟩ = some (.int .i64 ((rd_T54 (rd_L7 ab ac) aa).f1))) (ds := []) #[false, false, false, false, false, false, false, false, false, false, false, false, false, false, false, false, false, false, false, false, false, false, false, false, false, false, false, false, false, false, false, false, false, false] (by kernel_rfl) rfl rfl ⟨(cb_ HB aj), (cb_ HB ak), (cb_ HB aA), (cb_ HB aC), (cb_ HB aD), (cb_ HB aG)⟩ (fun hHeld => ?_); refine with_tabW spec_SegOk.tab15 spec_SegOk.bits15 (fun HT_ HW_ => ?_); generalize wr.drew = ej at HB ag ah aw ax ay az hHeld ⊢; refine py_ HT_ 0 71 ?_
                     refine py_ HT_ 1 72 ?_
                     refine py_ HT_ 2 73 ?_
                     refine py_ HT_ 3 74 ?_
                     refine ty_ HT_ HW_ 4 75 rfl hHeld (by rintro w' ⟨s0, s1, s2, s3, s4, s5⟩; go_simp; with_reducible rfl) ?_
                     refine oy_ HT_ 5 (some 76) (fun K hK => ?_); refine gs_ Tryd.func62 #[.int .i64 a0, .agg #[.int .i64 ((rd_T54 (rd_L7 ab ac) aa).f0), .int .i64 ((rd_T54 (rd_L7 ab ac) aa).f1)]] (h := ?_); with_reducible refine (spec_SymOk.calls a0 ((rd_T54 (rd_L7 ab ac) aa).f0) ((rd_T54 (rd_L7 ab ac) aa).f1) true _ A24.out).mono ?_
                     rintro e el ⟨rfl, hb⟩; refine ⟨_, rfl, ?_⟩; replace HB := hb_ HB hb
                     (try clear hb)
                     (try clear hb2)
                     (try clear hk)
                     (try clear hi)
                     refine hK.out _ _ ⟨(cb_ HB aj), (cb_ HB ak), (cb_ HB aA), (cb_ HB aC), (cb_ HB aD), (cb_ HB aG)⟩ (fun hHeld => ?_); clear hK K; refine norm_y 76 (h := ?_)
                     refine py_ HT_ 6 77 ?_
                     refine py_ HT_ 7 78 ?_
                     refine py_ HT_ 8 79 ?_
                     refine py_ HT_ 9 80 ?_
                     refine py_ HT_ 10 81 ?_
                     refine py_ HT_ 11 82 ?_
                     refine py_ HT_ 12 83 ?_
                     refine py_ HT_ 13 84 ?_
                     refine py_ HT_ 14 85 ?_
                     refine py_ HT_ 16 87 ?_
                     refine py_ HT_ 17 88 ?_
                     refine py_ HT_ 18 89 ?_
                     refine ty_ HT_ HW_ 15 86 rfl hHeld (by rintro w' ⟨s0, s1, s2, s3, s4, s5⟩; go_simp; with_reducible rfl) ?_
                     refine ty_ HT_ HW_ 19 90 rfl hHeld (by rintro w' ⟨s0, s1, s2, s3, s4, s5⟩; go_simp; with_reducible rfl) ?_
                     refine oy_ HT_ 20 (some 91) (fun K hK => ?_); refine goes_ Tryd.func63 (by kernel_rfl) rfl #[.agg #[.int .i64 ((rd_T54 (rd_L7 ab ac) (aq)).f0), .int .i64 ((rd_T54 (rd_L7 ab ac) (aq)).f1)], .agg #[.int .i64 ((rd_T54 (rd_L7 ab ac) aa).f0), .int .i64 ((rd_T54 (rd_L7 ab ac) aa).f1)]] (by rfl) rfl rfl (by (try simp only [List.map_toArray, List.map_cons, List.map_nil]); first | done | (simp only [bn]; rfl) | rfl | (simp only [List.length_drop, List.length_take]; rfl)) ?_; with_reducible refine (spec_SymLess.calls ((rd_T54 (rd_L7 ab ac) (aq)).f0) ((rd_T54 (rd_L7 ab ac) (aq)).f1) ((rd_T54 (rd_L7 ab ac) aa).f0) ((rd_T54 (rd_L7 ab ac) aa).f1) false _ A30.out).mono ?_
                     rintro e em ⟨rfl, hb⟩; refine ⟨_, rfl, ?_⟩; replace HB := hb_ HB hb
                     (try clear hb)
                     (try clear hb2)
                     (try clear hk)
                     (try clear hi)
                     refine hK.out _ _ ⟨(cb_ HB aj), (cb_ HB ak), (cb_ HB aA), (cb_ HB aC), (cb_ HB aD), (cb_ HB aG)⟩ (fun hHeld => ?_); clear hK K; refine norm_y 91 (h := ?_)
                     refine py_ HT_ 21 92 ?_
                     refine py_ HT_ 22 93 ?_
                     refine py_ HT_ 23 94 ?_
                     refine py_ HT_ 24 95 ?_
                     refine pn_ HT_ 25 96 ?_
                     refine pn_ HT_ 26 97 ?_
                     refine pn_ HT_ 27 98 ?_
                     refine pn_ HT_ 28 99 ?_
                     refine pn_ HT_ 29 100 ?_
                     refine pn_ HT_ 30 101 ?_
                     refine pn_ HT_ 31 102 ?_
                     refine pn_ HT_ 32 103 ?_
                     refine py_ HT_ 33 104 ?_
                     refine done_ (done_of HT_.out (by kernel_rfl)) ?_
                     try go_wp2
                     go_ret
                     exact ⟨by first | rfl | (simp [errW_none, errW_some] <;> rfl) | (simp only [← bn]; first | rfl | (simp [errW_none, errW_some] <;> rfl)) | (simp [*, errW_none, errW_some] <;> rfl), sq_below HB.out⟩
                   ·
                    rw [if_neg c29] at H; exact absurd H (by simp)
                  ·
                   rw [if_neg c28] at H; exact absurd H (by simp)
                 ·
                  rw [if_neg c26] at H; have dh := decide_eq_false (p := 0 < aa) c26; clear c26; obtain ⟨bZ, A45, H⟩ := be_ H; (try dsimp only at H)
                  by_cases c46 : bZ = ac
                  ·
                   rw [if_pos c46] at H; have cR : (bZ == ac) = true := beq_iff_eq.mpr c46; have cS : (bZ != ac) = false := bne_eq_false_iff_eq.mpr c46; clear c46; have H' := am_ H; clear H
                   try go_wp2
                   replace ae := bd_ ae; replace HB := hd_ HB; have aT : 0 ≤ (aa : Int) := sq_dec; have aU : aa < ((rd_L7 ab ac).length : Int) := sq_dec; obtain ⟨af, bM, ag, ah⟩ := at_T54 av.out aa aT aU; have ak := ah; have aj := ag; cases bM; replace ag := cb_ HB ag; replace ah := cb_ HB ah; replace aT := eq_true aT; replace aU := eq_true aU; have cm : 0 ≤ (aa : Int) := sq_dec; have cn : aa < ((rd_L7 ab ac).length : Int) := sq_dec; obtain ⟨cE, db, aH, aI⟩ := at_T54 av.out aa cm cn; have bd := aI; have bc := aH; obtain rfl : af = cE := (by injection db); replace aH := cb_ HB aH; replace aI := cb_ HB aI; replace cm := eq_true cm; replace cn := eq_true cn; refine start_ (n := 34) (S := fun w' => w'.cell? ⟨aJ, 0, none⟩ = some (.slice (some bl) ab.length bi) ∧ w'.cell? ⟨aJ, 1, none⟩ = some (.slice bf ai.length bj) ∧ w'.cell? ⟨aJ, 2, none⟩ = some (.slice bh ao.length bk) ∧ w'.cell? (af.add ((aa).toNat * 2)) = some (.int .i64 ((rd_T54 (rd_L7 ab ac) aa).f0)) ∧ w'.cell? ⟨(af.add ((aa).toNat * 2)).block, (af.add ((aa).toNat * 2)).off + 1, none⟩ = some (.int .i64 ((rd_T54 (rd_L7 ab ac) aa).f1)) ∧ w'.cell? (af.add ((aa).toNat * 2)) = some (.int .i64 ((rd_T54 (rd_L7 ab ac) aa).f0)) ∧ w'.cell? ⟨(af.add ((aa).toNat * 2)).block, (af.add ((aa).toNat * 2)).off + 1, none⟩ = some (.int .i64 ((rd_T54 (rd_L7 ab ac) aa).f1))) (ds := []) #[false, false, false, false, false, false, false, false, false, false, false, false, false, false, false, false, false, false, false, false, false, false, false, false, false, false, false, false, false, false, false, false, false, false] (by kernel_rfl) rfl rfl ⟨cl_ ae 0, cl_ ae 1, cl_ ae 2, (cb_ HB aj), (cb_ HB ak), (cb_ HB bc), (cb_ HB bd)⟩ (fun hHeld => ?_); refine with_tabW spec_SegOk.tab15 spec_SegOk.bits15 (fun HT_ HW_ => ?_); generalize wr.drew = en at ae HB ag ah aH aI hHeld ⊢; refine py_ HT_ 0 71 ?_
                   refine py_ HT_ 1 72 ?_
                   refine py_ HT_ 2 73 ?_
                   refine py_ HT_ 3 74 ?_
                   refine ty_ HT_ HW_ 4 75 rfl hHeld (by rintro w' ⟨s0, s1, s2, s3, s4, s5, s6⟩; go_simp; with_reducible rfl) ?_
                   refine oy_ HT_ 5 (some 76) (fun K hK => ?_); refine gs_ Tryd.func62 #[.int .i64 a0, .agg #[.int .i64 ((rd_T54 (rd_L7 ab ac) aa).f0), .int .i64 ((rd_T54 (rd_L7 ab ac) aa).f1)]] (h := ?_); with_reducible refine (spec_SymOk.calls a0 ((rd_T54 (rd_L7 ab ac) aa).f0) ((rd_T54 (rd_L7 ab ac) aa).f1) true _ A24.out).mono ?_
                   rintro e eo ⟨rfl, hb⟩; refine ⟨_, rfl, ?_⟩; replace ae := bb_ ae hb; replace HB := hb1_ HB hb ap
                   (try clear hb)
                   (try clear hb2)
                   (try clear hk)
                   (try clear hi)
                   refine hK.out _ _ ⟨cl_ ae 0, cl_ ae 1, cl_ ae 2, (cb_ HB aj), (cb_ HB ak), (cb_ HB bc), (cb_ HB bd)⟩ (fun hHeld => ?_); clear hK K; refine norm_y 76 (h := ?_)
                   refine py_ HT_ 6 77 ?_
                   refine py_ HT_ 7 78 ?_
                   refine py_ HT_ 8 79 ?_
                   refine py_ HT_ 9 80 ?_
                   refine py_ HT_ 10 81 ?_
                   refine pn_ HT_ 11 82 ?_
                   refine pn_ HT_ 12 83 ?_
                   refine pn_ HT_ 13 84 ?_
                   refine pn_ HT_ 14 85 ?_
                   refine pn_ HT_ 15 86 ?_
                   refine pn_ HT_ 16 87 ?_
                   refine pn_ HT_ 17 88 ?_
                   refine pn_ HT_ 18 89 ?_
                   refine pn_ HT_ 19 90 ?_
                   refine pn_ HT_ 20 91 ?_
                   refine pn_ HT_ 21 92 ?_
                   refine py_ HT_ 22 93 ?_
                   refine py_ HT_ 23 94 ?_
                   refine py_ HT_ 24 95 ?_
                   refine py_ HT_ 26 97 ?_
                   refine py_ HT_ 27 98 ?_
                   refine py_ HT_ 28 99 ?_
                   refine py_ HT_ 31 102 ?_
                   refine ty_ HT_ HW_ 25 96 rfl hHeld (by rintro w' ⟨s0, s1, s2, s3, s4, s5, s6⟩; go_simp; with_reducible rfl) ?_
                   refine ty_ HT_ HW_ 29 100 rfl hHeld (by rintro w' ⟨s0, s1, s2, s3, s4, s5, s6⟩; go_simp; with_reducible rfl) ?_
                   refine oy_ HT_ 30 (some 101) (fun K hK => ?_); refine gs_ Tryd.func64 #[.agg #[.slice (some bl) ab.length bi, .slice bf ai.length bj, .slice bh ao.length bk], .agg #[.int .i64 ((rd_T54 (rd_L7 ab ac) aa).f0), .int .i64 ((rd_T54 (rd_L7 ab ac) aa).f1)]] (h := ?_); with_reducible refine (spec_l10In.calls k4 _ _ ab _ _ ai _ _ ao ((rd_T54 (rd_L7 ab ac) aa).f0) ((rd_T54 (rd_L7 ab ac) aa).f1) bZ _ ?aV ?aW ?aX ?aY ?aZ ?ba A45.out).mono ?_
                   (case aV => exact sq_c (Kd.C_below br.out HB.out))
                   (case aW => exact bH.out)
                   (case aX => exact sq_c (Kd.C_below bm.out HB.out))
                   (case aY => exact bI.out)
                   (case aZ => exact sq_c (Kd.C_below bK.out HB.out))
                   (case ba => exact bJ.out)
                   rintro e eq ⟨rfl, hb⟩; refine ⟨_, rfl, ?_⟩; replace ae := bb_ ae hb; replace HB := hb1_ HB hb ap
                   (try clear hb)
                   (try clear hb2)
                   (try clear hk)
                   (try clear hi)
                   refine hK.out _ _ ⟨cl_ ae 0, cl_ ae 1, cl_ ae 2, (cb_ HB aj), (cb_ HB ak), (cb_ HB bc), (cb_ HB bd)⟩ (fun hHeld => ?_); clear hK K; refine norm_y 101 (h := ?_)
                   refine py_ HT_ 32 103 ?_
                   refine py_ HT_ 33 104 ?_
                   refine done_ (done_of HT_.out (by kernel_rfl)) ?_
                   try go_wp2
                   go_roundg k4
                   case measure => have := HJ3.out; have := HK2.out; have := HJ17.out; have := HK4.out; omega
                   case rel => exact ⟨(wrap64 (aa + 1)), sr_, H', ⟨by have := HJ3.out; have := HK2.out; have := HJ17.out; have := HK4.out; omega⟩, bk_ ae, ⟨sq_below1 HB.out ap.out⟩⟩
                  ·
                   rw [if_neg c46] at H; have cR : (bZ == ac) = false := beq_eq_false_iff_ne.mpr c46; have cS : (bZ != ac) = true := bne_iff_ne.mpr c46; obtain rfl := Option.some.inj H
                   try go_wp2
                   replace ae := bd_ ae; replace HB := hd_ HB; have aT : 0 ≤ (aa : Int) := sq_dec; have aU : aa < ((rd_L7 ab ac).length : Int) := sq_dec; obtain ⟨af, bM, ag, ah⟩ := at_T54 av.out aa aT aU; have ak := ah; have aj := ag; cases bM; replace ag := cb_ HB ag; replace ah := cb_ HB ah; replace aT := eq_true aT; replace aU := eq_true aU; have cm : 0 ≤ (aa : Int) := sq_dec; have cn : aa < ((rd_L7 ab ac).length : Int) := sq_dec; obtain ⟨cE, db, aH, aI⟩ := at_T54 av.out aa cm cn; have bd := aI; have bc := aH; obtain rfl : af = cE := (by injection db); replace aH := cb_ HB aH; replace aI := cb_ HB aI; replace cm := eq_true cm; replace cn := eq_true cn; refine start_ (n := 34) (S := fun w' => w'.cell? ⟨aJ, 0, none⟩ = some (.slice (some bl) ab.length bi) ∧ w'.cell? ⟨aJ, 1, none⟩ = some (.slice bf ai.length bj) ∧ w'.cell? ⟨aJ, 2, none⟩ = some (.slice bh ao.length bk) ∧ w'.cell? (af.add ((aa).toNat * 2)) = some (.int .i64 ((rd_T54 (rd_L7 ab ac) aa).f0)) ∧ w'.cell? ⟨(af.add ((aa).toNat * 2)).block, (af.add ((aa).toNat * 2)).off + 1, none⟩ = some (.int .i64 ((rd_T54 (rd_L7 ab ac) aa).f1)) ∧ w'.cell? (af.add ((aa).toNat * 2)) = some (.int .i64 ((rd_T54 (rd_L7 ab ac) aa).f0)) ∧ w'.cell? ⟨(af.add ((aa).toNat * 2)).block, (af.add ((aa).toNat * 2)).off + 1, none⟩ = some (.int .i64 ((rd_T54 (rd_L7 ab ac) aa).f1))) (ds := []) #[false, false, false, false, false, false, false, false, false, false, false, false, false, false, false, false, false, false, false, false, false, false, false, false, false, false, false, false, false, false, false, false, false, false] (by kernel_rfl) rfl rfl ⟨cl_ ae 0, cl_ ae 1, cl_ ae 2, (cb_ HB aj), (cb_ HB ak), (cb_ HB bc), (cb_ HB bd)⟩ (fun hHeld => ?_); refine with_tabW spec_SegOk.tab15 spec_SegOk.bits15 (fun HT_ HW_ => ?_); generalize wr.drew = es at ae HB ag ah aH aI hHeld ⊢; refine py_ HT_ 0 71 ?_
                   refine py_ HT_ 1 72 ?_
                   refine py_ HT_ 2 73 ?_
                   refine py_ HT_ 3 74 ?_
                   refine ty_ HT_ HW_ 4 75 rfl hHeld (by rintro w' ⟨s0, s1, s2, s3, s4, s5, s6⟩; go_simp; with_reducible rfl) ?_
                   refine oy_ HT_ 5 (some 76) (fun K hK => ?_); refine gs_ Tryd.func62 #[.int .i64 a0, .agg #[.int .i64 ((rd_T54 (rd_L7 ab ac) aa).f0), .int .i64 ((rd_T54 (rd_L7 ab ac) aa).f1)]] (h := ?_); with_reducible refine (spec_SymOk.calls a0 ((rd_T54 (rd_L7 ab ac) aa).f0) ((rd_T54 (rd_L7 ab ac) aa).f1) true _ A24.out).mono ?_
                   rintro e et ⟨rfl, hb⟩; refine ⟨_, rfl, ?_⟩; replace ae := bb_ ae hb; replace HB := hb1_ HB hb ap
                   (try clear hb)
                   (try clear hb2)
                   (try clear hk)
                   (try clear hi)
                   refine hK.out _ _ ⟨cl_ ae 0, cl_ ae 1, cl_ ae 2, (cb_ HB aj), (cb_ HB ak), (cb_ HB bc), (cb_ HB bd)⟩ (fun hHeld => ?_); clear hK K; refine norm_y 76 (h := ?_)
                   refine py_ HT_ 6 77 ?_
                   refine py_ HT_ 7 78 ?_
                   refine py_ HT_ 8 79 ?_
                   refine py_ HT_ 9 80 ?_
                   refine py_ HT_ 10 81 ?_
                   refine pn_ HT_ 11 82 ?_
                   refine pn_ HT_ 12 83 ?_
                   refine pn_ HT_ 13 84 ?_
                   refine pn_ HT_ 14 85 ?_
                   refine pn_ HT_ 15 86 ?_
                   refine pn_ HT_ 16 87 ?_
                   refine pn_ HT_ 17 88 ?_
                   refine pn_ HT_ 18 89 ?_
                   refine pn_ HT_ 19 90 ?_
                   refine pn_ HT_ 20 91 ?_
                   refine pn_ HT_ 21 92 ?_
                   refine py_ HT_ 22 93 ?_
                   refine py_ HT_ 23 94 ?_
                   refine py_ HT_ 24 95 ?_
                   refine py_ HT_ 26 97 ?_
                   refine py_ HT_ 27 98 ?_
                   refine py_ HT_ 28 99 ?_
                   refine py_ HT_ 31 102 ?_
                   refine ty_ HT_ HW_ 25 96 rfl hHeld (by rintro w' ⟨s0, s1, s2, s3, s4, s5, s6⟩; go_simp; with_reducible rfl) ?_
                   refine ty_ HT_ HW_ 29 100 rfl hHeld (by rintro w' ⟨s0, s1, s2, s3, s4, s5, s6⟩; go_simp; with_reducible rfl) ?_
                   refine oy_ HT_ 30 (some 101) (fun K hK => ?_); refine gs_ Tryd.func64 #[.agg #[.slice (some bl) ab.length bi, .slice bf ai.length bj, .slice bh ao.length bk], .agg #[.int .i64 ((rd_T54 (rd_L7 ab ac) aa).f0), .int .i64 ((rd_T54 (rd_L7 ab ac) aa).f1)]] (h := ?_); with_reducible refine (spec_l10In.calls k4 _ _ ab _ _ ai _ _ ao ((rd_T54 (rd_L7 ab ac) aa).f0) ((rd_T54 (rd_L7 ab ac) aa).f1) bZ _ ?aV ?aW ?aX ?aY ?aZ ?ba A45.out).mono ?_
                   (case aV => exact sq_c (Kd.C_below br.out HB.out))
                   (case aW => exact bH.out)
                   (case aX => exact sq_c (Kd.C_below bm.out HB.out))
                   (case aY => exact bI.out)
                   (case aZ => exact sq_c (Kd.C_below bK.out HB.out))
                   (case ba => exact bJ.out)
                   rintro e eu ⟨rfl, hb⟩; refine ⟨_, rfl, ?_⟩; replace ae := bb_ ae hb; replace HB := hb1_ HB hb ap
                   (try clear hb)
                   (try clear hb2)
                   (try clear hk)
                   (try clear hi)
                   refine hK.out _ _ ⟨cl_ ae 0, cl_ ae 1, cl_ ae 2, (cb_ HB aj), (cb_ HB ak), (cb_ HB bc), (cb_ HB bd)⟩ (fun hHeld => ?_); clear hK K; refine norm_y 101 (h := ?_)
                   refine py_ HT_ 32 103 ?_
                   refine py_ HT_ 33 104 ?_
                   refine done_ (done_of HT_.out (by kernel_rfl)) ?_
                   try go_wp2
                   go_ret
                   exact ⟨lf_, sq_below1 HB.out ap.out⟩
                ·
                 replace c25 := Bool.eq_false_iff.mpr c25; subst c25; have H1 := ifn_ H
                 clear H; have H := H1; clear H1; obtain rfl := Option.some.inj H
                 try go_wp2
                 replace HB := hd_ HB; have aT : 0 ≤ (aa : Int) := sq_dec; have aU : aa < ((rd_L7 ab ac).length : Int) := sq_dec; obtain ⟨af, bM, ag, ah⟩ := at_T54 av.out aa aT aU; have ak := ah; have aj := ag; cases bM; replace ag := cb_ HB ag; replace ah := cb_ HB ah; replace aT := eq_true aT; replace aU := eq_true aU; refine start_ (n := 34) (S := fun w' => w'.cell? (af.add ((aa).toNat * 2)) = some (.int .i64 ((rd_T54 (rd_L7 ab ac) aa).f0)) ∧ w'.cell? ⟨(af.add ((aa).toNat * 2)).block, (af.add ((aa).toNat * 2)).off + 1, none⟩ = some (.int .i64 ((rd_T54 (rd_L7 ab ac) aa).f1))) (ds := []) #[false, false, false, false, false, false, false, false, false, false, false, false, false, false, false, false, false, false, false, false, false, false, false, false, false, false, false, false, false, false, false, false, false, false] (by kernel_rfl) rfl rfl ⟨(cb_ HB aj), (cb_ HB ak)⟩ (fun hHeld => ?_); refine with_tabW spec_SegOk.tab15 spec_SegOk.bits15 (fun HT_ HW_ => ?_); generalize wr.drew = ev at HB ag ah hHeld ⊢; refine py_ HT_ 0 71 ?_
                 refine py_ HT_ 1 72 ?_
                 refine py_ HT_ 2 73 ?_
                 refine py_ HT_ 3 74 ?_
                 refine ty_ HT_ HW_ 4 75 rfl hHeld (by rintro w' ⟨s0, s1⟩; go_simp; with_reducible rfl) ?_
                 refine oy_ HT_ 5 (some 76) (fun K hK => ?_); refine gs_ Tryd.func62 #[.int .i64 a0, .agg #[.int .i64 ((rd_T54 (rd_L7 ab ac) aa).f0), .int .i64 ((rd_T54 (rd_L7 ab ac) aa).f1)]] (h := ?_); with_reducible refine (spec_SymOk.calls a0 ((rd_T54 (rd_L7 ab ac) aa).f0) ((rd_T54 (rd_L7 ab ac) aa).f1) false _ A24.out).mono ?_
                 rintro e ew ⟨rfl, hb⟩; refine ⟨_, rfl, ?_⟩; replace HB := hb_ HB hb
                 (try clear hb)
                 (try clear hb2)
                 (try clear hk)
                 (try clear hi)
                 refine hK.out _ _ ⟨(cb_ HB aj), (cb_ HB ak)⟩ (fun hHeld => ?_); clear hK K; refine norm_y 76 (h := ?_)
                 refine py_ HT_ 6 77 ?_
                 refine py_ HT_ 7 78 ?_
                 refine pn_ HT_ 8 79 ?_
                 refine pn_ HT_ 9 80 ?_
                 refine pn_ HT_ 10 81 ?_
                 refine pn_ HT_ 11 82 ?_
                 refine pn_ HT_ 12 83 ?_
                 refine pn_ HT_ 13 84 ?_
                 refine pn_ HT_ 14 85 ?_
                 refine pn_ HT_ 15 86 ?_
                 refine pn_ HT_ 16 87 ?_
                 refine pn_ HT_ 17 88 ?_
                 refine pn_ HT_ 18 89 ?_
                 refine pn_ HT_ 19 90 ?_
                 refine pn_ HT_ 20 91 ?_
                 refine pn_ HT_ 21 92 ?_
                 refine pn_ HT_ 22 93 ?_
                 refine py_ HT_ 23 94 ?_
                 refine py_ HT_ 24 95 ?_
                 refine pn_ HT_ 25 96 ?_
                 refine pn_ HT_ 26 97 ?_
                 refine pn_ HT_ 27 98 ?_
                 refine pn_ HT_ 28 99 ?_
                 refine pn_ HT_ 29 100 ?_
                 refine pn_ HT_ 30 101 ?_
                 refine pn_ HT_ 31 102 ?_
                 refine pn_ HT_ 32 103 ?_
                 refine py_ HT_ 33 104 ?_
                 refine done_ (done_of HT_.out (by kernel_rfl)) ?_
                 try go_wp2
                 go_ret
                 exact ⟨lf_, sq_below HB.out⟩
               ·
                rw [if_neg c23] at H; exact absurd H (by simp)
              ·
               rw [if_neg c22] at H; have cQ := decide_eq_false (p := aa < ((rd_L7 ab ac).length : Int)) c22; clear c22; have H' := am_ H; clear H
               go_wp2
               go_roundg k4
               case measure => have := HJ3.out; have := HK2.out; have := HJ17.out; have := HK4.out; omega
               case rel => exact ⟨((wrap64 (co + ((rd_L7 ab ac).length : Int)))), (wrap64 (ac + 1)), sr_, sr_, H', ⟨by have := HJ3.out; have := HK2.out; have := HJ17.out; have := HK4.out; omega⟩, bk_ ae, ⟨sq_below1 HB.out ap.out⟩⟩
        ·
         rw [if_neg c17] at H; exact absurd H (by simp)
       ·
        rw [if_neg c16] at H; exact absurd H (by simp)
      ·
       rw [if_neg c15] at H; have cv := decide_eq_false (p := ac < (ab.length : Int)) c15; clear c15; have H' := am_ H; clear H
       go_wp2
       go_loopg [12] k2 (fun kq v12 w' => ∃ (ar : Int), v12 = .int .i64 ar ∧ Aside0 (spec_SegOk.l2 kq a1 (ab.length : Int) ar ab ai ao = some r) ∧ Aside0 (kq ≤ k2) ∧ Aside0 (w'.heap[aJ]? = some (.cells #[(.slice cd ab.length bi), (.slice bf ai.length bj), (.slice bh ao.length bk)] 33 (0, 0))) ∧ Aside0 (Below w.heap.size w w'))
       case atStart => exact ⟨(0), sr_, H', ⟨Nat.le_refl _⟩, bk_ ae, ⟨sq_below1 HB.out ap.out⟩⟩
       case round =>
        clear H'
        obtain ⟨ar, rfl, HA, HK3, ae, HB⟩ := hrel; cases gk with
        | zero => exact absurd HA.out (by simp [spec_SegOk.l2])
        | succ k3 =>
         have H := HA.out; clear HA; simp only [spec_SegOk.l2] at H
         by_cases c55 : ar < (wrap64 ((ab.length : Int) - 1))
         ·
          rw [if_pos c55] at H; have dk := decide_eq_true (p := ar < (wrap64 ((ab.length : Int) - 1))) c55; clear c55
          by_cases c56 : 0 ≤ ar
          ·
           rw [if_pos c56] at H; have d6 := decide_eq_true (p := 0 ≤ ar) c56; clear c56
           by_cases c57 : ar < (ai.length : Int)
           ·
            rw [if_pos c57] at H; have d7 := decide_eq_true (p := ar < (ai.length : Int)) c57; clear c57; obtain ⟨de, A58, H⟩ := be_ H; (try dsimp only at H)
            by_cases c59 : de = true
            ·
             subst c59; have H1 := ifp_ H
             clear H; have H := H1; clear H1; have H' := am_ H; clear H; obtain ⟨dq, dr, dt, dG, dH, dI⟩ := cz3_ ae; have cq : 0 ≤ (ar : Int) := sq_dec; have cu : ar < (ai.length : Int) := sq_dec; obtain ⟨dg, dc, bo, bp, bq⟩ := at_T90 bm.out ar cq cu; cases dc; replace bo := cb_ HB bo; replace bp := cb_ HB bp; replace bq := cb_ HB bq; replace cq := eq_true cq; replace cu := eq_true cu
             go_wp2_with (first | ((with_reducible refine gate_callee (f := 65) rfl ?_); refine gl_ 116 Tryd.func65 #[.agg #[.int .i64 ((rd_T90 ai ar).f0.f0), .int .i64 ((rd_T90 ai ar).f0.f1), .bool ((rd_T90 ai ar).f1)]] (h := ?_); (with_reducible refine (spec_ValOk.calls ((rd_T90 ai ar).f0.f0) ((rd_T90 ai ar).f0.f1) ((rd_T90 ai ar).f1) true _ A58.out).mono ?_); rintro e ex ⟨rfl, hb⟩; refine ⟨_, rfl, ?_⟩; replace ae := bb_ ae hb; replace HB := hb1_ HB hb ap; (try clear hb)))
             go_roundg k3
             case measure => have := HJ3.out; have := HK2.out; have := HK3.out; omega
             case rel => exact ⟨(wrap64 (ar + 1)), sr_, H', ⟨by have := HJ3.out; have := HK2.out; have := HK3.out; omega⟩, bk_ ae, ⟨sq_below1 HB.out ap.out⟩⟩
            ·
             replace c59 := Bool.eq_false_iff.mpr c59; subst c59; have H1 := ifn_ H
             clear H; have H := H1; clear H1; obtain rfl := Option.some.inj H; obtain ⟨du, dv, dw, dJ, dK, dL⟩ := cz3_ ae; have cq : 0 ≤ (ar : Int) := sq_dec; have cu : ar < (ai.length : Int) := sq_dec; obtain ⟨dg, dc, bo, bp, bq⟩ := at_T90 bm.out ar cq cu; cases dc; replace bo := cb_ HB bo; replace bp := cb_ HB bp; replace bq := cb_ HB bq; replace cq := eq_true cq; replace cu := eq_true cu
             go_wp2_with (first | ((with_reducible refine gate_callee (f := 65) rfl ?_); refine gl_ 116 Tryd.func65 #[.agg #[.int .i64 ((rd_T90 ai ar).f0.f0), .int .i64 ((rd_T90 ai ar).f0.f1), .bool ((rd_T90 ai ar).f1)]] (h := ?_); (with_reducible refine (spec_ValOk.calls ((rd_T90 ai ar).f0.f0) ((rd_T90 ai ar).f0.f1) ((rd_T90 ai ar).f1) false _ A58.out).mono ?_); rintro e ey ⟨rfl, hb⟩; refine ⟨_, rfl, ?_⟩; replace HB := hb_ HB hb; (try clear hb)))
             go_ret
             exact ⟨lf_, sq_below HB.out⟩
           ·
            rw [if_neg c57] at H; exact absurd H (by simp)
          ·
           rw [if_neg c56] at H; exact absurd H (by simp)
         ·
          rw [if_neg c55] at H; have dk := decide_eq_false (p := ar < (wrap64 ((ab.length : Int) - 1))) c55; clear c55; obtain ⟨ca, A64, H⟩ := be_ H; (try dsimp only at H)
          by_cases c65 : ca = 0
          ·
           rw [if_pos c65] at H; have dl : (ca == 0) = true := beq_iff_eq.mpr c65; have dm : (ca != 0) = false := bne_eq_false_iff_eq.mpr c65; clear c65; obtain ⟨df, A66, H⟩ := be_ H; (try dsimp only at H); obtain rfl := Option.some.inj H; obtain ⟨dx, dy, dz, dM, dN, dO⟩ := cz3_ ae
           go_wp2_with (first | ((with_reducible refine gate_callee (f := 64) rfl ?_); refine gl_ 120 Tryd.func64 #[.agg #[.slice cd ab.length bi, .slice bf ai.length bj, .slice bh ao.length bk], .agg #[.int .i64 0, .int .i64 0]] (h := ?_); (with_reducible refine (spec_l10In.calls k3 _ _ ab _ _ ai _ _ ao 0 0 ca _ ?aV ?aW ?aX ?aY ?aZ ?ba A64.out).mono ?_); (case aV => exact sq_c (Kd.C_below br.out HB.out)); (case aW => exact bH.out); (case aX => exact sq_c (Kd.C_below bm.out HB.out)); (case aY => exact bI.out); (case aZ => exact sq_c (Kd.C_below bK.out HB.out)); (case ba => exact bJ.out); rintro e ez ⟨rfl, hb⟩; refine ⟨_, rfl, ?_⟩; replace ae := bb_ ae hb; replace HB := hb1_ HB hb ap; (try clear hb); obtain ⟨dA, dB, dC, dP, dQ, dR⟩ := cz3_ ae) | (go_at_call 64; (with_reducible refine (spec_l10In.calls k3 _ _ ab _ _ ai _ _ ao a1 0 df _ ?aV ?aW ?aX ?aY ?aZ ?ba A66.out).mono ?_); (case aV => exact sq_c (Kd.C_below br.out HB.out)); (case aW => exact bH.out); (case aX => exact sq_c (Kd.C_below bm.out HB.out)); (case aY => exact bI.out); (case aZ => exact sq_c (Kd.C_below bK.out HB.out)); (case ba => exact bJ.out); rintro e eA ⟨rfl, hb⟩; replace HB := hb_ HB hb; (try clear hb)))
           go_ret
           exact ⟨lf_, sq_below HB.out⟩
          ·
           rw [if_neg c65] at H; have dl : (ca == 0) = false := beq_eq_false_iff_ne.mpr c65; have dm : (ca != 0) = true := bne_iff_ne.mpr c65; obtain rfl := Option.some.inj H; obtain ⟨dD, dE, dF, dS, dT, dU⟩ := cz3_ ae
           go_wp2_with (first | ((with_reducible refine gate_callee (f := 64) rfl ?_); refine gl_ 120 Tryd.func64 #[.agg #[.slice cd ab.length bi, .slice bf ai.length bj, .slice bh ao.length bk], .agg #[.int .i64 0, .int .i64 0]] (h := ?_); (with_reducible refine (spec_l10In.calls k3 _ _ ab _ _ ai _ _ ao 0 0 ca _ ?aV ?aW ?aX ?aY ?aZ ?ba A64.out).mono ?_); (case aV => exact sq_c (Kd.C_below br.out HB.out)); (case aW => exact bH.out); (case aX => exact sq_c (Kd.C_below bm.out HB.out)); (case aY => exact bI.out); (case aZ => exact sq_c (Kd.C_below bK.out HB.out)); (case ba => exact bJ.out); rintro e eB ⟨rfl, hb⟩; refine ⟨_, rfl, ?_⟩; replace HB := hb_ HB hb; (try clear hb)))
           go_ret
           exact ⟨lf_, sq_below HB.out⟩

end Go.Proofs.YtdmdalapckcobaaDoor.Q
