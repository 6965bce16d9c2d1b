/- Functions of the translation as Lean functions, each with a proof that a call answers so; out of the seat, by this claim's own program prt.py. -/
import Derived.Test.YtdmdalapckcobaaDoorWTab
import Derived.Test.YtdmdalapckcobaaDoorWRepsOne
import Derived.Test.YtdmdalapckcobaaDoorWGuard
import Derived.Test.YtdmdalapckcobaaDoorQx0
import Derived.Test.YtdmdalapckcobaaDoorQx16
import Derived.Test.YtdmdalapckcobaaDoorQx17
import Derived.Test.YtdmdalapckcobaaDoorQStep3
namespace Go.Proofs.YtdmdalapckcobaaDoor.Q
open Go.RowKit Go.Proofs.YtdmdalapckcobaaDoorW.PrintWords Go.Proofs.YtdmdalapckcobaaDoorW.PrintLast Go.Proofs.YtdmdalapckcobaaDoorW.PrintMore
attribute [local go_sem] max2_int min2_int max_two min_two max_three min_three max_four min_four   -- for this text's walks alone
set_option linter.unusedVariables false
set_option maxHeartbeats 8000000
set_option maxRecDepth 100000
set_option linter.unusedSimpArgs false

/-! ### impl_SegOk: function 24 -/
mutual
def impl_SegOk.j0 : Nat → Int → Int → Int → Bool → List (List (S54)) → List (S90) → List Bool → Option (Bool)
 | 0, _, _, _, _, _, _, _ => none
 | k + 1, x0, x1, x7, x42, aT, bl, bo => if x42 = true then (some false) else (impl_SegOk.l0 k x0 x1 x7 (([] : List (S54))) aT (aT.length : Int) 0 aT bl bo)
def impl_SegOk.l0 : Nat → Int → Int → Int → List (S54) → List (List (S54)) → Int → Int → List (List (S54)) → List (S90) → List Bool → Option (Bool)
 | 0, _, _, _, _, _, _, _, _, _, _ => none
 | k + 1, x0, x1, x7, x8, x45, x46, x47, aT, bl, bo => if x47 < x46 then (if 0 ≤ x47 then (if x47 < (x45.length : Int) then (impl_SegOk.l1 k x0 x1 x7 x8 (rd_L7 x45 x47) x45 x46 x47 (rd_L7 x45 x47) ((rd_L7 x45 x47).length : Int) 0 aT bl bo) else (none)) else (none)) else ((impl_ends.f x1).bind fun cv => (if 0 < (aT.length : Int) then ((impl_Sym_35.f k (rd_L7 aT 0) cv.1 cv.2.1).bind fun di => (if di = true then (if 0 ≤ (wrap64 (x7 - 1)) then (if (wrap64 (x7 - 1)) < (aT.length : Int) then ((impl_Sym_35.f k (rd_L7 aT (wrap64 (x7 - 1))) cv.2.2.1 cv.2.2.2).bind fun cQ => (if cQ = true then ((slices_ContainsFunc__impl_SegOk_1.f k bl).bind fun cE => (some (!cE))) else (some false))) else (none)) else (none)) else (some false))) else (none)))
def impl_SegOk.l1 : Nat → Int → Int → Int → List (S54) → List (S54) → List (List (S54)) → Int → Int → List (S54) → Int → Int → List (List (S54)) → List (S90) → List Bool → Option (Bool)
 | 0, _, _, _, _, _, _, _, _, _, _, _, _, _, _ => none
 | k + 1, x0, x1, x7, x8, x10, x45, x46, x47, x51, x52, x53, aT, bl, bo => if x53 < x52 then (if 0 ≤ x53 then (if x53 < (x51.length : Int) then ((impl_SymOk.f x0 ((rd_T54 x51 x53).f0) ((rd_T54 x51 x53).f1)).bind fun dg => (if dg = true then (if x53 > 0 then (if 0 ≤ (wrap64 (x53 - 1)) then (if (wrap64 (x53 - 1)) < (x10.length : Int) then ((impl_SymLess.f ((rd_T54 x10 (wrap64 (x53 - 1))).f0) ((rd_T54 x10 (wrap64 (x53 - 1))).f1) ((rd_T54 x51 x53).f0) ((rd_T54 x51 x53).f1)).bind fun cO => (if cO = true then ((impl_Sym_35.f k x8 ((rd_T54 x51 x53).f0) ((rd_T54 x51 x53).f1)).bind fun cP => (if cP = true then (some false) else (impl_SegOk.l1 k x0 x1 x7 x8 x10 x45 x46 x47 x51 x52 (wrap64 (x53 + 1)) aT bl bo))) else (some false))) else (none)) else (none)) else ((impl_Sym_35.f k x8 ((rd_T54 x51 x53).f0) ((rd_T54 x51 x53).f1)).bind fun dh => (if dh = true then (some false) else (impl_SegOk.l1 k x0 x1 x7 x8 x10 x45 x46 x47 x51 x52 (wrap64 (x53 + 1)) aT bl bo)))) else (some false))) else (none)) else (none)) else (if (x10.length : Int) = 0 then (some false) else (if x8.length + x10.length < 8796093022208 then ((some (x8 ++ x10 : List (S54))).bind fun bM => (if (bM.length : Int) > 40 then (some false) else (impl_SegOk.l0 k x0 x1 x7 bM x45 x46 (wrap64 (x47 + 1)) aT bl bo))) else (none)))
end
def impl_SegOk.f (k : Nat) (a0 : Int) (a1 : Int) (ab : List (List (S54))) (az : List (S90)) (aK : List Bool) : Option (Bool) := (impl_isShape.f a0 a1).bind fun cM => (if cM = true then ((impl_inRange.f (ab.length : Int) 1 16).bind fun cN => (if cN = true then (if (az.length : Int) = (wrap64 ((ab.length : Int) - 1)) then (impl_SegOk.j0 k a0 a1 (ab.length : Int) ((aK.length : Int) != (wrap64 ((ab.length : Int) - 1))) ab az aK) else (impl_SegOk.j0 k a0 a1 (ab.length : Int) true ab az aK)) else (impl_SegOk.j0 k a0 a1 (ab.length : Int) true ab az aK))) else (impl_SegOk.j0 k a0 a1 (ab.length : Int) true ab az aK))
theorem impl_SegOk.mono_l : ∀ k, (∀ y0 y1 y2 y3 y4 y5 y6, LeO (impl_SegOk.j0 k y0 y1 y2 y3 y4 y5 y6) (impl_SegOk.j0 (k + 1) y0 y1 y2 y3 y4 y5 y6)) ∧ (∀ y0 y1 y2 y3 y4 y5 y6 y7 y8 y9, LeO (impl_SegOk.l0 k y0 y1 y2 y3 y4 y5 y6 y7 y8 y9) (impl_SegOk.l0 (k + 1) y0 y1 y2 y3 y4 y5 y6 y7 y8 y9)) ∧ (∀ y0 y1 y2 y3 y4 y5 y6 y7 y8 y9 fF fG fH fI, LeO (impl_SegOk.l1 k y0 y1 y2 y3 y4 y5 y6 y7 y8 y9 fF fG fH fI) (impl_SegOk.l1 (k + 1) y0 y1 y2 y3 y4 y5 y6 y7 y8 y9 fF fG fH fI))
 | 0 => ⟨fun _ _ _ _ _ _ _ r h => by simp [impl_SegOk.j0] at h, fun _ _ _ _ _ _ _ _ _ _ r h => by simp [impl_SegOk.l0] at h, fun _ _ _ _ _ _ _ _ _ _ _ _ _ _ r h => by simp [impl_SegOk.l1] at h⟩
 | k + 1 => by
  obtain ⟨ih0, ih1, ih2⟩ := impl_SegOk.mono_l k; refine ⟨?_, ?_, ?_⟩
  all_goals (intros; first | unfold impl_SegOk.j0 | unfold impl_SegOk.l0 | unfold impl_SegOk.l1)
  all_goals repeat' first
   | (with_reducible exact ih0 _ _ _ _ _ _ _) | (with_reducible exact ih1 _ _ _ _ _ _ _ _ _ _) | (with_reducible exact ih2 _ _ _ _ _ _ _ _ _ _ _ _ _ _) | (with_reducible exact impl_Sym_35.mono _ _ _ _) | (with_reducible exact slices_ContainsFunc__impl_SegOk_1.mono _ _) | (with_reducible exact LeO.refl _) | (with_reducible exact LeO.none _) | (with_reducible refine LeO.ite ?_ ?_) | (with_reducible refine LeO.bind ?_ fun _ => ?_) | exact ih0 _ _ _ _ _ _ _ | exact ih1 _ _ _ _ _ _ _ _ _ _ | exact ih2 _ _ _ _ _ _ _ _ _ _ _ _ _ _ | exact impl_Sym_35.mono _ _ _ _ | exact slices_ContainsFunc__impl_SegOk_1.mono _ _ | exact LeO.none _ | refine LeO.ite ?_ ?_ | refine LeO.bind ?_ fun _ => ?_
theorem impl_SegOk.mono : ∀ a0 a1 a2 a3 a4 k, LeO (impl_SegOk.f k a0 a1 a2 a3 a4) (impl_SegOk.f (k + 1) a0 a1 a2 a3 a4) := by
 intro a0 a1 a2 a3 a4 k; obtain ⟨ih0, ih1, ih2⟩ := impl_SegOk.mono_l k; unfold impl_SegOk.f
 repeat' first
   | (with_reducible exact ih0 _ _ _ _ _ _ _) | (with_reducible exact ih1 _ _ _ _ _ _ _ _ _ _) | (with_reducible exact ih2 _ _ _ _ _ _ _ _ _ _ _ _ _ _) | (with_reducible exact impl_Sym_35.mono _ _ _ _) | (with_reducible exact slices_ContainsFunc__impl_SegOk_1.mono _ _) | (with_reducible exact LeO.refl _) | (with_reducible exact LeO.none _) | (with_reducible refine LeO.ite ?_ ?_) | (with_reducible refine LeO.bind ?_ fun _ => ?_) | exact ih0 _ _ _ _ _ _ _ | exact ih1 _ _ _ _ _ _ _ _ _ _ | exact ih2 _ _ _ _ _ _ _ _ _ _ _ _ _ _ | exact impl_Sym_35.mono _ _ _ _ | exact slices_ContainsFunc__impl_SegOk_1.mono _ _ | exact LeO.none _ | refine LeO.ite ?_ ?_ | refine LeO.bind ?_ fun _ => ?_
def impl_SegOk.T11 : Bool × List (List Nat × List Nat) := (true, [([], []), ([], []), ([0, 1], [0, 1]), ([2], [2]), ([3, 2], [3]), ([4], [4]), ([5, 4], [4, 5]), ([6, 4, 4], [4, 6]), ([7], [7]), ([7], [7]), ([9, 7], [7, 9]), ([8, 10, 7], [7, 8, 10]), ([11, 7], [7, 11]), ([7], [7]), ([12, 13, 7, 7], [7, 12, 13]), ([14, 7], [7, 14]), ([7, 15, 4], [4, 7, 15]), ([4, 16], [4, 16]), ([17, 14], [17]), ([18], [18]), ([18], [18]), ([19, 20, 18, 18], [18, 19, 20]), ([18, 21], [18, 21])])
def impl_SegOk.B11 : List Nat := [0, 0, 3, 7, 15, 31, 63, 127, 255, 255, 767, 2047, 4095, 255, 16383, 32767, 65535, 131071, 262143, 524287, 524287, 2097151, 4194303]
theorem impl_SegOk.tab11 : rtab .any (opsOf Tryd.f24 11) = impl_SegOk.T11 := by kernel_rfl
theorem impl_SegOk.bits11 : waitsOk impl_SegOk.T11.2 impl_SegOk.B11 = true := by kernel_rfl
def impl_SegOk.T21 : Bool × List (List Nat × List Nat) := (true, [([], []), ([0], [0]), ([1], [1]), ([2], [2]), ([], []), ([3, 4], [3, 4]), ([5, 5], [5]), ([6], [6]), ([7, 6], [6, 7]), ([6], [6]), ([9, 6], [6, 9]), ([8, 10, 6], [6, 8, 10]), ([11, 6], [6, 11]), ([6], [6]), ([12, 13, 6, 6], [6, 12, 13]), ([6, 14], [6, 14]), ([15, 14], [15]), ([16], [16]), ([17, 16], [16, 17]), ([18, 16, 16], [16, 18]), ([19, 16], [16, 19]), ([16, 20], [16, 20]), ([21, 19, 0, 1, 2, 3, 4, 5, 6, 7, 8, 9, 10, 11, 12, 13, 14, 15, 16, 17, 18, 19, 20, 21], [21])])
def impl_SegOk.B21 : List Nat := [0, 1, 3, 7, 0, 31, 63, 127, 255, 127, 639, 2047, 4095, 127, 16383, 32767, 65535, 131071, 262143, 524287, 1048575, 2097151, 4194303]
theorem impl_SegOk.tab21 : rtab .any (opsOf Tryd.f24 21) = impl_SegOk.T21 := by kernel_rfl
theorem impl_SegOk.bits21 : waitsOk impl_SegOk.T21.2 impl_SegOk.B21 = true := by kernel_rfl
theorem impl_SegOk.calls (k : Nat) (a0 : Int) (a1 : Int) (cd : Option Addr) (bz : Nat) (ab : List (List (S54))) (bt : Option Addr) (bu : Nat) (az : List (S90)) (bv : Option Addr) (bA : Nat) (aK : List Bool) (r : Bool) (w : World) (hG0 : GL0 w) (dc : Kd.C (Kd.slice 54 k54) w cd ab.length ab) (cZ : ab.length ≤ bz) (dd : Kd.C k90 w bt az.length az) (da : az.length ≤ bu) (de : Kd.C Kd.bool w bv aK.length aK) (db : aK.length ≤ bA) (h : impl_SegOk.f k a0 a1 ab az aK = some r) :
  Calls Tryd.prog 24 #[.int .i64 a0, .int .i64 a1, .agg #[.slice cd ab.length bz, .slice bt az.length bu, .slice bv aK.length bA]] w fun e w' => e = .returned (.bool r) ∧ Below w.heap.size w w' := by
 have hu33 := Tryd.underlying33; have hu54 := Tryd.underlying54; have bN := am_ dc; have fk := am_ cZ; clear dc cZ; have dm := am_ dd; have dk := am_ da; clear dd da; have fm := am_ de; have fl := am_ db; clear de db; have HB := am_ (Below.refl w.heap.size w); have HG0 := am_ hG0; clear hG0; have H : ((impl_isShape.f a0 a1).bind fun cM => (if cM = true then ((impl_inRange.f (ab.length : Int) 1 16).bind fun cN => (if cN = true then (if (az.length : Int) = (wrap64 ((ab.length : Int) - 1)) then (impl_SegOk.j0 k a0 a1 (ab.length : Int) ((aK.length : Int) != (wrap64 ((ab.length : Int) - 1))) ab az aK) else (impl_SegOk.j0 k a0 a1 (ab.length : Int) true ab az aK)) else (impl_SegOk.j0 k a0 a1 (ab.length : Int) true ab az aK))) else (impl_SegOk.j0 k a0 a1 (ab.length : Int) true ab az aK))) = some r := h; clear h; have eJ := am_ H; clear H
 go_enter Tryd.func24, Tryd.ntmps24
 go_upto_region 2 with (first | ((with_reducible refine gate_dst (N := 5) rfl ?_); (try (refine gate_guard (by rfl) ?_; dsimp only)); refine box_y 5 #[.slice cd ab.length bz, .slice bt az.length bu, .slice bv aK.length bA] 33 (h := ?_); intro ba hg w5 hbox hb; have ae := am_ hbox; have fj := gz_ hg HB; have aj := gz_ hg HB; replace HB := hb_ HB hb; clear hb hbox hg; obtain ⟨ck, cl, cm, cn, co, cp⟩ := cz3_ ae))
 (try simp only [Act.put, List.setIfInBounds_toArray, List.set_cons_zero, List.set_cons_succ])
 go_cut [42] (fun v42 wc => ∃ (kq : Nat) (cD : Bool), v42 = .bool cD ∧ Aside0 (impl_SegOk.j0 kq a0 a1 (ab.length : Int) cD ab az aK = some r) ∧ Aside0 (kq ≤ k) ∧ Aside0 (wc.heap[ba]? = some (.cells #[(.slice cd ab.length bz), (.slice bt az.length bu), (.slice bv aK.length bA)] 33 (0, 0))) ∧ Aside0 (Below w.heap.size w wc))
 case first =>
  have H := eJ.out; clear eJ; obtain ⟨cM, A7, H⟩ := be_ H; (try dsimp only at H)
  by_cases c8 : cM = true
  ·
   subst c8; have H1 := ifp_ H
   clear H; have H := H1; clear H1; obtain ⟨cN, A9, H⟩ := be_ H; (try dsimp only at H)
   by_cases c10 : cN = true
   ·
    subst c10; have H1 := ifp_ H
    clear H; have H := H1; clear H1
    by_cases c11 : (az.length : Int) = (wrap64 ((ab.length : Int) - 1))
    ·
     rw [if_pos c11] at H; have bE : ((az.length : Int) == (wrap64 ((ab.length : Int) - 1))) = true := beq_iff_eq.mpr c11; have cw : ((az.length : Int) != (wrap64 ((ab.length : Int) - 1))) = false := bne_eq_false_iff_eq.mpr c11; clear c11
     (first | rw [bE] | (simp only [i64_w, i32_w]; rw [bE]) | skip)
     have H' := am_ H; clear H
     go_wp2_with (first | ((with_reducible refine gate_callee (f := 66) rfl ?_); refine gl_ 20 Tryd.func66 #[.int .i64 a0, .int .i64 a1] (h := ?_); (with_reducible refine (impl_isShape.calls a0 a1 true _ A7.out).mono ?_); rintro e w' ⟨rfl, ⟨nd, rfl⟩⟩; refine ⟨_, rfl, ?_⟩) | (go_at_call 67; (with_reducible refine (impl_inRange.calls (ab.length : Int) 1 16 true _ A9.out).mono ?_); rintro e w' ⟨rfl, ⟨nd, rfl⟩⟩; obtain ⟨bP, bQ, bR, bV, bW, bX⟩ := cz3_ ae))
     go_meet
     case rel => exact ⟨_, (((aK.length : Int) != (wrap64 ((ab.length : Int) - 1)))), sr_, H', om_, bk_ ae, ⟨sq_below1 HB.out aj.out⟩⟩
    ·
     rw [if_neg c11] at H; have bE : ((az.length : Int) == (wrap64 ((ab.length : Int) - 1))) = false := beq_eq_false_iff_ne.mpr c11; have cw : ((az.length : Int) != (wrap64 ((ab.length : Int) - 1))) = true := bne_iff_ne.mpr c11
     (first | rw [bE] | (simp only [i64_w, i32_w]; rw [bE]) | skip)
     have H' := am_ H; clear H
     go_wp2_with (first | ((with_reducible refine gate_callee (f := 66) rfl ?_); refine gl_ 20 Tryd.func66 #[.int .i64 a0, .int .i64 a1] (h := ?_); (with_reducible refine (impl_isShape.calls a0 a1 true _ A7.out).mono ?_); rintro e w' ⟨rfl, ⟨nd, rfl⟩⟩; refine ⟨_, rfl, ?_⟩) | (go_at_call 67; (with_reducible refine (impl_inRange.calls (ab.length : Int) 1 16 true _ A9.out).mono ?_); rintro e w' ⟨rfl, ⟨nd, rfl⟩⟩; obtain ⟨bS, bT, bU, bY, bZ, ca⟩ := cz3_ ae))
     go_meet
     case rel => exact ⟨_, (true), sr_, H', om_, bk_ ae, ⟨sq_below1 HB.out aj.out⟩⟩
   ·
    replace c10 := Bool.eq_false_iff.mpr c10; subst c10; have H1 := ifn_ H
    clear H; have H := H1; clear H1; have H' := am_ H; clear H
    go_wp2_with (first | ((with_reducible refine gate_callee (f := 66) rfl ?_); refine gl_ 20 Tryd.func66 #[.int .i64 a0, .int .i64 a1] (h := ?_); (with_reducible refine (impl_isShape.calls a0 a1 true _ A7.out).mono ?_); rintro e w' ⟨rfl, ⟨nd, rfl⟩⟩; refine ⟨_, rfl, ?_⟩) | (go_at_call 67; (with_reducible refine (impl_inRange.calls (ab.length : Int) 1 16 false _ A9.out).mono ?_); rintro e w' ⟨rfl, ⟨nd, rfl⟩⟩))
    go_meet
    case rel => exact ⟨_, (true), sr_, H', om_, bk_ ae, ⟨sq_below1 HB.out aj.out⟩⟩
  ·
   replace c8 := Bool.eq_false_iff.mpr c8; subst c8; have H1 := ifn_ H
   clear H; have H := H1; clear H1; have H' := am_ H; clear H
   go_wp2_with (first | ((with_reducible refine gate_callee (f := 66) rfl ?_); refine gl_ 20 Tryd.func66 #[.int .i64 a0, .int .i64 a1] (h := ?_); (with_reducible refine (impl_isShape.calls a0 a1 false _ A7.out).mono ?_); rintro e w' ⟨rfl, ⟨nd, rfl⟩⟩; refine ⟨_, rfl, ?_⟩))
   go_meet
   case rel => exact ⟨_, (true), sr_, H', om_, bk_ ae, ⟨sq_below1 HB.out aj.out⟩⟩
 case rest =>
  clear eJ
  obtain ⟨kq, cD, rfl, HA, HJ3, ae, HB⟩ := hcut; cases kq with
  | zero => exact absurd HA.out (by simp [impl_SegOk.j0])
  | succ ff =>
   have H := HA.out; clear HA; simp only [impl_SegOk.j0] at H
   by_cases c14 : cD = true
   ·
    subst c14; have H1 := ifp_ H
    clear H; have H := H1; clear H1; obtain rfl := Option.some.inj H
    go_wp2
    go_ret
    exact ⟨lf_, sq_below1 HB.out aj.out⟩
   ·
    replace c14 := Bool.eq_false_iff.mpr c14; subst c14; have H1 := ifn_ H
    clear H; have H := H1; clear H1; obtain ⟨d5, ch⟩ : ∃ y_ : List (S54), y_ = (([] : List (S54))) := ⟨_, rfl⟩; replace H : (impl_SegOk.l0 ff a0 a1 (ab.length : Int) d5 ab (ab.length : Int) 0 ab az aK) = some r := by first | (rw [ch]; with_reducible exact H) | (have H2_ := (Option.bind_some _ _).symm.trans H; rw [ch]; with_reducible exact H2_) | (have H2_ := (Option.bind_some _ _).symm.trans H; with_reducible exact H2_) | with_reducible exact H | (rw [ch]; exact H) | exact H
    have cW := am_ ch; clear ch; have H' := am_ H; clear H
    go_wp2_with (first | ((with_reducible refine gate_dst (N := 43) rfl ?_); (try (refine gate_guard (by rfl) ?_; dsimp only)); refine Kd.R_lit k54 _ 54 ?hg (N := 43) ?hd (xs := ([] : List (S54))) (inner := []) (ok := fun _ => True) (okp := fun _ => True) ?hr ?hp (fun _ hk => hk) trivial (Below.refl _ _) (Nat.le_refl _) (by simp) ?_; (case hd => rfl); (case hg => rfl); (case hr => first | (go_simp; done) | (go_simp; rfl)); (case hp => exact (Reps.none _ _)); intro v356 ge cL hb hg_ hnew_; clear hg_ hnew_; (first | rw [← cW.out] at cL | (simp only [Int.reduceToNat] at cL; rw [← cW.out] at cL)); have dl := am_ (Kd.R_lower cL (below_size (sq_below1 HB.out aj.out))); replace ae := bb_ ae hb; replace HB := hb1_ HB hb aj; clear hb cL; obtain ⟨cx, cy, cz, cA, cB, cC⟩ := cz3_ ae))
    go_loopg [8, 47] ff (fun kq v8 v47 w' => ∃ (aX : List (S54)) (aa : Int), v47 = .int .i64 aa ∧ Aside0 (impl_SegOk.l0 kq a0 a1 (ab.length : Int) aX ab (ab.length : Int) aa ab az aK = some r) ∧ Aside0 (kq ≤ ff) ∧ Aside0 (Kd.R k54 54 w' w.heap.size (fun _ => True) v8 aX) ∧ Aside0 (w'.heap[ba]? = some (.cells #[(.slice cd ab.length bz), (.slice bt az.length bu), (.slice bv aK.length bA)] 33 (0, 0))) ∧ Aside0 (Below w.heap.size w w'))
    case atStart => exact ⟨(d5), (0), sr_, H', ⟨Nat.le_refl _⟩, ⟨by (with_reducible repeat (first | apply Kd.R_alloc | apply Kd.R_drewN | apply Kd.R_drew)); exact dl.out⟩, bk_ ae, ⟨sq_below1 HB.out aj.out⟩⟩
    case round =>
     clear H'
     obtain ⟨aX, aa, rfl, HA, HK2, ah, ae, HB⟩ := hrel; cases gk with
     | zero => exact absurd HA.out (by simp [impl_SegOk.l0])
     | succ k2 =>
      have H := HA.out; clear HA; simp only [impl_SegOk.l0] at H
      by_cases c18 : aa < (ab.length : Int)
      ·
       rw [if_pos c18] at H; have cY := decide_eq_true (p := aa < (ab.length : Int)) c18; clear c18
       by_cases c19 : 0 ≤ aa
       ·
        rw [if_pos c19] at H; have dn := decide_eq_true (p := 0 ≤ aa) c19; clear c19
        by_cases c20 : aa < (ab.length : Int)
        ·
         rw [if_pos c20] at H; have dp := decide_eq_true (p := aa < (ab.length : Int)) c20; clear c20; have H' := am_ H; clear H; have cR : 0 ≤ (aa : Int) := sq_dec; have cS : aa < (ab.length : Int) := sq_dec; obtain ⟨cH, eE, eK, eP, cb, hl358_0, hi358_0⟩ := at_L7 bN.out aa cR cS; cases eP; replace cb := cb_ HB cb; have aU := am_ hi358_0; have d6 := am_ hl358_0; clear hi358_0 hl358_0; replace cR := eq_true cR; replace cS := eq_true cS
         go_wp2
         go_loopg [53] k2 (fun kq v53 w' => ∃ (ac : Int), v53 = .int .i64 ac ∧ Aside0 (impl_SegOk.l1 kq a0 a1 (ab.length : Int) aX (rd_L7 ab aa) ab (ab.length : Int) aa (rd_L7 ab aa) ((rd_L7 ab aa).length : Int) ac ab az aK = some r) ∧ Aside0 (kq ≤ k2) ∧ Aside0 (Kd.R k54 54 w' w.heap.size (fun _ => True) u8 aX) ∧ Aside0 (w'.heap[ba]? = some (.cells #[(.slice (some cH) ab.length bz), (.slice bt az.length bu), (.slice bv aK.length bA)] 33 (0, 0))) ∧ Aside0 (Below w.heap.size w w'))
         case atStart => exact ⟨(0), sr_, H', ⟨Nat.le_refl _⟩, ⟨by (with_reducible repeat (first | apply Kd.R_alloc | apply Kd.R_drewN | apply Kd.R_drew)); exact ah.out⟩, bk_ ae, ⟨sq_below1 HB.out aj.out⟩⟩
         case round =>
          clear H'
          obtain ⟨ac, rfl, HA, HK3, ah, ae, HB⟩ := hrel; cases gk with
          | zero => exact absurd HA.out (by simp [impl_SegOk.l1])
          | succ k3 =>
           have H := HA.out; clear HA; simp only [impl_SegOk.l1] at H
           by_cases c21 : ac < ((rd_L7 ab aa).length : Int)
           ·
            rw [if_pos c21] at H; have dq := decide_eq_true (p := ac < ((rd_L7 ab aa).length : Int)) c21; clear c21
            by_cases c22 : 0 ≤ ac
            ·
             rw [if_pos c22] at H; have fo := decide_eq_true (p := 0 ≤ ac) c22; clear c22
             by_cases c23 : ac < ((rd_L7 ab aa).length : Int)
             ·
              rw [if_pos c23] at H; have fp := decide_eq_true (p := ac < ((rd_L7 ab aa).length : Int)) c23; clear c23; obtain ⟨dg, A24, H⟩ := be_ H; (try dsimp only at H)
              by_cases c25 : dg = true
              ·
               subst c25; have H1 := ifp_ H
               clear H; have H := H1; clear H1
               by_cases c26 : ac > 0
               ·
                rw [if_pos c26] at H; have dr := decide_eq_true (p := 0 < ac) c26; clear c26; obtain ⟨aw, bB⟩ : ∃ j_ : Int, (wrap64 (ac - 1)) = j_ := ⟨_, rfl⟩; replace H : (if 0 ≤ (aw) then (if (aw) < ((rd_L7 ab aa).length : Int) then ((impl_SymLess.f ((rd_T54 (rd_L7 ab aa) (aw)).f0) ((rd_T54 (rd_L7 ab aa) (aw)).f1) ((rd_T54 (rd_L7 ab aa) ac).f0) ((rd_T54 (rd_L7 ab aa) ac).f1)).bind fun cO => (if cO = true then ((impl_Sym_35.f k3 aX ((rd_T54 (rd_L7 ab aa) ac).f0) ((rd_T54 (rd_L7 ab aa) ac).f1)).bind fun cP => (if cP = true then (some false) else (impl_SegOk.l1 k3 a0 a1 (ab.length : Int) aX (rd_L7 ab aa) ab (ab.length : Int) aa (rd_L7 ab aa) ((rd_L7 ab aa).length : Int) (wrap64 (ac + 1)) ab az aK))) else (some false))) else (none)) else (none)) = some r := by first | (rw [bB] at H; exact H) | (simp only [bB] at H ⊢; exact H)
                (try rw [bB] at A24)
                have hji27w : (IntKind.i64.wrap (ac - 1)) = aw := (i64_w _).trans bB
                by_cases c28 : 0 ≤ (aw)
                ·
                 rw [if_pos c28] at H; have fq := decide_eq_true (p := 0 ≤ (aw)) c28; clear c28
                 by_cases c29 : (aw) < ((rd_L7 ab aa).length : Int)
                 ·
                  rw [if_pos c29] at H; have ft := decide_eq_true (p := (aw) < ((rd_L7 ab aa).length : Int)) c29; clear c29; obtain ⟨cO, A30, H⟩ := be_ H; (try dsimp only at H)
                  by_cases c31 : cO = true
                  ·
                   subst c31; have H1 := ifp_ H
                   clear H; have H := H1; clear H1; obtain ⟨cP, A32, H⟩ := be_ H; (try dsimp only at H)
                   by_cases c33 : cP = true
                   ·
                    subst c33; have H1 := ifp_ H
                    clear H; have H := H1; clear H1; obtain rfl := Option.some.inj H; have bf : 0 ≤ (ac : Int) := sq_dec; have bh : ac < ((rd_L7 ab aa).length : Int) := sq_dec; obtain ⟨aZ, bH, ax, ay⟩ := at_T54 aU.out ac bf bh; cases bH; replace ax := cb_ HB ax; replace ay := cb_ HB ay; replace bf := eq_true bf; replace bh := eq_true bh
                    try go_wp2_with (first | ((with_reducible refine gate_dst (N := 12) rfl ?_); (try (refine gate_guard (by rfl) ?_; dsimp only)); refine box_y 12 #[.int .i64 0, .int .i64 0] 54 (h := ?_); intro ag hg eA hbox hb; replace ah := am_ (Kd.R_below (Kd.R_elderB (sq_row ah.out) ag (Nat.le_of_eq hg.symm)) hb); have af := am_ hbox; have ce := gz_ hg HB; have av := gz_ hg HB; replace HB := hb_ HB hb; clear hb hbox hg; obtain ⟨d7, d8, em, en⟩ := cz2_ af))
                    have n0_ : Aside0 (Kd.R k54 54 ((eA.setCell ⟨ag, 0, none⟩ (.int .i64 ((rd_T54 (rd_L7 ab aa) ac).f0))).setCell ⟨ag, 1, none⟩ (.int .i64 ((rd_T54 (rd_L7 ab aa) ac).f1))) w.heap.size (fun k_ => k_ ≠ ag) u8 aX) := ⟨by (with_reducible repeat (first | apply Kd.R_alloc | apply Kd.R_drewN | apply Kd.R_drew)); exact Kd.R_mono (Kd.R_far (p := ⟨ag, 1, none⟩) (Kd.R_far (p := ⟨ag, 0, none⟩) (Kd.R_mono ah.out (fun k_ hk => (⟨hk, hk.2⟩ : _ ∧ k_ ≠ ag))) (fun _ hk => hk.2) (.int .i64 ((rd_T54 (rd_L7 ab aa) ac).f0))) (fun _ hk => hk.2) (.int .i64 ((rd_T54 (rd_L7 ab aa) ac).f1))) (fun _ hk => hk.1.2)⟩; have n1_ : Aside0 (((eA.setCell ⟨ag, 0, none⟩ (.int .i64 ((rd_T54 (rd_L7 ab aa) ac).f0))).setCell ⟨ag, 1, none⟩ (.int .i64 ((rd_T54 (rd_L7 ab aa) ac).f1))).heap[ag]? = some (.cells #[.int .i64 ((rd_T54 (rd_L7 ab aa) ac).f0), .int .i64 ((rd_T54 (rd_L7 ab aa) ac).f1)] 54 (0, 0))) := ⟨by (with_reducible repeat (first | refine blk_drewN ?_ _ | refine blk_drew ?_ | refine blk_alloc ?_ _)); refine blk_put (cs := #[.int .i64 ((rd_T54 (rd_L7 ab aa) ac).f0), .int .i64 0]) ?_ 1 _ rfl; (with_reducible repeat (first | refine blk_drewN ?_ _ | refine blk_drew ?_ | refine blk_alloc ?_ _)); refine blk_put (cs := #[.int .i64 0, .int .i64 0]) ?_ 0 _ rfl; (with_reducible repeat (first | refine blk_drewN ?_ _ | refine blk_drew ?_ | refine blk_alloc ?_ _)); exact af.out⟩; have n2_ : Aside0 (Below w.heap.size w ((eA.setCell ⟨ag, 0, none⟩ (.int .i64 ((rd_T54 (rd_L7 ab aa) ac).f0))).setCell ⟨ag, 1, none⟩ (.int .i64 ((rd_T54 (rd_L7 ab aa) ac).f1)))) := ⟨sq_below1 HB.out av.out⟩
                    (try clear ah)
                    (try clear af)
                    (try clear HB)
                    generalize ((eA.setCell ⟨ag, 0, none⟩ (.int .i64 ((rd_T54 (rd_L7 ab aa) ac).f0))).setCell ⟨ag, 1, none⟩ (.int .i64 ((rd_T54 (rd_L7 ab aa) ac).f1))) = f3 at n0_ n1_ n2_ ⊢; have ah := n0_; have af := n1_; have HB := n2_; clear n0_ n1_ n2_; replace ah := rd_ ah; replace af := bd_ af; replace HB := hd_ HB; have bI : 0 ≤ ((aw) : Int) := sq_dec; have bK : (aw) < ((rd_L7 ab aa).length : Int) := sq_dec; obtain ⟨cf, cJ, aH, aI⟩ := at_T54 aU.out (aw) bI bK; have aN := aI; have aM := aH; obtain rfl : aZ = cf := (by injection cJ); replace aH := cb_ HB aH; replace aI := cb_ HB aI; replace bI := eq_true bI; replace bK := eq_true bK; refine start_ (n := 23) (S := fun w' => w'.cell? ⟨ag, 0, none⟩ = some (.int .i64 ((rd_T54 (rd_L7 ab aa) ac).f0)) ∧ w'.cell? ⟨ag, 1, none⟩ = some (.int .i64 ((rd_T54 (rd_L7 ab aa) ac).f1)) ∧ w'.cell? (aZ.add (((aw)).toNat * 2)) = some (.int .i64 ((rd_T54 (rd_L7 ab aa) (aw)).f0)) ∧ w'.cell? ⟨(aZ.add (((aw)).toNat * 2)).block, (aZ.add (((aw)).toNat * 2)).off + 1, none⟩ = some (.int .i64 ((rd_T54 (rd_L7 ab aa) (aw)).f1))) (ds := []) #[false, false, false, false, false, false, false, false, false, false, false, false, false, false, false, false, false, false, false, false, false, false, false] (by kernel_rfl) rfl rfl ⟨cl_ af 0, cl_ af 1, (cb_ HB aM), (cb_ HB aN)⟩ (fun hHeld => ?_); refine with_tabW impl_SegOk.tab11 impl_SegOk.bits11 (fun HT_ HW_ => ?_); generalize f3.drew = gf at ah af HB aH aI hHeld ⊢; refine py_ HT_ 0 58 ?_
                    refine ty_ HT_ HW_ 1 59 rfl hHeld (by rintro w' ⟨s0, s1, s2, s3⟩; go_simp; with_reducible rfl) ?_
                    refine oy_ HT_ 2 (some 60) (fun K hK => ?_); refine gs_ Tryd.func68 #[.int .i64 a0, .agg #[.int .i64 ((rd_T54 (rd_L7 ab aa) ac).f0), .int .i64 ((rd_T54 (rd_L7 ab aa) ac).f1)]] (h := ?_); with_reducible refine (impl_SymOk.calls a0 ((rd_T54 (rd_L7 ab aa) ac).f0) ((rd_T54 (rd_L7 ab aa) ac).f1) true _ A24.out).mono ?_
                    rintro e gh ⟨rfl, hb⟩; refine ⟨_, rfl, ?_⟩; replace ah := rb_ ah hb; replace af := bb_ af hb; replace HB := hb1_ HB hb av
                    (try clear hb)
                    (try clear hb2)
                    (try clear hk)
                    (try clear hi)
                    refine hK.out _ _ ⟨cl_ af 0, cl_ af 1, (cb_ HB aM), (cb_ HB aN)⟩ (fun hHeld => ?_); clear hK K; refine norm_y 60 (h := ?_)
                    refine py_ HT_ 3 61 ?_
                    refine py_ HT_ 4 62 ?_
                    refine py_ HT_ 5 63 ?_
                    refine py_ HT_ 6 64 ?_
                    refine py_ HT_ 7 65 ?_
                    refine py_ HT_ 8 66 ?_
                    refine py_ HT_ 9 67 ?_
                    refine py_ HT_ 10 68 ?_
                    refine py_ HT_ 11 69 ?_
                    refine ty_ HT_ HW_ 12 70 rfl hHeld (by rintro w' ⟨s0, s1, s2, s3⟩; go_simp; with_reducible rfl) ?_
                    refine ty_ HT_ HW_ 13 71 rfl hHeld (by rintro w' ⟨s0, s1, s2, s3⟩; go_simp; with_reducible rfl) ?_
                    refine oy_ HT_ 14 (some 72) (fun K hK => ?_); refine goes_ Tryd.func69 (by kernel_rfl) rfl #[.agg #[.int .i64 ((rd_T54 (rd_L7 ab aa) (aw)).f0), .int .i64 ((rd_T54 (rd_L7 ab aa) (aw)).f1)], .agg #[.int .i64 ((rd_T54 (rd_L7 ab aa) ac).f0), .int .i64 ((rd_T54 (rd_L7 ab aa) ac).f1)]] (by rfl) rfl rfl (by (try simp only [List.map_toArray, List.map_cons, List.map_nil]); first | done | (simp only [bB]; rfl) | rfl | (simp only [List.length_drop, List.length_take]; rfl)) ?_; with_reducible refine (impl_SymLess.calls ((rd_T54 (rd_L7 ab aa) (aw)).f0) ((rd_T54 (rd_L7 ab aa) (aw)).f1) ((rd_T54 (rd_L7 ab aa) ac).f0) ((rd_T54 (rd_L7 ab aa) ac).f1) true _ A30.out).mono ?_
                    rintro e gi ⟨rfl, hb⟩; refine ⟨_, rfl, ?_⟩; replace ah := rb_ ah hb; replace af := bb_ af hb; replace HB := hb1_ HB hb av
                    (try clear hb)
                    (try clear hb2)
                    (try clear hk)
                    (try clear hi)
                    obtain ⟨eF, eL, dx⟩ := Kd.R_slice ah.out
                    (first | subst dx | (injection dx with f1_ f2_ f3_; have f4_ := f1_.symm; have f5_ := f3_.symm; clear f1_ f2_ f3_; subst f4_; subst f5_))
                    refine hK.out _ _ ⟨cl_ af 0, cl_ af 1, (cb_ HB aM), (cb_ HB aN)⟩ (fun hHeld => ?_); clear hK K; refine norm_y 72 (h := ?_)
                    refine py_ HT_ 15 73 ?_
                    refine py_ HT_ 16 74 ?_
                    refine py_ HT_ 17 75 ?_
                    refine py_ HT_ 18 76 ?_
                    refine py_ HT_ 19 77 ?_
                    refine ty_ HT_ HW_ 20 78 rfl hHeld (by rintro w' ⟨s0, s1, s2, s3⟩; go_simp; with_reducible rfl) ?_
                    refine oy_ HT_ 21 (some 79) (fun K hK => ?_); refine gs_ Tryd.func35 #[.slice eF aX.length eL, .agg #[.int .i64 ((rd_T54 (rd_L7 ab aa) ac).f0), .int .i64 ((rd_T54 (rd_L7 ab aa) ac).f1)]] (h := ?_); with_reducible refine (impl_Sym_35.calls k3 _ _ aX ((rd_T54 (rd_L7 ab aa) ac).f0) ((rd_T54 (rd_L7 ab aa) ac).f1) true _ ?aV ?aW A32.out).mono ?_
                    (case aV => exact sq_c ((Kd.R_reads' ah.out).2.2))
                    (case aW => exact (Kd.R_reads' ah.out).2.1)
                    rintro e gj ⟨rfl, hb⟩; refine ⟨_, rfl, ?_⟩; replace ah := rb_ ah hb; replace af := bb_ af hb; replace HB := hb1_ HB hb av
                    (try clear hb)
                    (try clear hb2)
                    (try clear hk)
                    (try clear hi)
                    refine hK.out _ _ ⟨cl_ af 0, cl_ af 1, (cb_ HB aM), (cb_ HB aN)⟩ (fun hHeld => ?_); clear hK K; refine norm_y 79 (h := ?_)
                    refine py_ HT_ 22 80 ?_
                    refine done_ (done_of HT_.out (by kernel_rfl)) ?_
                    try go_wp2
                    go_ret
                    exact ⟨by first | rfl | (simp [errW_none, errW_some] <;> rfl) | (simp only [← bB]; first | rfl | (simp [errW_none, errW_some] <;> rfl)) | (simp [*, errW_none, errW_some] <;> rfl), sq_below1 HB.out av.out⟩
                   ·
                    replace c33 := Bool.eq_false_iff.mpr c33; subst c33; have H1 := ifn_ H
                    clear H; have H := H1; clear H1; have H' := am_ H; clear H; have bf : 0 ≤ (ac : Int) := sq_dec; have bh : ac < ((rd_L7 ab aa).length : Int) := sq_dec; obtain ⟨aZ, bH, ax, ay⟩ := at_T54 aU.out ac bf bh; cases bH; replace ax := cb_ HB ax; replace ay := cb_ HB ay; replace bf := eq_true bf; replace bh := eq_true bh
                    try go_wp2_with (first | ((with_reducible refine gate_dst (N := 12) rfl ?_); (try (refine gate_guard (by rfl) ?_; dsimp only)); refine box_y 12 #[.int .i64 0, .int .i64 0] 54 (h := ?_); intro ag hg d3 hbox hb; replace ah := am_ (Kd.R_below (Kd.R_elderB (sq_row ah.out) ag (Nat.le_of_eq hg.symm)) hb); have af := am_ hbox; have ce := gz1_ hg HB aj; have av := gz1_ hg HB aj; replace HB := hb1_ HB hb aj; have aY := nb_ hg ae; replace ae := bb_ ae hb; have bD := ns_ aY; clear hb hbox hg; have fz := bD.out; have fC := aY.out; obtain ⟨d9, ea, eo, eq⟩ := cz2_ af))
                    have n0_ : Aside0 (Kd.R k54 54 ((d3.setCell ⟨ag, 0, none⟩ (.int .i64 ((rd_T54 (rd_L7 ab aa) ac).f0))).setCell ⟨ag, 1, none⟩ (.int .i64 ((rd_T54 (rd_L7 ab aa) ac).f1))) w.heap.size (fun k_ => k_ ≠ ag) u8 aX) := ⟨by (with_reducible repeat (first | apply Kd.R_alloc | apply Kd.R_drewN | apply Kd.R_drew)); exact Kd.R_mono (Kd.R_far (p := ⟨ag, 1, none⟩) (Kd.R_far (p := ⟨ag, 0, none⟩) (Kd.R_mono ah.out (fun k_ hk => (⟨hk, hk.2⟩ : _ ∧ k_ ≠ ag))) (fun _ hk => hk.2) (.int .i64 ((rd_T54 (rd_L7 ab aa) ac).f0))) (fun _ hk => hk.2) (.int .i64 ((rd_T54 (rd_L7 ab aa) ac).f1))) (fun _ hk => hk.1.2)⟩; have n1_ : Aside0 (((d3.setCell ⟨ag, 0, none⟩ (.int .i64 ((rd_T54 (rd_L7 ab aa) ac).f0))).setCell ⟨ag, 1, none⟩ (.int .i64 ((rd_T54 (rd_L7 ab aa) ac).f1))).heap[ba]? = some (.cells #[.slice (some cH) ab.length bz, .slice bt az.length bu, .slice bv aK.length bA] 33 (0, 0))) := bf_ ae aY; have n2_ : Aside0 (((d3.setCell ⟨ag, 0, none⟩ (.int .i64 ((rd_T54 (rd_L7 ab aa) ac).f0))).setCell ⟨ag, 1, none⟩ (.int .i64 ((rd_T54 (rd_L7 ab aa) ac).f1))).heap[ag]? = some (.cells #[.int .i64 ((rd_T54 (rd_L7 ab aa) ac).f0), .int .i64 ((rd_T54 (rd_L7 ab aa) ac).f1)] 54 (0, 0))) := ⟨by (with_reducible repeat (first | refine blk_drewN ?_ _ | refine blk_drew ?_ | refine blk_alloc ?_ _)); refine blk_put (cs := #[.int .i64 ((rd_T54 (rd_L7 ab aa) ac).f0), .int .i64 0]) ?_ 1 _ rfl; (with_reducible repeat (first | refine blk_drewN ?_ _ | refine blk_drew ?_ | refine blk_alloc ?_ _)); refine blk_put (cs := #[.int .i64 0, .int .i64 0]) ?_ 0 _ rfl; (with_reducible repeat (first | refine blk_drewN ?_ _ | refine blk_drew ?_ | refine blk_alloc ?_ _)); exact af.out⟩; have n3_ : Aside0 (Below w.heap.size w ((d3.setCell ⟨ag, 0, none⟩ (.int .i64 ((rd_T54 (rd_L7 ab aa) ac).f0))).setCell ⟨ag, 1, none⟩ (.int .i64 ((rd_T54 (rd_L7 ab aa) ac).f1)))) := ⟨sq_below2 HB.out aj.out av.out⟩
                    (try clear ah)
                    (try clear ae)
                    (try clear af)
                    (try clear HB)
                    generalize ((d3.setCell ⟨ag, 0, none⟩ (.int .i64 ((rd_T54 (rd_L7 ab aa) ac).f0))).setCell ⟨ag, 1, none⟩ (.int .i64 ((rd_T54 (rd_L7 ab aa) ac).f1))) = f5 at n0_ n1_ n2_ n3_ ⊢; have ah := n0_; have ae := n1_; have af := n2_; have HB := n3_; clear n0_ n1_ n2_ n3_; replace ah := rd_ ah; replace ae := bd_ ae; replace af := bd_ af; replace HB := hd_ HB; have bI : 0 ≤ ((aw) : Int) := sq_dec; have bK : (aw) < ((rd_L7 ab aa).length : Int) := sq_dec; obtain ⟨cf, cJ, aH, aI⟩ := at_T54 aU.out (aw) bI bK; have aN := aI; have aM := aH; obtain rfl : aZ = cf := (by injection cJ); replace aH := cb_ HB aH; replace aI := cb_ HB aI; replace bI := eq_true bI; replace bK := eq_true bK; refine start_ (n := 23) (S := fun w' => w'.cell? ⟨ag, 0, none⟩ = some (.int .i64 ((rd_T54 (rd_L7 ab aa) ac).f0)) ∧ w'.cell? ⟨ag, 1, none⟩ = some (.int .i64 ((rd_T54 (rd_L7 ab aa) ac).f1)) ∧ w'.cell? (aZ.add (((aw)).toNat * 2)) = some (.int .i64 ((rd_T54 (rd_L7 ab aa) (aw)).f0)) ∧ w'.cell? ⟨(aZ.add (((aw)).toNat * 2)).block, (aZ.add (((aw)).toNat * 2)).off + 1, none⟩ = some (.int .i64 ((rd_T54 (rd_L7 ab aa) (aw)).f1))) (ds := []) #[false, false, false, false, false, false, false, false, false, false, false, false, false, false, false, false, false, false, false, false, false, false, false] (by kernel_rfl) rfl rfl ⟨cl_ af 0, cl_ af 1, (cb_ HB aM), (cb_ HB aN)⟩ (fun hHeld => ?_); refine with_tabW impl_SegOk.tab11 impl_SegOk.bits11 (fun HT_ HW_ => ?_); generalize f5.drew = gl at ah ae af HB aH aI hHeld ⊢; refine py_ HT_ 0 58 ?_
                    refine ty_ HT_ HW_ 1 59 rfl hHeld (by rintro w' ⟨s0, s1, s2, s3⟩; go_simp; with_reducible rfl) ?_
                    refine oy_ HT_ 2 (some 60) (fun K hK => ?_); refine gs_ Tryd.func68 #[.int .i64 a0, .agg #[.int .i64 ((rd_T54 (rd_L7 ab aa) ac).f0), .int .i64 ((rd_T54 (rd_L7 ab aa) ac).f1)]] (h := ?_); with_reducible refine (impl_SymOk.calls a0 ((rd_T54 (rd_L7 ab aa) ac).f0) ((rd_T54 (rd_L7 ab aa) ac).f1) true _ A24.out).mono ?_
                    rintro e gm ⟨rfl, hb⟩; refine ⟨_, rfl, ?_⟩; replace ah := rb_ ah hb; replace ae := bb_ ae hb; replace af := bb_ af hb; replace HB := hb2_ HB hb aj av
                    (try clear hb)
                    (try clear hb2)
                    (try clear hk)
                    (try clear hi)
                    refine hK.out _ _ ⟨cl_ af 0, cl_ af 1, (cb_ HB aM), (cb_ HB aN)⟩ (fun hHeld => ?_); clear hK K; refine norm_y 60 (h := ?_)
                    refine py_ HT_ 3 61 ?_
                    refine py_ HT_ 4 62 ?_
                    refine py_ HT_ 5 63 ?_
                    refine py_ HT_ 6 64 ?_
                    refine py_ HT_ 7 65 ?_
                    refine py_ HT_ 8 66 ?_
                    refine py_ HT_ 9 67 ?_
                    refine py_ HT_ 10 68 ?_
                    refine py_ HT_ 11 69 ?_
                    refine ty_ HT_ HW_ 12 70 rfl hHeld (by rintro w' ⟨s0, s1, s2, s3⟩; go_simp; with_reducible rfl) ?_
                    refine ty_ HT_ HW_ 13 71 rfl hHeld (by rintro w' ⟨s0, s1, s2, s3⟩; go_simp; with_reducible rfl) ?_
                    refine oy_ HT_ 14 (some 72) (fun K hK => ?_); refine goes_ Tryd.func69 (by kernel_rfl) rfl #[.agg #[.int .i64 ((rd_T54 (rd_L7 ab aa) (aw)).f0), .int .i64 ((rd_T54 (rd_L7 ab aa) (aw)).f1)], .agg #[.int .i64 ((rd_T54 (rd_L7 ab aa) ac).f0), .int .i64 ((rd_T54 (rd_L7 ab aa) ac).f1)]] (by rfl) rfl rfl (by (try simp only [List.map_toArray, List.map_cons, List.map_nil]); first | done | (simp only [bB]; rfl) | rfl | (simp only [List.length_drop, List.length_take]; rfl)) ?_; with_reducible refine (impl_SymLess.calls ((rd_T54 (rd_L7 ab aa) (aw)).f0) ((rd_T54 (rd_L7 ab aa) (aw)).f1) ((rd_T54 (rd_L7 ab aa) ac).f0) ((rd_T54 (rd_L7 ab aa) ac).f1) true _ A30.out).mono ?_
                    rintro e gn ⟨rfl, hb⟩; refine ⟨_, rfl, ?_⟩; replace ah := rb_ ah hb; replace ae := bb_ ae hb; replace af := bb_ af hb; replace HB := hb2_ HB hb aj av
                    (try clear hb)
                    (try clear hb2)
                    (try clear hk)
                    (try clear hi)
                    obtain ⟨eG, eM, dy⟩ := Kd.R_slice ah.out
                    (first | subst dy | (injection dy with f1_ f2_ f3_; have f4_ := f1_.symm; have f5_ := f3_.symm; clear f1_ f2_ f3_; subst f4_; subst f5_))
                    refine hK.out _ _ ⟨cl_ af 0, cl_ af 1, (cb_ HB aM), (cb_ HB aN)⟩ (fun hHeld => ?_); clear hK K; refine norm_y 72 (h := ?_)
                    refine py_ HT_ 15 73 ?_
                    refine py_ HT_ 16 74 ?_
                    refine py_ HT_ 17 75 ?_
                    refine py_ HT_ 18 76 ?_
                    refine py_ HT_ 19 77 ?_
                    refine ty_ HT_ HW_ 20 78 rfl hHeld (by rintro w' ⟨s0, s1, s2, s3⟩; go_simp; with_reducible rfl) ?_
                    refine oy_ HT_ 21 (some 79) (fun K hK => ?_); refine gs_ Tryd.func35 #[.slice eG aX.length eM, .agg #[.int .i64 ((rd_T54 (rd_L7 ab aa) ac).f0), .int .i64 ((rd_T54 (rd_L7 ab aa) ac).f1)]] (h := ?_); with_reducible refine (impl_Sym_35.calls k3 _ _ aX ((rd_T54 (rd_L7 ab aa) ac).f0) ((rd_T54 (rd_L7 ab aa) ac).f1) false _ ?aV ?aW A32.out).mono ?_
                    (case aV => exact sq_c ((Kd.R_reads' ah.out).2.2))
                    (case aW => exact (Kd.R_reads' ah.out).2.1)
                    rintro e gp ⟨rfl, hb⟩; refine ⟨_, rfl, ?_⟩; replace ah := rb_ ah hb; replace ae := bb_ ae hb; replace af := bb_ af hb; replace HB := hb2_ HB hb aj av
                    (try clear hb)
                    (try clear hb2)
                    (try clear hk)
                    (try clear hi)
                    refine hK.out _ _ ⟨cl_ af 0, cl_ af 1, (cb_ HB aM), (cb_ HB aN)⟩ (fun hHeld => ?_); clear hK K; refine norm_y 79 (h := ?_)
                    refine py_ HT_ 22 80 ?_
                    refine done_ (done_of HT_.out (by kernel_rfl)) ?_
                    try go_wp2
                    go_roundg k3
                    case measure => have := HJ3.out; have := HK2.out; have := HK3.out; omega
                    case rel => exact ⟨(wrap64 (ac + 1)), sr_, H', ⟨by have := HJ3.out; have := HK2.out; have := HK3.out; omega⟩, ⟨by (with_reducible repeat (first | apply Kd.R_alloc | apply Kd.R_drewN | apply Kd.R_drew)); exact Kd.R_mono ah.out (fun _ hk => trivial)⟩, bk_ ae, ⟨sq_below2 HB.out aj.out av.out⟩⟩
                  ·
                   replace c31 := Bool.eq_false_iff.mpr c31; subst c31; have H1 := ifn_ H
                   clear H; have H := H1; clear H1; obtain rfl := Option.some.inj H; have bf : 0 ≤ (ac : Int) := sq_dec; have bh : ac < ((rd_L7 ab aa).length : Int) := sq_dec; obtain ⟨aZ, bH, ax, ay⟩ := at_T54 aU.out ac bf bh; cases bH; replace ax := cb_ HB ax; replace ay := cb_ HB ay; replace bf := eq_true bf; replace bh := eq_true bh
                   try go_wp2_with (first | ((with_reducible refine gate_dst (N := 12) rfl ?_); (try (refine gate_guard (by rfl) ?_; dsimp only)); refine box_y 12 #[.int .i64 0, .int .i64 0] 54 (h := ?_); intro ag hg eB hbox hb; replace ah := am_ (Kd.R_below (Kd.R_elderB (sq_row ah.out) ag (Nat.le_of_eq hg.symm)) hb); have af := am_ hbox; have ce := gz_ hg HB; have av := gz_ hg HB; replace HB := hb_ HB hb; clear hb hbox hg; obtain ⟨eb, ec, es, et⟩ := cz2_ af))
                   have n0_ : Aside0 (Kd.R k54 54 ((eB.setCell ⟨ag, 0, none⟩ (.int .i64 ((rd_T54 (rd_L7 ab aa) ac).f0))).setCell ⟨ag, 1, none⟩ (.int .i64 ((rd_T54 (rd_L7 ab aa) ac).f1))) w.heap.size (fun k_ => k_ ≠ ag) u8 aX) := ⟨by (with_reducible repeat (first | apply Kd.R_alloc | apply Kd.R_drewN | apply Kd.R_drew)); exact Kd.R_mono (Kd.R_far (p := ⟨ag, 1, none⟩) (Kd.R_far (p := ⟨ag, 0, none⟩) (Kd.R_mono ah.out (fun k_ hk => (⟨hk, hk.2⟩ : _ ∧ k_ ≠ ag))) (fun _ hk => hk.2) (.int .i64 ((rd_T54 (rd_L7 ab aa) ac).f0))) (fun _ hk => hk.2) (.int .i64 ((rd_T54 (rd_L7 ab aa) ac).f1))) (fun _ hk => hk.1.2)⟩; have n1_ : Aside0 (((eB.setCell ⟨ag, 0, none⟩ (.int .i64 ((rd_T54 (rd_L7 ab aa) ac).f0))).setCell ⟨ag, 1, none⟩ (.int .i64 ((rd_T54 (rd_L7 ab aa) ac).f1))).heap[ag]? = some (.cells #[.int .i64 ((rd_T54 (rd_L7 ab aa) ac).f0), .int .i64 ((rd_T54 (rd_L7 ab aa) ac).f1)] 54 (0, 0))) := ⟨by (with_reducible repeat (first | refine blk_drewN ?_ _ | refine blk_drew ?_ | refine blk_alloc ?_ _)); refine blk_put (cs := #[.int .i64 ((rd_T54 (rd_L7 ab aa) ac).f0), .int .i64 0]) ?_ 1 _ rfl; (with_reducible repeat (first | refine blk_drewN ?_ _ | refine blk_drew ?_ | refine blk_alloc ?_ _)); refine blk_put (cs := #[.int .i64 0, .int .i64 0]) ?_ 0 _ rfl; (with_reducible repeat (first | refine blk_drewN ?_ _ | refine blk_drew ?_ | refine blk_alloc ?_ _)); exact af.out⟩; have n2_ : Aside0 (Below w.heap.size w ((eB.setCell ⟨ag, 0, none⟩ (.int .i64 ((rd_T54 (rd_L7 ab aa) ac).f0))).setCell ⟨ag, 1, none⟩ (.int .i64 ((rd_T54 (rd_L7 ab aa) ac).f1)))) := ⟨sq_below1 HB.out av.out⟩
                   (try clear ah)
                   (try clear af)
                   (try clear HB)
                   generalize ((eB.setCell ⟨ag, 0, none⟩ (.int .i64 ((rd_T54 (rd_L7 ab aa) ac).f0))).setCell ⟨ag, 1, none⟩ (.int .i64 ((rd_T54 (rd_L7 ab aa) ac).f1))) = f7 at n0_ n1_ n2_ ⊢; have ah := n0_; have af := n1_; have HB := n2_; clear n0_ n1_ n2_; replace ah := rd_ ah; replace af := bd_ af; replace HB := hd_ HB; have bI : 0 ≤ ((aw) : Int) := sq_dec; have bK : (aw) < ((rd_L7 ab aa).length : Int) := sq_dec; obtain ⟨cf, cJ, aH, aI⟩ := at_T54 aU.out (aw) bI bK; have aN := aI; have aM := aH; obtain rfl : aZ = cf := (by injection cJ); replace aH := cb_ HB aH; replace aI := cb_ HB aI; replace bI := eq_true bI; replace bK := eq_true bK; refine start_ (n := 23) (S := fun w' => w'.cell? ⟨ag, 0, none⟩ = some (.int .i64 ((rd_T54 (rd_L7 ab aa) ac).f0)) ∧ w'.cell? ⟨ag, 1, none⟩ = some (.int .i64 ((rd_T54 (rd_L7 ab aa) ac).f1)) ∧ w'.cell? (aZ.add (((aw)).toNat * 2)) = some (.int .i64 ((rd_T54 (rd_L7 ab aa) (aw)).f0)) ∧ w'.cell? ⟨(aZ.add (((aw)).toNat * 2)).block, (aZ.add (((aw)).toNat * 2)).off + 1, none⟩ = some (.int .i64 ((rd_T54 (rd_L7 ab aa) (aw)).f1))) (ds := []) #[false, false, false, false, false, false, false, false, false, false, false, false, false, false, false, false, false, false, false, false, false, false, false] (by kernel_rfl) rfl rfl ⟨cl_ af 0, cl_ af 1, (cb_ HB aM), (cb_ HB aN)⟩ (fun hHeld => ?_); refine with_tabW impl_SegOk.tab11 impl_SegOk.bits11 (fun HT_ HW_ => ?_); generalize f7.drew = gr at ah af HB aH aI hHeld ⊢; refine py_ HT_ 0 58 ?_
                   refine ty_ HT_ HW_ 1 59 rfl hHeld (by rintro w' ⟨s0, s1, s2, s3⟩; go_simp; with_reducible rfl) ?_
                   refine oy_ HT_ 2 (some 60) (fun K hK => ?_); refine gs_ Tryd.func68 #[.int .i64 a0, .agg #[.int .i64 ((rd_T54 (rd_L7 ab aa) ac).f0), .int .i64 ((rd_T54 (rd_L7 ab aa) ac).f1)]] (h := ?_); with_reducible refine (impl_SymOk.calls a0 ((rd_T54 (rd_L7 ab aa) ac).f0) ((rd_T54 (rd_L7 ab aa) ac).f1) true _ A24.out).mono ?_
                   rintro e gu ⟨rfl, hb⟩; refine ⟨_, rfl, ?_⟩; replace ah := rb_ ah hb; replace af := bb_ af hb; replace HB := hb1_ HB hb av
                   (try clear hb)
                   (try clear hb2)
                   (try clear hk)
                   (try clear hi)
                   refine hK.out _ _ ⟨cl_ af 0, cl_ af 1, (cb_ HB aM), (cb_ HB aN)⟩ (fun hHeld => ?_); clear hK K; refine norm_y 60 (h := ?_)
                   refine py_ HT_ 3 61 ?_
                   refine py_ HT_ 4 62 ?_
                   refine py_ HT_ 5 63 ?_
                   refine py_ HT_ 6 64 ?_
                   refine py_ HT_ 7 65 ?_
                   refine py_ HT_ 8 66 ?_
                   refine py_ HT_ 9 67 ?_
                   refine py_ HT_ 10 68 ?_
                   refine py_ HT_ 11 69 ?_
                   refine ty_ HT_ HW_ 12 70 rfl hHeld (by rintro w' ⟨s0, s1, s2, s3⟩; go_simp; with_reducible rfl) ?_
                   refine ty_ HT_ HW_ 13 71 rfl hHeld (by rintro w' ⟨s0, s1, s2, s3⟩; go_simp; with_reducible rfl) ?_
                   refine oy_ HT_ 14 (some 72) (fun K hK => ?_); refine goes_ Tryd.func69 (by kernel_rfl) rfl #[.agg #[.int .i64 ((rd_T54 (rd_L7 ab aa) (aw)).f0), .int .i64 ((rd_T54 (rd_L7 ab aa) (aw)).f1)], .agg #[.int .i64 ((rd_T54 (rd_L7 ab aa) ac).f0), .int .i64 ((rd_T54 (rd_L7 ab aa) ac).f1)]] (by rfl) rfl rfl (by (try simp only [List.map_toArray, List.map_cons, List.map_nil]); first | done | (simp only [bB]; rfl) | rfl | (simp only [List.length_drop, List.length_take]; rfl)) ?_; with_reducible refine (impl_SymLess.calls ((rd_T54 (rd_L7 ab aa) (aw)).f0) ((rd_T54 (rd_L7 ab aa) (aw)).f1) ((rd_T54 (rd_L7 ab aa) ac).f0) ((rd_T54 (rd_L7 ab aa) ac).f1) false _ A30.out).mono ?_
                   rintro e gv ⟨rfl, hb⟩; refine ⟨_, rfl, ?_⟩; replace ah := rb_ ah hb; replace af := bb_ af hb; replace HB := hb1_ HB hb av
                   (try clear hb)
                   (try clear hb2)
                   (try clear hk)
                   (try clear hi)
                   refine hK.out _ _ ⟨cl_ af 0, cl_ af 1, (cb_ HB aM), (cb_ HB aN)⟩ (fun hHeld => ?_); clear hK K; refine norm_y 72 (h := ?_)
                   refine py_ HT_ 15 73 ?_
                   refine py_ HT_ 16 74 ?_
                   refine py_ HT_ 17 75 ?_
                   refine py_ HT_ 18 76 ?_
                   refine pn_ HT_ 19 77 ?_
                   refine pn_ HT_ 20 78 ?_
                   refine pn_ HT_ 21 79 ?_
                   refine py_ HT_ 22 80 ?_
                   refine done_ (done_of HT_.out (by kernel_rfl)) ?_
                   try go_wp2
                   go_ret
                   exact ⟨by first | rfl | (simp [errW_none, errW_some] <;> rfl) | (simp only [← bB]; first | rfl | (simp [errW_none, errW_some] <;> rfl)) | (simp [*, errW_none, errW_some] <;> rfl), sq_below1 HB.out av.out⟩
                 ·
                  rw [if_neg c29] at H; exact absurd H (by simp)
                ·
                 rw [if_neg c28] at H; exact absurd H (by simp)
               ·
                rw [if_neg c26] at H; have dr := decide_eq_false (p := 0 < ac) c26; clear c26; obtain ⟨dh, A57, H⟩ := be_ H; (try dsimp only at H)
                by_cases c58 : dh = true
                ·
                 subst c58; have H1 := ifp_ H
                 clear H; have H := H1; clear H1; obtain rfl := Option.some.inj H; have bf : 0 ≤ (ac : Int) := sq_dec; have bh : ac < ((rd_L7 ab aa).length : Int) := sq_dec; obtain ⟨aZ, bH, ax, ay⟩ := at_T54 aU.out ac bf bh; cases bH; replace ax := cb_ HB ax; replace ay := cb_ HB ay; replace bf := eq_true bf; replace bh := eq_true bh
                 try go_wp2_with (first | ((with_reducible refine gate_dst (N := 12) rfl ?_); (try (refine gate_guard (by rfl) ?_; dsimp only)); refine box_y 12 #[.int .i64 0, .int .i64 0] 54 (h := ?_); intro ag hg eC hbox hb; replace ah := am_ (Kd.R_below (Kd.R_elderB (sq_row ah.out) ag (Nat.le_of_eq hg.symm)) hb); have af := am_ hbox; have ce := gz_ hg HB; have av := gz_ hg HB; replace HB := hb_ HB hb; clear hb hbox hg; obtain ⟨ed, ee, eu, ev⟩ := cz2_ af))
                 have n0_ : Aside0 (Kd.R k54 54 ((eC.setCell ⟨ag, 0, none⟩ (.int .i64 ((rd_T54 (rd_L7 ab aa) ac).f0))).setCell ⟨ag, 1, none⟩ (.int .i64 ((rd_T54 (rd_L7 ab aa) ac).f1))) w.heap.size (fun k_ => k_ ≠ ag) u8 aX) := ⟨by (with_reducible repeat (first | apply Kd.R_alloc | apply Kd.R_drewN | apply Kd.R_drew)); exact Kd.R_mono (Kd.R_far (p := ⟨ag, 1, none⟩) (Kd.R_far (p := ⟨ag, 0, none⟩) (Kd.R_mono ah.out (fun k_ hk => (⟨hk, hk.2⟩ : _ ∧ k_ ≠ ag))) (fun _ hk => hk.2) (.int .i64 ((rd_T54 (rd_L7 ab aa) ac).f0))) (fun _ hk => hk.2) (.int .i64 ((rd_T54 (rd_L7 ab aa) ac).f1))) (fun _ hk => hk.1.2)⟩; have n1_ : Aside0 (((eC.setCell ⟨ag, 0, none⟩ (.int .i64 ((rd_T54 (rd_L7 ab aa) ac).f0))).setCell ⟨ag, 1, none⟩ (.int .i64 ((rd_T54 (rd_L7 ab aa) ac).f1))).heap[ag]? = some (.cells #[.int .i64 ((rd_T54 (rd_L7 ab aa) ac).f0), .int .i64 ((rd_T54 (rd_L7 ab aa) ac).f1)] 54 (0, 0))) := ⟨by (with_reducible repeat (first | refine blk_drewN ?_ _ | refine blk_drew ?_ | refine blk_alloc ?_ _)); refine blk_put (cs := #[.int .i64 ((rd_T54 (rd_L7 ab aa) ac).f0), .int .i64 0]) ?_ 1 _ rfl; (with_reducible repeat (first | refine blk_drewN ?_ _ | refine blk_drew ?_ | refine blk_alloc ?_ _)); refine blk_put (cs := #[.int .i64 0, .int .i64 0]) ?_ 0 _ rfl; (with_reducible repeat (first | refine blk_drewN ?_ _ | refine blk_drew ?_ | refine blk_alloc ?_ _)); exact af.out⟩; have n2_ : Aside0 (Below w.heap.size w ((eC.setCell ⟨ag, 0, none⟩ (.int .i64 ((rd_T54 (rd_L7 ab aa) ac).f0))).setCell ⟨ag, 1, none⟩ (.int .i64 ((rd_T54 (rd_L7 ab aa) ac).f1)))) := ⟨sq_below1 HB.out av.out⟩
                 (try clear ah)
                 (try clear af)
                 (try clear HB)
                 generalize ((eC.setCell ⟨ag, 0, none⟩ (.int .i64 ((rd_T54 (rd_L7 ab aa) ac).f0))).setCell ⟨ag, 1, none⟩ (.int .i64 ((rd_T54 (rd_L7 ab aa) ac).f1))) = f9 at n0_ n1_ n2_ ⊢; have ah := n0_; have af := n1_; have HB := n2_; clear n0_ n1_ n2_; replace ah := rd_ ah; replace af := bd_ af; replace HB := hd_ HB; refine start_ (n := 23) (S := fun w' => w'.cell? ⟨ag, 0, none⟩ = some (.int .i64 ((rd_T54 (rd_L7 ab aa) ac).f0)) ∧ w'.cell? ⟨ag, 1, none⟩ = some (.int .i64 ((rd_T54 (rd_L7 ab aa) ac).f1))) (ds := []) #[false, false, false, false, false, false, false, false, false, false, false, false, false, false, false, false, false, false, false, false, false, false, false] (by kernel_rfl) rfl rfl ⟨cl_ af 0, cl_ af 1⟩ (fun hHeld => ?_); refine with_tabW impl_SegOk.tab11 impl_SegOk.bits11 (fun HT_ HW_ => ?_); generalize f9.drew = gw at ah af HB hHeld ⊢; refine py_ HT_ 0 58 ?_
                 refine ty_ HT_ HW_ 1 59 rfl hHeld (by rintro w' ⟨s0, s1⟩; go_simp; with_reducible rfl) ?_
                 refine oy_ HT_ 2 (some 60) (fun K hK => ?_); refine gs_ Tryd.func68 #[.int .i64 a0, .agg #[.int .i64 ((rd_T54 (rd_L7 ab aa) ac).f0), .int .i64 ((rd_T54 (rd_L7 ab aa) ac).f1)]] (h := ?_); with_reducible refine (impl_SymOk.calls a0 ((rd_T54 (rd_L7 ab aa) ac).f0) ((rd_T54 (rd_L7 ab aa) ac).f1) true _ A24.out).mono ?_
                 rintro e gx ⟨rfl, hb⟩; refine ⟨_, rfl, ?_⟩; replace ah := rb_ ah hb; replace af := bb_ af hb; replace HB := hb1_ HB hb av
                 (try clear hb)
                 (try clear hb2)
                 (try clear hk)
                 (try clear hi)
                 obtain ⟨eH, eN, dz⟩ := Kd.R_slice ah.out
                 (first | subst dz | (injection dz with f1_ f2_ f3_; have f4_ := f1_.symm; have f5_ := f3_.symm; clear f1_ f2_ f3_; subst f4_; subst f5_))
                 refine hK.out _ _ ⟨cl_ af 0, cl_ af 1⟩ (fun hHeld => ?_); clear hK K; refine norm_y 60 (h := ?_)
                 refine py_ HT_ 3 61 ?_
                 refine py_ HT_ 4 62 ?_
                 refine py_ HT_ 5 63 ?_
                 refine py_ HT_ 6 64 ?_
                 refine py_ HT_ 7 65 ?_
                 refine pn_ HT_ 8 66 ?_
                 refine pn_ HT_ 9 67 ?_
                 refine pn_ HT_ 10 68 ?_
                 refine pn_ HT_ 11 69 ?_
                 refine pn_ HT_ 12 70 ?_
                 refine pn_ HT_ 13 71 ?_
                 refine pn_ HT_ 14 72 ?_
                 refine pn_ HT_ 15 73 ?_
                 refine py_ HT_ 16 74 ?_
                 refine py_ HT_ 17 75 ?_
                 refine py_ HT_ 18 76 ?_
                 refine py_ HT_ 19 77 ?_
                 refine ty_ HT_ HW_ 20 78 rfl hHeld (by rintro w' ⟨s0, s1⟩; go_simp; with_reducible rfl) ?_
                 refine oy_ HT_ 21 (some 79) (fun K hK => ?_); refine gs_ Tryd.func35 #[.slice eH aX.length eN, .agg #[.int .i64 ((rd_T54 (rd_L7 ab aa) ac).f0), .int .i64 ((rd_T54 (rd_L7 ab aa) ac).f1)]] (h := ?_); with_reducible refine (impl_Sym_35.calls k3 _ _ aX ((rd_T54 (rd_L7 ab aa) ac).f0) ((rd_T54 (rd_L7 ab aa) ac).f1) true _ ?aV ?aW A57.out).mono ?_
                 (case aV => exact sq_c ((Kd.R_reads' ah.out).2.2))
                 (case aW => exact (Kd.R_reads' ah.out).2.1)
                 rintro e gy ⟨rfl, hb⟩; refine ⟨_, rfl, ?_⟩; replace ah := rb_ ah hb; replace af := bb_ af hb; replace HB := hb1_ HB hb av
                 (try clear hb)
                 (try clear hb2)
                 (try clear hk)
                 (try clear hi)
                 refine hK.out _ _ ⟨cl_ af 0, cl_ af 1⟩ (fun hHeld => ?_); clear hK K; refine norm_y 79 (h := ?_)
                 refine py_ HT_ 22 80 ?_
                 refine done_ (done_of HT_.out (by kernel_rfl)) ?_
                 try go_wp2
                 go_ret
                 exact ⟨lf_, sq_below1 HB.out av.out⟩
                ·
                 replace c58 := Bool.eq_false_iff.mpr c58; subst c58; have H1 := ifn_ H
                 clear H; have H := H1; clear H1; have H' := am_ H; clear H; have bf : 0 ≤ (ac : Int) := sq_dec; have bh : ac < ((rd_L7 ab aa).length : Int) := sq_dec; obtain ⟨aZ, bH, ax, ay⟩ := at_T54 aU.out ac bf bh; cases bH; replace ax := cb_ HB ax; replace ay := cb_ HB ay; replace bf := eq_true bf; replace bh := eq_true bh
                 try go_wp2_with (first | ((with_reducible refine gate_dst (N := 12) rfl ?_); (try (refine gate_guard (by rfl) ?_; dsimp only)); refine box_y 12 #[.int .i64 0, .int .i64 0] 54 (h := ?_); intro ag hg d4 hbox hb; replace ah := am_ (Kd.R_below (Kd.R_elderB (sq_row ah.out) ag (Nat.le_of_eq hg.symm)) hb); have af := am_ hbox; have ce := gz1_ hg HB aj; have av := gz1_ hg HB aj; replace HB := hb1_ HB hb aj; have aY := nb_ hg ae; replace ae := bb_ ae hb; have bD := ns_ aY; clear hb hbox hg; have fA := bD.out; have fD := aY.out; obtain ⟨ef, eh, ew, ex⟩ := cz2_ af))
                 have n0_ : Aside0 (Kd.R k54 54 ((d4.setCell ⟨ag, 0, none⟩ (.int .i64 ((rd_T54 (rd_L7 ab aa) ac).f0))).setCell ⟨ag, 1, none⟩ (.int .i64 ((rd_T54 (rd_L7 ab aa) ac).f1))) w.heap.size (fun k_ => k_ ≠ ag) u8 aX) := ⟨by (with_reducible repeat (first | apply Kd.R_alloc | apply Kd.R_drewN | apply Kd.R_drew)); exact Kd.R_mono (Kd.R_far (p := ⟨ag, 1, none⟩) (Kd.R_far (p := ⟨ag, 0, none⟩) (Kd.R_mono ah.out (fun k_ hk => (⟨hk, hk.2⟩ : _ ∧ k_ ≠ ag))) (fun _ hk => hk.2) (.int .i64 ((rd_T54 (rd_L7 ab aa) ac).f0))) (fun _ hk => hk.2) (.int .i64 ((rd_T54 (rd_L7 ab aa) ac).f1))) (fun _ hk => hk.1.2)⟩; have n1_ : Aside0 (((d4.setCell ⟨ag, 0, none⟩ (.int .i64 ((rd_T54 (rd_L7 ab aa) ac).f0))).setCell ⟨ag, 1, none⟩ (.int .i64 ((rd_T54 (rd_L7 ab aa) ac).f1))).heap[ba]? = some (.cells #[.slice (some cH) ab.length bz, .slice bt az.length bu, .slice bv aK.length bA] 33 (0, 0))) := bf_ ae aY; have n2_ : Aside0 (((d4.setCell ⟨ag, 0, none⟩ (.int .i64 ((rd_T54 (rd_L7 ab aa) ac).f0))).setCell ⟨ag, 1, none⟩ (.int .i64 ((rd_T54 (rd_L7 ab aa) ac).f1))).heap[ag]? = some (.cells #[.int .i64 ((rd_T54 (rd_L7 ab aa) ac).f0), .int .i64 ((rd_T54 (rd_L7 ab aa) ac).f1)] 54 (0, 0))) := ⟨by (with_reducible repeat (first | refine blk_drewN ?_ _ | refine blk_drew ?_ | refine blk_alloc ?_ _)); refine blk_put (cs := #[.int .i64 ((rd_T54 (rd_L7 ab aa) ac).f0), .int .i64 0]) ?_ 1 _ rfl; (with_reducible repeat (first | refine blk_drewN ?_ _ | refine blk_drew ?_ | refine blk_alloc ?_ _)); refine blk_put (cs := #[.int .i64 0, .int .i64 0]) ?_ 0 _ rfl; (with_reducible repeat (first | refine blk_drewN ?_ _ | refine blk_drew ?_ | refine blk_alloc ?_ _)); exact af.out⟩; have n3_ : Aside0 (Below w.heap.size w ((d4.setCell ⟨ag, 0, none⟩ (.int .i64 ((rd_T54 (rd_L7 ab aa) ac).f0))).setCell ⟨ag, 1, none⟩ (.int .i64 ((rd_T54 (rd_L7 ab aa) ac).f1)))) := ⟨sq_below2 HB.out aj.out av.out⟩
                 (try clear ah)
                 (try clear ae)
                 (try clear af)
                 (try clear HB)
                 generalize ((d4.setCell ⟨ag, 0, none⟩ (.int .i64 ((rd_T54 (rd_L7 ab aa) ac).f0))).setCell ⟨ag, 1, none⟩ (.int .i64 ((rd_T54 (rd_L7 ab aa) ac).f1))) = ga at n0_ n1_ n2_ n3_ ⊢; have ah := n0_; have ae := n1_; have af := n2_; have HB := n3_; clear n0_ n1_ n2_ n3_; replace ah := rd_ ah; replace ae := bd_ ae; replace af := bd_ af; replace HB := hd_ HB; refine start_ (n := 23) (S := fun w' => w'.cell? ⟨ag, 0, none⟩ = some (.int .i64 ((rd_T54 (rd_L7 ab aa) ac).f0)) ∧ w'.cell? ⟨ag, 1, none⟩ = some (.int .i64 ((rd_T54 (rd_L7 ab aa) ac).f1))) (ds := []) #[false, false, false, false, false, false, false, false, false, false, false, false, false, false, false, false, false, false, false, false, false, false, false] (by kernel_rfl) rfl rfl ⟨cl_ af 0, cl_ af 1⟩ (fun hHeld => ?_); refine with_tabW impl_SegOk.tab11 impl_SegOk.bits11 (fun HT_ HW_ => ?_); generalize ga.drew = gz at ah ae af HB hHeld ⊢; refine py_ HT_ 0 58 ?_
                 refine ty_ HT_ HW_ 1 59 rfl hHeld (by rintro w' ⟨s0, s1⟩; go_simp; with_reducible rfl) ?_
                 refine oy_ HT_ 2 (some 60) (fun K hK => ?_); refine gs_ Tryd.func68 #[.int .i64 a0, .agg #[.int .i64 ((rd_T54 (rd_L7 ab aa) ac).f0), .int .i64 ((rd_T54 (rd_L7 ab aa) ac).f1)]] (h := ?_); with_reducible refine (impl_SymOk.calls a0 ((rd_T54 (rd_L7 ab aa) ac).f0) ((rd_T54 (rd_L7 ab aa) ac).f1) true _ A24.out).mono ?_
                 rintro e gC ⟨rfl, hb⟩; refine ⟨_, rfl, ?_⟩; replace ah := rb_ ah hb; replace ae := bb_ ae hb; replace af := bb_ af hb; replace HB := hb2_ HB hb aj av
                 (try clear hb)
                 (try clear hb2)
                 (try clear hk)
                 (try clear hi)
                 obtain ⟨eI, eO, dA⟩ := Kd.R_slice ah.out
                 (first | subst dA | (injection dA with f1_ f2_ f3_; have f4_ := f1_.symm; have f5_ := f3_.symm; clear f1_ f2_ f3_; subst f4_; subst f5_))
                 refine hK.out _ _ ⟨cl_ af 0, cl_ af 1⟩ (fun hHeld => ?_); clear hK K; refine norm_y 60 (h := ?_)
                 refine py_ HT_ 3 61 ?_
                 refine py_ HT_ 4 62 ?_
                 refine py_ HT_ 5 63 ?_
                 refine py_ HT_ 6 64 ?_
                 refine py_ HT_ 7 65 ?_
                 refine pn_ HT_ 8 66 ?_
                 refine pn_ HT_ 9 67 ?_
                 refine pn_ HT_ 10 68 ?_
                 refine pn_ HT_ 11 69 ?_
                 refine pn_ HT_ 12 70 ?_
                 refine pn_ HT_ 13 71 ?_
                 refine pn_ HT_ 14 72 ?_
                 refine pn_ HT_ 15 73 ?_
                 refine py_ HT_ 16 74 ?_
                 refine py_ HT_ 17 75 ?_
                 refine py_ HT_ 18 76 ?_
                 refine py_ HT_ 19 77 ?_
                 refine ty_ HT_ HW_ 20 78 rfl hHeld (by rintro w' ⟨s0, s1⟩; go_simp; with_reducible rfl) ?_
                 refine oy_ HT_ 21 (some 79) (fun K hK => ?_); refine gs_ Tryd.func35 #[.slice eI aX.length eO, .agg #[.int .i64 ((rd_T54 (rd_L7 ab aa) ac).f0), .int .i64 ((rd_T54 (rd_L7 ab aa) ac).f1)]] (h := ?_); with_reducible refine (impl_Sym_35.calls k3 _ _ aX ((rd_T54 (rd_L7 ab aa) ac).f0) ((rd_T54 (rd_L7 ab aa) ac).f1) false _ ?aV ?aW A57.out).mono ?_
                 (case aV => exact sq_c ((Kd.R_reads' ah.out).2.2))
                 (case aW => exact (Kd.R_reads' ah.out).2.1)
                 rintro e gD ⟨rfl, hb⟩; refine ⟨_, rfl, ?_⟩; replace ah := rb_ ah hb; replace ae := bb_ ae hb; replace af := bb_ af hb; replace HB := hb2_ HB hb aj av
                 (try clear hb)
                 (try clear hb2)
                 (try clear hk)
                 (try clear hi)
                 refine hK.out _ _ ⟨cl_ af 0, cl_ af 1⟩ (fun hHeld => ?_); clear hK K; refine norm_y 79 (h := ?_)
                 refine py_ HT_ 22 80 ?_
                 refine done_ (done_of HT_.out (by kernel_rfl)) ?_
                 try go_wp2
                 go_roundg k3
                 case measure => have := HJ3.out; have := HK2.out; have := HK3.out; omega
                 case rel => exact ⟨(wrap64 (ac + 1)), sr_, H', ⟨by have := HJ3.out; have := HK2.out; have := HK3.out; omega⟩, ⟨by (with_reducible repeat (first | apply Kd.R_alloc | apply Kd.R_drewN | apply Kd.R_drew)); exact Kd.R_mono ah.out (fun _ hk => trivial)⟩, bk_ ae, ⟨sq_below2 HB.out aj.out av.out⟩⟩
              ·
               replace c25 := Bool.eq_false_iff.mpr c25; subst c25; have H1 := ifn_ H
               clear H; have H := H1; clear H1; obtain rfl := Option.some.inj H; have bf : 0 ≤ (ac : Int) := sq_dec; have bh : ac < ((rd_L7 ab aa).length : Int) := sq_dec; obtain ⟨aZ, bH, ax, ay⟩ := at_T54 aU.out ac bf bh; cases bH; replace ax := cb_ HB ax; replace ay := cb_ HB ay; replace bf := eq_true bf; replace bh := eq_true bh
               try go_wp2_with (first | ((with_reducible refine gate_dst (N := 12) rfl ?_); (try (refine gate_guard (by rfl) ?_; dsimp only)); refine box_y 12 #[.int .i64 0, .int .i64 0] 54 (h := ?_); intro ag hg eD hbox hb; replace ah := am_ (Kd.R_below (Kd.R_elderB (sq_row ah.out) ag (Nat.le_of_eq hg.symm)) hb); have af := am_ hbox; have ce := gz_ hg HB; have av := gz_ hg HB; replace HB := hb_ HB hb; clear hb hbox hg; obtain ⟨ej, el, ey, ez⟩ := cz2_ af))
               have n0_ : Aside0 (Kd.R k54 54 ((eD.setCell ⟨ag, 0, none⟩ (.int .i64 ((rd_T54 (rd_L7 ab aa) ac).f0))).setCell ⟨ag, 1, none⟩ (.int .i64 ((rd_T54 (rd_L7 ab aa) ac).f1))) w.heap.size (fun k_ => k_ ≠ ag) u8 aX) := ⟨by (with_reducible repeat (first | apply Kd.R_alloc | apply Kd.R_drewN | apply Kd.R_drew)); exact Kd.R_mono (Kd.R_far (p := ⟨ag, 1, none⟩) (Kd.R_far (p := ⟨ag, 0, none⟩) (Kd.R_mono ah.out (fun k_ hk => (⟨hk, hk.2⟩ : _ ∧ k_ ≠ ag))) (fun _ hk => hk.2) (.int .i64 ((rd_T54 (rd_L7 ab aa) ac).f0))) (fun _ hk => hk.2) (.int .i64 ((rd_T54 (rd_L7 ab aa) ac).f1))) (fun _ hk => hk.1.2)⟩; have n1_ : Aside0 (((eD.setCell ⟨ag, 0, none⟩ (.int .i64 ((rd_T54 (rd_L7 ab aa) ac).f0))).setCell ⟨ag, 1, none⟩ (.int .i64 ((rd_T54 (rd_L7 ab aa) ac).f1))).heap[ag]? = some (.cells #[.int .i64 ((rd_T54 (rd_L7 ab aa) ac).f0), .int .i64 ((rd_T54 (rd_L7 ab aa) ac).f1)] 54 (0, 0))) := ⟨by (with_reducible repeat (first | refine blk_drewN ?_ _ | refine blk_drew ?_ | refine blk_alloc ?_ _)); refine blk_put (cs := #[.int .i64 ((rd_T54 (rd_L7 ab aa) ac).f0), .int .i64 0]) ?_ 1 _ rfl; (with_reducible repeat (first | refine blk_drewN ?_ _ | refine blk_drew ?_ | refine blk_alloc ?_ _)); refine blk_put (cs := #[.int .i64 0, .int .i64 0]) ?_ 0 _ rfl; (with_reducible repeat (first | refine blk_drewN ?_ _ | refine blk_drew ?_ | refine blk_alloc ?_ _)); exact af.out⟩; have n2_ : Aside0 (Below w.heap.size w ((eD.setCell ⟨ag, 0, none⟩ (.int .i64 ((rd_T54 (rd_L7 ab aa) ac).f0))).setCell ⟨ag, 1, none⟩ (.int .i64 ((rd_T54 (rd_L7 ab aa) ac).f1)))) := ⟨sq_below1 HB.out av.out⟩
               (try clear ah)
               (try clear af)
               (try clear HB)
               generalize ((eD.setCell ⟨ag, 0, none⟩ (.int .i64 ((rd_T54 (rd_L7 ab aa) ac).f0))).setCell ⟨ag, 1, none⟩ (.int .i64 ((rd_T54 (rd_L7 ab aa) ac).f1))) = gc at n0_ n1_ n2_ ⊢; have ah := n0_; have af := n1_; have HB := n2_; clear n0_ n1_ n2_; replace ah := rd_ ah; replace af := bd_ af; replace HB := hd_ HB; refine start_ (n := 23) (S := fun w' => w'.cell? ⟨ag, 0, none⟩ = some (.int .i64 ((rd_T54 (rd_L7 ab aa) ac).f0)) ∧ w'.cell? ⟨ag, 1, none⟩ = some (.int .i64 ((rd_T54 (rd_L7 ab aa) ac).f1))) (ds := []) #[false, false, false, false, false, false, false, false, false, false, false, false, false, false, false, false, false, false, false, false, false, false, false] (by kernel_rfl) rfl rfl ⟨cl_ af 0, cl_ af 1⟩ (fun hHeld => ?_); refine with_tabW impl_SegOk.tab11 impl_SegOk.bits11 (fun HT_ HW_ => ?_); generalize gc.drew = gE at ah af HB hHeld ⊢; refine py_ HT_ 0 58 ?_
               refine ty_ HT_ HW_ 1 59 rfl hHeld (by rintro w' ⟨s0, s1⟩; go_simp; with_reducible rfl) ?_
               refine oy_ HT_ 2 (some 60) (fun K hK => ?_); refine gs_ Tryd.func68 #[.int .i64 a0, .agg #[.int .i64 ((rd_T54 (rd_L7 ab aa) ac).f0), .int .i64 ((rd_T54 (rd_L7 ab aa) ac).f1)]] (h := ?_); with_reducible refine (impl_SymOk.calls a0 ((rd_T54 (rd_L7 ab aa) ac).f0) ((rd_T54 (rd_L7 ab aa) ac).f1) false _ A24.out).mono ?_
               rintro e gF ⟨rfl, hb⟩; refine ⟨_, rfl, ?_⟩; replace ah := rb_ ah hb; replace af := bb_ af hb; replace HB := hb1_ HB hb av
               (try clear hb)
               (try clear hb2)
               (try clear hk)
               (try clear hi)
               refine hK.out _ _ ⟨cl_ af 0, cl_ af 1⟩ (fun hHeld => ?_); clear hK K; refine norm_y 60 (h := ?_)
               refine py_ HT_ 3 61 ?_
               refine py_ HT_ 4 62 ?_
               refine pn_ HT_ 5 63 ?_
               refine pn_ HT_ 6 64 ?_
               refine pn_ HT_ 7 65 ?_
               refine pn_ HT_ 8 66 ?_
               refine pn_ HT_ 9 67 ?_
               refine pn_ HT_ 10 68 ?_
               refine pn_ HT_ 11 69 ?_
               refine pn_ HT_ 12 70 ?_
               refine pn_ HT_ 13 71 ?_
               refine pn_ HT_ 14 72 ?_
               refine pn_ HT_ 15 73 ?_
               refine pn_ HT_ 16 74 ?_
               refine py_ HT_ 17 75 ?_
               refine py_ HT_ 18 76 ?_
               refine pn_ HT_ 19 77 ?_
               refine pn_ HT_ 20 78 ?_
               refine pn_ HT_ 21 79 ?_
               refine py_ HT_ 22 80 ?_
               refine done_ (done_of HT_.out (by kernel_rfl)) ?_
               try go_wp2
               go_ret
               exact ⟨lf_, sq_below1 HB.out av.out⟩
             ·
              rw [if_neg c23] at H; exact absurd H (by simp)
            ·
             rw [if_neg c22] at H; exact absurd H (by simp)
           ·
            rw [if_neg c21] at H; have dq := decide_eq_false (p := ac < ((rd_L7 ab aa).length : Int)) c21; clear c21
            by_cases c79 : ((rd_L7 ab aa).length : Int) = 0
            ·
             rw [if_pos c79] at H; have dt : (((rd_L7 ab aa).length : Int) == 0) = true := beq_iff_eq.mpr c79; have du : (((rd_L7 ab aa).length : Int) != 0) = false := bne_eq_false_iff_eq.mpr c79; clear c79; obtain rfl := Option.some.inj H
             go_wp2
             go_ret
             exact ⟨lf_, sq_below1 HB.out aj.out⟩
            ·
             rw [if_neg c79] at H; have dt : (((rd_L7 ab aa).length : Int) == 0) = false := beq_eq_false_iff_ne.mpr c79; have du : (((rd_L7 ab aa).length : Int) != 0) = true := bne_iff_ne.mpr c79; have fu : ¬ ((rd_L7 ab aa) = []) := fun h_ => c79 (by rw [h_]; rfl)
             by_cases c80 : aX.length + (rd_L7 ab aa).length < 8796093022208
             ·
              rw [if_pos c80] at H; have cV := am_ c80; clear c80; obtain ⟨bM, cj⟩ : ∃ y_ : List (S54), y_ = (aX ++ (rd_L7 ab aa)) := ⟨_, rfl⟩; replace H : (if (bM.length : Int) > 40 then (some false) else (impl_SegOk.l0 k3 a0 a1 (ab.length : Int) bM ab (ab.length : Int) (wrap64 (aa + 1)) ab az aK)) = some r := by first | (rw [cj]; with_reducible exact H) | (have H2_ := (Option.bind_some _ _).symm.trans H; rw [cj]; with_reducible exact H2_) | (have H2_ := (Option.bind_some _ _).symm.trans H; with_reducible exact H2_) | with_reducible exact H | (rw [cj]; exact H) | exact H
              have cX := am_ cj; clear cj
              by_cases c81 : (bM.length : Int) > 40
              ·
               rw [if_pos c81] at H; have dv := decide_eq_true (p := 40 < (bM.length : Int)) c81; have dw : decide (40 < bM.length) = true := decide_eq_true (by omega); clear c81; obtain rfl := Option.some.inj H
               go_wp2_with (first | ((with_reducible refine gate_builtin (b := .append) (xs := #[.tmp 85, .tmp 86]) rfl ?_); (try (refine gate_guard (by rfl) ?_; dsimp only)); at_builtin; refine Kd.R_append_rows k54 (w0 := w) w.heap.size rfl (.tmp 85) (.tmp 86) 36 54 (.agg #[(.int .i64 0), (.int .i64 0)]) 16 rfl Tryd.underlying36 info54 rfl (by decide) (by omega) u8 aX (rd_L7 ab aa) _ _ _ (fun _ => True) (fun _ => False) rfl rfl ?aO ?aR (fun _ _ h => h) (fun _ h => h.elim) ?aF ?aB ?aS ?aL ?_; (case aR => exact sq_c (Kd.C_below aU.out HB.out)); (case aB => exact (sq_below HB.out)); (case aF => exact (fun _ _ => trivial)); (case aO => exact (sq_row ah.out)); (case aS => exact (below_size (sq_below HB.out))); (case aL => have := cV.out; omega); intro v367 gG ho hb hg hat; rw [← cX.out] at ho; replace HB := am_ hb; have cu := am_ ho; clear ah; clear ho hb hg hat; obtain ⟨fJ, fL, eQ⟩ := Kd.R_slice cu.out; subst eQ))
               go_ret
               exact ⟨lf_, sq_below HB.out⟩
              ·
               rw [if_neg c81] at H; have dv := decide_eq_false (p := 40 < (bM.length : Int)) c81; have dw : decide (40 < bM.length) = false := decide_eq_false (by omega); clear c81; have H' := am_ H; clear H
               go_wp2_with (first | ((with_reducible refine gate_builtin (b := .append) (xs := #[.tmp 85, .tmp 86]) rfl ?_); (try (refine gate_guard (by rfl) ?_; dsimp only)); at_builtin; refine Kd.R_append_rows k54 (w0 := w) w.heap.size rfl (.tmp 85) (.tmp 86) 36 54 (.agg #[(.int .i64 0), (.int .i64 0)]) 16 rfl Tryd.underlying36 info54 rfl (by decide) (by omega) u8 aX (rd_L7 ab aa) _ _ _ (fun _ => True) (fun _ => False) rfl rfl ?aO ?aR (fun _ _ h => h) (fun _ h => h.elim) ?aF ?aB ?aS ?aL ?_; (case aR => exact sq_c (Kd.C_below aU.out HB.out)); (case aB => exact (sq_below1 HB.out aj.out)); (case aF => exact (fun _ _ => trivial)); (case aO => exact (sq_row ah.out)); (case aS => exact (below_size (sq_below1 HB.out aj.out))); (case aL => have := cV.out; omega); intro v367 gH ho hb hg hat; rw [← cX.out] at ho; replace ae := bg_ ae ah hg; replace HB := am_ hb; have cu := am_ ho; clear ah; clear ho hb hg hat; obtain ⟨fK, fM, eR⟩ := Kd.R_slice cu.out; subst eR))
               go_roundg k3
               case measure => have := HJ3.out; have := HK2.out; have := HK3.out; omega
               case rel => exact ⟨(bM), (wrap64 (aa + 1)), sr_, H', ⟨by have := HJ3.out; have := HK2.out; have := HK3.out; omega⟩, ⟨by (with_reducible repeat (first | apply Kd.R_alloc | apply Kd.R_drewN | apply Kd.R_drew)); exact cu.out⟩, bk_ ae, ⟨sq_below1 HB.out aj.out⟩⟩
             ·
              rw [if_neg c80] at H; exact absurd H (by simp)
        ·
         rw [if_neg c20] at H; exact absurd H (by simp)
       ·
        rw [if_neg c19] at H; exact absurd H (by simp)
      ·
       rw [if_neg c18] at H; have cY := decide_eq_false (p := aa < (ab.length : Int)) c18; clear c18; replace H := Option.bind_eq_some_iff.mp H; obtain ⟨⟨aC, aJ, aD, aQ⟩, A860, H⟩ := H; (try dsimp only at H); have A86 := am_ A860; clear A860
       by_cases c87 : 0 < (ab.length : Int)
       ·
        rw [if_pos c87] at H; have fv := decide_eq_true (p := 0 < (ab.length : Int)) c87; have fw : decide (0 < ab.length) = true := decide_eq_true (by omega); clear c87; obtain ⟨di, A88, H⟩ := be_ H; (try dsimp only at H)
        by_cases c89 : di = true
        ·
         subst c89; have H1 := ifp_ H
         clear H; have H := H1; clear H1; obtain ⟨bi, bC⟩ : ∃ j_ : Int, (wrap64 ((ab.length : Int) - 1)) = j_ := ⟨_, rfl⟩; replace H : (if 0 ≤ (bi) then (if (bi) < (ab.length : Int) then ((impl_Sym_35.f k2 (rd_L7 ab (bi)) aD aQ).bind fun cQ => (if cQ = true then ((slices_ContainsFunc__impl_SegOk_1.f k2 az).bind fun cE => (some (!cE))) else (some false))) else (none)) else (none)) = some r := by first | (rw [bC] at H; exact H) | (simp only [bC] at H ⊢; exact H)
         (try rw [bC] at A86)
         (try rw [bC] at A88)
         have hji90w : (IntKind.i64.wrap ((ab.length : Int) - 1)) = bi := (i64_w _).trans bC
         by_cases c91 : 0 ≤ (bi)
         ·
          rw [if_pos c91] at H; have fx := decide_eq_true (p := 0 ≤ (bi)) c91; clear c91
          by_cases c92 : (bi) < (ab.length : Int)
          ·
           rw [if_pos c92] at H; have fy := decide_eq_true (p := (bi) < (ab.length : Int)) c92; clear c92; obtain ⟨cQ, A93, H⟩ := be_ H; (try dsimp only at H)
           by_cases c94 : cQ = true
           ·
            subst c94; have H1 := ifp_ H
            clear H; have H := H1; clear H1; replace H := Option.bind_eq_some_iff.mp H; obtain ⟨cE, A950, H⟩ := H; replace H : (some (!cE)) = some r := H; have A95 := am_ A950; clear A950; obtain rfl := Option.some.inj H
            try go_wp2_with (first | ((with_reducible refine gate_callee (f := 70) rfl ?_); refine gl_ 94 Tryd.func70 #[.int .i64 a1] (h := ?_); (with_reducible refine (impl_ends.calls a1 aC aJ aD aQ _ A86.out).mono ?_); rintro e gI ⟨rfl, hb⟩; refine ⟨_, rfl, ?_⟩; replace ah := rb_ ah hb; replace ae := bb_ ae hb; replace HB := hb1_ HB hb aj; (try clear hb)) | ((with_reducible refine gate_dst (N := 13) rfl ?_); (try (refine gate_guard (by rfl) ?_; dsimp only)); refine box_y 13 #[.int .i64 0, .int .i64 0] 54 (h := ?_); intro ak hg gJ hbox hb; replace ah := am_ (Kd.R_below (Kd.R_elderB (sq_row ah.out) ak (Nat.le_of_eq hg.symm)) hb); have ai := am_ hbox; have cT := gz1_ hg HB aj; have aG := gz1_ hg HB aj; replace HB := hb1_ HB hb aj; have ao := nb_ hg ae; replace ae := bb_ ae hb; have bm := ns_ ao; clear hb hbox hg) | ((with_reducible refine gate_dst (N := 14) rfl ?_); (try (refine gate_guard (by rfl) ?_; dsimp only)); refine box_y 14 #[.int .i64 0, .int .i64 0] 54 (h := ?_); intro al hg dj hbox hb; replace ah := am_ (Kd.R_below (Kd.R_elderB (sq_row ah.out) al (Nat.le_of_eq hg.symm)) hb); have am := am_ hbox; have cU := gz2_ hg HB aj aG; have bd := gz2_ hg HB aj aG; replace HB := hb2_ HB hb aj aG; have ap := nb_ hg ae; replace ae := bb_ ae hb; have bn := ns_ ap; have aq := nb_ hg ai; replace ai := bb_ ai hb; have aA := ns_ aq; clear hb hbox hg; have fB := bm.out; have fE := ao.out; have eS := aq.out; have e5 := aA.out; obtain ⟨dB, dC, dN, dO⟩ := cz2_ ai; have eT := bn.out; have e6 := ap.out; obtain ⟨dD, dE, dP, dQ⟩ := cz2_ am))
            have n0_ : Aside0 (Kd.R k54 54 ((((dj.setCell ⟨ak, 0, none⟩ (.int .i64 aC)).setCell ⟨ak, 1, none⟩ (.int .i64 aJ)).setCell ⟨al, 0, none⟩ (.int .i64 aD)).setCell ⟨al, 1, none⟩ (.int .i64 aQ)) w.heap.size (fun k_ => k_ ≠ ak ∧ k_ ≠ al) u8 aX) := ⟨by (with_reducible repeat (first | apply Kd.R_alloc | apply Kd.R_drewN | apply Kd.R_drew)); exact Kd.R_mono (Kd.R_far (p := ⟨al, 1, none⟩) (Kd.R_far (p := ⟨al, 0, none⟩) (Kd.R_far (p := ⟨ak, 1, none⟩) (Kd.R_far (p := ⟨ak, 0, none⟩) (Kd.R_mono (Kd.R_mono ah.out (fun k_ hk => (⟨hk, hk.1.2⟩ : _ ∧ k_ ≠ ak))) (fun k_ hk => (⟨hk, hk.1.2⟩ : _ ∧ k_ ≠ al))) (fun _ hk => hk.1.2) (.int .i64 aC)) (fun _ hk => hk.1.2) (.int .i64 aJ)) (fun _ hk => hk.2) (.int .i64 aD)) (fun _ hk => hk.2) (.int .i64 aQ)) (fun _ hk => ⟨hk.1.1.1.2, hk.1.1.2⟩)⟩; have n1_ : Aside0 (((((dj.setCell ⟨ak, 0, none⟩ (.int .i64 aC)).setCell ⟨ak, 1, none⟩ (.int .i64 aJ)).setCell ⟨al, 0, none⟩ (.int .i64 aD)).setCell ⟨al, 1, none⟩ (.int .i64 aQ)).heap[ba]? = some (.cells #[.slice cd ab.length bz, .slice bt az.length bu, .slice bv aK.length bA] 33 (0, 0))) := ⟨by (with_reducible repeat (first | refine blk_drewN ?_ _ | refine blk_drew ?_ | refine blk_alloc ?_ _)); refine blk_far ?_ ap.out _; (with_reducible repeat (first | refine blk_drewN ?_ _ | refine blk_drew ?_ | refine blk_alloc ?_ _)); refine blk_far ?_ ap.out _; (with_reducible repeat (first | refine blk_drewN ?_ _ | refine blk_drew ?_ | refine blk_alloc ?_ _)); refine blk_far ?_ ao.out _; (with_reducible repeat (first | refine blk_drewN ?_ _ | refine blk_drew ?_ | refine blk_alloc ?_ _)); refine blk_far ?_ ao.out _; (with_reducible repeat (first | refine blk_drewN ?_ _ | refine blk_drew ?_ | refine blk_alloc ?_ _)); exact ae.out⟩; have n2_ : Aside0 (((((dj.setCell ⟨ak, 0, none⟩ (.int .i64 aC)).setCell ⟨ak, 1, none⟩ (.int .i64 aJ)).setCell ⟨al, 0, none⟩ (.int .i64 aD)).setCell ⟨al, 1, none⟩ (.int .i64 aQ)).heap[ak]? = some (.cells #[.int .i64 aC, .int .i64 aJ] 54 (0, 0))) := ⟨by (with_reducible repeat (first | refine blk_drewN ?_ _ | refine blk_drew ?_ | refine blk_alloc ?_ _)); refine blk_far ?_ aq.out _; (with_reducible repeat (first | refine blk_drewN ?_ _ | refine blk_drew ?_ | refine blk_alloc ?_ _)); refine blk_far ?_ aq.out _; (with_reducible repeat (first | refine blk_drewN ?_ _ | refine blk_drew ?_ | refine blk_alloc ?_ _)); refine blk_put (cs := #[.int .i64 aC, .int .i64 0]) ?_ 1 _ rfl; (with_reducible repeat (first | refine blk_drewN ?_ _ | refine blk_drew ?_ | refine blk_alloc ?_ _)); refine blk_put (cs := #[.int .i64 0, .int .i64 0]) ?_ 0 _ rfl; (with_reducible repeat (first | refine blk_drewN ?_ _ | refine blk_drew ?_ | refine blk_alloc ?_ _)); exact ai.out⟩; have n3_ : Aside0 (((((dj.setCell ⟨ak, 0, none⟩ (.int .i64 aC)).setCell ⟨ak, 1, none⟩ (.int .i64 aJ)).setCell ⟨al, 0, none⟩ (.int .i64 aD)).setCell ⟨al, 1, none⟩ (.int .i64 aQ)).heap[al]? = some (.cells #[.int .i64 aD, .int .i64 aQ] 54 (0, 0))) := ⟨by (with_reducible repeat (first | refine blk_drewN ?_ _ | refine blk_drew ?_ | refine blk_alloc ?_ _)); refine blk_put (cs := #[.int .i64 aD, .int .i64 0]) ?_ 1 _ rfl; (with_reducible repeat (first | refine blk_drewN ?_ _ | refine blk_drew ?_ | refine blk_alloc ?_ _)); refine blk_put (cs := #[.int .i64 0, .int .i64 0]) ?_ 0 _ rfl; (with_reducible repeat (first | refine blk_drewN ?_ _ | refine blk_drew ?_ | refine blk_alloc ?_ _)); refine blk_far ?_ aA.out _; (with_reducible repeat (first | refine blk_drewN ?_ _ | refine blk_drew ?_ | refine blk_alloc ?_ _)); refine blk_far ?_ aA.out _; (with_reducible repeat (first | refine blk_drewN ?_ _ | refine blk_drew ?_ | refine blk_alloc ?_ _)); exact am.out⟩; have n4_ : Aside0 (Below w.heap.size w ((((dj.setCell ⟨ak, 0, none⟩ (.int .i64 aC)).setCell ⟨ak, 1, none⟩ (.int .i64 aJ)).setCell ⟨al, 0, none⟩ (.int .i64 aD)).setCell ⟨al, 1, none⟩ (.int .i64 aQ))) := ⟨sq_below3 HB.out aj.out aG.out bd.out⟩
            (try clear ah)
            (try clear ae)
            (try clear ai)
            (try clear am)
            (try clear HB)
            generalize ((((dj.setCell ⟨ak, 0, none⟩ (.int .i64 aC)).setCell ⟨ak, 1, none⟩ (.int .i64 aJ)).setCell ⟨al, 0, none⟩ (.int .i64 aD)).setCell ⟨al, 1, none⟩ (.int .i64 aQ)) = fg at n0_ n1_ n2_ n3_ n4_ ⊢; have ah := n0_; have ae := n1_; have ai := n2_; have am := n3_; have HB := n4_; clear n0_ n1_ n2_ n3_ n4_; replace ah := rd_ ah; replace ae := bd_ ae; replace ai := bd_ ai; replace am := bd_ am; replace HB := hd_ HB; have bJ : 0 ≤ (0 : Int) := (by omega); have bL : 0 < (ab.length : Int) := sq_dec; obtain ⟨bp, bq, br, cK, au, hl375_0, hi375_0⟩ := at_L7 bN.out 0 bJ bL; have ar := au
            (try rw [show ((0 : Int)).toNat = 0 from rfl] at ar)
            (try rw [show 0 * 1 = 0 from rfl] at ar)
            (try rw [Addr.add_zero'] at ar)
            cases cK; have qi375 : (0 < ab.length) = True := eq_true (by omega)
            (try rw [show ((0 : Int)).toNat = 0 from rfl] at au)
            (try rw [Addr.add_zero'] at au)
            replace au := cb_ HB au; have bj := am_ hi375_0; have bw := am_ hl375_0; clear hi375_0 hl375_0; replace bJ := eq_true bJ; replace bL := eq_true bL; have cq : 0 ≤ ((bi) : Int) := sq_dec; have cr : (bi) < (ab.length : Int) := sq_dec; obtain ⟨cI, bF, bG, df, bc, hl377_0, hi377_0⟩ := at_L7 bN.out (bi) cq cr; have bk := bc; obtain rfl : bp = cI := (by injection df); replace bc := cb_ HB bc; have bx := am_ hi377_0; have bO := am_ hl377_0; clear hi377_0 hl377_0; replace cq := eq_true cq; replace cr := eq_true cr; refine start_ (n := 23) (S := fun w' => w'.cell? ⟨ba, 0, none⟩ = some (.slice (some bp) ab.length bz) ∧ w'.cell? ⟨ba, 1, none⟩ = some (.slice bt az.length bu) ∧ w'.cell? ⟨ba, 2, none⟩ = some (.slice bv aK.length bA) ∧ w'.cell? ⟨ak, 0, none⟩ = some (.int .i64 aC) ∧ w'.cell? ⟨ak, 1, none⟩ = some (.int .i64 aJ) ∧ w'.cell? ⟨al, 0, none⟩ = some (.int .i64 aD) ∧ w'.cell? ⟨al, 1, none⟩ = some (.int .i64 aQ) ∧ w'.cell? bp = some (.slice bq (rd_L7 ab 0).length br) ∧ w'.cell? (bp.add ((bi)).toNat) = some (.slice bF (rd_L7 ab (bi)).length bG)) (ds := []) #[false, false, false, false, false, false, false, false, false, false, false, false, false, false, false, false, false, false, false, false, false, false, false] (by kernel_rfl) rfl rfl ⟨cl_ ae 0, cl_ ae 1, cl_ ae 2, cl_ ai 0, cl_ ai 1, cl_ am 0, cl_ am 1, (cb_ HB ar), (cb_ HB bk)⟩ (fun hHeld => ?_); refine with_tabW impl_SegOk.tab21 impl_SegOk.bits21 (fun HT_ HW_ => ?_); generalize fg.drew = fN at ah ae ai am HB bj bx au bc hHeld ⊢; refine py_ HT_ 0 97 ?_
            refine ty_ HT_ HW_ 1 98 rfl hHeld (by rintro w' ⟨s0, s1, s2, s3, s4, s5, s6, s7, s8⟩; go_simp; with_reducible rfl) ?_
            refine py_ HT_ 2 99 ?_
            refine ty_ HT_ HW_ 3 100 rfl hHeld (by rintro w' ⟨s0, s1, s2, s3, s4, s5, s6, s7, s8⟩; go_simp; with_reducible rfl) ?_
            refine ty_ HT_ HW_ 4 101 rfl hHeld (by rintro w' ⟨s0, s1, s2, s3, s4, s5, s6, s7, s8⟩; go_simp; with_reducible rfl) ?_
            refine oy_ HT_ 5 (some 102) (fun K hK => ?_); refine gs_ Tryd.func35 #[.slice bq (rd_L7 ab 0).length br, .agg #[.int .i64 aC, .int .i64 aJ]] (h := ?_); with_reducible refine (impl_Sym_35.calls k2 _ _ (rd_L7 ab 0) aC aJ true _ ?aV ?aW A88.out).mono ?_
            (case aV => exact sq_c (Kd.C_below bj.out HB.out))
            (case aW => exact bw.out)
            rintro e fO ⟨rfl, hb⟩; refine ⟨_, rfl, ?_⟩; replace ah := rb_ ah hb; replace ae := bb_ ae hb; replace ai := bb_ ai hb; replace am := bb_ am hb; replace HB := hb3_ HB hb aj aG bd
            (try clear hb)
            (try clear hb2)
            (try clear hk)
            (try clear hi)
            refine hK.out _ _ ⟨cl_ ae 0, cl_ ae 1, cl_ ae 2, cl_ ai 0, cl_ ai 1, cl_ am 0, cl_ am 1, (cb_ HB ar), (cb_ HB bk)⟩ (fun hHeld => ?_); clear hK K; refine norm_y 102 (h := ?_)
            refine py_ HT_ 6 103 ?_
            refine py_ HT_ 7 104 ?_
            refine py_ HT_ 9 106 ?_
            refine py_ HT_ 10 107 ?_
            refine ty_ HT_ HW_ 8 105 rfl hHeld (by rintro w' ⟨s0, s1, s2, s3, s4, s5, s6, s7, s8⟩; go_simp; with_reducible rfl) ?_
            refine py_ HT_ 11 108 ?_
            refine ty_ HT_ HW_ 12 109 rfl hHeld (by rintro w' ⟨s0, s1, s2, s3, s4, s5, s6, s7, s8⟩; go_simp; with_reducible rfl) ?_
            refine ty_ HT_ HW_ 13 110 rfl hHeld (by rintro w' ⟨s0, s1, s2, s3, s4, s5, s6, s7, s8⟩; go_simp; with_reducible rfl) ?_
            refine oy_ HT_ 14 (some 111) (fun K hK => ?_); refine goes_ Tryd.func35 (by kernel_rfl) rfl #[.slice bF (rd_L7 ab (bi)).length bG, .agg #[.int .i64 aD, .int .i64 aQ]] (by rfl) rfl rfl (by (try simp only [List.map_toArray, List.map_cons, List.map_nil]); first | done | (simp only [bC]; rfl) | rfl | (simp only [List.length_drop, List.length_take]; rfl)) ?_; with_reducible refine (impl_Sym_35.calls k2 _ _ (rd_L7 ab (bi)) aD aQ true _ ?aV ?aW A93.out).mono ?_
            (case aV => exact sq_c (Kd.C_below bx.out HB.out))
            (case aW => exact bO.out)
            rintro e fP ⟨rfl, hb⟩; refine ⟨_, rfl, ?_⟩; replace ah := rb_ ah hb; replace ae := bb_ ae hb; replace ai := bb_ ai hb; replace am := bb_ am hb; replace HB := hb3_ HB hb aj aG bd
            (try clear hb)
            (try clear hb2)
            (try clear hk)
            (try clear hi)
            refine hK.out _ _ ⟨cl_ ae 0, cl_ ae 1, cl_ ae 2, cl_ ai 0, cl_ ai 1, cl_ am 0, cl_ am 1, (cb_ HB ar), (cb_ HB bk)⟩ (fun hHeld => ?_); clear hK K; refine norm_y 111 (h := ?_)
            refine py_ HT_ 15 112 ?_
            refine py_ HT_ 16 113 ?_
            refine py_ HT_ 17 114 ?_
            refine ty_ HT_ HW_ 18 115 rfl hHeld (by rintro w' ⟨s0, s1, s2, s3, s4, s5, s6, s7, s8⟩; go_simp; with_reducible rfl) ?_
            refine oy_ HT_ 19 (some 116) (fun K hK => ?_); refine gs_ Tryd.func71 #[.slice bt az.length bu, .func (.func 72) #[] #[]] (h := ?_); with_reducible refine (slices_ContainsFunc__impl_SegOk_1.calls k2 _ _ az  cE _ ?dZ ?aV ?aW A95.out).mono ?_
            (case aV => exact sq_c (Kd.C_below dm.out HB.out))
            (case aW => exact dk.out)
            (case dZ => exact GL0.below HG0.out (sq_below3 HB.out aj.out aG.out bd.out))
            rintro e fQ ⟨rfl, hb⟩; refine ⟨_, rfl, ?_⟩; replace ah := rb_ ah hb; replace ae := bb_ ae hb; replace ai := bb_ ai hb; replace am := bb_ am hb; replace HB := hb3_ HB hb aj aG bd
            (try clear hb)
            (try clear hb2)
            (try clear hk)
            (try clear hi)
            refine hK.out _ _ ⟨cl_ ae 0, cl_ ae 1, cl_ ae 2, cl_ ai 0, cl_ ai 1, cl_ am 0, cl_ am 1, (cb_ HB ar), (cb_ HB bk)⟩ (fun hHeld => ?_); clear hK K; refine norm_y 116 (h := ?_)
            refine py_ HT_ 20 117 ?_
            refine py_ HT_ 21 118 ?_
            refine py_ HT_ 22 6 ?_
            refine done_ (done_of HT_.out (by kernel_rfl)) ?_
            try go_wp2
            go_ret
            exact ⟨by first | rfl | (simp [errW_none, errW_some] <;> rfl) | (simp only [← bC]; first | rfl | (simp [errW_none, errW_some] <;> rfl)) | (simp [*, errW_none, errW_some] <;> rfl), sq_below3 HB.out aj.out aG.out bd.out⟩
           ·
            replace c94 := Bool.eq_false_iff.mpr c94; subst c94; have H1 := ifn_ H
            clear H; have H := H1; clear H1; obtain rfl := Option.some.inj H
            try go_wp2_with (first | ((with_reducible refine gate_callee (f := 70) rfl ?_); refine gl_ 94 Tryd.func70 #[.int .i64 a1] (h := ?_); (with_reducible refine (impl_ends.calls a1 aC aJ aD aQ _ A86.out).mono ?_); rintro e fR ⟨rfl, hb⟩; refine ⟨_, rfl, ?_⟩; replace ah := rb_ ah hb; replace ae := bb_ ae hb; replace HB := hb1_ HB hb aj; (try clear hb)) | ((with_reducible refine gate_dst (N := 13) rfl ?_); (try (refine gate_guard (by rfl) ?_; dsimp only)); refine box_y 13 #[.int .i64 0, .int .i64 0] 54 (h := ?_); intro ak hg fS hbox hb; replace ah := am_ (Kd.R_below (Kd.R_elderB (sq_row ah.out) ak (Nat.le_of_eq hg.symm)) hb); have ai := am_ hbox; have cT := gz1_ hg HB aj; have aG := gz1_ hg HB aj; replace HB := hb1_ HB hb aj; have ao := nb_ hg ae; replace ae := bb_ ae hb; have bm := ns_ ao; clear hb hbox hg) | ((with_reducible refine gate_dst (N := 14) rfl ?_); (try (refine gate_guard (by rfl) ?_; dsimp only)); refine box_y 14 #[.int .i64 0, .int .i64 0] 54 (h := ?_); intro al hg cF hbox hb; replace ah := am_ (Kd.R_below (Kd.R_elderB (sq_row ah.out) al (Nat.le_of_eq hg.symm)) hb); have am := am_ hbox; have cU := gz2_ hg HB aj aG; have bd := gz2_ hg HB aj aG; replace HB := hb2_ HB hb aj aG; have ap := nb_ hg ae; replace ae := bb_ ae hb; have bn := ns_ ap; have aq := nb_ hg ai; replace ai := bb_ ai hb; have aA := ns_ aq; clear hb hbox hg; have eU := bm.out; have e7 := ao.out; have eV := aq.out; have e8 := aA.out; obtain ⟨dF, dG, dR, dS⟩ := cz2_ ai; have eW := bn.out; have fa := ap.out; obtain ⟨dH, dI, dT, dU⟩ := cz2_ am))
            have n0_ : Aside0 (Kd.R k54 54 ((((cF.setCell ⟨ak, 0, none⟩ (.int .i64 aC)).setCell ⟨ak, 1, none⟩ (.int .i64 aJ)).setCell ⟨al, 0, none⟩ (.int .i64 aD)).setCell ⟨al, 1, none⟩ (.int .i64 aQ)) w.heap.size (fun k_ => k_ ≠ ak ∧ k_ ≠ al) u8 aX) := ⟨by (with_reducible repeat (first | apply Kd.R_alloc | apply Kd.R_drewN | apply Kd.R_drew)); exact Kd.R_mono (Kd.R_far (p := ⟨al, 1, none⟩) (Kd.R_far (p := ⟨al, 0, none⟩) (Kd.R_far (p := ⟨ak, 1, none⟩) (Kd.R_far (p := ⟨ak, 0, none⟩) (Kd.R_mono (Kd.R_mono ah.out (fun k_ hk => (⟨hk, hk.1.2⟩ : _ ∧ k_ ≠ ak))) (fun k_ hk => (⟨hk, hk.1.2⟩ : _ ∧ k_ ≠ al))) (fun _ hk => hk.1.2) (.int .i64 aC)) (fun _ hk => hk.1.2) (.int .i64 aJ)) (fun _ hk => hk.2) (.int .i64 aD)) (fun _ hk => hk.2) (.int .i64 aQ)) (fun _ hk => ⟨hk.1.1.1.2, hk.1.1.2⟩)⟩; have n1_ : Aside0 (((((cF.setCell ⟨ak, 0, none⟩ (.int .i64 aC)).setCell ⟨ak, 1, none⟩ (.int .i64 aJ)).setCell ⟨al, 0, none⟩ (.int .i64 aD)).setCell ⟨al, 1, none⟩ (.int .i64 aQ)).heap[ba]? = some (.cells #[.slice cd ab.length bz, .slice bt az.length bu, .slice bv aK.length bA] 33 (0, 0))) := ⟨by (with_reducible repeat (first | refine blk_drewN ?_ _ | refine blk_drew ?_ | refine blk_alloc ?_ _)); refine blk_far ?_ ap.out _; (with_reducible repeat (first | refine blk_drewN ?_ _ | refine blk_drew ?_ | refine blk_alloc ?_ _)); refine blk_far ?_ ap.out _; (with_reducible repeat (first | refine blk_drewN ?_ _ | refine blk_drew ?_ | refine blk_alloc ?_ _)); refine blk_far ?_ ao.out _; (with_reducible repeat (first | refine blk_drewN ?_ _ | refine blk_drew ?_ | refine blk_alloc ?_ _)); refine blk_far ?_ ao.out _; (with_reducible repeat (first | refine blk_drewN ?_ _ | refine blk_drew ?_ | refine blk_alloc ?_ _)); exact ae.out⟩; have n2_ : Aside0 (((((cF.setCell ⟨ak, 0, none⟩ (.int .i64 aC)).setCell ⟨ak, 1, none⟩ (.int .i64 aJ)).setCell ⟨al, 0, none⟩ (.int .i64 aD)).setCell ⟨al, 1, none⟩ (.int .i64 aQ)).heap[ak]? = some (.cells #[.int .i64 aC, .int .i64 aJ] 54 (0, 0))) := ⟨by (with_reducible repeat (first | refine blk_drewN ?_ _ | refine blk_drew ?_ | refine blk_alloc ?_ _)); refine blk_far ?_ aq.out _; (with_reducible repeat (first | refine blk_drewN ?_ _ | refine blk_drew ?_ | refine blk_alloc ?_ _)); refine blk_far ?_ aq.out _; (with_reducible repeat (first | refine blk_drewN ?_ _ | refine blk_drew ?_ | refine blk_alloc ?_ _)); refine blk_put (cs := #[.int .i64 aC, .int .i64 0]) ?_ 1 _ rfl; (with_reducible repeat (first | refine blk_drewN ?_ _ | refine blk_drew ?_ | refine blk_alloc ?_ _)); refine blk_put (cs := #[.int .i64 0, .int .i64 0]) ?_ 0 _ rfl; (with_reducible repeat (first | refine blk_drewN ?_ _ | refine blk_drew ?_ | refine blk_alloc ?_ _)); exact ai.out⟩; have n3_ : Aside0 (((((cF.setCell ⟨ak, 0, none⟩ (.int .i64 aC)).setCell ⟨ak, 1, none⟩ (.int .i64 aJ)).setCell ⟨al, 0, none⟩ (.int .i64 aD)).setCell ⟨al, 1, none⟩ (.int .i64 aQ)).heap[al]? = some (.cells #[.int .i64 aD, .int .i64 aQ] 54 (0, 0))) := ⟨by (with_reducible repeat (first | refine blk_drewN ?_ _ | refine blk_drew ?_ | refine blk_alloc ?_ _)); refine blk_put (cs := #[.int .i64 aD, .int .i64 0]) ?_ 1 _ rfl; (with_reducible repeat (first | refine blk_drewN ?_ _ | refine blk_drew ?_ | refine blk_alloc ?_ _)); refine blk_put (cs := #[.int .i64 0, .int .i64 0]) ?_ 0 _ rfl; (with_reducible repeat (first | refine blk_drewN ?_ _ | refine blk_drew ?_ | refine blk_alloc ?_ _)); refine blk_far ?_ aA.out _; (with_reducible repeat (first | refine blk_drewN ?_ _ | refine blk_drew ?_ | refine blk_alloc ?_ _)); refine blk_far ?_ aA.out _; (with_reducible repeat (first | refine blk_drewN ?_ _ | refine blk_drew ?_ | refine blk_alloc ?_ _)); exact am.out⟩; have n4_ : Aside0 (Below w.heap.size w ((((cF.setCell ⟨ak, 0, none⟩ (.int .i64 aC)).setCell ⟨ak, 1, none⟩ (.int .i64 aJ)).setCell ⟨al, 0, none⟩ (.int .i64 aD)).setCell ⟨al, 1, none⟩ (.int .i64 aQ))) := ⟨sq_below3 HB.out aj.out aG.out bd.out⟩
            (try clear ah)
            (try clear ae)
            (try clear ai)
            (try clear am)
            (try clear HB)
            generalize ((((cF.setCell ⟨ak, 0, none⟩ (.int .i64 aC)).setCell ⟨ak, 1, none⟩ (.int .i64 aJ)).setCell ⟨al, 0, none⟩ (.int .i64 aD)).setCell ⟨al, 1, none⟩ (.int .i64 aQ)) = fh at n0_ n1_ n2_ n3_ n4_ ⊢; have ah := n0_; have ae := n1_; have ai := n2_; have am := n3_; have HB := n4_; clear n0_ n1_ n2_ n3_ n4_; replace ah := rd_ ah; replace ae := bd_ ae; replace ai := bd_ ai; replace am := bd_ am; replace HB := hd_ HB; have bJ : 0 ≤ (0 : Int) := (by omega); have bL : 0 < (ab.length : Int) := sq_dec; obtain ⟨bp, bq, br, cK, au, hl375_0, hi375_0⟩ := at_L7 bN.out 0 bJ bL; have ar := au
            (try rw [show ((0 : Int)).toNat = 0 from rfl] at ar)
            (try rw [show 0 * 1 = 0 from rfl] at ar)
            (try rw [Addr.add_zero'] at ar)
            cases cK; have qi375 : (0 < ab.length) = True := eq_true (by omega)
            (try rw [show ((0 : Int)).toNat = 0 from rfl] at au)
            (try rw [Addr.add_zero'] at au)
            replace au := cb_ HB au; have bj := am_ hi375_0; have bw := am_ hl375_0; clear hi375_0 hl375_0; replace bJ := eq_true bJ; replace bL := eq_true bL; have cq : 0 ≤ ((bi) : Int) := sq_dec; have cr : (bi) < (ab.length : Int) := sq_dec; obtain ⟨cI, bF, bG, df, bc, hl377_0, hi377_0⟩ := at_L7 bN.out (bi) cq cr; have bk := bc; obtain rfl : bp = cI := (by injection df); replace bc := cb_ HB bc; have bx := am_ hi377_0; have bO := am_ hl377_0; clear hi377_0 hl377_0; replace cq := eq_true cq; replace cr := eq_true cr; refine start_ (n := 23) (S := fun w' => w'.cell? ⟨ba, 0, none⟩ = some (.slice (some bp) ab.length bz) ∧ w'.cell? ⟨ba, 1, none⟩ = some (.slice bt az.length bu) ∧ w'.cell? ⟨ba, 2, none⟩ = some (.slice bv aK.length bA) ∧ w'.cell? ⟨ak, 0, none⟩ = some (.int .i64 aC) ∧ w'.cell? ⟨ak, 1, none⟩ = some (.int .i64 aJ) ∧ w'.cell? ⟨al, 0, none⟩ = some (.int .i64 aD) ∧ w'.cell? ⟨al, 1, none⟩ = some (.int .i64 aQ) ∧ w'.cell? bp = some (.slice bq (rd_L7 ab 0).length br) ∧ w'.cell? (bp.add ((bi)).toNat) = some (.slice bF (rd_L7 ab (bi)).length bG)) (ds := []) #[false, false, false, false, false, false, false, false, false, false, false, false, false, false, false, false, false, false, false, false, false, false, false] (by kernel_rfl) rfl rfl ⟨cl_ ae 0, cl_ ae 1, cl_ ae 2, cl_ ai 0, cl_ ai 1, cl_ am 0, cl_ am 1, (cb_ HB ar), (cb_ HB bk)⟩ (fun hHeld => ?_); refine with_tabW impl_SegOk.tab21 impl_SegOk.bits21 (fun HT_ HW_ => ?_); generalize fh.drew = fT at ah ae ai am HB bj bx au bc hHeld ⊢; refine py_ HT_ 0 97 ?_
            refine ty_ HT_ HW_ 1 98 rfl hHeld (by rintro w' ⟨s0, s1, s2, s3, s4, s5, s6, s7, s8⟩; go_simp; with_reducible rfl) ?_
            refine py_ HT_ 2 99 ?_
            refine ty_ HT_ HW_ 3 100 rfl hHeld (by rintro w' ⟨s0, s1, s2, s3, s4, s5, s6, s7, s8⟩; go_simp; with_reducible rfl) ?_
            refine ty_ HT_ HW_ 4 101 rfl hHeld (by rintro w' ⟨s0, s1, s2, s3, s4, s5, s6, s7, s8⟩; go_simp; with_reducible rfl) ?_
            refine oy_ HT_ 5 (some 102) (fun K hK => ?_); refine gs_ Tryd.func35 #[.slice bq (rd_L7 ab 0).length br, .agg #[.int .i64 aC, .int .i64 aJ]] (h := ?_); with_reducible refine (impl_Sym_35.calls k2 _ _ (rd_L7 ab 0) aC aJ true _ ?aV ?aW A88.out).mono ?_
            (case aV => exact sq_c (Kd.C_below bj.out HB.out))
            (case aW => exact bw.out)
            rintro e fU ⟨rfl, hb⟩; refine ⟨_, rfl, ?_⟩; replace ah := rb_ ah hb; replace ae := bb_ ae hb; replace ai := bb_ ai hb; replace am := bb_ am hb; replace HB := hb3_ HB hb aj aG bd
            (try clear hb)
            (try clear hb2)
            (try clear hk)
            (try clear hi)
            refine hK.out _ _ ⟨cl_ ae 0, cl_ ae 1, cl_ ae 2, cl_ ai 0, cl_ ai 1, cl_ am 0, cl_ am 1, (cb_ HB ar), (cb_ HB bk)⟩ (fun hHeld => ?_); clear hK K; refine norm_y 102 (h := ?_)
            refine py_ HT_ 6 103 ?_
            refine py_ HT_ 7 104 ?_
            refine py_ HT_ 9 106 ?_
            refine py_ HT_ 10 107 ?_
            refine ty_ HT_ HW_ 8 105 rfl hHeld (by rintro w' ⟨s0, s1, s2, s3, s4, s5, s6, s7, s8⟩; go_simp; with_reducible rfl) ?_
            refine py_ HT_ 11 108 ?_
            refine ty_ HT_ HW_ 12 109 rfl hHeld (by rintro w' ⟨s0, s1, s2, s3, s4, s5, s6, s7, s8⟩; go_simp; with_reducible rfl) ?_
            refine ty_ HT_ HW_ 13 110 rfl hHeld (by rintro w' ⟨s0, s1, s2, s3, s4, s5, s6, s7, s8⟩; go_simp; with_reducible rfl) ?_
            refine oy_ HT_ 14 (some 111) (fun K hK => ?_); refine goes_ Tryd.func35 (by kernel_rfl) rfl #[.slice bF (rd_L7 ab (bi)).length bG, .agg #[.int .i64 aD, .int .i64 aQ]] (by rfl) rfl rfl (by (try simp only [List.map_toArray, List.map_cons, List.map_nil]); first | done | (simp only [bC]; rfl) | rfl | (simp only [List.length_drop, List.length_take]; rfl)) ?_; with_reducible refine (impl_Sym_35.calls k2 _ _ (rd_L7 ab (bi)) aD aQ false _ ?aV ?aW A93.out).mono ?_
            (case aV => exact sq_c (Kd.C_below bx.out HB.out))
            (case aW => exact bO.out)
            rintro e fV ⟨rfl, hb⟩; refine ⟨_, rfl, ?_⟩; replace ah := rb_ ah hb; replace ae := bb_ ae hb; replace ai := bb_ ai hb; replace am := bb_ am hb; replace HB := hb3_ HB hb aj aG bd
            (try clear hb)
            (try clear hb2)
            (try clear hk)
            (try clear hi)
            refine hK.out _ _ ⟨cl_ ae 0, cl_ ae 1, cl_ ae 2, cl_ ai 0, cl_ ai 1, cl_ am 0, cl_ am 1, (cb_ HB ar), (cb_ HB bk)⟩ (fun hHeld => ?_); clear hK K; refine norm_y 111 (h := ?_)
            refine py_ HT_ 15 112 ?_
            refine py_ HT_ 16 113 ?_
            refine pn_ HT_ 17 114 ?_
            refine pn_ HT_ 18 115 ?_
            refine pn_ HT_ 19 116 ?_
            refine pn_ HT_ 20 117 ?_
            refine py_ HT_ 21 118 ?_
            refine py_ HT_ 22 6 ?_
            refine done_ (done_of HT_.out (by kernel_rfl)) ?_
            try go_wp2
            go_ret
            exact ⟨by first | rfl | (simp [errW_none, errW_some] <;> rfl) | (simp only [← bC]; first | rfl | (simp [errW_none, errW_some] <;> rfl)) | (simp [*, errW_none, errW_some] <;> rfl), sq_below3 HB.out aj.out aG.out bd.out⟩
          ·
           rw [if_neg c92] at H; exact absurd H (by simp)
         ·
          rw [if_neg c91] at H; exact absurd H (by simp)
        ·
         replace c89 := Bool.eq_false_iff.mpr c89; subst c89; have H1 := ifn_ H
         clear H; have H := H1; clear H1; obtain rfl := Option.some.inj H
         try go_wp2_with (first | ((with_reducible refine gate_callee (f := 70) rfl ?_); refine gl_ 94 Tryd.func70 #[.int .i64 a1] (h := ?_); (with_reducible refine (impl_ends.calls a1 aC aJ aD aQ _ A86.out).mono ?_); rintro e fW ⟨rfl, hb⟩; refine ⟨_, rfl, ?_⟩; replace ah := rb_ ah hb; replace ae := bb_ ae hb; replace HB := hb1_ HB hb aj; (try clear hb)) | ((with_reducible refine gate_dst (N := 13) rfl ?_); (try (refine gate_guard (by rfl) ?_; dsimp only)); refine box_y 13 #[.int .i64 0, .int .i64 0] 54 (h := ?_); intro ak hg fX hbox hb; replace ah := am_ (Kd.R_below (Kd.R_elderB (sq_row ah.out) ak (Nat.le_of_eq hg.symm)) hb); have ai := am_ hbox; have cT := gz1_ hg HB aj; have aG := gz1_ hg HB aj; replace HB := hb1_ HB hb aj; have ao := nb_ hg ae; replace ae := bb_ ae hb; have bm := ns_ ao; clear hb hbox hg) | ((with_reducible refine gate_dst (N := 14) rfl ?_); (try (refine gate_guard (by rfl) ?_; dsimp only)); refine box_y 14 #[.int .i64 0, .int .i64 0] 54 (h := ?_); intro al hg cG hbox hb; replace ah := am_ (Kd.R_below (Kd.R_elderB (sq_row ah.out) al (Nat.le_of_eq hg.symm)) hb); have am := am_ hbox; have cU := gz2_ hg HB aj aG; have bd := gz2_ hg HB aj aG; replace HB := hb2_ HB hb aj aG; have ap := nb_ hg ae; replace ae := bb_ ae hb; have bn := ns_ ap; have aq := nb_ hg ai; replace ai := bb_ ai hb; have aA := ns_ aq; clear hb hbox hg; have eX := bm.out; have fc := ao.out; have eY := aq.out; have fd := aA.out; obtain ⟨dJ, dK, dV, dW⟩ := cz2_ ai; have eZ := bn.out; have fe := ap.out; obtain ⟨dL, dM, dX, dY⟩ := cz2_ am))
         have n0_ : Aside0 (Kd.R k54 54 ((((cG.setCell ⟨ak, 0, none⟩ (.int .i64 aC)).setCell ⟨ak, 1, none⟩ (.int .i64 aJ)).setCell ⟨al, 0, none⟩ (.int .i64 aD)).setCell ⟨al, 1, none⟩ (.int .i64 aQ)) w.heap.size (fun k_ => k_ ≠ ak ∧ k_ ≠ al) u8 aX) := ⟨by (with_reducible repeat (first | apply Kd.R_alloc | apply Kd.R_drewN | apply Kd.R_drew)); exact Kd.R_mono (Kd.R_far (p := ⟨al, 1, none⟩) (Kd.R_far (p := ⟨al, 0, none⟩) (Kd.R_far (p := ⟨ak, 1, none⟩) (Kd.R_far (p := ⟨ak, 0, none⟩) (Kd.R_mono (Kd.R_mono ah.out (fun k_ hk => (⟨hk, hk.1.2⟩ : _ ∧ k_ ≠ ak))) (fun k_ hk => (⟨hk, hk.1.2⟩ : _ ∧ k_ ≠ al))) (fun _ hk => hk.1.2) (.int .i64 aC)) (fun _ hk => hk.1.2) (.int .i64 aJ)) (fun _ hk => hk.2) (.int .i64 aD)) (fun _ hk => hk.2) (.int .i64 aQ)) (fun _ hk => ⟨hk.1.1.1.2, hk.1.1.2⟩)⟩; have n1_ : Aside0 (((((cG.setCell ⟨ak, 0, none⟩ (.int .i64 aC)).setCell ⟨ak, 1, none⟩ (.int .i64 aJ)).setCell ⟨al, 0, none⟩ (.int .i64 aD)).setCell ⟨al, 1, none⟩ (.int .i64 aQ)).heap[ba]? = some (.cells #[.slice cd ab.length bz, .slice bt az.length bu, .slice bv aK.length bA] 33 (0, 0))) := ⟨by (with_reducible repeat (first | refine blk_drewN ?_ _ | refine blk_drew ?_ | refine blk_alloc ?_ _)); refine blk_far ?_ ap.out _; (with_reducible repeat (first | refine blk_drewN ?_ _ | refine blk_drew ?_ | refine blk_alloc ?_ _)); refine blk_far ?_ ap.out _; (with_reducible repeat (first | refine blk_drewN ?_ _ | refine blk_drew ?_ | refine blk_alloc ?_ _)); refine blk_far ?_ ao.out _; (with_reducible repeat (first | refine blk_drewN ?_ _ | refine blk_drew ?_ | refine blk_alloc ?_ _)); refine blk_far ?_ ao.out _; (with_reducible repeat (first | refine blk_drewN ?_ _ | refine blk_drew ?_ | refine blk_alloc ?_ _)); exact ae.out⟩; have n2_ : Aside0 (((((cG.setCell ⟨ak, 0, none⟩ (.int .i64 aC)).setCell ⟨ak, 1, none⟩ (.int .i64 aJ)).setCell ⟨al, 0, none⟩ (.int .i64 aD)).setCell ⟨al, 1, none⟩ (.int .i64 aQ)).heap[ak]? = some (.cells #[.int .i64 aC, .int .i64 aJ] 54 (0, 0))) := ⟨by (with_reducible repeat (first | refine blk_drewN ?_ _ | refine blk_drew ?_ | refine blk_alloc ?_ _)); refine blk_far ?_ aq.out _; (with_reducible repeat (first | refine blk_drewN ?_ _ | refine blk_drew ?_ | refine blk_alloc ?_ _)); refine blk_far ?_ aq.out _; (with_reducible repeat (first | refine blk_drewN ?_ _ | refine blk_drew ?_ | refine blk_alloc ?_ _)); refine blk_put (cs := #[.int .i64 aC, .int .i64 0]) ?_ 1 _ rfl; (with_reducible repeat (first | refine blk_drewN ?_ _ | refine blk_drew ?_ | refine blk_alloc ?_ _)); refine blk_put (cs := #[.int .i64 0, .int .i64 0]) ?_ 0 _ rfl; (with_reducible repeat (first | refine blk_drewN ?_ _ | refine blk_drew ?_ | refine blk_alloc ?_ _)); exact ai.out⟩; have n3_ : Aside0 (((((cG.setCell ⟨ak, 0, none⟩ (.int .i64 aC)).setCell ⟨ak, 1, none⟩ (.int .i64 aJ)).setCell ⟨al, 0, none⟩ (.int .i64 aD)).setCell ⟨al, 1, none⟩ (.int .i64 aQ)).heap[al]? = some (.cells #[.int .i64 aD, .int .i64 aQ] 54 (0, 0))) := ⟨by (with_reducible repeat (first | refine blk_drewN ?_ _ | refine blk_drew ?_ | refine blk_alloc ?_ _)); refine blk_put (cs := #[.int .i64 aD, .int .i64 0]) ?_ 1 _ rfl; (with_reducible repeat (first | refine blk_drewN ?_ _ | refine blk_drew ?_ | refine blk_alloc ?_ _)); refine blk_put (cs := #[.int .i64 0, .int .i64 0]) ?_ 0 _ rfl; (with_reducible repeat (first | refine blk_drewN ?_ _ | refine blk_drew ?_ | refine blk_alloc ?_ _)); refine blk_far ?_ aA.out _; (with_reducible repeat (first | refine blk_drewN ?_ _ | refine blk_drew ?_ | refine blk_alloc ?_ _)); refine blk_far ?_ aA.out _; (with_reducible repeat (first | refine blk_drewN ?_ _ | refine blk_drew ?_ | refine blk_alloc ?_ _)); exact am.out⟩; have n4_ : Aside0 (Below w.heap.size w ((((cG.setCell ⟨ak, 0, none⟩ (.int .i64 aC)).setCell ⟨ak, 1, none⟩ (.int .i64 aJ)).setCell ⟨al, 0, none⟩ (.int .i64 aD)).setCell ⟨al, 1, none⟩ (.int .i64 aQ))) := ⟨sq_below3 HB.out aj.out aG.out bd.out⟩
         (try clear ah)
         (try clear ae)
         (try clear ai)
         (try clear am)
         (try clear HB)
         generalize ((((cG.setCell ⟨ak, 0, none⟩ (.int .i64 aC)).setCell ⟨ak, 1, none⟩ (.int .i64 aJ)).setCell ⟨al, 0, none⟩ (.int .i64 aD)).setCell ⟨al, 1, none⟩ (.int .i64 aQ)) = fi at n0_ n1_ n2_ n3_ n4_ ⊢; have ah := n0_; have ae := n1_; have ai := n2_; have am := n3_; have HB := n4_; clear n0_ n1_ n2_ n3_ n4_; replace ah := rd_ ah; replace ae := bd_ ae; replace ai := bd_ ai; replace am := bd_ am; replace HB := hd_ HB; have bJ : 0 ≤ (0 : Int) := (by omega); have bL : 0 < (ab.length : Int) := sq_dec; obtain ⟨bp, bq, br, cK, au, hl375_0, hi375_0⟩ := at_L7 bN.out 0 bJ bL; have ar := au
         (try rw [show ((0 : Int)).toNat = 0 from rfl] at ar)
         (try rw [show 0 * 1 = 0 from rfl] at ar)
         (try rw [Addr.add_zero'] at ar)
         cases cK; have qi375 : (0 < ab.length) = True := eq_true (by omega)
         (try rw [show ((0 : Int)).toNat = 0 from rfl] at au)
         (try rw [Addr.add_zero'] at au)
         replace au := cb_ HB au; have bj := am_ hi375_0; have bw := am_ hl375_0; clear hi375_0 hl375_0; replace bJ := eq_true bJ; replace bL := eq_true bL; refine start_ (n := 23) (S := fun w' => w'.cell? ⟨ba, 0, none⟩ = some (.slice (some bp) ab.length bz) ∧ w'.cell? ⟨ba, 1, none⟩ = some (.slice bt az.length bu) ∧ w'.cell? ⟨ba, 2, none⟩ = some (.slice bv aK.length bA) ∧ w'.cell? ⟨ak, 0, none⟩ = some (.int .i64 aC) ∧ w'.cell? ⟨ak, 1, none⟩ = some (.int .i64 aJ) ∧ w'.cell? bp = some (.slice bq (rd_L7 ab 0).length br)) (ds := []) #[false, false, false, false, false, false, false, false, false, false, false, false, false, false, false, false, false, false, false, false, false, false, false] (by kernel_rfl) rfl rfl ⟨cl_ ae 0, cl_ ae 1, cl_ ae 2, cl_ ai 0, cl_ ai 1, (cb_ HB ar)⟩ (fun hHeld => ?_); refine with_tabW impl_SegOk.tab21 impl_SegOk.bits21 (fun HT_ HW_ => ?_); generalize fi.drew = fY at ah ae ai am HB bj au hHeld ⊢; refine py_ HT_ 0 97 ?_
         refine ty_ HT_ HW_ 1 98 rfl hHeld (by rintro w' ⟨s0, s1, s2, s3, s4, s5⟩; go_simp; with_reducible rfl) ?_
         refine py_ HT_ 2 99 ?_
         refine ty_ HT_ HW_ 3 100 rfl hHeld (by rintro w' ⟨s0, s1, s2, s3, s4, s5⟩; go_simp; with_reducible rfl) ?_
         refine ty_ HT_ HW_ 4 101 rfl hHeld (by rintro w' ⟨s0, s1, s2, s3, s4, s5⟩; go_simp; with_reducible rfl) ?_
         refine oy_ HT_ 5 (some 102) (fun K hK => ?_); refine gs_ Tryd.func35 #[.slice bq (rd_L7 ab 0).length br, .agg #[.int .i64 aC, .int .i64 aJ]] (h := ?_); with_reducible refine (impl_Sym_35.calls k2 _ _ (rd_L7 ab 0) aC aJ false _ ?aV ?aW A88.out).mono ?_
         (case aV => exact sq_c (Kd.C_below bj.out HB.out))
         (case aW => exact bw.out)
         rintro e fZ ⟨rfl, hb⟩; refine ⟨_, rfl, ?_⟩; replace ah := rb_ ah hb; replace ae := bb_ ae hb; replace ai := bb_ ai hb; replace am := bb_ am hb; replace HB := hb3_ HB hb aj aG bd
         (try clear hb)
         (try clear hb2)
         (try clear hk)
         (try clear hi)
         refine hK.out _ _ ⟨cl_ ae 0, cl_ ae 1, cl_ ae 2, cl_ ai 0, cl_ ai 1, (cb_ HB ar)⟩ (fun hHeld => ?_); clear hK K; refine norm_y 102 (h := ?_)
         refine py_ HT_ 6 103 ?_
         refine pn_ HT_ 7 104 ?_
         refine pn_ HT_ 8 105 ?_
         refine pn_ HT_ 9 106 ?_
         refine pn_ HT_ 10 107 ?_
         refine pn_ HT_ 11 108 ?_
         refine pn_ HT_ 12 109 ?_
         refine pn_ HT_ 13 110 ?_
         refine pn_ HT_ 14 111 ?_
         refine py_ HT_ 15 112 ?_
         refine py_ HT_ 16 113 ?_
         refine pn_ HT_ 17 114 ?_
         refine pn_ HT_ 18 115 ?_
         refine pn_ HT_ 19 116 ?_
         refine pn_ HT_ 20 117 ?_
         refine py_ HT_ 21 118 ?_
         refine py_ HT_ 22 6 ?_
         refine done_ (done_of HT_.out (by kernel_rfl)) ?_
         try go_wp2
         go_ret
         exact ⟨lf_, sq_below3 HB.out aj.out aG.out bd.out⟩
       ·
        rw [if_neg c87] at H; exact absurd H (by simp)

end Go.Proofs.YtdmdalapckcobaaDoor.Q
