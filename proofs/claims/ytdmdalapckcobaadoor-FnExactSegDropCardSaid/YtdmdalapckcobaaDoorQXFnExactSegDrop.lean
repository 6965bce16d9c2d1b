/- Functions of the translation as Lean functions, each with a proof that a call answers so; out of the seat, by this claim's own program prt.py: the last of them, in one text. -/
import Derived.Test.YtdmdalapckcobaaDoorWTab
import Derived.Test.YtdmdalapckcobaaDoorWRepsOne
import Derived.Test.YtdmdalapckcobaaDoorQx0
import Derived.Test.YtdmdalapckcobaaDoorQx25
import Derived.Test.YtdmdalapckcobaaDoorQStep3
import Derived.Test.YtdmdalapckcobaaDoorQx4
import Derived.Test.YtdmdalapckcobaaDoorQx14
import Derived.Test.YtdmdalapckcobaaDoorQx15
import Derived.Test.YtdmdalapckcobaaDoorQx24
namespace Go.Proofs.YtdmdalapckcobaaDoor.Q
open Go.RowKit Go.Proofs.YtdmdalapckcobaaDoorW.PrintWords Go.Proofs.YtdmdalapckcobaaDoorW.PrintLast Go.Proofs.YtdmdalapckcobaaDoorW.PrintMore
attribute [local go_sem] max2_int min2_int max_two min_two max_three min_three max_four min_four   -- for this text's walks alone
set_option linter.unusedVariables false
set_option maxHeartbeats 8000000
set_option maxRecDepth 100000
set_option linter.unusedSimpArgs false

/-! ### laws_eqSymS: function 12 -/
def laws_eqSymS.l0 : Nat → List (S54) → List (S54) → Int → Option (Bool)
 | 0, _, _, _ => none
 | k + 1, x0, x1, x5 => if x5 < (x0.length : Int) then (if 0 ≤ x5 then (if x5 < (x1.length : Int) then ((laws_eqSym.f ((rd_T54 x0 x5).f0) ((rd_T54 x0 x5).f1) ((rd_T54 x1 x5).f0) ((rd_T54 x1 x5).f1)).bind fun av => (if av = true then (laws_eqSymS.l0 k x0 x1 (wrap64 (x5 + 1))) else (some false))) else (none)) else (none)) else (some true)
def laws_eqSymS.f (k : Nat) (l0 : List (S54)) (l1 : List (S54)) : Option (Bool) := if (l0.length : Int) = (l1.length : Int) then (laws_eqSymS.l0 k l0 l1 0) else (some false)
theorem laws_eqSymS.mono_l : ∀ k, (∀ y0 y1 y2, LeO (laws_eqSymS.l0 k y0 y1 y2) (laws_eqSymS.l0 (k + 1) y0 y1 y2))
 | 0 => fun _ _ _ r h => by simp [laws_eqSymS.l0] at h
 | k + 1 => by
  have ih0 := laws_eqSymS.mono_l k
  ·
   intro y0 y1 y2; unfold laws_eqSymS.l0
   repeat' first
   | (with_reducible exact ih0 _ _ _) | (with_reducible exact LeO.refl _) | (with_reducible exact LeO.none _) | (with_reducible refine LeO.ite ?_ ?_) | (with_reducible refine LeO.bind ?_ fun _ => ?_) | exact ih0 _ _ _ | exact LeO.none _ | refine LeO.ite ?_ ?_ | refine LeO.bind ?_ fun _ => ?_
theorem laws_eqSymS.mono : ∀ a0 a1 k, LeO (laws_eqSymS.f k a0 a1) (laws_eqSymS.f (k + 1) a0 a1) := by
 intro a0 a1 k; have ih0 := laws_eqSymS.mono_l k; unfold laws_eqSymS.f
 repeat' first
   | (with_reducible exact ih0 _ _ _) | (with_reducible exact LeO.refl _) | (with_reducible exact LeO.none _) | (with_reducible refine LeO.ite ?_ ?_) | (with_reducible refine LeO.bind ?_ fun _ => ?_) | exact ih0 _ _ _ | exact LeO.none _ | refine LeO.ite ?_ ?_ | refine LeO.bind ?_ fun _ => ?_
def laws_eqSymS.T6 : Bool × List (List Nat × List Nat) := (true, [([], []), ([], []), ([0, 1], [0, 1]), ([2], [2]), ([], []), ([], []), ([4, 5], [4, 5]), ([6], [6]), ([3, 7], [3, 7]), ([8], [8])])
def laws_eqSymS.B6 : List Nat := [0, 0, 3, 7, 0, 0, 48, 112, 255, 511]
theorem laws_eqSymS.tab6 : rtab .any (opsOf Tryd.f12 6) = laws_eqSymS.T6 := by kernel_rfl
theorem laws_eqSymS.bits6 : waitsOk laws_eqSymS.T6.2 laws_eqSymS.B6 = true := by kernel_rfl
theorem laws_eqSymS.calls (k : Nat) (A0 : Option Addr) (c0 : Nat) (l0 : List (S54)) (A1 : Option Addr) (c1 : Nat) (l1 : List (S54)) (r : Bool) (w : World) (hr0 : Kd.C k54 w A0 l0.length l0) (hc0 : l0.length ≤ c0) (hr1 : Kd.C k54 w A1 l1.length l1) (hc1 : l1.length ≤ c1) (h : laws_eqSymS.f k l0 l1 = some r) :
  Calls Tryd.prog 12 #[.slice A0 l0.length c0, .slice A1 l1.length c1] w fun e w' => e = .returned (.bool r) ∧ Below w.heap.size w w' := by
 have hu54 := Tryd.underlying54; have aA := am_ hr0; have aH := am_ hc0; clear hr0 hc0; have aC := am_ hr1; have aI := am_ hc1; clear hr1 hc1; have HB := am_ (Below.refl w.heap.size w); have H : (if (l0.length : Int) = (l1.length : Int) then (laws_eqSymS.l0 k l0 l1 0) else (some false)) = some r := h; clear h
 by_cases c3 : (l0.length : Int) = (l1.length : Int)
 ·
  rw [if_pos c3] at H; have aw : ((l0.length : Int) == (l1.length : Int)) = true := beq_iff_eq.mpr c3; have ax : ((l0.length : Int) != (l1.length : Int)) = false := bne_eq_false_iff_eq.mpr c3; have ay : (l0.length == l1.length) = true := by first | simpa using c3 | (simp at c3 ⊢; omega)
  clear c3; have H' := am_ H; clear H
  go_enter Tryd.func12, Tryd.ntmps12
  go_wp2
  go_loopg [5] k (fun kq v5 w' => ∃ (aa : Int), v5 = .int .i64 aa ∧ Aside0 (laws_eqSymS.l0 kq l0 l1 aa = some r) ∧ Aside0 (kq ≤ k) ∧ Aside0 (Below w.heap.size w w'))
  case atStart => exact ⟨(0), sr_, H', ⟨Nat.le_refl _⟩, ⟨sq_below HB.out⟩⟩
  case round =>
   clear H'
   obtain ⟨aa, rfl, HA, HK1, HB⟩ := hrel; cases gk with
   | zero => exact absurd HA.out (by simp [laws_eqSymS.l0])
   | succ k1 =>
    have H := HA.out; clear HA; simp only [laws_eqSymS.l0] at H
    by_cases c4 : aa < (l0.length : Int)
    ·
     rw [if_pos c4] at H; have az := decide_eq_true (p := aa < (l0.length : Int)) c4; clear c4
     by_cases c5 : 0 ≤ aa
     ·
      rw [if_pos c5] at H; have aD := decide_eq_true (p := 0 ≤ aa) c5; clear c5
      by_cases c6 : aa < (l1.length : Int)
      ·
       rw [if_pos c6] at H; have aG := decide_eq_true (p := aa < (l1.length : Int)) c6; clear c6; obtain ⟨av, A7, H⟩ := be_ H; (try dsimp only at H)
       by_cases c8 : av = true
       ·
        subst c8; have H1 := ifp_ H
        clear H; have H := H1; clear H1; have H' := am_ H; clear H
        try go_wp2
        replace HB := hd_ HB; have am : 0 ≤ (aa : Int) := sq_dec; have ap : aa < (l0.length : Int) := sq_dec; obtain ⟨ak, ar, ab, ac⟩ := at_T54 aA.out aa am ap; have ah := ac; have ag := ab; cases ar; replace ab := cb_ HB ab; replace ac := cb_ HB ac; replace am := eq_true am; replace ap := eq_true ap; have ao : 0 ≤ (aa : Int) := sq_dec; have aq : aa < (l1.length : Int) := sq_dec; obtain ⟨al, au, ae, af⟩ := at_T54 aC.out aa ao aq; have aj := af; have ai := ae; cases au; replace ae := cb_ HB ae; replace af := cb_ HB af; replace ao := eq_true ao; replace aq := eq_true aq; refine start_ (n := 10) (S := fun w' => w'.cell? (ak.add ((aa).toNat * 2)) = some (.int .i64 ((rd_T54 l0 aa).f0)) ∧ w'.cell? ⟨(ak.add ((aa).toNat * 2)).block, (ak.add ((aa).toNat * 2)).off + 1, none⟩ = some (.int .i64 ((rd_T54 l0 aa).f1)) ∧ w'.cell? (al.add ((aa).toNat * 2)) = some (.int .i64 ((rd_T54 l1 aa).f0)) ∧ w'.cell? ⟨(al.add ((aa).toNat * 2)).block, (al.add ((aa).toNat * 2)).off + 1, none⟩ = some (.int .i64 ((rd_T54 l1 aa).f1))) (ds := []) #[false, false, false, false, false, false, false, false, false, false] (by kernel_rfl) rfl rfl ⟨(cb_ HB ag), (cb_ HB ah), (cb_ HB ai), (cb_ HB aj)⟩ (fun hHeld => ?_); refine with_tabW laws_eqSymS.tab6 laws_eqSymS.bits6 (fun HT_ HW_ => ?_); generalize wr.drew = w9 at HB ab ac ae af hHeld ⊢; refine py_ HT_ 0 17 ?_
        refine py_ HT_ 1 18 ?_
        refine py_ HT_ 2 19 ?_
        refine py_ HT_ 4 21 ?_
        refine py_ HT_ 5 22 ?_
        refine py_ HT_ 6 23 ?_
        refine ty_ HT_ HW_ 3 20 rfl hHeld (by rintro w' ⟨s0, s1, s2, s3⟩; go_simp; with_reducible rfl) ?_
        refine ty_ HT_ HW_ 7 24 rfl hHeld (by rintro w' ⟨s0, s1, s2, s3⟩; go_simp; with_reducible rfl) ?_
        refine oy_ HT_ 8 (some 25) (fun K hK => ?_); refine gs_ Tryd.func39 #[.agg #[.int .i64 ((rd_T54 l0 aa).f0), .int .i64 ((rd_T54 l0 aa).f1)], .agg #[.int .i64 ((rd_T54 l1 aa).f0), .int .i64 ((rd_T54 l1 aa).f1)]] (h := ?_); with_reducible refine (laws_eqSym.calls ((rd_T54 l0 aa).f0) ((rd_T54 l0 aa).f1) ((rd_T54 l1 aa).f0) ((rd_T54 l1 aa).f1) true _ A7.out).mono ?_
        rintro e aJ ⟨rfl, hb⟩; refine ⟨_, rfl, ?_⟩; replace HB := hb_ HB hb
        (try clear hb)
        (try clear hb2)
        (try clear hk)
        (try clear hi)
        refine hK.out _ _ ⟨(cb_ HB ag), (cb_ HB ah), (cb_ HB ai), (cb_ HB aj)⟩ (fun hHeld => ?_); clear hK K; refine norm_y 25 (h := ?_)
        refine py_ HT_ 9 26 ?_
        refine done_ (done_of HT_.out (by kernel_rfl)) ?_
        try go_wp2
        go_roundg k1
        case measure => have := HK1.out; omega
        case rel => exact ⟨(wrap64 (aa + 1)), sr_, H', ⟨by have := HK1.out; omega⟩, ⟨sq_below HB.out⟩⟩
       ·
        replace c8 := Bool.eq_false_iff.mpr c8; subst c8; have H1 := ifn_ H
        clear H; have H := H1; clear H1; obtain rfl := Option.some.inj H
        try go_wp2
        replace HB := hd_ HB; have am : 0 ≤ (aa : Int) := sq_dec; have ap : aa < (l0.length : Int) := sq_dec; obtain ⟨ak, ar, ab, ac⟩ := at_T54 aA.out aa am ap; have ah := ac; have ag := ab; cases ar; replace ab := cb_ HB ab; replace ac := cb_ HB ac; replace am := eq_true am; replace ap := eq_true ap; have ao : 0 ≤ (aa : Int) := sq_dec; have aq : aa < (l1.length : Int) := sq_dec; obtain ⟨al, au, ae, af⟩ := at_T54 aC.out aa ao aq; have aj := af; have ai := ae; cases au; replace ae := cb_ HB ae; replace af := cb_ HB af; replace ao := eq_true ao; replace aq := eq_true aq; refine start_ (n := 10) (S := fun w' => w'.cell? (ak.add ((aa).toNat * 2)) = some (.int .i64 ((rd_T54 l0 aa).f0)) ∧ w'.cell? ⟨(ak.add ((aa).toNat * 2)).block, (ak.add ((aa).toNat * 2)).off + 1, none⟩ = some (.int .i64 ((rd_T54 l0 aa).f1)) ∧ w'.cell? (al.add ((aa).toNat * 2)) = some (.int .i64 ((rd_T54 l1 aa).f0)) ∧ w'.cell? ⟨(al.add ((aa).toNat * 2)).block, (al.add ((aa).toNat * 2)).off + 1, none⟩ = some (.int .i64 ((rd_T54 l1 aa).f1))) (ds := []) #[false, false, false, false, false, false, false, false, false, false] (by kernel_rfl) rfl rfl ⟨(cb_ HB ag), (cb_ HB ah), (cb_ HB ai), (cb_ HB aj)⟩ (fun hHeld => ?_); refine with_tabW laws_eqSymS.tab6 laws_eqSymS.bits6 (fun HT_ HW_ => ?_); generalize wr.drew = aK at HB ab ac ae af hHeld ⊢; refine py_ HT_ 0 17 ?_
        refine py_ HT_ 1 18 ?_
        refine py_ HT_ 2 19 ?_
        refine py_ HT_ 4 21 ?_
        refine py_ HT_ 5 22 ?_
        refine py_ HT_ 6 23 ?_
        refine ty_ HT_ HW_ 3 20 rfl hHeld (by rintro w' ⟨s0, s1, s2, s3⟩; go_simp; with_reducible rfl) ?_
        refine ty_ HT_ HW_ 7 24 rfl hHeld (by rintro w' ⟨s0, s1, s2, s3⟩; go_simp; with_reducible rfl) ?_
        refine oy_ HT_ 8 (some 25) (fun K hK => ?_); refine gs_ Tryd.func39 #[.agg #[.int .i64 ((rd_T54 l0 aa).f0), .int .i64 ((rd_T54 l0 aa).f1)], .agg #[.int .i64 ((rd_T54 l1 aa).f0), .int .i64 ((rd_T54 l1 aa).f1)]] (h := ?_); with_reducible refine (laws_eqSym.calls ((rd_T54 l0 aa).f0) ((rd_T54 l0 aa).f1) ((rd_T54 l1 aa).f0) ((rd_T54 l1 aa).f1) false _ A7.out).mono ?_
        rintro e aM ⟨rfl, hb⟩; refine ⟨_, rfl, ?_⟩; replace HB := hb_ HB hb
        (try clear hb)
        (try clear hb2)
        (try clear hk)
        (try clear hi)
        refine hK.out _ _ ⟨(cb_ HB ag), (cb_ HB ah), (cb_ HB ai), (cb_ HB aj)⟩ (fun hHeld => ?_); clear hK K; refine norm_y 25 (h := ?_)
        refine py_ HT_ 9 26 ?_
        refine done_ (done_of HT_.out (by kernel_rfl)) ?_
        try go_wp2
        go_ret
        exact ⟨lf_, sq_below HB.out⟩
      ·
       rw [if_neg c6] at H; exact absurd H (by simp)
     ·
      rw [if_neg c5] at H; exact absurd H (by simp)
    ·
     rw [if_neg c4] at H; have az := decide_eq_false (p := aa < (l0.length : Int)) c4; clear c4; obtain rfl := Option.some.inj H
     go_wp2
     go_ret
     exact ⟨lf_, sq_below HB.out⟩
 ·
  rw [if_neg c3] at H; have aw : ((l0.length : Int) == (l1.length : Int)) = false := beq_eq_false_iff_ne.mpr c3; have ax : ((l0.length : Int) != (l1.length : Int)) = true := bne_iff_ne.mpr c3; have ay : (l0.length == l1.length) = false := by first | simpa using c3 | (simp at c3 ⊢; omega)
  obtain rfl := Option.some.inj H
  go_enter Tryd.func12, Tryd.ntmps12
  go_wp2
  go_ret
  exact ⟨lf_, sq_below HB.out⟩

end Go.Proofs.YtdmdalapckcobaaDoor.Q
namespace Go.Proofs.YtdmdalapckcobaaDoor.Q
open Go.RowKit Go.Proofs.YtdmdalapckcobaaDoorW.PrintWords Go.Proofs.YtdmdalapckcobaaDoorW.PrintLast Go.Proofs.YtdmdalapckcobaaDoorW.PrintMore
attribute [local go_sem] max2_int min2_int max_two min_two max_three min_three max_four min_four   -- for this text's walks alone
set_option linter.unusedVariables false
set_option maxHeartbeats 8000000
set_option maxRecDepth 100000
set_option linter.unusedSimpArgs false

/-! ### laws_eqSymSS: function 36 -/
def laws_eqSymSS.l0 : Nat → List (List (S54)) → List (List (S54)) → Int → Option (Bool)
 | 0, _, _, _ => none
 | k + 1, x0, x1, x5 => if x5 < (x0.length : Int) then (if 0 ≤ x5 then (if x5 < (x1.length : Int) then ((laws_eqSymS.f k (rd_L7 x0 x5) (rd_L7 x1 x5)).bind fun aG => (if aG = true then (laws_eqSymSS.l0 k x0 x1 (wrap64 (x5 + 1))) else (some false))) else (none)) else (none)) else (some true)
def laws_eqSymSS.f (k : Nat) (l0 : List (List (S54))) (l1 : List (List (S54))) : Option (Bool) := if (l0.length : Int) = (l1.length : Int) then (laws_eqSymSS.l0 k l0 l1 0) else (some false)
theorem laws_eqSymSS.mono_l : ∀ k, (∀ y0 y1 y2, LeO (laws_eqSymSS.l0 k y0 y1 y2) (laws_eqSymSS.l0 (k + 1) y0 y1 y2))
 | 0 => fun _ _ _ r h => by simp [laws_eqSymSS.l0] at h
 | k + 1 => by
  have ih0 := laws_eqSymSS.mono_l k
  ·
   intro y0 y1 y2; unfold laws_eqSymSS.l0
   repeat' first
   | (with_reducible exact ih0 _ _ _) | (with_reducible exact laws_eqSymS.mono _ _ _) | (with_reducible exact LeO.refl _) | (with_reducible exact LeO.none _) | (with_reducible refine LeO.ite ?_ ?_) | (with_reducible refine LeO.bind ?_ fun _ => ?_) | exact ih0 _ _ _ | exact laws_eqSymS.mono _ _ _ | exact LeO.none _ | refine LeO.ite ?_ ?_ | refine LeO.bind ?_ fun _ => ?_
theorem laws_eqSymSS.mono : ∀ a0 a1 k, LeO (laws_eqSymSS.f k a0 a1) (laws_eqSymSS.f (k + 1) a0 a1) := by
 intro a0 a1 k; have ih0 := laws_eqSymSS.mono_l k; unfold laws_eqSymSS.f
 repeat' first
   | (with_reducible exact ih0 _ _ _) | (with_reducible exact laws_eqSymS.mono _ _ _) | (with_reducible exact LeO.refl _) | (with_reducible exact LeO.none _) | (with_reducible refine LeO.ite ?_ ?_) | (with_reducible refine LeO.bind ?_ fun _ => ?_) | exact ih0 _ _ _ | exact laws_eqSymS.mono _ _ _ | exact LeO.none _ | refine LeO.ite ?_ ?_ | refine LeO.bind ?_ fun _ => ?_
def laws_eqSymSS.T6 : Bool × List (List Nat × List Nat) := (true, [([], []), ([], []), ([0, 1], [0, 1]), ([2], [2]), ([], []), ([], []), ([4, 5], [4, 5]), ([6], [6]), ([3, 7], [3, 7]), ([8], [8])])
def laws_eqSymSS.B6 : List Nat := [0, 0, 3, 7, 0, 0, 48, 112, 255, 511]
theorem laws_eqSymSS.tab6 : rtab .any (opsOf Tryd.f36 6) = laws_eqSymSS.T6 := by kernel_rfl
theorem laws_eqSymSS.bits6 : waitsOk laws_eqSymSS.T6.2 laws_eqSymSS.B6 = true := by kernel_rfl
theorem laws_eqSymSS.calls (k : Nat) (A0 : Option Addr) (c0 : Nat) (l0 : List (List (S54))) (A1 : Option Addr) (c1 : Nat) (l1 : List (List (S54))) (r : Bool) (w : World) (hr0 : Kd.C (Kd.slice 54 k54) w A0 l0.length l0) (hc0 : l0.length ≤ c0) (hr1 : Kd.C (Kd.slice 54 k54) w A1 l1.length l1) (hc1 : l1.length ≤ c1) (h : laws_eqSymSS.f k l0 l1 = some r) :
  Calls Tryd.prog 36 #[.slice A0 l0.length c0, .slice A1 l1.length c1] w fun e w' => e = .returned (.bool r) ∧ Below w.heap.size w w' := by
 have aM := am_ hr0; have aU := am_ hc0; clear hr0 hc0; have aN := am_ hr1; have aV := am_ hc1; clear hr1 hc1; have HB := am_ (Below.refl w.heap.size w); have H : (if (l0.length : Int) = (l1.length : Int) then (laws_eqSymSS.l0 k l0 l1 0) else (some false)) = some r := h; clear h
 by_cases c3 : (l0.length : Int) = (l1.length : Int)
 ·
  rw [if_pos c3] at H; have aH : ((l0.length : Int) == (l1.length : Int)) = true := beq_iff_eq.mpr c3; have aI : ((l0.length : Int) != (l1.length : Int)) = false := bne_eq_false_iff_eq.mpr c3; have aJ : (l0.length == l1.length) = true := by first | simpa using c3 | (simp at c3 ⊢; omega)
  clear c3; have H' := am_ H; clear H
  go_enter Tryd.func36, Tryd.ntmps36
  go_wp2
  go_loopg [5] k (fun kq v5 w' => ∃ (aa : Int), v5 = .int .i64 aa ∧ Aside0 (laws_eqSymSS.l0 kq l0 l1 aa = some r) ∧ Aside0 (kq ≤ k) ∧ Aside0 (Below w.heap.size w w'))
  case atStart => exact ⟨(0), sr_, H', ⟨Nat.le_refl _⟩, ⟨sq_below HB.out⟩⟩
  case round =>
   clear H'
   obtain ⟨aa, rfl, HA, HK1, HB⟩ := hrel; cases gk with
   | zero => exact absurd HA.out (by simp [laws_eqSymSS.l0])
   | succ k1 =>
    have H := HA.out; clear HA; simp only [laws_eqSymSS.l0] at H
    by_cases c4 : aa < (l0.length : Int)
    ·
     rw [if_pos c4] at H; have aK := decide_eq_true (p := aa < (l0.length : Int)) c4; clear c4
     by_cases c5 : 0 ≤ aa
     ·
      rw [if_pos c5] at H; have aQ := decide_eq_true (p := 0 ≤ aa) c5; clear c5
      by_cases c6 : aa < (l1.length : Int)
      ·
       rw [if_pos c6] at H; have aT := decide_eq_true (p := aa < (l1.length : Int)) c6; clear c6; obtain ⟨aG, A7, H⟩ := be_ H; (try dsimp only at H)
       by_cases c8 : aG = true
       ·
        subst c8; have H1 := ifp_ H
        clear H; have H := H1; clear H1; have H' := am_ H; clear H
        try go_wp2
        replace HB := hd_ HB; have ap : 0 ≤ (aa : Int) := sq_dec; have ar : aa < (l0.length : Int) := sq_dec; obtain ⟨av, ai, ak, aC, ab, hl487_0, hi487_0⟩ := at_L7 aM.out aa ap ar; have ag := ab; cases aC; replace ab := cb_ HB ab; have ae := am_ hi487_0; have am := am_ hl487_0; clear hi487_0 hl487_0; replace ap := eq_true ap; replace ar := eq_true ar; have aq : 0 ≤ (aa : Int) := sq_dec; have au : aa < (l1.length : Int) := sq_dec; obtain ⟨aw, aj, al, aD, ac, hl488_0, hi488_0⟩ := at_L7 aN.out aa aq au; have ah := ac; cases aD; replace ac := cb_ HB ac; have af := am_ hi488_0; have ao := am_ hl488_0; clear hi488_0 hl488_0; replace aq := eq_true aq; replace au := eq_true au; refine start_ (n := 10) (S := fun w' => w'.cell? (av.add (aa).toNat) = some (.slice ai (rd_L7 l0 aa).length ak) ∧ w'.cell? (aw.add (aa).toNat) = some (.slice aj (rd_L7 l1 aa).length al)) (ds := []) #[false, false, false, false, false, false, false, false, false, false] (by kernel_rfl) rfl rfl ⟨(cb_ HB ag), (cb_ HB ah)⟩ (fun hHeld => ?_); refine with_tabW laws_eqSymSS.tab6 laws_eqSymSS.bits6 (fun HT_ HW_ => ?_); generalize wr.drew = w9 at HB ae af ab ac hHeld ⊢; refine py_ HT_ 0 17 ?_
        refine py_ HT_ 1 18 ?_
        refine py_ HT_ 2 19 ?_
        refine py_ HT_ 4 21 ?_
        refine py_ HT_ 5 22 ?_
        refine py_ HT_ 6 23 ?_
        refine ty_ HT_ HW_ 3 20 rfl hHeld (by rintro w' ⟨s0, s1⟩; go_simp; with_reducible rfl) ?_
        refine ty_ HT_ HW_ 7 24 rfl hHeld (by rintro w' ⟨s0, s1⟩; go_simp; with_reducible rfl) ?_
        refine oy_ HT_ 8 (some 25) (fun K hK => ?_); refine gs_ Tryd.func12 #[.slice ai (rd_L7 l0 aa).length ak, .slice aj (rd_L7 l1 aa).length al] (h := ?_); with_reducible refine (laws_eqSymS.calls k1 _ _ (rd_L7 l0 aa) _ _ (rd_L7 l1 aa) true _ ?ax ?ay ?az ?aA A7.out).mono ?_
        (case ax => exact sq_c (Kd.C_below ae.out HB.out))
        (case ay => exact am.out)
        (case az => exact sq_c (Kd.C_below af.out HB.out))
        (case aA => exact ao.out)
        rintro e aW ⟨rfl, hb⟩; refine ⟨_, rfl, ?_⟩; replace HB := hb_ HB hb
        (try clear hb)
        (try clear hb2)
        (try clear hk)
        (try clear hi)
        refine hK.out _ _ ⟨(cb_ HB ag), (cb_ HB ah)⟩ (fun hHeld => ?_); clear hK K; refine norm_y 25 (h := ?_)
        refine py_ HT_ 9 26 ?_
        refine done_ (done_of HT_.out (by kernel_rfl)) ?_
        try go_wp2
        go_roundg k1
        case measure => have := HK1.out; omega
        case rel => exact ⟨(wrap64 (aa + 1)), sr_, H', ⟨by have := HK1.out; omega⟩, ⟨sq_below HB.out⟩⟩
       ·
        replace c8 := Bool.eq_false_iff.mpr c8; subst c8; have H1 := ifn_ H
        clear H; have H := H1; clear H1; obtain rfl := Option.some.inj H
        try go_wp2
        replace HB := hd_ HB; have ap : 0 ≤ (aa : Int) := sq_dec; have ar : aa < (l0.length : Int) := sq_dec; obtain ⟨av, ai, ak, aC, ab, hl487_0, hi487_0⟩ := at_L7 aM.out aa ap ar; have ag := ab; cases aC; replace ab := cb_ HB ab; have ae := am_ hi487_0; have am := am_ hl487_0; clear hi487_0 hl487_0; replace ap := eq_true ap; replace ar := eq_true ar; have aq : 0 ≤ (aa : Int) := sq_dec; have au : aa < (l1.length : Int) := sq_dec; obtain ⟨aw, aj, al, aD, ac, hl488_0, hi488_0⟩ := at_L7 aN.out aa aq au; have ah := ac; cases aD; replace ac := cb_ HB ac; have af := am_ hi488_0; have ao := am_ hl488_0; clear hi488_0 hl488_0; replace aq := eq_true aq; replace au := eq_true au; refine start_ (n := 10) (S := fun w' => w'.cell? (av.add (aa).toNat) = some (.slice ai (rd_L7 l0 aa).length ak) ∧ w'.cell? (aw.add (aa).toNat) = some (.slice aj (rd_L7 l1 aa).length al)) (ds := []) #[false, false, false, false, false, false, false, false, false, false] (by kernel_rfl) rfl rfl ⟨(cb_ HB ag), (cb_ HB ah)⟩ (fun hHeld => ?_); refine with_tabW laws_eqSymSS.tab6 laws_eqSymSS.bits6 (fun HT_ HW_ => ?_); generalize wr.drew = aX at HB ae af ab ac hHeld ⊢; refine py_ HT_ 0 17 ?_
        refine py_ HT_ 1 18 ?_
        refine py_ HT_ 2 19 ?_
        refine py_ HT_ 4 21 ?_
        refine py_ HT_ 5 22 ?_
        refine py_ HT_ 6 23 ?_
        refine ty_ HT_ HW_ 3 20 rfl hHeld (by rintro w' ⟨s0, s1⟩; go_simp; with_reducible rfl) ?_
        refine ty_ HT_ HW_ 7 24 rfl hHeld (by rintro w' ⟨s0, s1⟩; go_simp; with_reducible rfl) ?_
        refine oy_ HT_ 8 (some 25) (fun K hK => ?_); refine gs_ Tryd.func12 #[.slice ai (rd_L7 l0 aa).length ak, .slice aj (rd_L7 l1 aa).length al] (h := ?_); with_reducible refine (laws_eqSymS.calls k1 _ _ (rd_L7 l0 aa) _ _ (rd_L7 l1 aa) false _ ?ax ?ay ?az ?aA A7.out).mono ?_
        (case ax => exact sq_c (Kd.C_below ae.out HB.out))
        (case ay => exact am.out)
        (case az => exact sq_c (Kd.C_below af.out HB.out))
        (case aA => exact ao.out)
        rintro e aY ⟨rfl, hb⟩; refine ⟨_, rfl, ?_⟩; replace HB := hb_ HB hb
        (try clear hb)
        (try clear hb2)
        (try clear hk)
        (try clear hi)
        refine hK.out _ _ ⟨(cb_ HB ag), (cb_ HB ah)⟩ (fun hHeld => ?_); clear hK K; refine norm_y 25 (h := ?_)
        refine py_ HT_ 9 26 ?_
        refine done_ (done_of HT_.out (by kernel_rfl)) ?_
        try go_wp2
        go_ret
        exact ⟨lf_, sq_below HB.out⟩
      ·
       rw [if_neg c6] at H; exact absurd H (by simp)
     ·
      rw [if_neg c5] at H; exact absurd H (by simp)
    ·
     rw [if_neg c4] at H; have aK := decide_eq_false (p := aa < (l0.length : Int)) c4; clear c4; obtain rfl := Option.some.inj H
     go_wp2
     go_ret
     exact ⟨lf_, sq_below HB.out⟩
 ·
  rw [if_neg c3] at H; have aH : ((l0.length : Int) == (l1.length : Int)) = false := beq_eq_false_iff_ne.mpr c3; have aI : ((l0.length : Int) != (l1.length : Int)) = true := bne_iff_ne.mpr c3; have aJ : (l0.length == l1.length) = false := by first | simpa using c3 | (simp at c3 ⊢; omega)
  obtain rfl := Option.some.inj H
  go_enter Tryd.func36, Tryd.ntmps36
  go_wp2
  go_ret
  exact ⟨lf_, sq_below HB.out⟩

end Go.Proofs.YtdmdalapckcobaaDoor.Q
namespace Go.Proofs.YtdmdalapckcobaaDoor.Q
open Go.RowKit Go.Proofs.YtdmdalapckcobaaDoorW.PrintWords Go.Proofs.YtdmdalapckcobaaDoorW.PrintLast Go.Proofs.YtdmdalapckcobaaDoorW.PrintMore
attribute [local go_sem] max2_int min2_int max_two min_two max_three min_three max_four min_four   -- for this text's walks alone
set_option linter.unusedVariables false
set_option maxHeartbeats 8000000
set_option maxRecDepth 100000
set_option linter.unusedSimpArgs false

/-! ### laws_eqRange: function 114 -/
def laws_eqRange.f (af : Int) (ag : Int) (ah : Int) (ai : Int) : Option (Bool) := if af = ah then (if ag = ai then (some true) else (some false)) else (some false)
theorem laws_eqRange.calls (af : Int) (ag : Int) (ah : Int) (ai : Int) (r : Bool) (w : World) (h : laws_eqRange.f af ag ah ai = some r) :
  Calls Tryd.prog 114 #[.agg #[.int .i64 af, .int .i64 ag], .agg #[.int .i64 ah, .int .i64 ai]] w fun e w' => e = .returned (.bool r) ∧ Below w.heap.size w w' := by
 have hu88 := Tryd.underlying88; have HB := am_ (Below.refl w.heap.size w); have H : (if af = ah then (if ag = ai then (some true) else (some false)) else (some false)) = some r := h; clear h
 by_cases c3 : af = ah
 ·
  rw [if_pos c3] at H; have aM : (af == ah) = true := beq_iff_eq.mpr c3; have aN : (af != ah) = false := bne_eq_false_iff_eq.mpr c3; clear c3
  by_cases c4 : ag = ai
  ·
   rw [if_pos c4] at H; have aQ : (ag == ai) = true := beq_iff_eq.mpr c4; have aT : (ag != ai) = false := bne_eq_false_iff_eq.mpr c4; clear c4; obtain rfl := Option.some.inj H
   go_enter Tryd.func114, Tryd.ntmps114
   go_wp2_with (first | ((with_reducible refine gate_dst (N := 2) rfl ?_); refine box_y 2 #[.int .i64 af, .int .i64 ag] 88 (h := ?_); intro ao hg w5 hbox hb; have ab := am_ hbox; have al := gz_ hg HB; have ae := gz_ hg HB; replace HB := hb_ HB hb; clear hb hbox hg) | ((with_reducible refine gate_dst (N := 3) rfl ?_); refine box_y 3 #[.int .i64 ah, .int .i64 ai] 88 (h := ?_); intro ap hg w6 hbox hb; have aj := am_ hbox; have am := gz1_ hg HB ae; have ak := gz1_ hg HB ae; replace HB := hb1_ HB hb ae; have aa := nb_ hg ab; replace ab := bb_ ab hb; have ac := ns_ aa; clear hb hbox hg; have bj := aa.out; have bk := ac.out; obtain ⟨aU, aV, aY, aZ⟩ := cz2_ ab; obtain ⟨aW, aX, ba, bc⟩ := cz2_ aj))
   go_ret
   exact ⟨lf_, sq_below1 HB.out ak.out⟩
  ·
   rw [if_neg c4] at H; have aQ : (ag == ai) = false := beq_eq_false_iff_ne.mpr c4; have aT : (ag != ai) = true := bne_iff_ne.mpr c4; obtain rfl := Option.some.inj H
   go_enter Tryd.func114, Tryd.ntmps114
   go_wp2_with (first | ((with_reducible refine gate_dst (N := 2) rfl ?_); refine box_y 2 #[.int .i64 af, .int .i64 ag] 88 (h := ?_); intro ao hg bl hbox hb; have ab := am_ hbox; have al := gz_ hg HB; have ae := gz_ hg HB; replace HB := hb_ HB hb; clear hb hbox hg) | ((with_reducible refine gate_dst (N := 3) rfl ?_); refine box_y 3 #[.int .i64 ah, .int .i64 ai] 88 (h := ?_); intro ap hg bm hbox hb; have aj := am_ hbox; have am := gz1_ hg HB ae; have ak := gz1_ hg HB ae; replace HB := hb1_ HB hb ae; have aa := nb_ hg ab; replace ab := bb_ ab hb; have ac := ns_ aa; clear hb hbox hg; have bd := aa.out; have bh := ac.out; obtain ⟨aq, ar, aA, aC⟩ := cz2_ ab; obtain ⟨au, av, aD, aG⟩ := cz2_ aj))
   go_ret
   exact ⟨lf_, sq_below1 HB.out ak.out⟩
 ·
  rw [if_neg c3] at H; have aM : (af == ah) = false := beq_eq_false_iff_ne.mpr c3; have aN : (af != ah) = true := bne_iff_ne.mpr c3; obtain rfl := Option.some.inj H
  go_enter Tryd.func114, Tryd.ntmps114
  go_wp2_with (first | ((with_reducible refine gate_dst (N := 2) rfl ?_); refine box_y 2 #[.int .i64 af, .int .i64 ag] 88 (h := ?_); intro ao hg bn hbox hb; have ab := am_ hbox; have al := gz_ hg HB; have ae := gz_ hg HB; replace HB := hb_ HB hb; clear hb hbox hg) | ((with_reducible refine gate_dst (N := 3) rfl ?_); refine box_y 3 #[.int .i64 ah, .int .i64 ai] 88 (h := ?_); intro ap hg bo hbox hb; have aj := am_ hbox; have am := gz1_ hg HB ae; have ak := gz1_ hg HB ae; replace HB := hb1_ HB hb ae; have aa := nb_ hg ab; replace ab := bb_ ab hb; have ac := ns_ aa; clear hb hbox hg; have bf := aa.out; have bi := ac.out; obtain ⟨aw, ax, aH, aI⟩ := cz2_ ab; obtain ⟨ay, az, aJ, aK⟩ := cz2_ aj))
  go_ret
  exact ⟨lf_, sq_below1 HB.out ak.out⟩

/-! ### laws_eqVal: function 82 -/
def laws_eqVal.f (ai : Int) (aj : Int) (ag : Bool) (ak : Int) (al : Int) (ah : Bool) : Option (Bool) := (laws_eqRange.f ai aj ak al).bind fun ao => (if ao = true then (if (ag != ah) = true then (some false) else (some true)) else (some false))
theorem laws_eqVal.calls (ai : Int) (aj : Int) (ag : Bool) (ak : Int) (al : Int) (ah : Bool) (r : Bool) (w : World) (h : laws_eqVal.f ai aj ag ak al ah = some r) :
  Calls Tryd.prog 82 #[.agg #[.int .i64 ai, .int .i64 aj, .bool ag], .agg #[.int .i64 ak, .int .i64 al, .bool ah]] w fun e w' => e = .returned (.bool r) ∧ Below w.heap.size w w' := by
 have hu90 := Tryd.underlying90; have hu88 := Tryd.underlying88; have HB := am_ (Below.refl w.heap.size w); have H : ((laws_eqRange.f ai aj ak al).bind fun ao => (if ao = true then (if (ag != ah) = true then (some false) else (some true)) else (some false))) = some r := h; clear h; obtain ⟨ao, A3, H⟩ := be_ H; (try dsimp only at H)
 by_cases c4 : ao = true
 ·
  subst c4; have H1 := ifp_ H
  clear H; have H := H1; clear H1
  by_cases c5 : (ag != ah) = true
  ·
   rw [if_pos c5] at H; have bK : (ag != ah) = true := c5
   (try (have bL : decide (ag = ah) = false := by simpa using c5))
   (try (have bM : (ag == ah) = false := by simpa using c5))
   (try (have bX : ¬ (ag = ah) := by simpa using c5))
   clear c5; obtain rfl := Option.some.inj H
   go_enter Tryd.func82, Tryd.ntmps82
   go_wp2_with (first | ((with_reducible refine gate_dst (N := 2) rfl ?_); refine box_y 2 #[.int .i64 ai, .int .i64 aj, .bool ag] 90 (h := ?_); intro ar hg w6 hbox hb; have aa := am_ hbox; have ap := gz_ hg HB; have ac := gz_ hg HB; replace HB := hb_ HB hb; clear hb hbox hg) | ((with_reducible refine gate_dst (N := 3) rfl ?_); refine box_y 3 #[.int .i64 ak, .int .i64 al, .bool ah] 90 (h := ?_); intro au hg w7 hbox hb; have af := am_ hbox; have aq := gz1_ hg HB ac; have am := gz1_ hg HB ac; replace HB := hb1_ HB hb ac; have ab := nb_ hg aa; replace aa := bb_ aa hb; have ae := ns_ ab; clear hb hbox hg; have bY := ab.out; have bZ := ae.out; obtain ⟨bN, bO, bP, bQ, bR, bS⟩ := cz3_ aa; obtain ⟨av, aw, ax, bh, bi, bj⟩ := cz3_ af) | ((with_reducible refine gate_callee (f := 114) rfl ?_); refine gl_ 9 Tryd.func114 #[.agg #[.int .i64 ai, .int .i64 aj], .agg #[.int .i64 ak, .int .i64 al]] (h := ?_); (with_reducible refine (laws_eqRange.calls ai aj ak al true _ A3.out).mono ?_); rintro e ca ⟨rfl, hb⟩; refine ⟨_, rfl, ?_⟩; replace aa := bb_ aa hb; replace af := bb_ af hb; replace HB := hb2_ HB hb ac am; (try clear hb); obtain ⟨ay, az, aA, bk, bl, bm⟩ := cz3_ aa; obtain ⟨aC, aD, aG, bn, bo, bp⟩ := cz3_ af))
   go_ret
   exact ⟨lf_, sq_below1 HB.out am.out⟩
  ·
   rw [if_neg c5] at H; have bK : (ag != ah) = false := by simpa using c5
   (try (have bL : decide (ag = ah) = true := by simpa using c5))
   (try (have bM : (ag == ah) = true := by simpa using c5))
   clear c5; obtain rfl := Option.some.inj H
   go_enter Tryd.func82, Tryd.ntmps82
   go_wp2_with (first | ((with_reducible refine gate_dst (N := 2) rfl ?_); refine box_y 2 #[.int .i64 ai, .int .i64 aj, .bool ag] 90 (h := ?_); intro ar hg cb hbox hb; have aa := am_ hbox; have ap := gz_ hg HB; have ac := gz_ hg HB; replace HB := hb_ HB hb; clear hb hbox hg) | ((with_reducible refine gate_dst (N := 3) rfl ?_); refine box_y 3 #[.int .i64 ak, .int .i64 al, .bool ah] 90 (h := ?_); intro au hg cd hbox hb; have af := am_ hbox; have aq := gz1_ hg HB ac; have am := gz1_ hg HB ac; replace HB := hb1_ HB hb ac; have ab := nb_ hg aa; replace aa := bb_ aa hb; have ae := ns_ ab; clear hb hbox hg; have bT := ab.out; have bV := ae.out; obtain ⟨aH, aI, aJ, bq, br, bt⟩ := cz3_ aa; obtain ⟨aK, aM, aN, bu, bv, bw⟩ := cz3_ af) | ((with_reducible refine gate_callee (f := 114) rfl ?_); refine gl_ 9 Tryd.func114 #[.agg #[.int .i64 ai, .int .i64 aj], .agg #[.int .i64 ak, .int .i64 al]] (h := ?_); (with_reducible refine (laws_eqRange.calls ai aj ak al true _ A3.out).mono ?_); rintro e ce ⟨rfl, hb⟩; refine ⟨_, rfl, ?_⟩; replace aa := bb_ aa hb; replace af := bb_ af hb; replace HB := hb2_ HB hb ac am; (try clear hb); obtain ⟨aQ, aT, aU, bx, bz, bA⟩ := cz3_ aa; obtain ⟨aV, aW, aX, bB, bC, bD⟩ := cz3_ af))
   go_ret
   exact ⟨lf_, sq_below1 HB.out am.out⟩
 ·
  replace c4 := Bool.eq_false_iff.mpr c4; subst c4; have H1 := ifn_ H
  clear H; have H := H1; clear H1; obtain rfl := Option.some.inj H
  go_enter Tryd.func82, Tryd.ntmps82
  go_wp2_with (first | ((with_reducible refine gate_dst (N := 2) rfl ?_); refine box_y 2 #[.int .i64 ai, .int .i64 aj, .bool ag] 90 (h := ?_); intro ar hg cf hbox hb; have aa := am_ hbox; have ap := gz_ hg HB; have ac := gz_ hg HB; replace HB := hb_ HB hb; clear hb hbox hg) | ((with_reducible refine gate_dst (N := 3) rfl ?_); refine box_y 3 #[.int .i64 ak, .int .i64 al, .bool ah] 90 (h := ?_); intro au hg ch hbox hb; have af := am_ hbox; have aq := gz1_ hg HB ac; have am := gz1_ hg HB ac; replace HB := hb1_ HB hb ac; have ab := nb_ hg aa; replace aa := bb_ aa hb; have ae := ns_ ab; clear hb hbox hg; have bU := ab.out; have bW := ae.out; obtain ⟨aY, aZ, ba, bE, bF, bG⟩ := cz3_ aa; obtain ⟨bc, bd, bf, bH, bI, bJ⟩ := cz3_ af) | ((with_reducible refine gate_callee (f := 114) rfl ?_); refine gl_ 9 Tryd.func114 #[.agg #[.int .i64 ai, .int .i64 aj], .agg #[.int .i64 ak, .int .i64 al]] (h := ?_); (with_reducible refine (laws_eqRange.calls ai aj ak al false _ A3.out).mono ?_); rintro e cj ⟨rfl, hb⟩; refine ⟨_, rfl, ?_⟩; replace HB := hb_ HB hb; (try clear hb)))
  go_ret
  exact ⟨lf_, sq_below HB.out⟩

end Go.Proofs.YtdmdalapckcobaaDoor.Q
namespace Go.Proofs.YtdmdalapckcobaaDoor.Q
open Go.RowKit Go.Proofs.YtdmdalapckcobaaDoorW.PrintWords Go.Proofs.YtdmdalapckcobaaDoorW.PrintLast Go.Proofs.YtdmdalapckcobaaDoorW.PrintMore
attribute [local go_sem] max2_int min2_int max_two min_two max_three min_three max_four min_four   -- for this text's walks alone
set_option linter.unusedVariables false
set_option maxHeartbeats 8000000
set_option maxRecDepth 100000
set_option linter.unusedSimpArgs false

/-! ### laws_eqValS: function 37 -/
def laws_eqValS.l0 : Nat → List (S90) → List (S90) → Int → Option (Bool)
 | 0, _, _, _ => none
 | k + 1, x0, x1, x5 => if x5 < (x0.length : Int) then (if 0 ≤ x5 then (if x5 < (x1.length : Int) then ((laws_eqVal.f ((rd_T90 x0 x5).f0.f0) ((rd_T90 x0 x5).f0.f1) ((rd_T90 x0 x5).f1) ((rd_T90 x1 x5).f0.f0) ((rd_T90 x1 x5).f0.f1) ((rd_T90 x1 x5).f1)).bind fun az => (if az = true then (laws_eqValS.l0 k x0 x1 (wrap64 (x5 + 1))) else (some false))) else (none)) else (none)) else (some true)
def laws_eqValS.f (k : Nat) (l0 : List (S90)) (l1 : List (S90)) : Option (Bool) := if (l0.length : Int) = (l1.length : Int) then (laws_eqValS.l0 k l0 l1 0) else (some false)
theorem laws_eqValS.mono_l : ∀ k, (∀ y0 y1 y2, LeO (laws_eqValS.l0 k y0 y1 y2) (laws_eqValS.l0 (k + 1) y0 y1 y2))
 | 0 => fun _ _ _ r h => by simp [laws_eqValS.l0] at h
 | k + 1 => by
  have ih0 := laws_eqValS.mono_l k
  ·
   intro y0 y1 y2; unfold laws_eqValS.l0
   repeat' first
   | (with_reducible exact ih0 _ _ _) | (with_reducible exact LeO.refl _) | (with_reducible exact LeO.none _) | (with_reducible refine LeO.ite ?_ ?_) | (with_reducible refine LeO.bind ?_ fun _ => ?_) | exact ih0 _ _ _ | exact LeO.none _ | refine LeO.ite ?_ ?_ | refine LeO.bind ?_ fun _ => ?_
theorem laws_eqValS.mono : ∀ a0 a1 k, LeO (laws_eqValS.f k a0 a1) (laws_eqValS.f (k + 1) a0 a1) := by
 intro a0 a1 k; have ih0 := laws_eqValS.mono_l k; unfold laws_eqValS.f
 repeat' first
   | (with_reducible exact ih0 _ _ _) | (with_reducible exact LeO.refl _) | (with_reducible exact LeO.none _) | (with_reducible refine LeO.ite ?_ ?_) | (with_reducible refine LeO.bind ?_ fun _ => ?_) | exact ih0 _ _ _ | exact LeO.none _ | refine LeO.ite ?_ ?_ | refine LeO.bind ?_ fun _ => ?_
def laws_eqValS.T6 : Bool × List (List Nat × List Nat) := (true, [([], []), ([], []), ([0, 1], [0, 1]), ([2], [2]), ([], []), ([], []), ([4, 5], [4, 5]), ([6], [6]), ([3, 7], [3, 7]), ([8], [8])])
def laws_eqValS.B6 : List Nat := [0, 0, 3, 7, 0, 0, 48, 112, 255, 511]
theorem laws_eqValS.tab6 : rtab .any (opsOf Tryd.f37 6) = laws_eqValS.T6 := by kernel_rfl
theorem laws_eqValS.bits6 : waitsOk laws_eqValS.T6.2 laws_eqValS.B6 = true := by kernel_rfl
theorem laws_eqValS.calls (k : Nat) (A0 : Option Addr) (c0 : Nat) (l0 : List (S90)) (A1 : Option Addr) (c1 : Nat) (l1 : List (S90)) (r : Bool) (w : World) (hr0 : Kd.C k90 w A0 l0.length l0) (hc0 : l0.length ≤ c0) (hr1 : Kd.C k90 w A1 l1.length l1) (hc1 : l1.length ≤ c1) (h : laws_eqValS.f k l0 l1 = some r) :
  Calls Tryd.prog 37 #[.slice A0 l0.length c0, .slice A1 l1.length c1] w fun e w' => e = .returned (.bool r) ∧ Below w.heap.size w w' := by
 have hu90 := Tryd.underlying90; have aH := am_ hr0; have aM := am_ hc0; clear hr0 hc0; have aI := am_ hr1; have aN := am_ hc1; clear hr1 hc1; have HB := am_ (Below.refl w.heap.size w); have H : (if (l0.length : Int) = (l1.length : Int) then (laws_eqValS.l0 k l0 l1 0) else (some false)) = some r := h; clear h
 by_cases c3 : (l0.length : Int) = (l1.length : Int)
 ·
  rw [if_pos c3] at H; have aA : ((l0.length : Int) == (l1.length : Int)) = true := beq_iff_eq.mpr c3; have aC : ((l0.length : Int) != (l1.length : Int)) = false := bne_eq_false_iff_eq.mpr c3; have aD : (l0.length == l1.length) = true := by first | simpa using c3 | (simp at c3 ⊢; omega)
  clear c3; have H' := am_ H; clear H
  go_enter Tryd.func37, Tryd.ntmps37
  go_wp2
  go_loopg [5] k (fun kq v5 w' => ∃ (aa : Int), v5 = .int .i64 aa ∧ Aside0 (laws_eqValS.l0 kq l0 l1 aa = some r) ∧ Aside0 (kq ≤ k) ∧ Aside0 (Below w.heap.size w w'))
  case atStart => exact ⟨(0), sr_, H', ⟨Nat.le_refl _⟩, ⟨sq_below HB.out⟩⟩
  case round =>
   clear H'
   obtain ⟨aa, rfl, HA, HK1, HB⟩ := hrel; cases gk with
   | zero => exact absurd HA.out (by simp [laws_eqValS.l0])
   | succ k1 =>
    have H := HA.out; clear HA; simp only [laws_eqValS.l0] at H
    by_cases c4 : aa < (l0.length : Int)
    ·
     rw [if_pos c4] at H; have aG := decide_eq_true (p := aa < (l0.length : Int)) c4; clear c4
     by_cases c5 : 0 ≤ aa
     ·
      rw [if_pos c5] at H; have aJ := decide_eq_true (p := 0 ≤ aa) c5; clear c5
      by_cases c6 : aa < (l1.length : Int)
      ·
       rw [if_pos c6] at H; have aK := decide_eq_true (p := aa < (l1.length : Int)) c6; clear c6; obtain ⟨az, A7, H⟩ := be_ H; (try dsimp only at H)
       by_cases c8 : az = true
       ·
        subst c8; have H1 := ifp_ H
        clear H; have H := H1; clear H1; have H' := am_ H; clear H
        try go_wp2
        replace HB := hd_ HB; have ar : 0 ≤ (aa : Int) := sq_dec; have av : aa < (l0.length : Int) := sq_dec; obtain ⟨ai, ax, ab, ac, ae⟩ := at_T90 aH.out aa ar av; have am := ae; have al := ac; have ak := ab; cases ax; replace ab := cb_ HB ab; replace ac := cb_ HB ac; replace ae := cb_ HB ae; replace ar := eq_true ar; replace av := eq_true av; have au : 0 ≤ (aa : Int) := sq_dec; have aw : aa < (l1.length : Int) := sq_dec; obtain ⟨aj, ay, af, ag, ah⟩ := at_T90 aI.out aa au aw; have aq := ah; have ap := ag; have ao := af; cases ay; replace af := cb_ HB af; replace ag := cb_ HB ag; replace ah := cb_ HB ah; replace au := eq_true au; replace aw := eq_true aw; refine start_ (n := 10) (S := fun w' => w'.cell? (ai.add ((aa).toNat * 3)) = some (.int .i64 ((rd_T90 l0 aa).f0.f0)) ∧ w'.cell? ⟨(ai.add ((aa).toNat * 3)).block, (ai.add ((aa).toNat * 3)).off + 1, none⟩ = some (.int .i64 ((rd_T90 l0 aa).f0.f1)) ∧ w'.cell? ⟨(ai.add ((aa).toNat * 3)).block, (ai.add ((aa).toNat * 3)).off + 2, none⟩ = some (.bool ((rd_T90 l0 aa).f1)) ∧ w'.cell? (aj.add ((aa).toNat * 3)) = some (.int .i64 ((rd_T90 l1 aa).f0.f0)) ∧ w'.cell? ⟨(aj.add ((aa).toNat * 3)).block, (aj.add ((aa).toNat * 3)).off + 1, none⟩ = some (.int .i64 ((rd_T90 l1 aa).f0.f1)) ∧ w'.cell? ⟨(aj.add ((aa).toNat * 3)).block, (aj.add ((aa).toNat * 3)).off + 2, none⟩ = some (.bool ((rd_T90 l1 aa).f1))) (ds := []) #[false, false, false, false, false, false, false, false, false, false] (by kernel_rfl) rfl rfl ⟨(cb_ HB ak), (cb_ HB al), (cb_ HB am), (cb_ HB ao), (cb_ HB ap), (cb_ HB aq)⟩ (fun hHeld => ?_); refine with_tabW laws_eqValS.tab6 laws_eqValS.bits6 (fun HT_ HW_ => ?_); generalize wr.drew = w9 at HB ab ac ae af ag ah hHeld ⊢; refine py_ HT_ 0 17 ?_
        refine py_ HT_ 1 18 ?_
        refine py_ HT_ 2 19 ?_
        refine py_ HT_ 4 21 ?_
        refine py_ HT_ 5 22 ?_
        refine py_ HT_ 6 23 ?_
        refine ty_ HT_ HW_ 3 20 rfl hHeld (by rintro w' ⟨s0, s1, s2, s3, s4, s5⟩; go_simp; with_reducible rfl) ?_
        refine ty_ HT_ HW_ 7 24 rfl hHeld (by rintro w' ⟨s0, s1, s2, s3, s4, s5⟩; go_simp; with_reducible rfl) ?_
        refine oy_ HT_ 8 (some 25) (fun K hK => ?_); refine gs_ Tryd.func82 #[.agg #[.int .i64 ((rd_T90 l0 aa).f0.f0), .int .i64 ((rd_T90 l0 aa).f0.f1), .bool ((rd_T90 l0 aa).f1)], .agg #[.int .i64 ((rd_T90 l1 aa).f0.f0), .int .i64 ((rd_T90 l1 aa).f0.f1), .bool ((rd_T90 l1 aa).f1)]] (h := ?_); with_reducible refine (laws_eqVal.calls ((rd_T90 l0 aa).f0.f0) ((rd_T90 l0 aa).f0.f1) ((rd_T90 l0 aa).f1) ((rd_T90 l1 aa).f0.f0) ((rd_T90 l1 aa).f0.f1) ((rd_T90 l1 aa).f1) true _ A7.out).mono ?_
        rintro e aQ ⟨rfl, hb⟩; refine ⟨_, rfl, ?_⟩; replace HB := hb_ HB hb
        (try clear hb)
        (try clear hb2)
        (try clear hk)
        (try clear hi)
        refine hK.out _ _ ⟨(cb_ HB ak), (cb_ HB al), (cb_ HB am), (cb_ HB ao), (cb_ HB ap), (cb_ HB aq)⟩ (fun hHeld => ?_); clear hK K; refine norm_y 25 (h := ?_)
        refine py_ HT_ 9 26 ?_
        refine done_ (done_of HT_.out (by kernel_rfl)) ?_
        try go_wp2
        go_roundg k1
        case measure => have := HK1.out; omega
        case rel => exact ⟨(wrap64 (aa + 1)), sr_, H', ⟨by have := HK1.out; omega⟩, ⟨sq_below HB.out⟩⟩
       ·
        replace c8 := Bool.eq_false_iff.mpr c8; subst c8; have H1 := ifn_ H
        clear H; have H := H1; clear H1; obtain rfl := Option.some.inj H
        try go_wp2
        replace HB := hd_ HB; have ar : 0 ≤ (aa : Int) := sq_dec; have av : aa < (l0.length : Int) := sq_dec; obtain ⟨ai, ax, ab, ac, ae⟩ := at_T90 aH.out aa ar av; have am := ae; have al := ac; have ak := ab; cases ax; replace ab := cb_ HB ab; replace ac := cb_ HB ac; replace ae := cb_ HB ae; replace ar := eq_true ar; replace av := eq_true av; have au : 0 ≤ (aa : Int) := sq_dec; have aw : aa < (l1.length : Int) := sq_dec; obtain ⟨aj, ay, af, ag, ah⟩ := at_T90 aI.out aa au aw; have aq := ah; have ap := ag; have ao := af; cases ay; replace af := cb_ HB af; replace ag := cb_ HB ag; replace ah := cb_ HB ah; replace au := eq_true au; replace aw := eq_true aw; refine start_ (n := 10) (S := fun w' => w'.cell? (ai.add ((aa).toNat * 3)) = some (.int .i64 ((rd_T90 l0 aa).f0.f0)) ∧ w'.cell? ⟨(ai.add ((aa).toNat * 3)).block, (ai.add ((aa).toNat * 3)).off + 1, none⟩ = some (.int .i64 ((rd_T90 l0 aa).f0.f1)) ∧ w'.cell? ⟨(ai.add ((aa).toNat * 3)).block, (ai.add ((aa).toNat * 3)).off + 2, none⟩ = some (.bool ((rd_T90 l0 aa).f1)) ∧ w'.cell? (aj.add ((aa).toNat * 3)) = some (.int .i64 ((rd_T90 l1 aa).f0.f0)) ∧ w'.cell? ⟨(aj.add ((aa).toNat * 3)).block, (aj.add ((aa).toNat * 3)).off + 1, none⟩ = some (.int .i64 ((rd_T90 l1 aa).f0.f1)) ∧ w'.cell? ⟨(aj.add ((aa).toNat * 3)).block, (aj.add ((aa).toNat * 3)).off + 2, none⟩ = some (.bool ((rd_T90 l1 aa).f1))) (ds := []) #[false, false, false, false, false, false, false, false, false, false] (by kernel_rfl) rfl rfl ⟨(cb_ HB ak), (cb_ HB al), (cb_ HB am), (cb_ HB ao), (cb_ HB ap), (cb_ HB aq)⟩ (fun hHeld => ?_); refine with_tabW laws_eqValS.tab6 laws_eqValS.bits6 (fun HT_ HW_ => ?_); generalize wr.drew = aT at HB ab ac ae af ag ah hHeld ⊢; refine py_ HT_ 0 17 ?_
        refine py_ HT_ 1 18 ?_
        refine py_ HT_ 2 19 ?_
        refine py_ HT_ 4 21 ?_
        refine py_ HT_ 5 22 ?_
        refine py_ HT_ 6 23 ?_
        refine ty_ HT_ HW_ 3 20 rfl hHeld (by rintro w' ⟨s0, s1, s2, s3, s4, s5⟩; go_simp; with_reducible rfl) ?_
        refine ty_ HT_ HW_ 7 24 rfl hHeld (by rintro w' ⟨s0, s1, s2, s3, s4, s5⟩; go_simp; with_reducible rfl) ?_
        refine oy_ HT_ 8 (some 25) (fun K hK => ?_); refine gs_ Tryd.func82 #[.agg #[.int .i64 ((rd_T90 l0 aa).f0.f0), .int .i64 ((rd_T90 l0 aa).f0.f1), .bool ((rd_T90 l0 aa).f1)], .agg #[.int .i64 ((rd_T90 l1 aa).f0.f0), .int .i64 ((rd_T90 l1 aa).f0.f1), .bool ((rd_T90 l1 aa).f1)]] (h := ?_); with_reducible refine (laws_eqVal.calls ((rd_T90 l0 aa).f0.f0) ((rd_T90 l0 aa).f0.f1) ((rd_T90 l0 aa).f1) ((rd_T90 l1 aa).f0.f0) ((rd_T90 l1 aa).f0.f1) ((rd_T90 l1 aa).f1) false _ A7.out).mono ?_
        rintro e aU ⟨rfl, hb⟩; refine ⟨_, rfl, ?_⟩; replace HB := hb_ HB hb
        (try clear hb)
        (try clear hb2)
        (try clear hk)
        (try clear hi)
        refine hK.out _ _ ⟨(cb_ HB ak), (cb_ HB al), (cb_ HB am), (cb_ HB ao), (cb_ HB ap), (cb_ HB aq)⟩ (fun hHeld => ?_); clear hK K; refine norm_y 25 (h := ?_)
        refine py_ HT_ 9 26 ?_
        refine done_ (done_of HT_.out (by kernel_rfl)) ?_
        try go_wp2
        go_ret
        exact ⟨lf_, sq_below HB.out⟩
      ·
       rw [if_neg c6] at H; exact absurd H (by simp)
     ·
      rw [if_neg c5] at H; exact absurd H (by simp)
    ·
     rw [if_neg c4] at H; have aG := decide_eq_false (p := aa < (l0.length : Int)) c4; clear c4; obtain rfl := Option.some.inj H
     go_wp2
     go_ret
     exact ⟨lf_, sq_below HB.out⟩
 ·
  rw [if_neg c3] at H; have aA : ((l0.length : Int) == (l1.length : Int)) = false := beq_eq_false_iff_ne.mpr c3; have aC : ((l0.length : Int) != (l1.length : Int)) = true := bne_iff_ne.mpr c3; have aD : (l0.length == l1.length) = false := by first | simpa using c3 | (simp at c3 ⊢; omega)
  obtain rfl := Option.some.inj H
  go_enter Tryd.func37, Tryd.ntmps37
  go_wp2
  go_ret
  exact ⟨lf_, sq_below HB.out⟩

end Go.Proofs.YtdmdalapckcobaaDoor.Q
namespace Go.Proofs.YtdmdalapckcobaaDoor.Q
open Go.RowKit Go.Proofs.YtdmdalapckcobaaDoorW.PrintWords Go.Proofs.YtdmdalapckcobaaDoorW.PrintLast Go.Proofs.YtdmdalapckcobaaDoorW.PrintMore
attribute [local go_sem] max2_int min2_int max_two min_two max_three min_three max_four min_four   -- for this text's walks alone
set_option linter.unusedVariables false
set_option maxHeartbeats 8000000
set_option maxRecDepth 100000
set_option linter.unusedSimpArgs false

/-! ### laws_eqBoolS: function 38 -/
def laws_eqBoolS.l0 : Nat → List Bool → List Bool → Int → Option (Bool)
 | 0, _, _, _ => none
 | k + 1, x0, x1, x5 => if x5 < (x0.length : Int) then (if 0 ≤ x5 then (if x5 < (x1.length : Int) then (if ((rdOf false x0 x5) != (rdOf false x1 x5)) = true then (some false) else (laws_eqBoolS.l0 k x0 x1 (wrap64 (x5 + 1)))) else (none)) else (none)) else (some true)
def laws_eqBoolS.f (k : Nat) (l0 : List Bool) (l1 : List Bool) : Option (Bool) := if (l0.length : Int) = (l1.length : Int) then (laws_eqBoolS.l0 k l0 l1 0) else (some false)
theorem laws_eqBoolS.mono_l : ∀ k, (∀ y0 y1 y2, LeO (laws_eqBoolS.l0 k y0 y1 y2) (laws_eqBoolS.l0 (k + 1) y0 y1 y2))
 | 0 => fun _ _ _ r h => by simp [laws_eqBoolS.l0] at h
 | k + 1 => by
  have ih0 := laws_eqBoolS.mono_l k
  ·
   intro y0 y1 y2; unfold laws_eqBoolS.l0
   repeat' first
   | (with_reducible exact ih0 _ _ _) | (with_reducible exact LeO.refl _) | (with_reducible exact LeO.none _) | (with_reducible refine LeO.ite ?_ ?_) | (with_reducible refine LeO.bind ?_ fun _ => ?_) | exact ih0 _ _ _ | exact LeO.none _ | refine LeO.ite ?_ ?_ | refine LeO.bind ?_ fun _ => ?_
theorem laws_eqBoolS.mono : ∀ a0 a1 k, LeO (laws_eqBoolS.f k a0 a1) (laws_eqBoolS.f (k + 1) a0 a1) := by
 intro a0 a1 k; have ih0 := laws_eqBoolS.mono_l k; unfold laws_eqBoolS.f
 repeat' first
   | (with_reducible exact ih0 _ _ _) | (with_reducible exact LeO.refl _) | (with_reducible exact LeO.none _) | (with_reducible refine LeO.ite ?_ ?_) | (with_reducible refine LeO.bind ?_ fun _ => ?_) | exact ih0 _ _ _ | exact LeO.none _ | refine LeO.ite ?_ ?_ | refine LeO.bind ?_ fun _ => ?_
theorem laws_eqBoolS.calls (k : Nat) (A0 : Option Addr) (c0 : Nat) (l0 : List Bool) (A1 : Option Addr) (c1 : Nat) (l1 : List Bool) (r : Bool) (w : World) (hr0 : Kd.C Kd.bool w A0 l0.length l0) (hc0 : l0.length ≤ c0) (hr1 : Kd.C Kd.bool w A1 l1.length l1) (hc1 : l1.length ≤ c1) (h : laws_eqBoolS.f k l0 l1 = some r) :
  Calls Tryd.prog 38 #[.slice A0 l0.length c0, .slice A1 l1.length c1] w fun e w' => e = .returned (.bool r) ∧ Drawn0 w w' := by
 have aw := am_ hr0; have aC := am_ hc0; clear hr0 hc0; have ax := am_ hr1; have aD := am_ hc1; clear hr1 hc1; have H : (if (l0.length : Int) = (l1.length : Int) then (laws_eqBoolS.l0 k l0 l1 0) else (some false)) = some r := h; clear h
 by_cases c3 : (l0.length : Int) = (l1.length : Int)
 ·
  rw [if_pos c3] at H; have am : ((l0.length : Int) == (l1.length : Int)) = true := beq_iff_eq.mpr c3; have ao : ((l0.length : Int) != (l1.length : Int)) = false := bne_eq_false_iff_eq.mpr c3; have ap : (l0.length == l1.length) = true := by first | simpa using c3 | (simp at c3 ⊢; omega)
  clear c3; have H' := am_ H; clear H
  go_enter Tryd.func38, Tryd.ntmps38
  go_wp2
  repeat (go_quiet (fail); try go_wp2)
  go_loopg [5] k (fun kq v5 w' => ∃ (aa : Int), v5 = .int .i64 aa ∧ Aside0 (laws_eqBoolS.l0 kq l0 l1 aa = some r) ∧ Aside0 (kq ≤ k) ∧ Drawn0 w w')
  case atStart => exact ⟨(0), sr_, H', ⟨Nat.le_refl _⟩, by repeat (first | exact Drawn0.refl _ | apply Drawn0.step)⟩
  case round =>
   clear H'
   obtain ⟨aa, rfl, HA, HK1, ⟨m1, rfl⟩⟩ := hrel; cases gk with
   | zero => exact absurd HA.out (by simp [laws_eqBoolS.l0])
   | succ k1 =>
    have H := HA.out; clear HA; simp only [laws_eqBoolS.l0] at H
    by_cases c4 : aa < (l0.length : Int)
    ·
     rw [if_pos c4] at H; have aq := decide_eq_true (p := aa < (l0.length : Int)) c4; clear c4
     by_cases c5 : 0 ≤ aa
     ·
      rw [if_pos c5] at H; have ay := decide_eq_true (p := 0 ≤ aa) c5; clear c5
      by_cases c6 : aa < (l1.length : Int)
      ·
       rw [if_pos c6] at H; have az := decide_eq_true (p := aa < (l1.length : Int)) c6; clear c6
       by_cases c7 : ((rdOf false l0 aa) != (rdOf false l1 aa)) = true
       ·
        rw [if_pos c7] at H; have ar : ((rdOf false l0 aa) != (rdOf false l1 aa)) = true := c7
        (try (have au : decide ((rdOf false l0 aa) = (rdOf false l1 aa)) = false := by simpa using c7))
        (try (have av : ((rdOf false l0 aa) == (rdOf false l1 aa)) = false := by simpa using c7))
        (try (have aA : ¬ ((rdOf false l0 aa) = (rdOf false l1 aa)) := by simpa using c7))
        clear c7; obtain rfl := Option.some.inj H; have ab : 0 ≤ (aa : Int) := sq_dec; have ae : aa < (l0.length : Int) := sq_dec; obtain ⟨ak, ai, ag⟩ := Kd.at_bool aw.out aa ab ae; cases ai; replace ab := eq_true ab; replace ae := eq_true ae; have ac : 0 ≤ (aa : Int) := sq_dec; have af : aa < (l1.length : Int) := sq_dec; obtain ⟨al, aj, ah⟩ := Kd.at_bool ax.out aa ac af; cases aj; replace ac := eq_true ac; replace af := eq_true af
        go_wp2
        repeat (go_quiet (fail); try go_wp2)
        go_ret
        exact ⟨by first | rfl | (simp; done) | (simp [*]; done), by repeat (first | exact Drawn0.refl _ | apply Drawn0.step)⟩
       ·
        rw [if_neg c7] at H; have ar : ((rdOf false l0 aa) != (rdOf false l1 aa)) = false := by simpa using c7
        (try (have au : decide ((rdOf false l0 aa) = (rdOf false l1 aa)) = true := by simpa using c7))
        (try (have av : ((rdOf false l0 aa) == (rdOf false l1 aa)) = true := by simpa using c7))
        clear c7; have H' := am_ H; clear H; have ab : 0 ≤ (aa : Int) := sq_dec; have ae : aa < (l0.length : Int) := sq_dec; obtain ⟨ak, ai, ag⟩ := Kd.at_bool aw.out aa ab ae; cases ai; replace ab := eq_true ab; replace ae := eq_true ae; have ac : 0 ≤ (aa : Int) := sq_dec; have af : aa < (l1.length : Int) := sq_dec; obtain ⟨al, aj, ah⟩ := Kd.at_bool ax.out aa ac af; cases aj; replace ac := eq_true ac; replace af := eq_true af
        go_wp2
        repeat (go_quiet (fail); try go_wp2)
        go_roundg k1
        case measure => have := HK1.out; omega
        case rel => exact ⟨(wrap64 (aa + 1)), sr_, H', ⟨by have := HK1.out; omega⟩, by repeat (first | exact Drawn0.refl _ | apply Drawn0.step)⟩
      ·
       rw [if_neg c6] at H; exact absurd H (by simp)
     ·
      rw [if_neg c5] at H; exact absurd H (by simp)
    ·
     rw [if_neg c4] at H; have aq := decide_eq_false (p := aa < (l0.length : Int)) c4; clear c4; obtain rfl := Option.some.inj H
     go_wp2
     repeat (go_quiet (fail); try go_wp2)
     go_ret
     exact ⟨by first | rfl | (simp; done) | (simp [*]; done), by repeat (first | exact Drawn0.refl _ | apply Drawn0.step)⟩
 ·
  rw [if_neg c3] at H; have am : ((l0.length : Int) == (l1.length : Int)) = false := beq_eq_false_iff_ne.mpr c3; have ao : ((l0.length : Int) != (l1.length : Int)) = true := bne_iff_ne.mpr c3; have ap : (l0.length == l1.length) = false := by first | simpa using c3 | (simp at c3 ⊢; omega)
  obtain rfl := Option.some.inj H
  go_enter Tryd.func38, Tryd.ntmps38
  go_wp2
  repeat (go_quiet (fail); try go_wp2)
  go_ret
  exact ⟨by first | rfl | (simp; done) | (simp [*]; done), by repeat (first | exact Drawn0.refl _ | apply Drawn0.step)⟩

/-! ### laws_eqSeg: function 11 -/
def laws_eqSeg.f (k : Nat) (ak : List (List (S54))) (am : List (S90)) (ap : List Bool) (al : List (List (S54))) (ao : List (S90)) (aq : List Bool) : Option (Bool) := (laws_eqSymSS.f k ak al).bind fun ba => (if ba = true then ((laws_eqValS.f k am ao).bind fun bc => (if bc = true then ((laws_eqBoolS.f k ap aq).bind fun bd => (if bd = true then (some true) else (some false))) else (some false))) else (some false))
theorem laws_eqSeg.mono : ∀ a0 a1 a2 a3 a4 a5 k, LeO (laws_eqSeg.f k a0 a1 a2 a3 a4 a5) (laws_eqSeg.f (k + 1) a0 a1 a2 a3 a4 a5) := by
 intro a0 a1 a2 a3 a4 a5 k; unfold laws_eqSeg.f
 repeat' first
   | (with_reducible exact laws_eqBoolS.mono _ _ _) | (with_reducible exact laws_eqSymSS.mono _ _ _) | (with_reducible exact laws_eqValS.mono _ _ _) | (with_reducible exact LeO.refl _) | (with_reducible exact LeO.none _) | (with_reducible refine LeO.ite ?_ ?_) | (with_reducible refine LeO.bind ?_ fun _ => ?_) | exact laws_eqBoolS.mono _ _ _ | exact laws_eqSymSS.mono _ _ _ | exact laws_eqValS.mono _ _ _ | exact LeO.none _ | refine LeO.ite ?_ ?_ | refine LeO.bind ?_ fun _ => ?_
theorem laws_eqSeg.calls (k : Nat) (au : Option Addr) (aw : Nat) (ak : List (List (S54))) (ay : Option Addr) (aA : Nat) (am : List (S90)) (aD : Option Addr) (aH : Nat) (ap : List Bool) (av : Option Addr) (ax : Nat) (al : List (List (S54))) (az : Option Addr) (aC : Nat) (ao : List (S90)) (aG : Option Addr) (aI : Nat) (aq : List Bool) (r : Bool) (w : World) (bq : Kd.C (Kd.slice 54 k54) w au ak.length ak) (bk : ak.length ≤ aw) (br : Kd.C k90 w ay am.length am) (bl : am.length ≤ aA) (bt : Kd.C Kd.bool w aD ap.length ap) (bm : ap.length ≤ aH) (bu : Kd.C (Kd.slice 54 k54) w av al.length al) (bn : al.length ≤ ax) (bv : Kd.C k90 w az ao.length ao) (bo : ao.length ≤ aC) (bw : Kd.C Kd.bool w aG aq.length aq) (bp : aq.length ≤ aI) (h : laws_eqSeg.f k ak am ap al ao aq = some r) :
  Calls Tryd.prog 11 #[.agg #[.slice au ak.length aw, .slice ay am.length aA, .slice aD ap.length aH], .agg #[.slice av al.length ax, .slice az ao.length aC, .slice aG aq.length aI]] w fun e w' => e = .returned (.bool r) ∧ Below w.heap.size w w' := by
 have hu33 := Tryd.underlying33; have aM := am_ bq; have aJ := am_ bk; clear bq bk; have aW := am_ br; have aU := am_ bl; clear br bl; have bi := am_ bt; have bf := am_ bm; clear bt bm; have aN := am_ bu; have aK := am_ bn; clear bu bn; have aX := am_ bv; have aV := am_ bo; clear bv bo; have bj := am_ bw; have bh := am_ bp; clear bw bp; have HB := am_ (Below.refl w.heap.size w); have H : ((laws_eqSymSS.f k ak al).bind fun ba => (if ba = true then ((laws_eqValS.f k am ao).bind fun bc => (if bc = true then ((laws_eqBoolS.f k ap aq).bind fun bd => (if bd = true then (some true) else (some false))) else (some false))) else (some false))) = some r := h; clear h; obtain ⟨ba, A3, H⟩ := be_ H; (try dsimp only at H)
 by_cases c4 : ba = true
 ·
  subst c4; have H1 := ifp_ H
  clear H; have H := H1; clear H1; obtain ⟨bc, A5, H⟩ := be_ H; (try dsimp only at H)
  by_cases c6 : bc = true
  ·
   subst c6; have H1 := ifp_ H
   clear H; have H := H1; clear H1; obtain ⟨bd, A7, H⟩ := be_ H; (try dsimp only at H)
   by_cases c8 : bd = true
   ·
    subst c8; have H1 := ifp_ H
    clear H; have H := H1; clear H1; obtain rfl := Option.some.inj H
    go_enter Tryd.func11, Tryd.ntmps11
    go_wp2_with (first | ((with_reducible refine gate_dst (N := 2) rfl ?_); refine box_y 2 #[.slice au ak.length aw, .slice ay am.length aA, .slice aD ap.length aH] 33 (h := ?_); intro aY hg w9 hbox hb; have aa := am_ hbox; have aQ := gz_ hg HB; have ae := gz_ hg HB; replace HB := hb_ HB hb; clear hb hbox hg) | ((with_reducible refine gate_dst (N := 3) rfl ?_); refine box_y 3 #[.slice av al.length ax, .slice az ao.length aC, .slice aG aq.length aI] 33 (h := ?_); intro aZ hg dR hbox hb; have ac := am_ hbox; have aT := gz1_ hg HB ae; have ar := gz1_ hg HB ae; replace HB := hb1_ HB hb ae; have ab := nb_ hg aa; replace aa := bb_ aa hb; have af := ns_ ab; clear hb hbox hg; have dJ := ab.out; have dN := af.out; obtain ⟨bx, bz, bA, cF, cG, cH⟩ := cz3_ aa; obtain ⟨bB, bC, bD, cI, cJ, cK⟩ := cz3_ ac) | ((with_reducible refine gate_callee (f := 36) rfl ?_); refine gl_ 9 Tryd.func36 #[.slice au ak.length aw, .slice av al.length ax] (h := ?_); (with_reducible refine (laws_eqSymSS.calls k _ _ ak _ _ al true _ ?ag ?ah ?ai ?aj A3.out).mono ?_); (case ag => exact sq_c (Kd.C_below aM.out HB.out)); (case ah => exact aJ.out); (case ai => exact sq_c (Kd.C_below aN.out HB.out)); (case aj => exact aK.out); rintro e dS ⟨rfl, hb⟩; refine ⟨_, rfl, ?_⟩; replace aa := bb_ aa hb; replace ac := bb_ ac hb; replace HB := hb2_ HB hb ae ar; (try clear hb); obtain ⟨bE, bF, bG, cL, cM, cN⟩ := cz3_ aa; obtain ⟨bH, bI, bJ, cO, cP, cQ⟩ := cz3_ ac) | ((with_reducible refine gate_callee (f := 37) rfl ?_); refine gl_ 15 Tryd.func37 #[.slice ay am.length aA, .slice az ao.length aC] (h := ?_); (with_reducible refine (laws_eqValS.calls k _ _ am _ _ ao true _ ?ag ?ah ?ai ?aj A5.out).mono ?_); (case ag => exact sq_c (Kd.C_below aW.out HB.out)); (case ah => exact aU.out); (case ai => exact sq_c (Kd.C_below aX.out HB.out)); (case aj => exact aV.out); rintro e dT ⟨rfl, hb⟩; refine ⟨_, rfl, ?_⟩; replace aa := bb_ aa hb; replace ac := bb_ ac hb; replace HB := hb2_ HB hb ae ar; (try clear hb); obtain ⟨bK, bL, bM, cR, cS, cT⟩ := cz3_ aa; obtain ⟨bN, bO, bP, cU, cV, cW⟩ := cz3_ ac) | ((with_reducible refine gate_callee (f := 38) rfl ?_); refine gl_ 21 Tryd.func38 #[.slice aD ap.length aH, .slice aG aq.length aI] (h := ?_); (with_reducible refine (laws_eqBoolS.calls k _ _ ap _ _ aq true _ ?ag ?ah ?ai ?aj A7.out).mono ?_); (case ag => exact sq_c (Kd.C_below bi.out HB.out)); (case ah => exact bf.out); (case ai => exact sq_c (Kd.C_below bj.out HB.out)); (case aj => exact bh.out); rintro e w' ⟨rfl, ⟨nd, rfl⟩⟩; refine ⟨_, rfl, ?_⟩))
    go_ret
    exact ⟨lf_, sq_below HB.out⟩
   ·
    replace c8 := Bool.eq_false_iff.mpr c8; subst c8; have H1 := ifn_ H
    clear H; have H := H1; clear H1; obtain rfl := Option.some.inj H
    go_enter Tryd.func11, Tryd.ntmps11
    go_wp2_with (first | ((with_reducible refine gate_dst (N := 2) rfl ?_); refine box_y 2 #[.slice au ak.length aw, .slice ay am.length aA, .slice aD ap.length aH] 33 (h := ?_); intro aY hg dU hbox hb; have aa := am_ hbox; have aQ := gz_ hg HB; have ae := gz_ hg HB; replace HB := hb_ HB hb; clear hb hbox hg) | ((with_reducible refine gate_dst (N := 3) rfl ?_); refine box_y 3 #[.slice av al.length ax, .slice az ao.length aC, .slice aG aq.length aI] 33 (h := ?_); intro aZ hg dV hbox hb; have ac := am_ hbox; have aT := gz1_ hg HB ae; have ar := gz1_ hg HB ae; replace HB := hb1_ HB hb ae; have ab := nb_ hg aa; replace aa := bb_ aa hb; have af := ns_ ab; clear hb hbox hg; have dK := ab.out; have dO := af.out; obtain ⟨bQ, bR, bS, cX, cY, cZ⟩ := cz3_ aa; obtain ⟨bT, bU, bV, da, db, dc⟩ := cz3_ ac) | ((with_reducible refine gate_callee (f := 36) rfl ?_); refine gl_ 9 Tryd.func36 #[.slice au ak.length aw, .slice av al.length ax] (h := ?_); (with_reducible refine (laws_eqSymSS.calls k _ _ ak _ _ al true _ ?ag ?ah ?ai ?aj A3.out).mono ?_); (case ag => exact sq_c (Kd.C_below aM.out HB.out)); (case ah => exact aJ.out); (case ai => exact sq_c (Kd.C_below aN.out HB.out)); (case aj => exact aK.out); rintro e dW ⟨rfl, hb⟩; refine ⟨_, rfl, ?_⟩; replace aa := bb_ aa hb; replace ac := bb_ ac hb; replace HB := hb2_ HB hb ae ar; (try clear hb); obtain ⟨bW, bX, bY, dd, de, df⟩ := cz3_ aa; obtain ⟨bZ, ca, cb, dg, dh, di⟩ := cz3_ ac) | ((with_reducible refine gate_callee (f := 37) rfl ?_); refine gl_ 15 Tryd.func37 #[.slice ay am.length aA, .slice az ao.length aC] (h := ?_); (with_reducible refine (laws_eqValS.calls k _ _ am _ _ ao true _ ?ag ?ah ?ai ?aj A5.out).mono ?_); (case ag => exact sq_c (Kd.C_below aW.out HB.out)); (case ah => exact aU.out); (case ai => exact sq_c (Kd.C_below aX.out HB.out)); (case aj => exact aV.out); rintro e dX ⟨rfl, hb⟩; refine ⟨_, rfl, ?_⟩; replace aa := bb_ aa hb; replace ac := bb_ ac hb; replace HB := hb2_ HB hb ae ar; (try clear hb); obtain ⟨cd, ce, cf, dj, dk, dl⟩ := cz3_ aa; obtain ⟨ch, cj, ck, dm, dn, dp⟩ := cz3_ ac) | ((with_reducible refine gate_callee (f := 38) rfl ?_); refine gl_ 21 Tryd.func38 #[.slice aD ap.length aH, .slice aG aq.length aI] (h := ?_); (with_reducible refine (laws_eqBoolS.calls k _ _ ap _ _ aq false _ ?ag ?ah ?ai ?aj A7.out).mono ?_); (case ag => exact sq_c (Kd.C_below bi.out HB.out)); (case ah => exact bf.out); (case ai => exact sq_c (Kd.C_below bj.out HB.out)); (case aj => exact bh.out); rintro e w' ⟨rfl, ⟨nd, rfl⟩⟩; refine ⟨_, rfl, ?_⟩))
    go_ret
    exact ⟨lf_, sq_below HB.out⟩
  ·
   replace c6 := Bool.eq_false_iff.mpr c6; subst c6; have H1 := ifn_ H
   clear H; have H := H1; clear H1; obtain rfl := Option.some.inj H
   go_enter Tryd.func11, Tryd.ntmps11
   go_wp2_with (first | ((with_reducible refine gate_dst (N := 2) rfl ?_); refine box_y 2 #[.slice au ak.length aw, .slice ay am.length aA, .slice aD ap.length aH] 33 (h := ?_); intro aY hg dY hbox hb; have aa := am_ hbox; have aQ := gz_ hg HB; have ae := gz_ hg HB; replace HB := hb_ HB hb; clear hb hbox hg) | ((with_reducible refine gate_dst (N := 3) rfl ?_); refine box_y 3 #[.slice av al.length ax, .slice az ao.length aC, .slice aG aq.length aI] 33 (h := ?_); intro aZ hg dZ hbox hb; have ac := am_ hbox; have aT := gz1_ hg HB ae; have ar := gz1_ hg HB ae; replace HB := hb1_ HB hb ae; have ab := nb_ hg aa; replace aa := bb_ aa hb; have af := ns_ ab; clear hb hbox hg; have dL := ab.out; have dP := af.out; obtain ⟨cl, cm, cn, dq, dr, dt⟩ := cz3_ aa; obtain ⟨co, cp, cq, du, dv, dw⟩ := cz3_ ac) | ((with_reducible refine gate_callee (f := 36) rfl ?_); refine gl_ 9 Tryd.func36 #[.slice au ak.length aw, .slice av al.length ax] (h := ?_); (with_reducible refine (laws_eqSymSS.calls k _ _ ak _ _ al true _ ?ag ?ah ?ai ?aj A3.out).mono ?_); (case ag => exact sq_c (Kd.C_below aM.out HB.out)); (case ah => exact aJ.out); (case ai => exact sq_c (Kd.C_below aN.out HB.out)); (case aj => exact aK.out); rintro e d3 ⟨rfl, hb⟩; refine ⟨_, rfl, ?_⟩; replace aa := bb_ aa hb; replace ac := bb_ ac hb; replace HB := hb2_ HB hb ae ar; (try clear hb); obtain ⟨cr, cu, cv, dx, dy, dz⟩ := cz3_ aa; obtain ⟨cw, cx, cy, dA, dB, dC⟩ := cz3_ ac) | ((with_reducible refine gate_callee (f := 37) rfl ?_); refine gl_ 15 Tryd.func37 #[.slice ay am.length aA, .slice az ao.length aC] (h := ?_); (with_reducible refine (laws_eqValS.calls k _ _ am _ _ ao false _ ?ag ?ah ?ai ?aj A5.out).mono ?_); (case ag => exact sq_c (Kd.C_below aW.out HB.out)); (case ah => exact aU.out); (case ai => exact sq_c (Kd.C_below aX.out HB.out)); (case aj => exact aV.out); rintro e d4 ⟨rfl, hb⟩; refine ⟨_, rfl, ?_⟩; replace HB := hb_ HB hb; (try clear hb)))
   go_ret
   exact ⟨lf_, sq_below HB.out⟩
 ·
  replace c4 := Bool.eq_false_iff.mpr c4; subst c4; have H1 := ifn_ H
  clear H; have H := H1; clear H1; obtain rfl := Option.some.inj H
  go_enter Tryd.func11, Tryd.ntmps11
  go_wp2_with (first | ((with_reducible refine gate_dst (N := 2) rfl ?_); refine box_y 2 #[.slice au ak.length aw, .slice ay am.length aA, .slice aD ap.length aH] 33 (h := ?_); intro aY hg d5 hbox hb; have aa := am_ hbox; have aQ := gz_ hg HB; have ae := gz_ hg HB; replace HB := hb_ HB hb; clear hb hbox hg) | ((with_reducible refine gate_dst (N := 3) rfl ?_); refine box_y 3 #[.slice av al.length ax, .slice az ao.length aC, .slice aG aq.length aI] 33 (h := ?_); intro aZ hg d6 hbox hb; have ac := am_ hbox; have aT := gz1_ hg HB ae; have ar := gz1_ hg HB ae; replace HB := hb1_ HB hb ae; have ab := nb_ hg aa; replace aa := bb_ aa hb; have af := ns_ ab; clear hb hbox hg; have dM := ab.out; have dQ := af.out; obtain ⟨cz, cA, cB, dD, dE, dF⟩ := cz3_ aa; obtain ⟨cC, cD, cE, dG, dH, dI⟩ := cz3_ ac) | ((with_reducible refine gate_callee (f := 36) rfl ?_); refine gl_ 9 Tryd.func36 #[.slice au ak.length aw, .slice av al.length ax] (h := ?_); (with_reducible refine (laws_eqSymSS.calls k _ _ ak _ _ al false _ ?ag ?ah ?ai ?aj A3.out).mono ?_); (case ag => exact sq_c (Kd.C_below aM.out HB.out)); (case ah => exact aJ.out); (case ai => exact sq_c (Kd.C_below aN.out HB.out)); (case aj => exact aK.out); rintro e d7 ⟨rfl, hb⟩; refine ⟨_, rfl, ?_⟩; replace HB := hb_ HB hb; (try clear hb)))
  go_ret
  exact ⟨lf_, sq_below HB.out⟩

/-! ### laws_markSymS: function 14 -/
def laws_markSymS.l0 : Nat → List (S54) → Int → Int → Option (Int × (List (S54)))
 | 0, _, _, _ => none
 | k + 1, x0, x1, x5 => if x5 < (x0.length : Int) then (if 0 ≤ x5 then ((some (x0.set (x5 : Int).toNat (⟨x1, (rd_T54 x0 x5).f1⟩ : S54) : List (S54))).bind fun af => (laws_markSymS.l0 k (af.set (x5 : Int).toNat (⟨(rd_T54 af x5).f0, wrap64 (x1 + 1)⟩ : S54)) (wrap64 ((wrap64 (x1 + 1)) + 1)) (wrap64 (x5 + 1)))) else (none)) else (some (x1, x0))
def laws_markSymS.f (k : Nat) (l0 : List (S54)) (a1 : Int) : Option (Int × (List (S54))) := laws_markSymS.l0 k l0 a1 0
theorem laws_markSymS.mono_l : ∀ k, (∀ y0 y1 y2, LeO (laws_markSymS.l0 k y0 y1 y2) (laws_markSymS.l0 (k + 1) y0 y1 y2))
 | 0 => fun _ _ _ r h => by simp [laws_markSymS.l0] at h
 | k + 1 => by
  have ih0 := laws_markSymS.mono_l k
  ·
   intro y0 y1 y2; unfold laws_markSymS.l0
   repeat' first
   | (with_reducible exact ih0 _ _ _) | (with_reducible exact LeO.refl _) | (with_reducible exact LeO.none _) | (with_reducible refine LeO.ite ?_ ?_) | (with_reducible refine LeO.bind ?_ fun _ => ?_) | exact ih0 _ _ _ | exact LeO.none _ | refine LeO.ite ?_ ?_ | refine LeO.bind ?_ fun _ => ?_
theorem laws_markSymS.mono : ∀ a0 a1 k, LeO (laws_markSymS.f k a0 a1) (laws_markSymS.f (k + 1) a0 a1) := by
 intro a0 a1 k; have ih0 := laws_markSymS.mono_l k; unfold laws_markSymS.f
 repeat' first
   | (with_reducible exact ih0 _ _ _) | (with_reducible exact LeO.refl _) | (with_reducible exact LeO.none _) | (with_reducible refine LeO.ite ?_ ?_) | (with_reducible refine LeO.bind ?_ fun _ => ?_) | exact ih0 _ _ _ | exact LeO.none _ | refine LeO.ite ?_ ?_ | refine LeO.bind ?_ fun _ => ?_
theorem laws_markSymS.calls (k : Nat) (P0_ : Nat → Prop) (u9000_ : Value) (l0 : List (S54)) (a1 : Int) (r1 : Int) (r2 : List (S54)) (w0 w : World) (hB : Below w0.heap.size w0 w) (ho0 : Kd.R k54 54 w w0.heap.size P0_ u9000_ l0) (h : laws_markSymS.f k l0 a1 = some (r1, r2)) :
  Calls Tryd.prog 14 #[u9000_, .int .i64 a1] w fun e w' => e = .returned (.int .i64 r1) ∧ Kd.R k54 54 w' w0.heap.size (fun k_ => (P0_ k_ ∨ w.heap.size ≤ k_)) u9000_ r2 ∧ Below w0.heap.size w0 w' ∧ Kept w w' (fun k_ => P0_ k_) := by
 have aC := am_ (show Kd.R k54 54 w w0.heap.size (fun k_ => (P0_ k_ ∨ w.heap.size ≤ k_)) u9000_ l0 from Kd.R_mono ho0 (fun k_ hk => (.inl hk))); have HK := am_ (Kept.refl w (fun k_ => P0_ k_)); have HW0 := am_ hB.size; have HB := am_ hB; clear hB; have H : (laws_markSymS.l0 k l0 a1 0) = some (r1, r2) := h; clear h; have H' := am_ H; clear H
 go_enter Tryd.func14, Tryd.ntmps14
 go_wp2
 go_loopg [1, 5] k (fun kq v1 v5 w' => ∃ (ab : List (S54)) (ae : Int) (aa : Int), v1 = .int .i64 ae ∧ v5 = .int .i64 aa ∧ Aside0 (laws_markSymS.l0 kq ab ae aa = some (r1, r2)) ∧ Aside0 (kq ≤ k) ∧ Aside0 (Kd.R k54 54 w' w0.heap.size (fun k_ => (P0_ k_ ∨ w.heap.size ≤ k_)) u9000_ ab) ∧ Aside0 (Kept w w' (fun k_ => P0_ k_)) ∧ Aside0 (Below w0.heap.size w0 w'))
 case atStart => exact ⟨(l0), (a1), (0), sr_, sr_, H', ⟨Nat.le_refl _⟩, ⟨by (with_reducible repeat (first | apply Kd.R_alloc | apply Kd.R_drewN | apply Kd.R_drew)); exact aC.out⟩, ⟨by repeat (first | (with_reducible first | exact HK.out | apply Kept.alloc | apply Kept.drewN | apply Kept.drew) | exact HK.out)⟩, ⟨sq_below HB.out⟩⟩
 case round =>
  clear H'
  obtain ⟨ab, ae, aa, rfl, rfl, HA, HK1, ac, HK, HB⟩ := hrel; cases gk with
  | zero => exact absurd HA.out (by simp [laws_markSymS.l0])
  | succ k1 =>
   have H := HA.out; clear HA; simp only [laws_markSymS.l0] at H
   by_cases c3 : aa < (ab.length : Int)
   ·
    rw [if_pos c3] at H; have ap := decide_eq_true (p := aa < (ab.length : Int)) c3; clear c3
    by_cases c4 : 0 ≤ aa
    ·
     rw [if_pos c4] at H; have aD := decide_eq_true (p := 0 ≤ aa) c4; clear c4; obtain ⟨af, ag⟩ : ∃ y_ : List (S54), y_ = (ab.set (aa : Int).toNat (⟨ae, (rd_T54 ab aa).f1⟩ : S54)) := ⟨_, rfl⟩; replace H : (laws_markSymS.l0 k1 (af.set (aa : Int).toNat (⟨(rd_T54 af aa).f0, wrap64 (ae + 1)⟩ : S54)) (wrap64 ((wrap64 (ae + 1)) + 1)) (wrap64 (aa + 1))) = some (r1, r2) := by first | (rw [ag]; with_reducible exact H) | (have H2_ := (Option.bind_some _ _).symm.trans H; rw [ag]; with_reducible exact H2_) | (have H2_ := (Option.bind_some _ _).symm.trans H; with_reducible exact H2_) | with_reducible exact H | (rw [ag]; exact H) | exact H
     have ak := am_ ag; clear ag; obtain ⟨aj, ah⟩ : ∃ y_ : List (S54), y_ = (af.set (aa : Int).toNat (⟨(rd_T54 af aa).f0, wrap64 (ae + 1)⟩ : S54)) := ⟨_, rfl⟩; replace H : (laws_markSymS.l0 k1 aj (wrap64 ((wrap64 (ae + 1)) + 1)) (wrap64 (aa + 1))) = some (r1, r2) := by first | (rw [ah]; with_reducible exact H) | (have H2_ := (Option.bind_some _ _).symm.trans H; rw [ah]; with_reducible exact H2_) | (have H2_ := (Option.bind_some _ _).symm.trans H; with_reducible exact H2_) | with_reducible exact H | (rw [ah]; exact H) | exact H
     have al := am_ ah; clear ah; have H' := am_ H; clear H; obtain ⟨aI, ao, aH⟩ := Kd.R_slice ac.out; subst aH; have p5 : 0 ≤ (aa : Int) := sq_dec; have q5 : (aa : Int) < ((ab.length : Int) : Int) := sq_dec; obtain ⟨go5, aJ, au, av, gl5, cl5, HG5⟩ := Kd.R_form ac.out (by omega)
     (first | cases au | (injection au with ea_ en_ ec_; (first | subst ea_ | (injection ea_ with ea_; subst ea_)); subst ec_; clear en_))
     have GB5 := am_ av; have GG5 := am_ HG5; clear av gl5 HG5; have HMgo5 := am_ (show (P0_ go5 ∨ w.heap.size ≤ go5) from (ac.out.1 _ rfl)); obtain ⟨ce5, hcl5, hM5, hcc5, hfr5⟩ := Kd.R_elem ac.out z54 (aa : Int) p5 q5; obtain rfl := k54_openM hM5; have aw : wr.cell? ⟨go5, (aa : Int).toNat * 2, none⟩ = some (.int .i64 ((rd_T54 ab aa).f0)) := hcc5 0 _ rfl; have ax : wr.cell? ⟨go5, (aa : Int).toNat * 2 + 1, none⟩ = some (.int .i64 ((rd_T54 ab aa).f1)) := hcc5 1 _ rfl; have hf5_0 : wr.frozen? ⟨go5, (aa : Int).toNat * 2, none⟩ = false := hfr5 0; have hf5_1 : wr.frozen? ⟨go5, (aa : Int).toNat * 2 + 1, none⟩ = false := hfr5 1; clear hcl5 hcc5 hfr5 hM5; replace p5 := eq_true p5; replace q5 := eq_true q5; have HX8 := am_ (show Kd.R k54 54 wr w0.heap.size (fun k_ => (P0_ k_ ∨ w.heap.size ≤ k_)) (.slice (some ⟨go5, 0, none⟩) ab.length ao) ab from (sq_row ac.out)); obtain ⟨ce8, hcl8, hM8, hcc8, hfr8⟩ := Kd.R_elem HX8.out z54 (aa : Int) (sq_dec) (by have h_ : (aa : Int) < ((ab.length : Int) : Int) := sq_dec; first | exact h_ | (have e_ := (Kd.R_reads' ac.out).1; omega) | simpa using h_); obtain rfl := k54_openM hM8; have HP8 := Kd.R_seg HX8.out (aa : Int) (sq_dec) (by have h_ : (aa : Int) < ((ab.length : Int) : Int) := sq_dec; first | exact h_ | (have e_ := (Kd.R_reads' ac.out).1; omega) | simpa using h_) (seg := [.int .i64 ae]) (j := 0) hcl8 hcc8 (show 1 ≤ 2 from by decide) (x' := (⟨ae, (rd_T54 ab aa).f1⟩ : S54)) (k54_mkM _ _ _ (⟨ae, (rd_T54 ab aa).f1⟩ : S54) ) (fun _ hk => hk); have am := hcc8 0 _ rfl
     (try simp only [show (k54).sz = 2 from rfl, Nat.mul_one, Nat.add_zero] at am)
     have hf8_0 := hfr8 0
     (try simp only [show (k54).sz = 2 from rfl, Nat.mul_one, Nat.add_zero] at hf8_0)
     clear hcl8 hcc8 hfr8 hM8
     go_wp2_with (first | ((with_reducible refine gate_store (t := 3) (p := 16) rfl ?_); refine store_event (t := 3) (p := 16) (v := ?vo_w9) (w1 := (wr.setCell ⟨go5, (aa : Int).toNat * 2, none⟩ (.int .i64 ae))) ?hg ?ho ?hn ?hr ?_; (case ho => rfl); (case hg => rfl); (case hn => rfl); (case hr => first | (go_simp; done) | (go_simp; rfl)); intro w9 hw; have hg : wr.grownBy w9 (some go5) := (by rw [hw]; exact HP8.2); have hp_ : Kd.R k54 54 w9 w0.heap.size (fun k_ => (P0_ k_ ∨ w.heap.size ≤ k_)) (.slice (some ⟨go5, 0, none⟩) ab.length ao) af := (by rw [hw, ak.out]; exact HP8.1); clear HP8; replace HB := am_ ((by rw [hw]; exact below_set (HB.out) GB5.out : Below w0.heap.size w0 w9)); replace HK := am_ (Kept.of_grown (S := (fun k_ => P0_ k_)) hg (by repeat (first | (with_reducible first | exact HK.out | apply Kept.alloc | apply Kept.drewN | apply Kept.drew) | exact HK.out)) (fun k_ e_ => (ac.out.1 k_ e_))); replace ac := am_ hp_; clear hg hw hp_; have p6 : 0 ≤ (aa : Int) := sq_dec; have q6 : (aa : Int) < ((ab.length : Int) : Int) := sq_dec; obtain ⟨ce6, hcl6, hM6, hcc6, hfr6⟩ := Kd.R_elem ac.out z54 (aa : Int) p6 q6; obtain rfl := k54_openM hM6; have ay : w9.cell? ⟨go5, (aa : Int).toNat * 2, none⟩ = some (.int .i64 ((rd_T54 af aa).f0)) := hcc6 0 _ rfl; have az : w9.cell? ⟨go5, (aa : Int).toNat * 2 + 1, none⟩ = some (.int .i64 ((rd_T54 af aa).f1)) := hcc6 1 _ rfl; have hf6_0 : w9.frozen? ⟨go5, (aa : Int).toNat * 2, none⟩ = false := hfr6 0; have hf6_1 : w9.frozen? ⟨go5, (aa : Int).toNat * 2 + 1, none⟩ = false := hfr6 1; clear hcl6 hcc6 hfr6 hM6; replace p6 := eq_true p6; replace q6 := eq_true q6; have HX10 := am_ (show Kd.R k54 54 w9 w0.heap.size (fun k_ => (P0_ k_ ∨ w.heap.size ≤ k_)) (.slice (some ⟨go5, 0, none⟩) ab.length ao) af from (sq_row ac.out)); obtain ⟨ce10, hcl10, hM10, hcc10, hfr10⟩ := Kd.R_elem HX10.out z54 (aa : Int) (sq_dec) (by have h_ : (aa : Int) < ((ab.length : Int) : Int) := sq_dec; first | exact h_ | (have e_ := (Kd.R_reads' ac.out).1; omega) | simpa using h_); obtain rfl := k54_openM hM10; have HP10 := Kd.R_seg HX10.out (aa : Int) (sq_dec) (by have h_ : (aa : Int) < ((ab.length : Int) : Int) := sq_dec; first | exact h_ | (have e_ := (Kd.R_reads' ac.out).1; omega) | simpa using h_) (seg := [.int .i64 (wrap64 (ae + 1))]) (j := 1) hcl10 hcc10 (show 2 ≤ 2 from by decide) (x' := (⟨(rd_T54 af aa).f0, wrap64 (ae + 1)⟩ : S54)) (k54_mkM _ _ _ (⟨(rd_T54 af aa).f0, wrap64 (ae + 1)⟩ : S54) ) (fun _ hk => hk); have ai := hcc10 1 _ rfl; (try simp only [show (k54).sz = 2 from rfl, Nat.mul_one, Nat.add_zero] at ai); have hf10_1 := hfr10 1; (try simp only [show (k54).sz = 2 from rfl, Nat.mul_one, Nat.add_zero] at hf10_1); clear hcl10 hcc10 hfr10 hM10) | ((with_reducible refine gate_store (t := 3) (p := 23) rfl ?_); refine store_event (t := 3) (p := 23) (v := ?vo_w11) (w1 := (w9.setCell ⟨go5, (aa : Int).toNat * 2 + 1, none⟩ (.int .i64 (wrap64 (ae + 1))))) ?hg ?ho ?hn ?hr ?_; (case ho => rfl); (case hg => rfl); (case hn => rfl); (case hr => first | (go_simp; done) | (go_simp; rfl)); intro ar hw; have hg : w9.grownBy ar (some go5) := (by rw [hw]; exact HP10.2); have hp_ : Kd.R k54 54 ar w0.heap.size (fun k_ => (P0_ k_ ∨ w.heap.size ≤ k_)) (.slice (some ⟨go5, 0, none⟩) ab.length ao) aj := (by rw [hw, al.out]; exact HP10.1); clear HP10; replace HB := am_ ((by rw [hw]; exact below_set (HB.out) GB5.out : Below w0.heap.size w0 ar)); replace HK := am_ (Kept.of_grown (S := (fun k_ => P0_ k_)) hg (by repeat (first | (with_reducible first | exact HK.out | apply Kept.alloc | apply Kept.drewN | apply Kept.drew) | exact HK.out)) (fun k_ e_ => (ac.out.1 k_ e_))); replace ac := am_ hp_; clear hg hw hp_))
     go_roundg k1
     case measure => have := HK1.out; omega
     case rel => exact ⟨(aj), (wrap64 ((wrap64 (ae + 1)) + 1)), (wrap64 (aa + 1)), sr_, sr_, H', ⟨by have := HK1.out; omega⟩, ⟨by (with_reducible repeat (first | apply Kd.R_alloc | apply Kd.R_drewN | apply Kd.R_drew)); exact ac.out⟩, ⟨by repeat (first | (with_reducible first | exact HK.out | apply Kept.alloc | apply Kept.drewN | apply Kept.drew) | exact HK.out)⟩, ⟨sq_below HB.out⟩⟩
    ·
     rw [if_neg c4] at H; exact absurd H (by simp)
   ·
    rw [if_neg c3] at H; have ap := decide_eq_false (p := aa < (ab.length : Int)) c3; clear c3; simp only [Option.some.injEq, Prod.mk.injEq] at H; obtain ⟨rfl, rfl⟩ := H; obtain ⟨aA, aG, aq⟩ := Kd.R_slice ac.out; subst aq
    go_wp2
    go_ret
    exact ⟨lf_, by (with_reducible repeat (first | apply Kd.R_alloc | apply Kd.R_drewN | apply Kd.R_drew)); exact ac.out, sq_below HB.out, by repeat (first | (with_reducible first | exact HK.out | apply Kept.alloc | apply Kept.drewN | apply Kept.drew) | exact HK.out)⟩

end Go.Proofs.YtdmdalapckcobaaDoor.Q
namespace Go.Proofs.YtdmdalapckcobaaDoor.Q
open Go.RowKit Go.Proofs.YtdmdalapckcobaaDoorW.PrintWords Go.Proofs.YtdmdalapckcobaaDoorW.PrintLast Go.Proofs.YtdmdalapckcobaaDoorW.PrintMore
attribute [local go_sem] max2_int min2_int max_two min_two max_three min_three max_four min_four   -- for this text's walks alone
set_option linter.unusedVariables false
set_option maxHeartbeats 8000000
set_option maxRecDepth 100000
set_option linter.unusedSimpArgs false

/-! ### laws_heldSymS: function 83 -/
def laws_heldSymS.l0 : Nat → List (S54) → Int → Int → Option (Int)
 | 0, _, _, _ => none
 | k + 1, x0, x1, x5 => if x5 < (x0.length : Int) then (if 0 ≤ x5 then (if ((rd_T54 x0 x5).f0) = x1 then (if ((rd_T54 x0 x5).f1) = (wrap64 (x1 + 1)) then (laws_heldSymS.l0 k x0 (wrap64 ((wrap64 (x1 + 1)) + 1)) (wrap64 (x5 + 1))) else (some (-1))) else (some (-1))) else (none)) else (some x1)
def laws_heldSymS.f (k : Nat) (l0 : List (S54)) (a1 : Int) : Option (Int) := laws_heldSymS.l0 k l0 a1 0
theorem laws_heldSymS.mono_l : ∀ k, (∀ y0 y1 y2, LeO (laws_heldSymS.l0 k y0 y1 y2) (laws_heldSymS.l0 (k + 1) y0 y1 y2))
 | 0 => fun _ _ _ r h => by simp [laws_heldSymS.l0] at h
 | k + 1 => by
  have ih0 := laws_heldSymS.mono_l k
  ·
   intro y0 y1 y2; unfold laws_heldSymS.l0
   repeat' first
   | (with_reducible exact ih0 _ _ _) | (with_reducible exact LeO.refl _) | (with_reducible exact LeO.none _) | (with_reducible refine LeO.ite ?_ ?_) | (with_reducible refine LeO.bind ?_ fun _ => ?_) | exact ih0 _ _ _ | exact LeO.none _ | refine LeO.ite ?_ ?_ | refine LeO.bind ?_ fun _ => ?_
theorem laws_heldSymS.mono : ∀ a0 a1 k, LeO (laws_heldSymS.f k a0 a1) (laws_heldSymS.f (k + 1) a0 a1) := by
 intro a0 a1 k; have ih0 := laws_heldSymS.mono_l k; unfold laws_heldSymS.f
 repeat' first
   | (with_reducible exact ih0 _ _ _) | (with_reducible exact LeO.refl _) | (with_reducible exact LeO.none _) | (with_reducible refine LeO.ite ?_ ?_) | (with_reducible refine LeO.bind ?_ fun _ => ?_) | exact ih0 _ _ _ | exact LeO.none _ | refine LeO.ite ?_ ?_ | refine LeO.bind ?_ fun _ => ?_
theorem laws_heldSymS.calls (k : Nat) (A0 : Option Addr) (c0 : Nat) (l0 : List (S54)) (a1 : Int) (r : Int) (w : World) (hr0 : Kd.C k54 w A0 l0.length l0) (hc0 : l0.length ≤ c0) (h : laws_heldSymS.f k l0 a1 = some r) :
  Calls Tryd.prog 83 #[.slice A0 l0.length c0, .int .i64 a1] w fun e w' => e = .returned (.int .i64 r) ∧ Drawn0 w w' := by
 have aq := am_ hr0; have az := am_ hc0; clear hr0 hc0; have H : (laws_heldSymS.l0 k l0 a1 0) = some r := h; clear h; have H' := am_ H; clear H
 go_enter Tryd.func83, Tryd.ntmps83
 go_wp2
 go_loopg [1, 5] k (fun kq v1 v5 w' => ∃ (ab : Int) (aa : Int), v1 = .int .i64 ab ∧ v5 = .int .i64 aa ∧ Aside0 (laws_heldSymS.l0 kq l0 ab aa = some r) ∧ Aside0 (kq ≤ k) ∧ Drawn0 w w')
 case atStart => exact ⟨(a1), (0), sr_, sr_, H', ⟨Nat.le_refl _⟩, by repeat (first | exact Drawn0.refl _ | apply Drawn0.step)⟩
 case round =>
  clear H'
  obtain ⟨ab, aa, rfl, rfl, HA, HK1, ⟨m1, rfl⟩⟩ := hrel; cases gk with
  | zero => exact absurd HA.out (by simp [laws_heldSymS.l0])
  | succ k1 =>
   have H := HA.out; clear HA; simp only [laws_heldSymS.l0] at H
   by_cases c3 : aa < (l0.length : Int)
   ·
    rw [if_pos c3] at H; have ar := decide_eq_true (p := aa < (l0.length : Int)) c3; clear c3
    by_cases c4 : 0 ≤ aa
    ·
     rw [if_pos c4] at H; have ay := decide_eq_true (p := 0 ≤ aa) c4; clear c4
     by_cases c5 : ((rd_T54 l0 aa).f0) = ab
     ·
      rw [if_pos c5] at H; have au : (((rd_T54 l0 aa).f0) == ab) = true := beq_iff_eq.mpr c5; have av : (((rd_T54 l0 aa).f0) != ab) = false := bne_eq_false_iff_eq.mpr c5; clear c5
      by_cases c6 : ((rd_T54 l0 aa).f1) = (wrap64 (ab + 1))
      ·
       rw [if_pos c6] at H; have aw : (((rd_T54 l0 aa).f1) == (wrap64 (ab + 1))) = true := beq_iff_eq.mpr c6; have ax : (((rd_T54 l0 aa).f1) != (wrap64 (ab + 1))) = false := bne_eq_false_iff_eq.mpr c6; clear c6; have H' := am_ H; clear H; have ac : 0 ≤ (aa : Int) := sq_dec; have ae : aa < (l0.length : Int) := sq_dec; obtain ⟨ah, al, ai, aj⟩ := at_T54 aq.out aa ac ae; cases al; replace ac := eq_true ac; replace ae := eq_true ae; have af : 0 ≤ (aa : Int) := sq_dec; have ag : aa < (l0.length : Int) := sq_dec; obtain ⟨ak, ap, am, ao⟩ := at_T54 aq.out aa af ag; obtain rfl : ah = ak := (by injection ap); replace af := eq_true af; replace ag := eq_true ag
       go_wp2
       go_roundg k1
       case measure => have := HK1.out; omega
       case rel => exact ⟨(wrap64 ((wrap64 (ab + 1)) + 1)), (wrap64 (aa + 1)), sr_, sr_, H', ⟨by have := HK1.out; omega⟩, by repeat (first | exact Drawn0.refl _ | apply Drawn0.step)⟩
      ·
       rw [if_neg c6] at H; have aw : (((rd_T54 l0 aa).f1) == (wrap64 (ab + 1))) = false := beq_eq_false_iff_ne.mpr c6; have ax : (((rd_T54 l0 aa).f1) != (wrap64 (ab + 1))) = true := bne_iff_ne.mpr c6; obtain rfl := Option.some.inj H; have ac : 0 ≤ (aa : Int) := sq_dec; have ae : aa < (l0.length : Int) := sq_dec; obtain ⟨ah, al, ai, aj⟩ := at_T54 aq.out aa ac ae; cases al; replace ac := eq_true ac; replace ae := eq_true ae; have af : 0 ≤ (aa : Int) := sq_dec; have ag : aa < (l0.length : Int) := sq_dec; obtain ⟨ak, ap, am, ao⟩ := at_T54 aq.out aa af ag; obtain rfl : ah = ak := (by injection ap); replace af := eq_true af; replace ag := eq_true ag
       go_wp2
       go_ret
       exact ⟨by first | rfl | (simp; done) | (simp [*]; done), by repeat (first | exact Drawn0.refl _ | apply Drawn0.step)⟩
     ·
      rw [if_neg c5] at H; have au : (((rd_T54 l0 aa).f0) == ab) = false := beq_eq_false_iff_ne.mpr c5; have av : (((rd_T54 l0 aa).f0) != ab) = true := bne_iff_ne.mpr c5; obtain rfl := Option.some.inj H; have ac : 0 ≤ (aa : Int) := sq_dec; have ae : aa < (l0.length : Int) := sq_dec; obtain ⟨ah, al, ai, aj⟩ := at_T54 aq.out aa ac ae; cases al; replace ac := eq_true ac; replace ae := eq_true ae
      go_wp2
      go_ret
      exact ⟨by first | rfl | (simp; done) | (simp [*]; done), by repeat (first | exact Drawn0.refl _ | apply Drawn0.step)⟩
    ·
     rw [if_neg c4] at H; exact absurd H (by simp)
   ·
    rw [if_neg c3] at H; have ar := decide_eq_false (p := aa < (l0.length : Int)) c3; clear c3; obtain rfl := Option.some.inj H
    go_wp2
    go_ret
    exact ⟨by first | rfl | (simp; done) | (simp [*]; done), by repeat (first | exact Drawn0.refl _ | apply Drawn0.step)⟩

/-! ### laws_heldSymSS: function 43 -/
def laws_heldSymSS.l0 : Nat → List (List (S54)) → Int → Int → Option (Int)
 | 0, _, _, _ => none
 | k + 1, x0, x1, x5 => if x5 < (x0.length : Int) then (if 0 ≤ x5 then ((laws_heldSymS.f k (rd_L7 x0 x5) x1).bind fun ae => (if ae < 0 then (some (-1)) else (laws_heldSymSS.l0 k x0 ae (wrap64 (x5 + 1))))) else (none)) else (some x1)
def laws_heldSymSS.f (k : Nat) (l0 : List (List (S54))) (a1 : Int) : Option (Int) := laws_heldSymSS.l0 k l0 a1 0
theorem laws_heldSymSS.mono_l : ∀ k, (∀ y0 y1 y2, LeO (laws_heldSymSS.l0 k y0 y1 y2) (laws_heldSymSS.l0 (k + 1) y0 y1 y2))
 | 0 => fun _ _ _ r h => by simp [laws_heldSymSS.l0] at h
 | k + 1 => by
  have ih0 := laws_heldSymSS.mono_l k
  ·
   intro y0 y1 y2; unfold laws_heldSymSS.l0
   repeat' first
   | (with_reducible exact ih0 _ _ _) | (with_reducible exact laws_heldSymS.mono _ _ _) | (with_reducible exact LeO.refl _) | (with_reducible exact LeO.none _) | (with_reducible refine LeO.ite ?_ ?_) | (with_reducible refine LeO.bind ?_ fun _ => ?_) | exact ih0 _ _ _ | exact laws_heldSymS.mono _ _ _ | exact LeO.none _ | refine LeO.ite ?_ ?_ | refine LeO.bind ?_ fun _ => ?_
theorem laws_heldSymSS.mono : ∀ a0 a1 k, LeO (laws_heldSymSS.f k a0 a1) (laws_heldSymSS.f (k + 1) a0 a1) := by
 intro a0 a1 k; have ih0 := laws_heldSymSS.mono_l k; unfold laws_heldSymSS.f
 repeat' first
   | (with_reducible exact ih0 _ _ _) | (with_reducible exact laws_heldSymS.mono _ _ _) | (with_reducible exact LeO.refl _) | (with_reducible exact LeO.none _) | (with_reducible refine LeO.ite ?_ ?_) | (with_reducible refine LeO.bind ?_ fun _ => ?_) | exact ih0 _ _ _ | exact laws_heldSymS.mono _ _ _ | exact LeO.none _ | refine LeO.ite ?_ ?_ | refine LeO.bind ?_ fun _ => ?_
theorem laws_heldSymSS.calls (k : Nat) (A0 : Option Addr) (c0 : Nat) (l0 : List (List (S54))) (a1 : Int) (r : Int) (w : World) (hr0 : Kd.C (Kd.slice 54 k54) w A0 l0.length l0) (hc0 : l0.length ≤ c0) (h : laws_heldSymSS.f k l0 a1 = some r) :
  Calls Tryd.prog 43 #[.slice A0 l0.length c0, .int .i64 a1] w fun e w' => e = .returned (.int .i64 r) ∧ Drawn0 w w' := by
 have au := am_ hr0; have aw := am_ hc0; clear hr0 hc0; have H : (laws_heldSymSS.l0 k l0 a1 0) = some r := h; clear h; have H' := am_ H; clear H
 go_enter Tryd.func43, Tryd.ntmps43
 go_wp2
 go_loopg [1, 5] k (fun kq v1 v5 w' => ∃ (aj : Int) (aa : Int), v1 = .int .i64 aj ∧ v5 = .int .i64 aa ∧ Aside0 (laws_heldSymSS.l0 kq l0 aj aa = some r) ∧ Aside0 (kq ≤ k) ∧ Drawn0 w w')
 case atStart => exact ⟨(a1), (0), sr_, sr_, H', ⟨Nat.le_refl _⟩, by repeat (first | exact Drawn0.refl _ | apply Drawn0.step)⟩
 case round =>
  clear H'
  obtain ⟨aj, aa, rfl, rfl, HA, HK1, ⟨m1, rfl⟩⟩ := hrel; cases gk with
  | zero => exact absurd HA.out (by simp [laws_heldSymSS.l0])
  | succ k1 =>
   have H := HA.out; clear HA; simp only [laws_heldSymSS.l0] at H
   by_cases c3 : aa < (l0.length : Int)
   ·
    rw [if_pos c3] at H; have aq := decide_eq_true (p := aa < (l0.length : Int)) c3; clear c3
    by_cases c4 : 0 ≤ aa
    ·
     rw [if_pos c4] at H; have av := decide_eq_true (p := 0 ≤ aa) c4; clear c4; obtain ⟨ae, A5, H⟩ := be_ H; (try dsimp only at H)
     by_cases c6 : ae < 0
     ·
      rw [if_pos c6] at H; have ar := decide_eq_true (p := ae < 0) c6; clear c6; obtain rfl := Option.some.inj H; have ah : 0 ≤ (aa : Int) := sq_dec; have ai : aa < (l0.length : Int) := sq_dec; obtain ⟨ap, af, ag, ao, am, hl509_0, hi509_0⟩ := at_L7 au.out aa ah ai; cases ao; have ac := am_ hi509_0; have ab := am_ hl509_0; clear hi509_0 hl509_0; replace ah := eq_true ah; replace ai := eq_true ai
      go_wp2_with (first | ((with_reducible refine gate_callee (f := 83) rfl ?_); refine gl_ 17 Tryd.func83 #[.slice af (rd_L7 l0 aa).length ag, .int .i64 aj] (h := ?_); (with_reducible refine (laws_heldSymS.calls k1 _ _ (rd_L7 l0 aa) aj ae _ ?ak ?al A5.out).mono ?_); (case ak => repeat (first | exact ac.out | (with_reducible refine Kd.C_alloc ?_ _) | (with_reducible refine Kd.C_drewN ?_ _) | (with_reducible refine Kd.C_drew ?_))); (case al => exact ab.out); rintro e w' ⟨rfl, ⟨nd, rfl⟩⟩; refine ⟨_, rfl, ?_⟩))
      go_ret
      exact ⟨by first | rfl | (simp; done) | (simp [*]; done), by repeat (first | exact Drawn0.refl _ | apply Drawn0.step)⟩
     ·
      rw [if_neg c6] at H; have ar := decide_eq_false (p := ae < 0) c6; clear c6; have H' := am_ H; clear H; have ah : 0 ≤ (aa : Int) := sq_dec; have ai : aa < (l0.length : Int) := sq_dec; obtain ⟨ap, af, ag, ao, am, hl509_0, hi509_0⟩ := at_L7 au.out aa ah ai; cases ao; have ac := am_ hi509_0; have ab := am_ hl509_0; clear hi509_0 hl509_0; replace ah := eq_true ah; replace ai := eq_true ai
      go_wp2_with (first | ((with_reducible refine gate_callee (f := 83) rfl ?_); refine gl_ 17 Tryd.func83 #[.slice af (rd_L7 l0 aa).length ag, .int .i64 aj] (h := ?_); (with_reducible refine (laws_heldSymS.calls k1 _ _ (rd_L7 l0 aa) aj ae _ ?ak ?al A5.out).mono ?_); (case ak => repeat (first | exact ac.out | (with_reducible refine Kd.C_alloc ?_ _) | (with_reducible refine Kd.C_drewN ?_ _) | (with_reducible refine Kd.C_drew ?_))); (case al => exact ab.out); rintro e w' ⟨rfl, ⟨nd, rfl⟩⟩; refine ⟨_, rfl, ?_⟩))
      go_roundg k1
      case measure => have := HK1.out; omega
      case rel => exact ⟨(ae), (wrap64 (aa + 1)), sr_, sr_, H', ⟨by have := HK1.out; omega⟩, by repeat (first | exact Drawn0.refl _ | apply Drawn0.step)⟩
    ·
     rw [if_neg c4] at H; exact absurd H (by simp)
   ·
    rw [if_neg c3] at H; have aq := decide_eq_false (p := aa < (l0.length : Int)) c3; clear c3; obtain rfl := Option.some.inj H
    go_wp2
    go_ret
    exact ⟨by first | rfl | (simp; done) | (simp [*]; done), by repeat (first | exact Drawn0.refl _ | apply Drawn0.step)⟩

end Go.Proofs.YtdmdalapckcobaaDoor.Q
namespace Go.Proofs.YtdmdalapckcobaaDoor.Q
open Go.RowKit Go.Proofs.YtdmdalapckcobaaDoorW.PrintWords Go.Proofs.YtdmdalapckcobaaDoorW.PrintLast Go.Proofs.YtdmdalapckcobaaDoorW.PrintMore
attribute [local go_sem] max2_int min2_int max_two min_two max_three min_three max_four min_four   -- for this text's walks alone
set_option linter.unusedVariables false
set_option maxHeartbeats 8000000
set_option maxRecDepth 100000
set_option linter.unusedSimpArgs false

/-! ### laws_heldValS: function 44 -/
def laws_heldValS.l0 : Nat → List (S90) → Int → Int → Option (Int)
 | 0, _, _, _ => none
 | k + 1, x0, x1, x5 => if x5 < (x0.length : Int) then (if 0 ≤ x5 then (if ((rd_T90 x0 x5).f0.f0) = x1 then (if ((rd_T90 x0 x5).f0.f1) = (wrap64 (x1 + 1)) then (if (((rd_T90 x0 x5).f1) != ((Int.tmod (wrap64 ((wrap64 (x1 + 1)) + 1)) 3) == 0)) = true then (some (-1)) else (laws_heldValS.l0 k x0 (wrap64 ((wrap64 ((wrap64 (x1 + 1)) + 1)) + 1)) (wrap64 (x5 + 1)))) else (some (-1))) else (some (-1))) else (none)) else (some x1)
def laws_heldValS.f (k : Nat) (l0 : List (S90)) (a1 : Int) : Option (Int) := laws_heldValS.l0 k l0 a1 0
theorem laws_heldValS.mono_l : ∀ k, (∀ y0 y1 y2, LeO (laws_heldValS.l0 k y0 y1 y2) (laws_heldValS.l0 (k + 1) y0 y1 y2))
 | 0 => fun _ _ _ r h => by simp [laws_heldValS.l0] at h
 | k + 1 => by
  have ih0 := laws_heldValS.mono_l k
  ·
   intro y0 y1 y2; unfold laws_heldValS.l0
   repeat' first
   | (with_reducible exact ih0 _ _ _) | (with_reducible exact LeO.refl _) | (with_reducible exact LeO.none _) | (with_reducible refine LeO.ite ?_ ?_) | (with_reducible refine LeO.bind ?_ fun _ => ?_) | exact ih0 _ _ _ | exact LeO.none _ | refine LeO.ite ?_ ?_ | refine LeO.bind ?_ fun _ => ?_
theorem laws_heldValS.mono : ∀ a0 a1 k, LeO (laws_heldValS.f k a0 a1) (laws_heldValS.f (k + 1) a0 a1) := by
 intro a0 a1 k; have ih0 := laws_heldValS.mono_l k; unfold laws_heldValS.f
 repeat' first
   | (with_reducible exact ih0 _ _ _) | (with_reducible exact LeO.refl _) | (with_reducible exact LeO.none _) | (with_reducible refine LeO.ite ?_ ?_) | (with_reducible refine LeO.bind ?_ fun _ => ?_) | exact ih0 _ _ _ | exact LeO.none _ | refine LeO.ite ?_ ?_ | refine LeO.bind ?_ fun _ => ?_
theorem laws_heldValS.calls (k : Nat) (A0 : Option Addr) (c0 : Nat) (l0 : List (S90)) (a1 : Int) (r : Int) (w : World) (hr0 : Kd.C k90 w A0 l0.length l0) (hc0 : l0.length ≤ c0) (h : laws_heldValS.f k l0 a1 = some r) :
  Calls Tryd.prog 44 #[.slice A0 l0.length c0, .int .i64 a1] w fun e w' => e = .returned (.int .i64 r) ∧ Drawn0 w w' := by
 have ax := am_ hr0; have aU := am_ hc0; clear hr0 hc0; have H : (laws_heldValS.l0 k l0 a1 0) = some r := h; clear h; have H' := am_ H; clear H
 go_enter Tryd.func44, Tryd.ntmps44
 go_wp2
 go_loopg [1, 5] k (fun kq v1 v5 w' => ∃ (ab : Int) (aa : Int), v1 = .int .i64 ab ∧ v5 = .int .i64 aa ∧ Aside0 (laws_heldValS.l0 kq l0 ab aa = some r) ∧ Aside0 (kq ≤ k) ∧ Drawn0 w w')
 case atStart => exact ⟨(a1), (0), sr_, sr_, H', ⟨Nat.le_refl _⟩, by repeat (first | exact Drawn0.refl _ | apply Drawn0.step)⟩
 case round =>
  clear H'
  obtain ⟨ab, aa, rfl, rfl, HA, HK1, ⟨m1, rfl⟩⟩ := hrel; cases gk with
  | zero => exact absurd HA.out (by simp [laws_heldValS.l0])
  | succ k1 =>
   have H := HA.out; clear HA; simp only [laws_heldValS.l0] at H
   by_cases c3 : aa < (l0.length : Int)
   ·
    rw [if_pos c3] at H; have aD := decide_eq_true (p := aa < (l0.length : Int)) c3; clear c3
    by_cases c4 : 0 ≤ aa
    ·
     rw [if_pos c4] at H; have aQ := decide_eq_true (p := 0 ≤ aa) c4; clear c4
     by_cases c5 : ((rd_T90 l0 aa).f0.f0) = ab
     ·
      rw [if_pos c5] at H; have aG : (((rd_T90 l0 aa).f0.f0) == ab) = true := beq_iff_eq.mpr c5; have aH : (((rd_T90 l0 aa).f0.f0) != ab) = false := bne_eq_false_iff_eq.mpr c5; clear c5
      by_cases c6 : ((rd_T90 l0 aa).f0.f1) = (wrap64 (ab + 1))
      ·
       rw [if_pos c6] at H; have aI : (((rd_T90 l0 aa).f0.f1) == (wrap64 (ab + 1))) = true := beq_iff_eq.mpr c6; have aJ : (((rd_T90 l0 aa).f0.f1) != (wrap64 (ab + 1))) = false := bne_eq_false_iff_eq.mpr c6; clear c6
       by_cases c7 : (((rd_T90 l0 aa).f1) != ((Int.tmod (wrap64 ((wrap64 (ab + 1)) + 1)) 3) == 0)) = true
       ·
        rw [if_pos c7] at H; have aK : (((rd_T90 l0 aa).f1) != ((Int.tmod (wrap64 ((wrap64 (ab + 1)) + 1)) 3) == 0)) = true := c7
        (try (have aM : decide (((rd_T90 l0 aa).f1) = ((Int.tmod (wrap64 ((wrap64 (ab + 1)) + 1)) 3) == 0)) = false := by simpa using c7))
        (try (have aN : (((rd_T90 l0 aa).f1) == ((Int.tmod (wrap64 ((wrap64 (ab + 1)) + 1)) 3) == 0)) = false := by simpa using c7))
        (try (have aT : ¬ (((rd_T90 l0 aa).f1) = ((Int.tmod (wrap64 ((wrap64 (ab + 1)) + 1)) 3) == 0)) := by simpa using c7))
        clear c7; obtain rfl := Option.some.inj H; have ac : 0 ≤ (aa : Int) := sq_dec; have ae : aa < (l0.length : Int) := sq_dec; obtain ⟨af, am, ai, aj, ak⟩ := at_T90 ax.out aa ac ae; cases am; replace ac := eq_true ac; replace ae := eq_true ae; have ag : 0 ≤ (aa : Int) := sq_dec; have ah : aa < (l0.length : Int) := sq_dec; obtain ⟨al, aw, aq, ar, au⟩ := at_T90 ax.out aa ag ah; obtain rfl : af = al := (by injection aw); replace ag := eq_true ag; replace ah := eq_true ah; have ao : 0 ≤ (aa : Int) := sq_dec; have ap : aa < (l0.length : Int) := sq_dec; obtain ⟨av, aC, ay, az, aA⟩ := at_T90 ax.out aa ao ap; obtain rfl : af = av := (by injection aC); replace ao := eq_true ao; replace ap := eq_true ap
        go_wp2
        go_ret
        exact ⟨by first | rfl | (simp; done) | (simp [*]; done), by repeat (first | exact Drawn0.refl _ | apply Drawn0.step)⟩
       ·
        rw [if_neg c7] at H; have aK : (((rd_T90 l0 aa).f1) != ((Int.tmod (wrap64 ((wrap64 (ab + 1)) + 1)) 3) == 0)) = false := by simpa using c7
        (try (have aM : decide (((rd_T90 l0 aa).f1) = ((Int.tmod (wrap64 ((wrap64 (ab + 1)) + 1)) 3) == 0)) = true := by simpa using c7))
        (try (have aN : (((rd_T90 l0 aa).f1) == ((Int.tmod (wrap64 ((wrap64 (ab + 1)) + 1)) 3) == 0)) = true := by simpa using c7))
        clear c7; have H' := am_ H; clear H; have ac : 0 ≤ (aa : Int) := sq_dec; have ae : aa < (l0.length : Int) := sq_dec; obtain ⟨af, am, ai, aj, ak⟩ := at_T90 ax.out aa ac ae; cases am; replace ac := eq_true ac; replace ae := eq_true ae; have ag : 0 ≤ (aa : Int) := sq_dec; have ah : aa < (l0.length : Int) := sq_dec; obtain ⟨al, aw, aq, ar, au⟩ := at_T90 ax.out aa ag ah; obtain rfl : af = al := (by injection aw); replace ag := eq_true ag; replace ah := eq_true ah; have ao : 0 ≤ (aa : Int) := sq_dec; have ap : aa < (l0.length : Int) := sq_dec; obtain ⟨av, aC, ay, az, aA⟩ := at_T90 ax.out aa ao ap; obtain rfl : af = av := (by injection aC); replace ao := eq_true ao; replace ap := eq_true ap
        go_wp2
        go_roundg k1
        case measure => have := HK1.out; omega
        case rel => exact ⟨(wrap64 ((wrap64 ((wrap64 (ab + 1)) + 1)) + 1)), (wrap64 (aa + 1)), sr_, sr_, H', ⟨by have := HK1.out; omega⟩, by repeat (first | exact Drawn0.refl _ | apply Drawn0.step)⟩
      ·
       rw [if_neg c6] at H; have aI : (((rd_T90 l0 aa).f0.f1) == (wrap64 (ab + 1))) = false := beq_eq_false_iff_ne.mpr c6; have aJ : (((rd_T90 l0 aa).f0.f1) != (wrap64 (ab + 1))) = true := bne_iff_ne.mpr c6; obtain rfl := Option.some.inj H; have ac : 0 ≤ (aa : Int) := sq_dec; have ae : aa < (l0.length : Int) := sq_dec; obtain ⟨af, am, ai, aj, ak⟩ := at_T90 ax.out aa ac ae; cases am; replace ac := eq_true ac; replace ae := eq_true ae; have ag : 0 ≤ (aa : Int) := sq_dec; have ah : aa < (l0.length : Int) := sq_dec; obtain ⟨al, aw, aq, ar, au⟩ := at_T90 ax.out aa ag ah; obtain rfl : af = al := (by injection aw); replace ag := eq_true ag; replace ah := eq_true ah
       go_wp2
       go_ret
       exact ⟨by first | rfl | (simp; done) | (simp [*]; done), by repeat (first | exact Drawn0.refl _ | apply Drawn0.step)⟩
     ·
      rw [if_neg c5] at H; have aG : (((rd_T90 l0 aa).f0.f0) == ab) = false := beq_eq_false_iff_ne.mpr c5; have aH : (((rd_T90 l0 aa).f0.f0) != ab) = true := bne_iff_ne.mpr c5; obtain rfl := Option.some.inj H; have ac : 0 ≤ (aa : Int) := sq_dec; have ae : aa < (l0.length : Int) := sq_dec; obtain ⟨af, am, ai, aj, ak⟩ := at_T90 ax.out aa ac ae; cases am; replace ac := eq_true ac; replace ae := eq_true ae
      go_wp2
      go_ret
      exact ⟨by first | rfl | (simp; done) | (simp [*]; done), by repeat (first | exact Drawn0.refl _ | apply Drawn0.step)⟩
    ·
     rw [if_neg c4] at H; exact absurd H (by simp)
   ·
    rw [if_neg c3] at H; have aD := decide_eq_false (p := aa < (l0.length : Int)) c3; clear c3; obtain rfl := Option.some.inj H
    go_wp2
    go_ret
    exact ⟨by first | rfl | (simp; done) | (simp [*]; done), by repeat (first | exact Drawn0.refl _ | apply Drawn0.step)⟩

/-! ### laws_heldBoolS: function 45 -/
def laws_heldBoolS.l0 : Nat → List Bool → Int → Int → Option (Int)
 | 0, _, _, _ => none
 | k + 1, x0, x1, x5 => if x5 < (x0.length : Int) then (if 0 ≤ x5 then (if ((rdOf false x0 x5) != ((Int.tmod x1 3) == 0)) = true then (some (-1)) else (laws_heldBoolS.l0 k x0 (wrap64 (x1 + 1)) (wrap64 (x5 + 1)))) else (none)) else (some x1)
def laws_heldBoolS.f (k : Nat) (l0 : List Bool) (a1 : Int) : Option (Int) := laws_heldBoolS.l0 k l0 a1 0
theorem laws_heldBoolS.mono_l : ∀ k, (∀ y0 y1 y2, LeO (laws_heldBoolS.l0 k y0 y1 y2) (laws_heldBoolS.l0 (k + 1) y0 y1 y2))
 | 0 => fun _ _ _ r h => by simp [laws_heldBoolS.l0] at h
 | k + 1 => by
  have ih0 := laws_heldBoolS.mono_l k
  ·
   intro y0 y1 y2; unfold laws_heldBoolS.l0
   repeat' first
   | (with_reducible exact ih0 _ _ _) | (with_reducible exact LeO.refl _) | (with_reducible exact LeO.none _) | (with_reducible refine LeO.ite ?_ ?_) | (with_reducible refine LeO.bind ?_ fun _ => ?_) | exact ih0 _ _ _ | exact LeO.none _ | refine LeO.ite ?_ ?_ | refine LeO.bind ?_ fun _ => ?_
theorem laws_heldBoolS.mono : ∀ a0 a1 k, LeO (laws_heldBoolS.f k a0 a1) (laws_heldBoolS.f (k + 1) a0 a1) := by
 intro a0 a1 k; have ih0 := laws_heldBoolS.mono_l k; unfold laws_heldBoolS.f
 repeat' first
   | (with_reducible exact ih0 _ _ _) | (with_reducible exact LeO.refl _) | (with_reducible exact LeO.none _) | (with_reducible refine LeO.ite ?_ ?_) | (with_reducible refine LeO.bind ?_ fun _ => ?_) | exact ih0 _ _ _ | exact LeO.none _ | refine LeO.ite ?_ ?_ | refine LeO.bind ?_ fun _ => ?_
theorem laws_heldBoolS.calls (k : Nat) (A0 : Option Addr) (c0 : Nat) (l0 : List Bool) (a1 : Int) (r : Int) (w : World) (hr0 : Kd.C Kd.bool w A0 l0.length l0) (hc0 : l0.length ≤ c0) (h : laws_heldBoolS.f k l0 a1 = some r) :
  Calls Tryd.prog 45 #[.slice A0 l0.length c0, .int .i64 a1] w fun e w' => e = .returned (.int .i64 r) ∧ Drawn0 w w' := by
 have am := am_ hr0; have aq := am_ hc0; clear hr0 hc0; have H : (laws_heldBoolS.l0 k l0 a1 0) = some r := h; clear h; have H' := am_ H; clear H
 go_enter Tryd.func45, Tryd.ntmps45
 go_wp2
 go_loopg [1, 5] k (fun kq v1 v5 w' => ∃ (ab : Int) (aa : Int), v1 = .int .i64 ab ∧ v5 = .int .i64 aa ∧ Aside0 (laws_heldBoolS.l0 kq l0 ab aa = some r) ∧ Aside0 (kq ≤ k) ∧ Drawn0 w w')
 case atStart => exact ⟨(a1), (0), sr_, sr_, H', ⟨Nat.le_refl _⟩, by repeat (first | exact Drawn0.refl _ | apply Drawn0.step)⟩
 case round =>
  clear H'
  obtain ⟨ab, aa, rfl, rfl, HA, HK1, ⟨m1, rfl⟩⟩ := hrel; cases gk with
  | zero => exact absurd HA.out (by simp [laws_heldBoolS.l0])
  | succ k1 =>
   have H := HA.out; clear HA; simp only [laws_heldBoolS.l0] at H
   by_cases c3 : aa < (l0.length : Int)
   ·
    rw [if_pos c3] at H; have ai := decide_eq_true (p := aa < (l0.length : Int)) c3; clear c3
    by_cases c4 : 0 ≤ aa
    ·
     rw [if_pos c4] at H; have ao := decide_eq_true (p := 0 ≤ aa) c4; clear c4
     by_cases c5 : ((rdOf false l0 aa) != ((Int.tmod ab 3) == 0)) = true
     ·
      rw [if_pos c5] at H; have aj : ((rdOf false l0 aa) != ((Int.tmod ab 3) == 0)) = true := c5
      (try (have ak : decide ((rdOf false l0 aa) = ((Int.tmod ab 3) == 0)) = false := by simpa using c5))
      (try (have al : ((rdOf false l0 aa) == ((Int.tmod ab 3) == 0)) = false := by simpa using c5))
      (try (have ap : ¬ ((rdOf false l0 aa) = ((Int.tmod ab 3) == 0)) := by simpa using c5))
      clear c5; obtain rfl := Option.some.inj H; have ac : 0 ≤ (aa : Int) := sq_dec; have ae : aa < (l0.length : Int) := sq_dec; obtain ⟨ah, ag, af⟩ := Kd.at_bool am.out aa ac ae; cases ag; replace ac := eq_true ac; replace ae := eq_true ae
      go_wp2
      go_ret
      exact ⟨by first | rfl | (simp; done) | (simp [*]; done), by repeat (first | exact Drawn0.refl _ | apply Drawn0.step)⟩
     ·
      rw [if_neg c5] at H; have aj : ((rdOf false l0 aa) != ((Int.tmod ab 3) == 0)) = false := by simpa using c5
      (try (have ak : decide ((rdOf false l0 aa) = ((Int.tmod ab 3) == 0)) = true := by simpa using c5))
      (try (have al : ((rdOf false l0 aa) == ((Int.tmod ab 3) == 0)) = true := by simpa using c5))
      clear c5; have H' := am_ H; clear H; have ac : 0 ≤ (aa : Int) := sq_dec; have ae : aa < (l0.length : Int) := sq_dec; obtain ⟨ah, ag, af⟩ := Kd.at_bool am.out aa ac ae; cases ag; replace ac := eq_true ac; replace ae := eq_true ae
      go_wp2
      go_roundg k1
      case measure => have := HK1.out; omega
      case rel => exact ⟨(wrap64 (ab + 1)), (wrap64 (aa + 1)), sr_, sr_, H', ⟨by have := HK1.out; omega⟩, by repeat (first | exact Drawn0.refl _ | apply Drawn0.step)⟩
    ·
     rw [if_neg c4] at H; exact absurd H (by simp)
   ·
    rw [if_neg c3] at H; have ai := decide_eq_false (p := aa < (l0.length : Int)) c3; clear c3; obtain rfl := Option.some.inj H
    go_wp2
    go_ret
    exact ⟨by first | rfl | (simp; done) | (simp [*]; done), by repeat (first | exact Drawn0.refl _ | apply Drawn0.step)⟩

/-! ### laws_heldSeg: function 15 -/
def laws_heldSeg.f (k : Nat) (ac : List (List (S54))) (af : List (S90)) (ag : List Bool) (a1 : Int) : Option (Int) := (laws_heldSymSS.f k ac a1).bind fun ae => (if ae < 0 then (some (-1)) else ((laws_heldValS.f k af ae).bind fun ah => (if ah < 0 then (some (-1)) else ((laws_heldBoolS.f k ag ah).bind fun ai => (if ai < 0 then (some (-1)) else (some ai))))))
theorem laws_heldSeg.mono : ∀ a0 a1 a2 a3 k, LeO (laws_heldSeg.f k a0 a1 a2 a3) (laws_heldSeg.f (k + 1) a0 a1 a2 a3) := by
 intro a0 a1 a2 a3 k; unfold laws_heldSeg.f
 repeat' first
   | (with_reducible exact laws_heldBoolS.mono _ _ _) | (with_reducible exact laws_heldSymSS.mono _ _ _) | (with_reducible exact laws_heldValS.mono _ _ _) | (with_reducible exact LeO.refl _) | (with_reducible exact LeO.none _) | (with_reducible refine LeO.ite ?_ ?_) | (with_reducible refine LeO.bind ?_ fun _ => ?_) | exact laws_heldBoolS.mono _ _ _ | exact laws_heldSymSS.mono _ _ _ | exact laws_heldValS.mono _ _ _ | exact LeO.none _ | refine LeO.ite ?_ ?_ | refine LeO.bind ?_ fun _ => ?_
theorem laws_heldSeg.calls (k : Nat) (ak : Option Addr) (al : Nat) (ac : List (List (S54))) (am : Option Addr) (ao : Nat) (af : List (S90)) (ap : Option Addr) (ar : Nat) (ag : List Bool) (a1 : Int) (r : Int) (w : World) (aI : Kd.C (Kd.slice 54 k54) w ak ac.length ac) (aD : ac.length ≤ al) (aJ : Kd.C k90 w am af.length af) (aG : af.length ≤ ao) (aK : Kd.C Kd.bool w ap ag.length ag) (aH : ag.length ≤ ar) (h : laws_heldSeg.f k ac af ag a1 = some r) :
  Calls Tryd.prog 15 #[.agg #[.slice ak ac.length al, .slice am af.length ao, .slice ap ag.length ar], .int .i64 a1] w fun e w' => e = .returned (.int .i64 r) ∧ Below w.heap.size w w' := by
 have hu33 := Tryd.underlying33; have av := am_ aI; have au := am_ aD; clear aI aD; have ay := am_ aJ; have ax := am_ aG; clear aJ aG; have aC := am_ aK; have aA := am_ aH; clear aK aH; have HB := am_ (Below.refl w.heap.size w); have H : ((laws_heldSymSS.f k ac a1).bind fun ae => (if ae < 0 then (some (-1)) else ((laws_heldValS.f k af ae).bind fun ah => (if ah < 0 then (some (-1)) else ((laws_heldBoolS.f k ag ah).bind fun ai => (if ai < 0 then (some (-1)) else (some ai))))))) = some r := h; clear h; obtain ⟨ae, A3, H⟩ := be_ H; (try dsimp only at H)
 by_cases c4 : ae < 0
 ·
  rw [if_pos c4] at H; have bm := decide_eq_true (p := ae < 0) c4; clear c4; obtain rfl := Option.some.inj H
  go_enter Tryd.func15, Tryd.ntmps15
  go_wp2_with (first | ((with_reducible refine gate_dst (N := 2) rfl ?_); refine box_y 2 #[.slice ak ac.length al, .slice am af.length ao, .slice ap ag.length ar] 33 (h := ?_); intro az hg w5 hbox hb; have aj := am_ hbox; have aw := gz_ hg HB; have aq := gz_ hg HB; replace HB := hb_ HB hb; clear hb hbox hg; obtain ⟨bo, bp, bq, br, bt, bu⟩ := cz3_ aj) | ((with_reducible refine gate_callee (f := 43) rfl ?_); refine gl_ 8 Tryd.func43 #[.slice ak ac.length al, .int .i64 a1] (h := ?_); (with_reducible refine (laws_heldSymSS.calls k _ _ ac a1 ae _ ?aa ?ab A3.out).mono ?_); (case aa => exact sq_c (Kd.C_below av.out HB.out)); (case ab => exact au.out); rintro e w' ⟨rfl, ⟨nd, rfl⟩⟩; refine ⟨_, rfl, ?_⟩))
  go_ret
  exact ⟨lf_, sq_below HB.out⟩
 ·
  rw [if_neg c4] at H; have bm := decide_eq_false (p := ae < 0) c4; clear c4; obtain ⟨ah, A7, H⟩ := be_ H; (try dsimp only at H)
  by_cases c8 : ah < 0
  ·
   rw [if_pos c8] at H; have bn := decide_eq_true (p := ah < 0) c8; clear c8; obtain rfl := Option.some.inj H
   go_enter Tryd.func15, Tryd.ntmps15
   go_wp2_with (first | ((with_reducible refine gate_dst (N := 2) rfl ?_); refine box_y 2 #[.slice ak ac.length al, .slice am af.length ao, .slice ap ag.length ar] 33 (h := ?_); intro az hg w9 hbox hb; have aj := am_ hbox; have aw := gz_ hg HB; have aq := gz_ hg HB; replace HB := hb_ HB hb; clear hb hbox hg; obtain ⟨aN, aQ, aT, ba, bc, bd⟩ := cz3_ aj) | ((with_reducible refine gate_callee (f := 43) rfl ?_); refine gl_ 8 Tryd.func43 #[.slice ak ac.length al, .int .i64 a1] (h := ?_); (with_reducible refine (laws_heldSymSS.calls k _ _ ac a1 ae _ ?aa ?ab A3.out).mono ?_); (case aa => exact sq_c (Kd.C_below av.out HB.out)); (case ab => exact au.out); rintro e w' ⟨rfl, ⟨nd, rfl⟩⟩; refine ⟨_, rfl, ?_⟩) | ((with_reducible refine gate_callee (f := 44) rfl ?_); refine gl_ 14 Tryd.func44 #[.slice am af.length ao, .int .i64 ae] (h := ?_); (with_reducible refine (laws_heldValS.calls k _ _ af ae ah _ ?aa ?ab A7.out).mono ?_); (case aa => exact sq_c (Kd.C_below ay.out (sq_below HB.out))); (case ab => exact ax.out); rintro e w' ⟨rfl, ⟨nd, rfl⟩⟩; refine ⟨_, rfl, ?_⟩))
   go_ret
   exact ⟨lf_, sq_below HB.out⟩
  ·
   rw [if_neg c8] at H; have bn := decide_eq_false (p := ah < 0) c8; clear c8; replace H := Option.bind_eq_some_iff.mp H; obtain ⟨ai, A110, H⟩ := H; replace H : (if ai < 0 then (some (-1)) else (some ai)) = some r := H; have A11 := am_ A110; clear A110
   by_cases c12 : ai < 0
   ·
    rw [if_pos c12] at H; have aM := decide_eq_true (p := ai < 0) c12; clear c12; obtain rfl := Option.some.inj H
    go_enter Tryd.func15, Tryd.ntmps15
    go_wp2_with (first | ((with_reducible refine gate_dst (N := 2) rfl ?_); refine box_y 2 #[.slice ak ac.length al, .slice am af.length ao, .slice ap ag.length ar] 33 (h := ?_); intro az hg bv hbox hb; have aj := am_ hbox; have aw := gz_ hg HB; have aq := gz_ hg HB; replace HB := hb_ HB hb; clear hb hbox hg; obtain ⟨aU, aV, aW, bf, bh, bi⟩ := cz3_ aj) | ((with_reducible refine gate_callee (f := 43) rfl ?_); refine gl_ 8 Tryd.func43 #[.slice ak ac.length al, .int .i64 a1] (h := ?_); (with_reducible refine (laws_heldSymSS.calls k _ _ ac a1 ae _ ?aa ?ab A3.out).mono ?_); (case aa => exact sq_c (Kd.C_below av.out HB.out)); (case ab => exact au.out); rintro e w' ⟨rfl, ⟨nd, rfl⟩⟩; refine ⟨_, rfl, ?_⟩) | ((with_reducible refine gate_callee (f := 44) rfl ?_); refine gl_ 14 Tryd.func44 #[.slice am af.length ao, .int .i64 ae] (h := ?_); (with_reducible refine (laws_heldValS.calls k _ _ af ae ah _ ?aa ?ab A7.out).mono ?_); (case aa => exact sq_c (Kd.C_below ay.out (sq_below1 HB.out aq.out))); (case ab => exact ax.out); rintro e w' ⟨rfl, ⟨nd, rfl⟩⟩; refine ⟨_, rfl, ?_⟩) | ((with_reducible refine gate_callee (f := 45) rfl ?_); refine gl_ 20 Tryd.func45 #[.slice ap ag.length ar, .int .i64 ah] (h := ?_); (with_reducible refine (laws_heldBoolS.calls k _ _ ag ah ai _ ?aa ?ab A11.out).mono ?_); (case aa => exact sq_c (Kd.C_below aC.out (sq_below HB.out))); (case ab => exact aA.out); rintro e w' ⟨rfl, ⟨nd, rfl⟩⟩; refine ⟨_, rfl, ?_⟩))
    go_ret
    exact ⟨lf_, sq_below HB.out⟩
   ·
    rw [if_neg c12] at H; have aM := decide_eq_false (p := ai < 0) c12; clear c12; obtain rfl := Option.some.inj H
    go_enter Tryd.func15, Tryd.ntmps15
    go_wp2_with (first | ((with_reducible refine gate_dst (N := 2) rfl ?_); refine box_y 2 #[.slice ak ac.length al, .slice am af.length ao, .slice ap ag.length ar] 33 (h := ?_); intro az hg bw hbox hb; have aj := am_ hbox; have aw := gz_ hg HB; have aq := gz_ hg HB; replace HB := hb_ HB hb; clear hb hbox hg; obtain ⟨aX, aY, aZ, bj, bk, bl⟩ := cz3_ aj) | ((with_reducible refine gate_callee (f := 43) rfl ?_); refine gl_ 8 Tryd.func43 #[.slice ak ac.length al, .int .i64 a1] (h := ?_); (with_reducible refine (laws_heldSymSS.calls k _ _ ac a1 ae _ ?aa ?ab A3.out).mono ?_); (case aa => exact sq_c (Kd.C_below av.out HB.out)); (case ab => exact au.out); rintro e w' ⟨rfl, ⟨nd, rfl⟩⟩; refine ⟨_, rfl, ?_⟩) | ((with_reducible refine gate_callee (f := 44) rfl ?_); refine gl_ 14 Tryd.func44 #[.slice am af.length ao, .int .i64 ae] (h := ?_); (with_reducible refine (laws_heldValS.calls k _ _ af ae ah _ ?aa ?ab A7.out).mono ?_); (case aa => exact sq_c (Kd.C_below ay.out (sq_below1 HB.out aq.out))); (case ab => exact ax.out); rintro e w' ⟨rfl, ⟨nd, rfl⟩⟩; refine ⟨_, rfl, ?_⟩) | ((with_reducible refine gate_callee (f := 45) rfl ?_); refine gl_ 20 Tryd.func45 #[.slice ap ag.length ar, .int .i64 ah] (h := ?_); (with_reducible refine (laws_heldBoolS.calls k _ _ ag ah ai _ ?aa ?ab A11.out).mono ?_); (case aa => exact sq_c (Kd.C_below aC.out (sq_below HB.out))); (case ab => exact aA.out); rintro e w' ⟨rfl, ⟨nd, rfl⟩⟩; refine ⟨_, rfl, ?_⟩))
    go_ret
    exact ⟨lf_, sq_below HB.out⟩

end Go.Proofs.YtdmdalapckcobaaDoor.Q
namespace Go.Proofs.YtdmdalapckcobaaDoor.Q
open Go.RowKit Go.Proofs.YtdmdalapckcobaaDoorW.PrintWords Go.Proofs.YtdmdalapckcobaaDoorW.PrintLast Go.Proofs.YtdmdalapckcobaaDoorW.PrintMore
attribute [local go_sem] max2_int min2_int max_two min_two max_three min_three max_four min_four   -- for this text's walks alone
set_option linter.unusedVariables false
set_option maxHeartbeats 8000000
set_option maxRecDepth 100000
set_option linter.unusedSimpArgs false

/-! ### laws_markBoolS: function 42 -/
def laws_markBoolS.l0 : Nat → List Bool → Int → Int → Option (Int × List Bool)
 | 0, _, _, _ => none
 | k + 1, x0, x1, x5 => if x5 < (x0.length : Int) then (if 0 ≤ x5 then (laws_markBoolS.l0 k (x0.set (x5 : Int).toNat ((Int.tmod x1 3) == 0)) (wrap64 (x1 + 1)) (wrap64 (x5 + 1))) else (none)) else (some (x1, x0))
def laws_markBoolS.f (k : Nat) (l0 : List Bool) (a1 : Int) : Option (Int × List Bool) := laws_markBoolS.l0 k l0 a1 0
theorem laws_markBoolS.mono_l : ∀ k, (∀ y0 y1 y2, LeO (laws_markBoolS.l0 k y0 y1 y2) (laws_markBoolS.l0 (k + 1) y0 y1 y2))
 | 0 => fun _ _ _ r h => by simp [laws_markBoolS.l0] at h
 | k + 1 => by
  have ih0 := laws_markBoolS.mono_l k
  ·
   intro y0 y1 y2; unfold laws_markBoolS.l0
   repeat' first
   | (with_reducible exact ih0 _ _ _) | (with_reducible exact LeO.refl _) | (with_reducible exact LeO.none _) | (with_reducible refine LeO.ite ?_ ?_) | (with_reducible refine LeO.bind ?_ fun _ => ?_) | exact ih0 _ _ _ | exact LeO.none _ | refine LeO.ite ?_ ?_ | refine LeO.bind ?_ fun _ => ?_
theorem laws_markBoolS.mono : ∀ a0 a1 k, LeO (laws_markBoolS.f k a0 a1) (laws_markBoolS.f (k + 1) a0 a1) := by
 intro a0 a1 k; have ih0 := laws_markBoolS.mono_l k; unfold laws_markBoolS.f
 repeat' first
   | (with_reducible exact ih0 _ _ _) | (with_reducible exact LeO.refl _) | (with_reducible exact LeO.none _) | (with_reducible refine LeO.ite ?_ ?_) | (with_reducible refine LeO.bind ?_ fun _ => ?_) | exact ih0 _ _ _ | exact LeO.none _ | refine LeO.ite ?_ ?_ | refine LeO.bind ?_ fun _ => ?_
theorem laws_markBoolS.calls (k : Nat) (P0_ : Nat → Prop) (u9000_ : Value) (l0 : List Bool) (a1 : Int) (r1 : Int) (r2 : List Bool) (w0 w : World) (hB : Below w0.heap.size w0 w) (ho0 : Kd.R Kd.bool 4 w w0.heap.size P0_ u9000_ l0) (h : laws_markBoolS.f k l0 a1 = some (r1, r2)) :
  Calls Tryd.prog 42 #[u9000_, .int .i64 a1] w fun e w' => e = .returned (.int .i64 r1) ∧ Kd.R Kd.bool 4 w' w0.heap.size (fun k_ => (P0_ k_ ∨ w.heap.size ≤ k_)) u9000_ r2 ∧ Below w0.heap.size w0 w' ∧ Kept w w' (fun k_ => P0_ k_) := by
 have am := am_ (show Kd.R Kd.bool 4 w w0.heap.size (fun k_ => (P0_ k_ ∨ w.heap.size ≤ k_)) u9000_ l0 from Kd.R_mono ho0 (fun k_ hk => (.inl hk))); have HK := am_ (Kept.refl w (fun k_ => P0_ k_)); have HW0 := am_ hB.size; have HB := am_ hB; clear hB; have H : (laws_markBoolS.l0 k l0 a1 0) = some (r1, r2) := h; clear h; have H' := am_ H; clear H
 go_enter Tryd.func42, Tryd.ntmps42
 go_wp2
 go_loopg [1, 5] k (fun kq v1 v5 w' => ∃ (ac : List Bool) (af : Int) (aa : Int), v1 = .int .i64 af ∧ v5 = .int .i64 aa ∧ Aside0 (laws_markBoolS.l0 kq ac af aa = some (r1, r2)) ∧ Aside0 (kq ≤ k) ∧ Aside0 (Kd.R Kd.bool 4 w' w0.heap.size (fun k_ => (P0_ k_ ∨ w.heap.size ≤ k_)) u9000_ ac) ∧ Aside0 (Kept w w' (fun k_ => P0_ k_)) ∧ Aside0 (Below w0.heap.size w0 w'))
 case atStart => exact ⟨(l0), (a1), (0), sr_, sr_, H', ⟨Nat.le_refl _⟩, ⟨by (with_reducible repeat (first | apply Kd.R_alloc | apply Kd.R_drewN | apply Kd.R_drew)); exact am.out⟩, ⟨by repeat (first | (with_reducible first | exact HK.out | apply Kept.alloc | apply Kept.drewN | apply Kept.drew) | exact HK.out)⟩, ⟨sq_below HB.out⟩⟩
 case round =>
  clear H'
  obtain ⟨ac, af, aa, rfl, rfl, HA, HK1, ab, HK, HB⟩ := hrel; cases gk with
  | zero => exact absurd HA.out (by simp [laws_markBoolS.l0])
  | succ k1 =>
   have H := HA.out; clear HA; simp only [laws_markBoolS.l0] at H
   by_cases c3 : aa < (ac.length : Int)
   ·
    rw [if_pos c3] at H; have ai := decide_eq_true (p := aa < (ac.length : Int)) c3; clear c3
    by_cases c4 : 0 ≤ aa
    ·
     rw [if_pos c4] at H; have ao := decide_eq_true (p := 0 ≤ aa) c4; clear c4; obtain ⟨ag, ae⟩ : ∃ y_ : List Bool, y_ = (ac.set (aa : Int).toNat ((Int.tmod af 3) == 0)) := ⟨_, rfl⟩; replace H : (laws_markBoolS.l0 k1 ag (wrap64 (af + 1)) (wrap64 (aa + 1))) = some (r1, r2) := by first | (rw [ae]; with_reducible exact H) | (have H2_ := (Option.bind_some _ _).symm.trans H; rw [ae]; with_reducible exact H2_) | (have H2_ := (Option.bind_some _ _).symm.trans H; with_reducible exact H2_) | with_reducible exact H | (rw [ae]; exact H) | exact H
     have ah := am_ ae; clear ae; have H' := am_ H; clear H; obtain ⟨au, ap, aq⟩ := Kd.R_slice ab.out; subst aq; have p5 : 0 ≤ (aa : Int) := sq_dec; have q5 : (aa : Int) < ((ac.length : Int) : Int) := sq_dec; obtain ⟨go5, aw, aj, ak, gl5, cl5, HG5⟩ := Kd.R_form ab.out (by omega)
     (first | cases aj | (injection aj with ea_ en_ ec_; (first | subst ea_ | (injection ea_ with ea_; subst ea_)); subst ec_; clear en_))
     have GB5 := am_ ak; have GG5 := am_ HG5; clear ak gl5 HG5; have HMgo5 := am_ (show (P0_ go5 ∨ w.heap.size ≤ go5) from (ab.out.1 _ rfl)); obtain ⟨al, hf5_0⟩ := Kd.R_celln false ab.out (aa : Int) p5 q5; replace p5 := eq_true p5; replace q5 := eq_true q5; have HP7 := Kd.R_putg ab.out (aa : Int) ((Int.tmod af 3) == 0)
     go_wp2_with (first | ((with_reducible refine gate_store (t := 4) (p := 17) rfl ?_); refine store_event (t := 4) (p := 17) (v := ?vo_w8) (w1 := (wr.setCell ⟨go5, (aa : Int).toNat, none⟩ (.bool ((Int.tmod af 3) == 0)))) ?hg ?ho ?hn ?hr ?_; (case ho => rfl); (case hg => rfl); (case hn => rfl); (case hr => first | (go_simp; done) | (go_simp; rfl)); intro w8 hw; have hg : wr.grownBy w8 (some go5) := (by rw [hw]; exact HP7.2); have hp_ : Kd.R Kd.bool 4 w8 w0.heap.size (fun k_ => (P0_ k_ ∨ w.heap.size ≤ k_)) (.slice (some ⟨go5, 0, none⟩) ac.length ap) ag := (by rw [hw, ah.out]; exact HP7.1); clear HP7; replace HB := am_ ((by rw [hw]; exact below_set (HB.out) GB5.out : Below w0.heap.size w0 w8)); replace HK := am_ (Kept.of_grown (S := (fun k_ => P0_ k_)) hg (by repeat (first | (with_reducible first | exact HK.out | apply Kept.alloc | apply Kept.drewN | apply Kept.drew) | exact HK.out)) (fun k_ e_ => (ab.out.1 k_ e_))); replace ab := am_ hp_; clear hg hw hp_))
     go_roundg k1
     case measure => have := HK1.out; omega
     case rel => exact ⟨(ag), (wrap64 (af + 1)), (wrap64 (aa + 1)), sr_, sr_, H', ⟨by have := HK1.out; omega⟩, ⟨by (with_reducible repeat (first | apply Kd.R_alloc | apply Kd.R_drewN | apply Kd.R_drew)); exact ab.out⟩, ⟨by repeat (first | (with_reducible first | exact HK.out | apply Kept.alloc | apply Kept.drewN | apply Kept.drew) | exact HK.out)⟩, ⟨sq_below HB.out⟩⟩
    ·
     rw [if_neg c4] at H; exact absurd H (by simp)
   ·
    rw [if_neg c3] at H; have ai := decide_eq_false (p := aa < (ac.length : Int)) c3; clear c3; simp only [Option.some.injEq, Prod.mk.injEq] at H; obtain ⟨rfl, rfl⟩ := H; obtain ⟨av, ax, ar⟩ := Kd.R_slice ab.out; subst ar
    go_wp2
    go_ret
    exact ⟨lf_, by (with_reducible repeat (first | apply Kd.R_alloc | apply Kd.R_drewN | apply Kd.R_drew)); exact ab.out, sq_below HB.out, by repeat (first | (with_reducible first | exact HK.out | apply Kept.alloc | apply Kept.drewN | apply Kept.drew) | exact HK.out)⟩

end Go.Proofs.YtdmdalapckcobaaDoor.Q
namespace Go.Proofs.YtdmdalapckcobaaDoor.Q
open Go.RowKit Go.Proofs.YtdmdalapckcobaaDoorW.PrintWords Go.Proofs.YtdmdalapckcobaaDoorW.PrintLast Go.Proofs.YtdmdalapckcobaaDoorW.PrintMore
attribute [local go_sem] max2_int min2_int max_two min_two max_three min_three max_four min_four   -- for this text's walks alone
set_option linter.unusedVariables false
set_option maxHeartbeats 8000000
set_option maxRecDepth 100000
set_option linter.unusedSimpArgs false

/-! ### laws_FnExactSegDrop: function 3 -/
/-- The marks from a on: of terms, of values, of flags. -/
def df_upS (a : Nat) : Nat → List S54
 | 0 => []
 | n + 1 => df_upS a n ++ [⟨((a + 2 * n : Nat) : Int), ((a + 2 * n + 1 : Nat) : Int)⟩]
def df_upV (a : Nat) : Nat → List S90
 | 0 => []
 | n + 1 => df_upV a n ++ [⟨⟨((a + 3 * n : Nat) : Int), ((a + 3 * n + 1 : Nat) : Int)⟩, (Int.tmod ((a + 3 * n + 2 : Nat) : Int) 3 == 0)⟩]
def df_upB (a : Nat) : Nat → List Bool
 | 0 => []
 | n + 1 => df_upB a n ++ [(Int.tmod ((a + n : Nat) : Int) 3 == 0)]
theorem df_upS_len (a : Nat) : ∀ n, (df_upS a n).length = n
 | 0 => rfl
 | n + 1 => by rw [df_upS, List.length_append, df_upS_len a n]; rfl
theorem df_upV_len (a : Nat) : ∀ n, (df_upV a n).length = n
 | 0 => rfl
 | n + 1 => by rw [df_upV, List.length_append, df_upV_len a n]; rfl
theorem df_upB_len (a : Nat) : ∀ n, (df_upB a n).length = n
 | 0 => rfl
 | n + 1 => by rw [df_upB, List.length_append, df_upB_len a n]; rfl
theorem df_upS_at (a : Nat) : ∀ n i, i < n → (df_upS a n)[i]? = some ⟨((a + 2 * i : Nat) : Int), ((a + 2 * i + 1 : Nat) : Int)⟩
 | n + 1, i, h => by
  rw [df_upS]
  by_cases hi : i < n
  ·
   rw [List.getElem?_append_left (by rw [df_upS_len]; exact hi)]; exact df_upS_at a n i hi
  ·
   obtain rfl : i = n := by omega
   rw [List.getElem?_append_right (by rw [df_upS_len]; omega), df_upS_len, Nat.sub_self]; rfl
theorem df_upV_at (a : Nat) : ∀ n i, i < n → (df_upV a n)[i]? = some ⟨⟨((a + 3 * i : Nat) : Int), ((a + 3 * i + 1 : Nat) : Int)⟩, (Int.tmod ((a + 3 * i + 2 : Nat) : Int) 3 == 0)⟩
 | n + 1, i, h => by
  rw [df_upV]
  by_cases hi : i < n
  ·
   rw [List.getElem?_append_left (by rw [df_upV_len]; exact hi)]; exact df_upV_at a n i hi
  ·
   obtain rfl : i = n := by omega
   rw [List.getElem?_append_right (by rw [df_upV_len]; omega), df_upV_len, Nat.sub_self]; rfl
theorem df_upB_at (a : Nat) : ∀ n i, i < n → (df_upB a n)[i]? = some (Int.tmod ((a + i : Nat) : Int) 3 == 0)
 | n + 1, i, h => by
  rw [df_upB]
  by_cases hi : i < n
  ·
   rw [List.getElem?_append_left (by rw [df_upB_len]; exact hi)]; exact df_upB_at a n i hi
  ·
   obtain rfl : i = n := by omega
   rw [List.getElem?_append_right (by rw [df_upB_len]; omega), df_upB_len, Nat.sub_self]; rfl
theorem df_w (n : Int) (h1 : -9000000000 ≤ n) (h2 : n ≤ 9000000000) : wrap64 n = n := by unfold wrap64; omega
theorem df_rdT {l : List S54} {i : Nat} {x : S54} (h : l[i]? = some x) : rd_T54 l (i : Int) = x := by
 unfold rd_T54; simp [List.getD, h]
theorem df_rdV {l : List S90} {i : Nat} {x : S90} (h : l[i]? = some x) : rd_T90 l (i : Int) = x := by
 unfold rd_T90; simp [List.getD, h]
theorem df_rdB {l : List Bool} {i : Nat} {x : Bool} (h : l[i]? = some x) : rdOf false l (i : Int) = x := by
 unfold rdOf; simp [List.getD, h]
theorem df_markS_l (n a : Nat) (hn : a + 2 * n ≤ 1000000000) : ∀ t i k (x : List S54), i + t = n → t < k → x.length = n → x.take i = df_upS a i → laws_markSymS.l0 k x ((a + 2 * i : Nat) : Int) (i : Int) = some (((a + 2 * n : Nat) : Int), df_upS a n)
 | 0, i, k, x, h1, h2, h3, h4 => by
  obtain ⟨k, rfl⟩ : ∃ m, k = m + 1 := ⟨k - 1, by omega⟩; obtain rfl : i = n := by omega
  rw [laws_markSymS.l0, if_neg (by omega)]; rw [List.take_of_length_le (by omega)] at h4; rw [h4]
 | t + 1, i, k, x, h1, h2, h3, h4 => by
  obtain ⟨k, rfl⟩ : ∃ m, k = m + 1 := ⟨k - 1, by omega⟩; rw [laws_markSymS.l0, if_pos (by omega), if_pos (by omega), Option.bind_some, Int.toNat_natCast, df_w _ (by omega) (by omega), df_w (((i : Nat) : Int) + 1) (by omega) (by omega), df_w _ (by omega) (by omega)]; have hy : ∀ p : S54, rd_T54 (x.set i p) (i : Int) = p := fun p => df_rdT (List.getElem?_set_self (by omega)); rw [hy, List.set_set]
  have := df_markS_l n a hn t (i + 1) k (x.set i ⟨((a + 2 * i : Nat) : Int), ((a + 2 * i : Nat) : Int) + 1⟩) (by omega) (by omega) (by rw [List.length_set]; exact h3) (by
   rw [List.take_add_one, List.take_set_of_le (Nat.le_refl i), h4, List.getElem?_set_self (by omega), df_upS]; rfl)
  rw [show ((a + 2 * i : Nat) : Int) + 1 + 1 = ((a + 2 * (i + 1) : Nat) : Int) by omega, show (i : Int) + 1 = ((i + 1 : Nat) : Int) by omega]; exact this
theorem df_markS (a : Nat) (x : List S54) (k : Nat) (hk : x.length < k) (hn : a + 2 * x.length ≤ 1000000000) : laws_markSymS.f k x (a : Int) = some (((a + 2 * x.length : Nat) : Int), df_upS a x.length) :=
 df_markS_l x.length a hn x.length 0 _ x (by omega) hk rfl rfl
theorem df_markB_l (n a : Nat) (hn : a + n ≤ 1000000000) : ∀ t i k (x : List Bool), i + t = n → t < k → x.length = n → x.take i = df_upB a i → laws_markBoolS.l0 k x ((a + i : Nat) : Int) (i : Int) = some (((a + n : Nat) : Int), df_upB a n)
 | 0, i, k, x, h1, h2, h3, h4 => by
  obtain ⟨k, rfl⟩ : ∃ m, k = m + 1 := ⟨k - 1, by omega⟩; obtain rfl : i = n := by omega
  rw [laws_markBoolS.l0, if_neg (by omega)]; rw [List.take_of_length_le (by omega)] at h4; rw [h4]
 | t + 1, i, k, x, h1, h2, h3, h4 => by
  obtain ⟨k, rfl⟩ : ∃ m, k = m + 1 := ⟨k - 1, by omega⟩; rw [laws_markBoolS.l0, if_pos (by omega), if_pos (by omega), Int.toNat_natCast, df_w _ (by omega) (by omega), df_w _ (by omega) (by omega)]
  have := df_markB_l n a hn t (i + 1) k (x.set i (Int.tmod ((a + i : Nat) : Int) 3 == 0)) (by omega) (by omega) (by rw [List.length_set]; exact h3) (by
   rw [List.take_add_one, List.take_set_of_le (Nat.le_refl i), h4, List.getElem?_set_self (by omega), df_upB]; rfl)
  rw [show ((a + i : Nat) : Int) + 1 = ((a + (i + 1) : Nat) : Int) by omega, show (i : Int) + 1 = ((i + 1 : Nat) : Int) by omega]; exact this
theorem df_markB (a : Nat) (x : List Bool) (k : Nat) (hk : x.length < k) (hn : a + x.length ≤ 1000000000) : laws_markBoolS.f k x (a : Int) = some (((a + x.length : Nat) : Int), df_upB a x.length) :=
 df_markB_l x.length a hn x.length 0 _ x (by omega) hk rfl rfl
theorem df_heldS_l (n a : Nat) (hn : a + 2 * n ≤ 1000000000) : ∀ t i k, i + t = n → t < k → laws_heldSymS.l0 k (df_upS a n) ((a + 2 * i : Nat) : Int) (i : Int) = some ((a + 2 * n : Nat) : Int)
 | 0, i, k, h1, h2 => by
  obtain ⟨k, rfl⟩ : ∃ m, k = m + 1 := ⟨k - 1, by omega⟩; obtain rfl : i = n := by omega
  rw [laws_heldSymS.l0, if_neg (by rw [df_upS_len]; omega)]
 | t + 1, i, k, h1, h2 => by
  obtain ⟨k, rfl⟩ : ∃ m, k = m + 1 := ⟨k - 1, by omega⟩; have := df_heldS_l n a hn t (i + 1) k (by omega) (by omega); rw [laws_heldSymS.l0, if_pos (by rw [df_upS_len]; omega), if_pos (by omega), df_rdT (df_upS_at a n i (by omega)), if_pos rfl, df_w (((a + 2 * i : Nat) : Int) + 1) (by omega) (by omega), if_pos (by dsimp only; omega), df_w _ (by omega) (by omega), df_w _ (by omega) (by omega), show ((a + 2 * i : Nat) : Int) + 1 + 1 = ((a + 2 * (i + 1) : Nat) : Int) by omega, show (i : Int) + 1 = ((i + 1 : Nat) : Int) by omega]; exact this
theorem df_heldS (a n k : Nat) (hk : n < k) (hn : a + 2 * n ≤ 1000000000) : laws_heldSymS.f k (df_upS a n) (a : Int) = some ((a + 2 * n : Nat) : Int) :=
 df_heldS_l n a hn n 0 _ (by omega) hk
theorem df_heldV_l (n a : Nat) (hn : a + 3 * n ≤ 1000000000) : ∀ t i k, i + t = n → t < k → laws_heldValS.l0 k (df_upV a n) ((a + 3 * i : Nat) : Int) (i : Int) = some ((a + 3 * n : Nat) : Int)
 | 0, i, k, h1, h2 => by
  obtain ⟨k, rfl⟩ : ∃ m, k = m + 1 := ⟨k - 1, by omega⟩; obtain rfl : i = n := by omega
  rw [laws_heldValS.l0, if_neg (by rw [df_upV_len]; omega)]
 | t + 1, i, k, h1, h2 => by
  obtain ⟨k, rfl⟩ : ∃ m, k = m + 1 := ⟨k - 1, by omega⟩; have := df_heldV_l n a hn t (i + 1) k (by omega) (by omega); rw [laws_heldValS.l0, if_pos (by rw [df_upV_len]; omega), if_pos (by omega), df_rdV (df_upV_at a n i (by omega)), if_pos rfl, df_w (((a + 3 * i : Nat) : Int) + 1) (by omega) (by omega), if_pos (by dsimp only; omega), df_w (((a + 3 * i : Nat) : Int) + 1 + 1) (by omega) (by omega), df_w (((a + 3 * i : Nat) : Int) + 1 + 1 + 1) (by omega) (by omega), df_w ((i : Int) + 1) (by omega) (by omega), show ((a + 3 * i : Nat) : Int) + 1 + 1 = ((a + 3 * i + 2 : Nat) : Int) by omega, if_neg (by simp), show ((a + 3 * i + 2 : Nat) : Int) + 1 = ((a + 3 * (i + 1) : Nat) : Int) by omega, show (i : Int) + 1 = ((i + 1 : Nat) : Int) by omega]; exact this
theorem df_heldV (a n k : Nat) (hk : n < k) (hn : a + 3 * n ≤ 1000000000) : laws_heldValS.f k (df_upV a n) (a : Int) = some ((a + 3 * n : Nat) : Int) :=
 df_heldV_l n a hn n 0 _ (by omega) hk
theorem df_heldB_l (n a : Nat) (hn : a + n ≤ 1000000000) : ∀ t i k, i + t = n → t < k → laws_heldBoolS.l0 k (df_upB a n) ((a + i : Nat) : Int) (i : Int) = some ((a + n : Nat) : Int)
 | 0, i, k, h1, h2 => by
  obtain ⟨k, rfl⟩ : ∃ m, k = m + 1 := ⟨k - 1, by omega⟩; obtain rfl : i = n := by omega
  rw [laws_heldBoolS.l0, if_neg (by rw [df_upB_len]; omega)]
 | t + 1, i, k, h1, h2 => by
  obtain ⟨k, rfl⟩ : ∃ m, k = m + 1 := ⟨k - 1, by omega⟩; have := df_heldB_l n a hn t (i + 1) k (by omega) (by omega); rw [laws_heldBoolS.l0, if_pos (by rw [df_upB_len]; omega), if_pos (by omega), df_rdB (df_upB_at a n i (by omega)), if_neg (by simp), df_w _ (by omega) (by omega), df_w _ (by omega) (by omega), show ((a + i : Nat) : Int) + 1 = ((a + (i + 1) : Nat) : Int) by omega, show (i : Int) + 1 = ((i + 1 : Nat) : Int) by omega]; exact this
theorem df_heldB (a n k : Nat) (hk : n < k) (hn : a + n ≤ 1000000000) : laws_heldBoolS.f k (df_upB a n) (a : Int) = some ((a + n : Nat) : Int) :=
 df_heldB_l n a hn n 0 _ (by omega) hk
/-- How many terms the first rows have. -/
def df_tot (rows : Nat → List S54) : Nat → Nat
 | 0 => 0
 | j + 1 => df_tot rows j + (rows j).length
theorem df_tot_le (rows : Nat → List S54) {i j : Nat} (h : i ≤ j) : df_tot rows i ≤ df_tot rows j := by
 induction h with
 | refl => exact Nat.le_refl _
 | step _ ih => exact Nat.le_trans ih (Nat.le_add_right _ _)
/-- The rows with their marks, up to the x-th. -/
def df_mkd (a : Nat) (rows : Nat → List S54) (x : Nat) : Nat → List S54 := fun j => if j < x then df_upS (a + 2 * df_tot rows j) (rows j).length else rows j
/-- All the rows with their marks. -/
def df_mkL (a : Nat) (bs : List (List S54)) : List (List S54) := (List.range bs.length).map fun j => df_upS (a + 2 * df_tot (fun j => bs.getD j []) j) (bs.getD j []).length
theorem df_mkL_len (a : Nat) (bs : List (List S54)) : (df_mkL a bs).length = bs.length := by simp [df_mkL]
theorem df_mkL_at (a : Nat) (bs : List (List S54)) (j : Nat) (hj : j < bs.length) : (df_mkL a bs)[j]? = some (df_upS (a + 2 * df_tot (fun j => bs.getD j []) j) (bs.getD j []).length) := by
 simp [df_mkL, hj]
theorem df_heldSS_l (a : Nat) (bs : List (List S54)) (hn : a + 2 * df_tot (fun j => bs.getD j []) bs.length ≤ 1000000000) (hb : bs.length ≤ 1000000000) : ∀ t i k, i + t = bs.length → t + df_tot (fun j => bs.getD j []) bs.length < k →
  laws_heldSymSS.l0 k (df_mkL a bs) ((a + 2 * df_tot (fun j => bs.getD j []) i : Nat) : Int) (i : Int) = some ((a + 2 * df_tot (fun j => bs.getD j []) bs.length : Nat) : Int)
 | 0, i, k, h1, h2 => by
  obtain ⟨k, rfl⟩ : ∃ m, k = m + 1 := ⟨k - 1, by omega⟩; obtain rfl : i = bs.length := by omega
  rw [laws_heldSymSS.l0, if_neg (by rw [df_mkL_len]; omega)]
 | t + 1, i, k, h1, h2 => by
  obtain ⟨k, rfl⟩ : ∃ m, k = m + 1 := ⟨k - 1, by omega⟩; have ht := df_tot_le (fun j => bs.getD j []) (show i + 1 ≤ bs.length by omega); have e : df_tot (fun j => bs.getD j []) (i + 1) = df_tot (fun j => bs.getD j []) i + (bs.getD i []).length := rfl; have := df_heldSS_l a bs hn hb t (i + 1) k (by omega) (by omega)
  have er : rd_L7 (df_mkL a bs) (i : Int) = df_upS (a + 2 * df_tot (fun j => bs.getD j []) i) (bs.getD i []).length := by
   unfold rd_L7; simp [List.getD, df_mkL_at a bs i (by omega)]
  rw [laws_heldSymSS.l0, if_pos (by rw [df_mkL_len]; omega), if_pos (by omega), er, df_heldS _ _ _ (by omega) (by omega), Option.bind_some, if_neg (by omega), df_w _ (by omega) (by omega), show a + 2 * df_tot (fun j => bs.getD j []) i + 2 * (bs.getD i []).length = a + 2 * df_tot (fun j => bs.getD j []) (i + 1) by omega, show (i : Int) + 1 = ((i + 1 : Nat) : Int) by omega]; exact this
theorem df_heldSeg (bs : List (List S54)) (nv nb k : Nat) (hn : 2 * df_tot (fun j => bs.getD j []) bs.length + 3 * nv + nb ≤ 900000000) (hb : bs.length ≤ 1000000000) (hk : bs.length + df_tot (fun j => bs.getD j []) bs.length + nv + nb < k) :
  laws_heldSeg.f k (df_mkL 1 bs) (df_upV (1 + 2 * df_tot (fun j => bs.getD j []) bs.length) nv) (df_upB (1 + 2 * df_tot (fun j => bs.getD j []) bs.length + 3 * nv) nb) 1 = some ((1 + 2 * df_tot (fun j => bs.getD j []) bs.length + 3 * nv + nb : Nat) : Int) := by
 unfold laws_heldSeg.f laws_heldSymSS.f laws_heldValS.f laws_heldBoolS.f; have h1 := df_heldSS_l 1 bs (by omega) hb bs.length 0 k (by omega) (by omega); have h2 := df_heldV (1 + 2 * df_tot (fun j => bs.getD j []) bs.length) nv k (by omega) (by omega); have h3 := df_heldB (1 + 2 * df_tot (fun j => bs.getD j []) bs.length + 3 * nv) nb k (by omega) (by omega); unfold laws_heldValS.f at h2; unfold laws_heldBoolS.f at h3; rw [show (1 : Int) = ((1 + 2 * df_tot (fun j => bs.getD j []) 0 : Nat) : Int) from rfl, show (0 : Int) = ((0 : Nat) : Int) from rfl, h1, Option.bind_some, if_neg (by omega)]; rw [show ((0 : Nat) : Int) = 0 from rfl, h2, Option.bind_some, if_neg (by omega), h3, Option.bind_some, if_neg (by omega)]
/-- A block of values: its size, and the first n of them. -/
def df_Sv (w : World) (b N n : Nat) (c : Nat → S90) : Prop := ∃ cur : Array Value, w.heap[b]? = some (.cells cur 90 (0, 0)) ∧ cur.size = N ∧ ∀ j, j < n → cur[j * 3]? = some (.int .i64 (c j).f0.f0) ∧ cur[j * 3 + 1]? = some (.int .i64 (c j).f0.f1) ∧ cur[j * 3 + 2]? = some (.bool (c j).f1)
theorem df_Sv.cells {w : World} {b N n : Nat} {c : Nat → S90} (h : df_Sv w b N n c) (j : Nat) (hj : j < n) : (w.cell? ⟨b, j * 3, none⟩ = some (.int .i64 (c j).f0.f0) ∧ w.cell? ⟨b, j * 3 + 1, none⟩ = some (.int .i64 (c j).f0.f1) ∧ w.cell? ⟨b, j * 3 + 2, none⟩ = some (.bool (c j).f1)) ∧ (w.frozen? ⟨b, j * 3, none⟩ = false ∧ w.frozen? ⟨b, j * 3 + 1, none⟩ = false ∧ w.frozen? ⟨b, j * 3 + 2, none⟩ = false) := by
 obtain ⟨cur, h1, h2, h3⟩ := h; exact ⟨⟨(blk_cell h1 _).trans (h3 j hj).1, (blk_cell h1 _).trans (h3 j hj).2.1, (blk_cell h1 _).trans (h3 j hj).2.2⟩, blk_frozen h1 _, blk_frozen h1 _, blk_frozen h1 _⟩
theorem df_Sv.set {w : World} {b N n : Nat} {c : Nat → S90} (h : df_Sv w b N n c) (i : Nat) (hi : i < n) (x : S90) : df_Sv (((w.setCell ⟨b, i * 3, none⟩ (.int .i64 x.f0.f0)).setCell ⟨b, i * 3 + 1, none⟩ (.int .i64 x.f0.f1)).setCell ⟨b, i * 3 + 2, none⟩ (.bool x.f1)) b N n (fun j => if j = i then x else c j) := by
 obtain ⟨cur, h1, h2, h3⟩ := h; refine ⟨_, blk_set (blk_set (blk_set h1 (i * 3) _) (i * 3 + 1) _) (i * 3 + 2) _, by simpa using h2, fun j hj => ?_⟩; have hs : ∀ m, m < n → m * 3 + 2 < cur.size := fun m hm => (Array.getElem?_eq_some_iff.1 (h3 m hm).2.2).1
 by_cases hji : j = i
 ·
  subst hji; have := hs j hj; simp only [if_pos]; refine ⟨?_, ?_, ?_⟩
  ·
   rw [Array.getElem?_setIfInBounds_ne (by omega), Array.getElem?_setIfInBounds_ne (by omega), Array.getElem?_setIfInBounds_self_of_lt (by omega)]
  ·
   rw [Array.getElem?_setIfInBounds_ne (by omega), Array.getElem?_setIfInBounds_self_of_lt (by simp; omega)]
  ·
   rw [Array.getElem?_setIfInBounds_self_of_lt (by simp; omega)]
 ·
  simp only [if_neg hji]; refine ⟨?_, ?_, ?_⟩
  ·
   rw [Array.getElem?_setIfInBounds_ne (by omega), Array.getElem?_setIfInBounds_ne (by omega), Array.getElem?_setIfInBounds_ne (by omega)]; exact (h3 j hj).1
  ·
   rw [Array.getElem?_setIfInBounds_ne (by omega), Array.getElem?_setIfInBounds_ne (by omega), Array.getElem?_setIfInBounds_ne (by omega)]; exact (h3 j hj).2.1
  ·
   rw [Array.getElem?_setIfInBounds_ne (by omega), Array.getElem?_setIfInBounds_ne (by omega), Array.getElem?_setIfInBounds_ne (by omega)]; exact (h3 j hj).2.2
def df_mV (a j : Nat) : S90 := ⟨⟨((a + 3 * j : Nat) : Int), ((a + 3 * j + 1 : Nat) : Int)⟩, (Int.tmod ((a + 3 * j + 2 : Nat) : Int) 3 == 0)⟩
theorem df_markV_walk (w : World) (b N n cap a : Nat) (c : Nat → S90) (hS : df_Sv w b N n c) (hn : a + 3 * n ≤ 1000000000) :
  Calls Tryd.prog 41 #[.slice (some ⟨b, 0, none⟩) n cap, .int .i64 (a : Int)] w fun e w' => e = .returned (.int .i64 ((a + 3 * n : Nat) : Int)) ∧ (∃ d, df_Sv w' b N n d ∧ ∀ j, j < n → d j = df_mV a j) ∧ Kept w w' (· = b) ∧ Below b w w' := by
 have HS := am_ hS; clear hS
 go_enter Tryd.func41, Tryd.ntmps41
 go_wp2
 go_loopg [1, 5] n (fun gg s1 s5 wr => ∃ (x : Nat) (d : Nat → S90) (K : Int), x ≤ n ∧ n - x ≤ gg ∧ s1 = .int .i64 K ∧ s5 = .int .i64 (x : Int) ∧ Aside0 (K = ((a + 3 * x : Nat) : Int)) ∧ Aside0 (df_Sv wr b N n d) ∧ Aside0 (∀ j, j < x → d j = df_mV a j) ∧ Aside0 (Kept w wr (· = b)) ∧ Aside0 (Below b w wr))
 case atStart => exact ⟨0, c, (a : Int), Nat.zero_le _, by omega, rfl, rfl, ⟨by omega⟩, HS, ⟨fun j hj => absurd hj (Nat.not_lt_zero _)⟩, ⟨Kept.refl _ _⟩, ⟨Below.refl _ _⟩⟩
 case round =>
  obtain ⟨x, d, K, hx, hgg, rfl, rfl, HK, HD, HM, HKe, HB⟩ := hrel
  by_cases hlt : x < n
  ·
   have hxi : (x : Int) < (n : Int) := by omega
   have hx0 : (0 : Int) ≤ (x : Int) := by omega
   obtain ⟨⟨c0, c1, c2⟩, f0, f1, f2⟩ := HD.out.cells x hlt; have hK := HK.out; obtain ⟨K1, hK1⟩ : ∃ K1 : Int, K1 = ((a + 3 * x + 1 : Nat) : Int) := ⟨_, rfl⟩; obtain ⟨K2, hK2⟩ : ∃ K2 : Int, K2 = ((a + 3 * x + 2 : Nat) : Int) := ⟨_, rfl⟩; obtain ⟨K3, hK3⟩ : ∃ K3 : Int, K3 = ((a + 3 * (x + 1) : Nat) : Int) := ⟨_, rfl⟩; have e1 : wrap64 (K + 1) = K1 := by rw [df_w _ (by omega) (by omega)]; omega
   have e2 : wrap64 (K1 + 1) = K2 := by rw [df_w _ (by omega) (by omega)]; omega
   have e3 : wrap64 (K2 + 1) = K3 := by rw [df_w _ (by omega) (by omega)]; omega
   have hmx : df_mV a x = ⟨⟨K, K1⟩, (Int.tmod K2 3 == 0)⟩ := by unfold df_mV; rw [hK, hK1, hK2]
   have HX := am_ (And.intro hmx (And.intro hK3 (HD.out.set x hlt ⟨⟨K, K1⟩, (Int.tmod K2 3 == 0)⟩))); clear hK hK1 hK2 hK3 hmx
   go_wp2
   go_roundg (n - (x + 1))
   case measure => omega
   case rel =>
    refine ⟨x + 1, _, K3, by omega, by omega, by first | rfl | (simp only [e1, e2, e3]), by first | rfl | (congr 1; omega) | (rw [df_w _ (by omega) (by omega)]; rfl), ⟨HX.out.2.1⟩, ⟨by first | exact HX.out.2.2 | (simp only [e1, e2, e3] ; exact HX.out.2.2)⟩, ⟨fun j hj => ?_⟩, ⟨by first | exact ((HKe.out.setCell (.inl rfl) _).setCell (.inl rfl) _).setCell (.inl rfl) _⟩, ⟨by first | exact ((HB.out.setCell (Nat.le_refl _) _).setCell (Nat.le_refl _) _).setCell (Nat.le_refl _) _⟩⟩; show (if j = x then _ else _) = _
    by_cases hjx : j = x
    ·
     subst hjx; rw [if_pos rfl]; exact HX.out.1.symm
    ·
     rw [if_neg hjx]; exact HM.out j (by omega)
  ·
   obtain rfl : x = n := by omega
   go_wp2
   go_ret
   exact ⟨by rw [HK.out]; rfl, ⟨d, HD.out, HM.out⟩, HKe.out, HB.out⟩
theorem df_markV0 (A : Option Addr) (cap : Nat) (a : Int) (w : World) : Calls Tryd.prog 41 #[.slice A 0 cap, .int .i64 a] w fun e w' => e = .returned (.int .i64 a) ∧ w' = w := by
 go_enter Tryd.func41, Tryd.ntmps41
 go_wp2
 go_loopg [1, 5] 0 (fun gg s1 s5 wr => s1 = .int .i64 a ∧ s5 = .int .i64 0 ∧ wr = w)
 case atStart => exact ⟨rfl, rfl, rfl⟩
 case round =>
  obtain ⟨rfl, rfl, rfl⟩ := hrel
  go_wp2
  go_ret
  exact ⟨rfl, rfl⟩
theorem df_sv_of {w : World} {base : Nat} {ok : Nat → Prop} {v : Value} {xs : List S90} (h : k90.R 90 w base ok v xs) (hp : 0 < xs.length) : ∃ g cap, v = .slice (some ⟨g, 0, none⟩) xs.length cap ∧ base ≤ g ∧ xs.length ≤ cap ∧ cap ≤ maxLen ∧ df_Sv w g (cap * 3) xs.length (fun j => xs.getD j z90) := by
 obtain ⟨_, inner, ⟨hlen, hcase⟩, hreps⟩ := h
 rcases hcase with ⟨_, h0⟩ | ⟨g, cap, cur, rfl, hg, hheap, hncap, hcap, hsz, htake⟩
 ·
  omega
 ·
  refine ⟨g, cap, rfl, hg, hncap, hcap, cur, hheap, hsz, fun j hj => ?_⟩; have hx := List.getElem?_eq_getElem hj; have hM := k90_openM (hreps.2 j xs[j] hx); have e : xs.getD j z90 = xs[j] := by simp [List.getD, hx]
  show cur[j * 3]? = some (.int .i64 (xs.getD j z90).f0.f0) ∧ cur[j * 3 + 1]? = some (.int .i64 (xs.getD j z90).f0.f1) ∧ cur[j * 3 + 2]? = some (.bool (xs.getD j z90).f1); rw [e]; have hM' : (inner.drop (j * 3)).take 3 = [.int .i64 xs[j].f0.f0, .int .i64 xs[j].f0.f1, .bool xs[j].f1] := hM
  have q : ∀ t, t < 3 → cur[j * 3 + t]? = ((inner.drop (j * 3)).take 3)[t]? := fun t ht => by
   rw [List.getElem?_take, if_pos ht, List.getElem?_drop, ← htake, List.getElem?_take, if_pos (by show j * 3 + t < xs.length * 3; omega), Array.getElem?_toList]
  exact ⟨by have := q 0 (by omega); rw [hM'] at this; exact this, by have := q 1 (by omega); rw [hM'] at this; exact this, by have := q 2 (by omega); rw [hM'] at this; exact this⟩
theorem df_RV_of {w : World} {base : Nat} {ok : Nat → Prop} {g cap : Nat} {ys : List S90} {d : Nat → S90} (h : df_Sv w g (cap * 3) ys.length d) (hy : ∀ m, m < ys.length → ys[m]? = some (d m)) (hb : base ≤ g) (hl : ys.length ≤ cap) (hc : cap ≤ maxLen) (hok : ok g) : k90.R 90 w base ok (.slice (some ⟨g, 0, none⟩) ys.length cap) ys := by
 obtain ⟨cur, h1, h2, h3⟩ := h
 have hL : (cur.toList.take (ys.length * 3)).length = ys.length * 3 := by
  have : cur.toList.length = cap * 3 := h2; rw [List.length_take, this]; omega
 refine ⟨fun k hk => ?_, cur.toList.take (ys.length * 3), ⟨hL, .inr ⟨g, cap, cur, rfl, hb, h1, hl, hc, h2, rfl⟩⟩, hL, fun j p hj => ?_⟩
 ·
  have : g = k := by simpa [Value.ownBlock] using hk
  subst this; exact hok
 ·
  have hjl : j < ys.length := (List.getElem?_eq_some_iff.1 hj).1; have e := hy j hjl; rw [hj] at e; obtain rfl := Option.some.inj e
  have q : ((cur.toList.take (ys.length * 3)).drop (j * 3)).take 3 = [.int .i64 (d j).f0.f0, .int .i64 (d j).f0.f1, .bool (d j).f1] := by
   apply List.ext_getElem?
   intro t; rw [List.getElem?_take]
   by_cases ht : t < 3
   ·
    rw [if_pos ht, List.getElem?_drop, List.getElem?_take, if_pos (by omega), Array.getElem?_toList]
    rcases (show t = 0 ∨ t = 1 ∨ t = 2 by omega) with rfl | rfl | rfl
    ·
     exact (h3 j hjl).1
    ·
     exact (h3 j hjl).2.1
    ·
     exact (h3 j hjl).2.2
   ·
    rw [if_neg ht]
    simp; omega
  show k90.M w base _ (d j) (((cur.toList.take (ys.length * 3)).drop (j * 3)).take 3); rw [q]; exact k90_mkM _ _ _ _
/-- Values are marked. -/
theorem df_markV {w : World} {base : Nat} {ok : Nat → Prop} {v : Value} {xs : List S90} (a : Nat) (hR : k90.R 90 w base ok v xs) (hbw : base ≤ w.heap.size) (hn : a + 3 * xs.length ≤ 1000000000) :
  Calls Tryd.prog 41 #[v, .int .i64 (a : Int)] w fun e w' => e = .returned (.int .i64 ((a + 3 * xs.length : Nat) : Int)) ∧ k90.R 90 w' base ok v (df_upV a xs.length) ∧ Kept w w' (fun k => some k = v.ownBlock) ∧ Below base w w' := by
 rcases Nat.eq_zero_or_pos xs.length with h0 | h0
 ·
  obtain rfl := List.eq_nil_of_length_eq_zero h0; obtain ⟨A, c, rfl⟩ := Kd.R_slice hR; refine (df_markV0 A c a w).mono ?_; rintro e w' ⟨rfl, rfl⟩; exact ⟨rfl, hR, Kept.refl _ _, Below.refl _ _⟩
 ·
  obtain ⟨b, cap, rfl, hb, hnc, hcm, hS⟩ := df_sv_of hR h0; refine (df_markV_walk w b (cap * 3) xs.length cap a _ hS hn).mono ?_; rintro e w' ⟨rfl, ⟨d, hd, hm⟩, hK, hB⟩; have hl := df_upV_len a xs.length; refine ⟨rfl, ?_, hK.mono (fun k hk => by subst hk; rfl), hB.mono hb⟩; have := df_RV_of (base := base) (ok := ok) (ys := df_upV a xs.length) (hl.symm ▸ hd) (fun m hm' => by rw [hl] at hm'; rw [df_upV_at a _ m hm', hm m hm']; rfl) hb (by omega) hcm (hR.1 b rfl)
  rwa [hl] at this
/-- Blocks of such types stay. -/
def df_Tk (T : TypeId → Prop) (W W' : World) : Prop := ∀ (k : Nat) (cs : Array Value) (t : TypeId), W.heap[k]? = some (.cells cs t (0, 0)) → T t → W'.heap[k]? = some (.cells cs t (0, 0))
theorem df_Tk.mono {T T' : TypeId → Prop} {W W' : World} (h : df_Tk T W W') (ht : ∀ t, T' t → T t) : df_Tk T' W W' := fun k cs t e h' => h k cs t e (ht t h')
theorem df_Tk.trans {T : TypeId → Prop} {a b c : World} (h : df_Tk T a b) (h' : df_Tk T b c) : df_Tk T a c := fun k cs t e ht => h' k cs t (h k cs t e ht) ht
theorem df_Tk.below {T : TypeId → Prop} {a b : World} (h : Below a.heap.size a b) : df_Tk T a b := fun k cs t e _ => blk_below e h
theorem df_tkR {α : Type} {d : Kd α} {W W' : World} {T : TypeId → Prop} {e b : Nat} {ok : Nat → Prop} {v : Value} {xs : List α} (h : d.R e W b ok v xs) (hE : d.E = []) (hk : df_Tk T W W') (hT : T e) : d.R e W' b ok v xs := by
 refine Kd.R_mono (Kd.R_move (Kd.R_bound h) (fun k hk' => ?_)) (fun k hk' => hk'.1); obtain ⟨_, _, _, q, hq, cells, hc⟩ := hk'; rw [hE, List.mem_singleton] at hq; subst hq; exact (hk k cells _ hc hT).trans hc.symm
theorem df_tk_of {α : Type} {d : Kd α} {W W' : World} {e b : Nat} {ok : Nat → Prop} {v : Value} {xs : List α} (h : d.R e W b ok v xs) (hk : Kept W W' (fun k => some k = v.ownBlock)) : df_Tk (fun t => t ≠ e) W W' := fun k cs t ek ht => by
 refine (hk.2 k (blk_lt ek) (fun hs => ?_)).trans ek; obtain ⟨cells, hc⟩ := Kd.R_typed h k hs.symm; rw [ek] at hc
 injection hc with hc
 injection hc with _ hc
 exact ht hc
theorem df_Ap.tk {W W' : World} {T : TypeId → Prop} {b g n : Nat} {vs : Nat → Sl} {f : Nat → Nat} {rows : Nat → List S54} (h : df_Ap W b g n vs f rows) (hk : df_Tk T W W') (h1 : T 36) (h2 : T 54) : df_Ap W' b g n vs f rows := by
 obtain ⟨⟨cur, c1, c2⟩, c3⟩ := h; exact ⟨⟨cur, hk g cur _ c1 h1, c2⟩, fun j hj => ⟨df_tkR (c3 j hj).1 rfl hk h2, (c3 j hj).2⟩⟩
theorem df_Ap.congr {w : World} {b g n : Nat} {vs : Nat → Sl} {f : Nat → Nat} {rows rows' : Nat → List S54} (h : df_Ap w b g n vs f rows) (e : ∀ j, j < n → rows j = rows' j) : df_Ap w b g n vs f rows' :=
 ⟨h.1, fun j hj => by rw [← e j hj]; exact h.2 j hj⟩
theorem df_mk_step {W W' : World} {b g n : Nat} {vs : Nat → Sl} {f : Nat → Nat} {rows : Nat → List S54} (a x : Nat) (hx : x < n) (h : df_Ap W b g n vs f (df_mkd a rows x)) (h1 : k54.R 54 W' b (fun k => some k = (encSl (vs x)).ownBlock ∨ W.heap.size ≤ k) (encSl (vs x)) (df_upS (a + 2 * df_tot rows x) (rows x).length)) (hk : Kept W W' (fun k => some k = (encSl (vs x)).ownBlock)) : df_Ap W' b g n vs f (df_mkd a rows (x + 1)) ∧ df_Tk (fun t => t ≠ 54) W W' := by
 obtain ⟨⟨cur, c1, c2⟩, c3⟩ := h; have keep := df_tk_of (c3 x hx).1 hk
 have hlx : (vs x).2.1 = (rows x).length := by
  have := (c3 x hx).2; unfold df_mkd at this
  rwa [if_neg (Nat.lt_irrefl x)] at this
 refine ⟨⟨⟨cur, keep g cur _ c1 (by decide), c2⟩, fun j hj => ?_⟩, keep⟩
 by_cases hjx : j = x
 ·
  subst hjx; have e : df_mkd a rows (j + 1) j = df_upS (a + 2 * df_tot rows j) (rows j).length := by unfold df_mkd; rw [if_pos (by omega)]
  rw [e]; exact ⟨Kd.R_reok rfl h1 (fun k hk => (c3 j hj).1.1 k hk), by rw [df_upS_len]; exact hlx⟩
 ·
  have e : df_mkd a rows (x + 1) j = df_mkd a rows x j := by
   unfold df_mkd
   by_cases h1 : j < x
   ·
    rw [if_pos h1, if_pos (by omega)]
   ·
    rw [if_neg h1, if_neg (by omega)]
  rw [e]; exact ⟨Kd.R_mono (Kd.R_keptB (c3 j hj).1 hk (fun k hk hs => hjx (hk.symm.trans ((c3 x hx).1.1 k hs.symm)))) (fun k hk => hk.1), (c3 j hj).2⟩
theorem df_below_of {b : Nat} {B w w' : World} (h : Below b B w) (h' : Below b B w') (hs : w.heap.size ≤ w'.heap.size) : Below b w w' :=
 ⟨h'.os.trans h.os.symm, h'.tape.trans h.tape.symm, h'.output.trans h.output.symm, hs, fun k hk => (h'.block k hk).trans (h.block k hk).symm⟩
theorem df_markSS_walk (B w : World) (g n cap a top : Nat) (vs : Nat → Sl) (f : Nat → Nat) (rows : Nat → List S54) (h : df_Ap w B.heap.size g n vs f rows) (hB : Below B.heap.size B w) (htop : ∀ j, j < n → ∀ k, (encSl (vs j)).ownBlock = some k → k < top) (ht : a + 2 * df_tot rows n ≤ 1000000000) (hn : n ≤ 100000000) :
  Calls Tryd.prog 40 #[.slice (some ⟨g, 0, none⟩) n cap, .int .i64 (a : Int)] w fun e w' => e = .returned (.int .i64 ((a + 2 * df_tot rows n : Nat) : Int)) ∧ df_Ap w' B.heap.size g n vs f (df_mkd a rows n) ∧ Below B.heap.size B w' ∧ df_Tk (fun t => t ≠ 54) w w' ∧ Kept w w' (fun k => B.heap.size ≤ k ∧ k < top) := by
 have HA0 := am_ (h.congr (rows' := df_mkd a rows 0) (fun j hj => by unfold df_mkd; rw [if_neg (Nat.not_lt_zero j)])); have HB0 := am_ hB; have HT := am_ htop; clear h hB htop
 go_enter Tryd.func40, Tryd.ntmps40
 go_wp2
 go_loopg [1, 5] n (fun gg s1 s5 wr => ∃ (x : Nat) (kk : Int), x ≤ n ∧ n - x ≤ gg ∧ s1 = .int .i64 kk ∧ s5 = .int .i64 (x : Int) ∧ Aside0 (kk = ((a + 2 * df_tot rows x : Nat) : Int)) ∧ Aside0 (df_Ap wr B.heap.size g n vs f (df_mkd a rows x)) ∧ Aside0 (Below B.heap.size B wr) ∧ Aside0 (df_Tk (fun t => t ≠ 54) w wr) ∧ Aside0 (Kept w wr (fun k => B.heap.size ≤ k ∧ k < top)))
 case atStart => exact ⟨0, (a : Int), Nat.zero_le _, by omega, rfl, rfl, ⟨by simp [df_tot]⟩, HA0, HB0, ⟨df_Tk.below (Below.refl _ _)⟩, ⟨Kept.refl _ _⟩⟩
 case round =>
  obtain ⟨x, kk, hx, hgg, rfl, rfl, HK, HA, HB, HTk, HKe⟩ := hrel
  by_cases hlt : x < n
  ·
   have hxi : (x : Int) < (n : Int) := by omega
   have hx0 : (0 : Int) ≤ (x : Int) := by omega
   have hsm := df_tot_le rows (show x + 1 ≤ n from hlt); simp only [df_tot] at hsm; have hA := HA.out; obtain ⟨⟨cur, h1, h2⟩, h3⟩ := hA; have hrx : df_mkd a rows x x = rows x := by unfold df_mkd; rw [if_neg (Nat.lt_irrefl x)]
   have hR := (h3 x hlt).1; rw [hrx] at hR; have c0 : wr.cell? ⟨g, x, none⟩ = some (.slice (vs x).1 (vs x).2.1 (vs x).2.2) := by rw [blk_cell h1, h2 x hlt]
   have hown : ∀ k, (encSl (vs x)).ownBlock = some k → B.heap.size ≤ k ∧ k < top := fun k hk => ⟨Kd.R_base hR k hk, HT.out x hlt k hk⟩
   have hT : Calls Tryd.prog 14 #[.slice (vs x).1 (vs x).2.1 (vs x).2.2, .int .i64 kk] wr fun e w' => e = .returned (.int .i64 ((a + 2 * df_tot rows (x + 1) : Nat) : Int)) ∧ df_Ap w' B.heap.size g n vs f (df_mkd a rows (x + 1)) ∧ Below B.heap.size B w' ∧ df_Tk (fun t => t ≠ 54) wr w' ∧ Kept wr w' (fun k => B.heap.size ≤ k ∧ k < top) := by
    rw [HK.out]; have hm := df_markS (a + 2 * df_tot rows x) (rows x) ((rows x).length + 1) (by omega) (by omega); refine (laws_markSymS.calls _ (fun k => some k = (encSl (vs x)).ownBlock) (encSl (vs x)) (rows x) _ _ _ B wr HB.out (Kd.R_tight rfl hR) hm).mono ?_; rintro e w' ⟨rfl, r1, r2, r3⟩; obtain ⟨q1, q2⟩ := df_mk_step a x hlt HA.out r1 r3; exact ⟨by rw [show a + 2 * df_tot rows x + 2 * (rows x).length = a + 2 * df_tot rows (x + 1) by simp only [df_tot]; omega], q1, r2, q2, r3.mono (fun k hk => hown k hk.symm)⟩
   have HTT := am_ hT; clear hT hR h1 h2 h3 hown
   go_wp2_with (go_at_call 14; refine HTT.out.mono ?_; rintro e w1 ⟨rfl, ha1, hb1, ht1, hk1⟩)
   go_roundg (n - (x + 1))
   case measure => omega
   case rel => exact ⟨x + 1, _, by omega, by omega, rfl, by first | rfl | (congr 1; omega) | (rw [df_w _ (by omega) (by omega)]; rfl) | (rw [df_w _ (by omega) (by omega)]; congr 1; omega), ⟨rfl⟩, ⟨ha1⟩, ⟨hb1⟩, ⟨HTk.out.trans ht1⟩, ⟨HKe.out.then_ hk1 (fun k hk => .inl hk)⟩⟩
  ·
   obtain rfl : x = n := by omega
   go_wp2
   go_ret
   exact ⟨by rw [HK.out]; rfl, HA.out, HB.out, HTk.out, HKe.out⟩
theorem df_markSS0 (A : Option Addr) (cap : Nat) (a : Int) (w : World) : Calls Tryd.prog 40 #[.slice A 0 cap, .int .i64 a] w fun e w' => e = .returned (.int .i64 a) ∧ w' = w := by
 go_enter Tryd.func40, Tryd.ntmps40
 go_wp2
 go_loopg [1, 5] 0 (fun gg s1 s5 wr => s1 = .int .i64 a ∧ s5 = .int .i64 0 ∧ wr = w)
 case atStart => exact ⟨rfl, rfl, rfl⟩
 case round =>
  obtain ⟨rfl, rfl, rfl⟩ := hrel
  go_wp2
  go_ret
  exact ⟨rfl, rfl⟩
/-- A row of rows between two bounds of the memory. -/
def df_Bs (w : World) (b top : Nat) (v0 : Value) (bs : List (List S54)) : Prop :=
 (bs = [] ∧ ∃ A c, v0 = .slice A 0 c) ∨ (0 < bs.length ∧ ∃ g cap vs f, v0 = .slice (some ⟨g, 0, none⟩) bs.length cap ∧ bs.length ≤ cap ∧ b ≤ g ∧ g < top ∧ df_Ap w b g bs.length vs f (fun j => bs.getD j []) ∧ ∀ j, j < bs.length → ∀ k, (encSl (vs j)).ownBlock = some k → k < top)
/-- A row of segments between two bounds of the memory. -/
def df_Sg (w : World) (b top : Nat) (v0 v1 v2 : Value) (bs : List (List S54)) (vl : List S90) (mb : List Bool) : Prop :=
 df_Bs w b top v0 bs ∧ k90.R 90 w b (fun k => k < top) v1 vl ∧ Kd.bool.R 4 w b (fun k => k < top) v2 mb
theorem df_Bs.tk {W W' : World} {T : TypeId → Prop} {b top : Nat} {v0 : Value} {bs : List (List S54)} (h : df_Bs W b top v0 bs) (hk : df_Tk T W W') (h1 : T 36) (h2 : T 54) : df_Bs W' b top v0 bs := by
 rcases h with h | ⟨h0, g, cap, vs, f, e, hc, hg, hgt, hA, ht⟩
 ·
  exact .inl h
 ·
  exact .inr ⟨h0, g, cap, vs, f, e, hc, hg, hgt, hA.tk hk h1 h2, ht⟩
theorem df_Bs.kept {W W' : World} {b top : Nat} {v0 : Value} {bs : List (List S54)} {S : Nat → Prop} (h : df_Bs W b top v0 bs) (hk : Kept W W' S) (hS : ∀ k, b ≤ k → k < top → ¬ S k) : df_Bs W' b top v0 bs := by
 rcases h with h | ⟨h0, g, cap, vs, f, e, hc, hg, hgt, ⟨⟨cur, c1, c2⟩, c3⟩, ht⟩
 ·
  exact .inl h
 ·
  refine .inr ⟨h0, g, cap, vs, f, e, hc, hg, hgt, ⟨⟨cur, (hk.2 g (blk_lt c1) (hS g hg hgt)).trans c1, c2⟩, fun j hj => ⟨?_, (c3 j hj).2⟩⟩, ht⟩; have hR := (c3 j hj).1; exact Kd.R_reok rfl (Kd.R_mono (Kd.R_keptB (Kd.R_tight rfl hR) hk (fun k hk' hs => hS k (Kd.R_base hR k hk'.symm) (ht j hj k hk'.symm) hs)) (fun k hk' => hk'.1)) (fun k hk' => hR.1 k hk')
theorem df_keptR {α : Type} {d : Kd α} {W W' : World} {e b top : Nat} {v : Value} {xs : List α} {S : Nat → Prop} (h : d.R e W b (fun k => k < top) v xs) (hE : d.E = []) (hk : Kept W W' S) (hS : ∀ k, b ≤ k → k < top → ¬ S k) : d.R e W' b (fun k => k < top) v xs :=
 Kd.R_reok hE (Kd.R_mono (Kd.R_keptB (Kd.R_tight hE h) hk (fun k hk' hs => hS k (Kd.R_base h k hk'.symm) (h.1 k hk'.symm) hs)) (fun k hk' => hk'.1)) (fun k hk' => h.1 k hk')
theorem df_Sg.kept {W W' : World} {b top : Nat} {v0 v1 v2 : Value} {bs : List (List S54)} {vl : List S90} {mb : List Bool} {S : Nat → Prop} (h : df_Sg W b top v0 v1 v2 bs vl mb) (hk : Kept W W' S) (hS : ∀ k, b ≤ k → k < top → ¬ S k) : df_Sg W' b top v0 v1 v2 bs vl mb :=
 ⟨h.1.kept hk hS, df_keptR h.2.1 rfl hk hS, df_keptR h.2.2 rfl hk hS⟩
theorem df_Sg.below {W W' : World} {b top : Nat} {v0 v1 v2 : Value} {bs : List (List S54)} {vl : List S90} {mb : List Bool} (h : df_Sg W b top v0 v1 v2 bs vl mb) (hb : Below W.heap.size W W') : df_Sg W' b top v0 v1 v2 bs vl mb :=
 h.kept (Kept.of_below hb (fun _ => False)) (fun _ _ _ => id)
theorem df_markSS (B w : World) (a top : Nat) (v0 : Value) (bs : List (List S54)) (h : df_Bs w B.heap.size top v0 bs) (hB : Below B.heap.size B w) (ht : a + 2 * df_tot (fun j => bs.getD j []) bs.length ≤ 1000000000) (hn : bs.length ≤ 100000000) :
  Calls Tryd.prog 40 #[v0, .int .i64 (a : Int)] w fun e w' => e = .returned (.int .i64 ((a + 2 * df_tot (fun j => bs.getD j []) bs.length : Nat) : Int)) ∧ df_Bs w' B.heap.size top v0 (df_mkL a bs) ∧ Below B.heap.size B w' ∧ df_Tk (fun t => t ≠ 54) w w' ∧ Kept w w' (fun k => B.heap.size ≤ k ∧ k < top) := by
 rcases h with ⟨rfl, A, c, rfl⟩ | ⟨h0, g, cap, vs, f, rfl, hc, hg, hgt, hA, htop⟩
 ·
  refine (df_markSS0 A c a w).mono ?_; rintro e w' ⟨rfl, rfl⟩; exact ⟨rfl, .inl ⟨rfl, A, c, rfl⟩, hB, df_Tk.below (Below.refl _ _), Kept.refl _ _⟩
 ·
  refine (df_markSS_walk B w g bs.length cap a top vs f _ hA hB htop ht hn).mono ?_; rintro e w' ⟨rfl, q1, q2, q3, q4⟩; have hl := df_mkL_len a bs; refine ⟨rfl, .inr ⟨by rw [hl]; exact h0, g, cap, vs, f, by rw [hl], by rw [hl]; exact hc, hg, hgt, ?_, by rw [hl]; exact htop⟩, q2, q3, q4⟩; rw [hl]; refine q1.congr (fun j hj => ?_); unfold df_mkd; rw [if_pos hj]
  simp [List.getD, df_mkL_at a bs j hj]
theorem df_markSeg (B w : World) (a top : Nat) (v0 v1 v2 : Value) (bs : List (List S54)) (vl : List S90) (mb : List Bool) (h : df_Sg w B.heap.size top v0 v1 v2 bs vl mb) (hB : Below B.heap.size B w) (ht : a + 2 * df_tot (fun j => bs.getD j []) bs.length + 3 * vl.length + mb.length ≤ 1000000000) (hn : bs.length ≤ 100000000) :
  Calls Tryd.prog 13 #[.agg #[v0, v1, v2], .int .i64 (a : Int)] w fun e w' => e = .returned (.int .i64 ((a + 2 * df_tot (fun j => bs.getD j []) bs.length + 3 * vl.length + mb.length : Nat) : Int)) ∧ df_Sg w' B.heap.size top v0 v1 v2 (df_mkL a bs) (df_upV (a + 2 * df_tot (fun j => bs.getD j []) bs.length) vl.length) (df_upB (a + 2 * df_tot (fun j => bs.getD j []) bs.length + 3 * vl.length) mb.length) ∧ Below B.heap.size B w' ∧ Kept w w' (fun k => B.heap.size ≤ k ∧ k < top) := by
 have hsl : (∃ A0 n0 c0, v0 = .slice A0 n0 c0) := by
  rcases h.1 with ⟨_, A, c, e⟩ | ⟨_, g, cap, vs, f, e, _⟩
  ·
   exact ⟨_, _, _, e⟩
  ·
   exact ⟨_, _, _, e⟩
 obtain ⟨A0, n0, c0, rfl⟩ := hsl; obtain ⟨A1, c1, rfl⟩ := Kd.R_slice h.2.1; obtain ⟨A2, c2, rfl⟩ := Kd.R_slice h.2.2; have hal : Below w.heap.size w (w.alloc (.cells #[.slice A0 n0 c0, .slice A1 vl.length c1, .slice A2 mb.length c2] 33 (0, 0))) := (Below.refl w.heap.size w).alloc (Nat.le_refl _) _; have P0 := blk_new w (.cells #[.slice A0 n0 c0, .slice A1 vl.length c1, .slice A2 mb.length c2] 33 (0, 0)); have hS1 := h.below hal; have hB1 : Below B.heap.size B _ := hB.trans (hal.mono hB.size); have HKe1 := am_ (Kept.of_below hal (fun k => B.heap.size ≤ k ∧ k < top)); have p0 := cc_ (v := .slice A0 n0 c0) P0 0; have p1 := cc_ (v := .slice A1 vl.length c1) P0 1; have p2 := cc_ (v := .slice A2 mb.length c2) P0 2; have HP0 := am_ P0; have hgs : B.heap.size ≤ w.heap.size := hB.size; have H32 := am_ (df_markSS B _ a top _ bs hS1.1 hB1 (by omega) hn); have HS1 := am_ hS1; have HNN := am_ (And.intro ht hn); clear h hB hal P0 hS1 hB1 ht hn
 go_enter Tryd.func13, Tryd.ntmps13
 go_upto_region 2 with (go_at_call 40; refine H32.out.mono ?_; rintro e w2 ⟨rfl, hs2, hb2, ht2, hk2⟩)
 have P2 := ht2 _ _ _ HP0.out (by decide); have HV2 := am_ (df_tkR HS1.out.2.1 rfl ht2 (by decide)); have HM2 := am_ (df_tkR HS1.out.2.2 rfl ht2 (by decide)); have HS2 := am_ hs2; have HB2 := am_ hb2; have HKe2 := am_ (HKe1.out.then_ hk2 (fun k hk => .inl hk)); have hz2 : B.heap.size ≤ w2.heap.size := Nat.le_trans hgs (Nat.le_trans (Nat.le_of_lt (by rw [df_sz]; omega)) hk2.1); have p0 := cc_ (v := .slice A0 n0 c0) P2 0; have p1 := cc_ (v := .slice A1 vl.length c1) P2 1; have p2 := cc_ (v := .slice A2 mb.length c2) P2 2; have HP2 := am_ P2; have H33 := am_ (df_markV (a + 2 * df_tot (fun j => bs.getD j []) bs.length) HV2.out hz2 (by have := HNN.out.1; omega)); clear hs2 hb2 ht2 hk2 P2 HKe1 HS1 H32 HP0
 go_upto_region 3 with (go_at_call 41; refine H33.out.mono ?_; rintro e w3 ⟨rfl, hv3, hk3, hb3⟩)
 have htk3 := df_tk_of HV2.out hk3; have P3 := htk3 _ _ _ HP2.out (by decide); have HM3 := am_ (df_tkR HM2.out rfl htk3 (by decide)); have HS3 := am_ (HS2.out.tk htk3 (by decide) (by decide)); have HV3 := am_ hv3; have HB3 := am_ (show Below B.heap.size B w3 from HB2.out.trans hb3); have hR2 := HV2.out; have HKe3 := am_ (HKe2.out.then_ hk3 (fun k hk => .inl ⟨Kd.R_base hR2 k hk.symm, hR2.1 k hk.symm⟩)); have p0 := cc_ (v := .slice A0 n0 c0) P3 0; have p1 := cc_ (v := .slice A1 vl.length c1) P3 1; have p2 := cc_ (v := .slice A2 mb.length c2) P3 2; have hm := df_markB (a + 2 * df_tot (fun j => bs.getD j []) bs.length + 3 * vl.length) mb (mb.length + 1) (by omega) (by have := HNN.out.1; omega); have H34 := am_ (laws_markBoolS.calls _ (fun k => some k = (Value.slice A2 mb.length c2).ownBlock) (.slice A2 mb.length c2) mb _ _ _ B w3 HB3.out (Kd.R_tight rfl HM3.out) hm); clear hk3 hb3 hv3 P3 htk3 HKe2 HS2 HM2 HB2 H33 HP2 hm hR2 HV2
 go_wp2_with (go_at_call 42; refine H34.out.mono ?_; rintro e w4 ⟨rfl, hm4, hb4, hk4⟩)
 go_ret
 have htk4 := df_tk_of HM3.out hk4; have hR3 := HM3.out; exact ⟨rfl, ⟨HS3.out.tk htk4 (by decide) (by decide), df_tkR HV3.out rfl htk4 (by decide), Kd.R_reok rfl hm4 (fun k hk => hR3.1 k hk)⟩, hb4, HKe3.out.then_ hk4 (fun k hk => .inl ⟨Kd.R_base hR3 k hk.symm, hR3.1 k hk.symm⟩)⟩
/-- The world's lower part, as a world. -/
def df_cut (w : World) (b : Nat) : World := { w with heap := w.heap.extract 0 b }
theorem df_cut_size {w : World} {b : Nat} (h : b ≤ w.heap.size) : (df_cut w b).heap.size = b := by simp [df_cut]; omega
theorem df_cut_below {w : World} {b : Nat} (h : b ≤ w.heap.size) : Below b (df_cut w b) w :=
 ⟨rfl, rfl, rfl, by rw [df_cut_size h]; exact h, fun k hk => by simp [df_cut, Array.getElem?_extract, hk]; omega⟩
theorem df_markSeg' (w : World) (b a top : Nat) (v0 v1 v2 : Value) (bs : List (List S54)) (vl : List S90) (mb : List Bool) (hb : b ≤ w.heap.size) (h : df_Sg w b top v0 v1 v2 bs vl mb) (ht : a + 2 * df_tot (fun j => bs.getD j []) bs.length + 3 * vl.length + mb.length ≤ 1000000000) (hn : bs.length ≤ 100000000) :
  Calls Tryd.prog 13 #[.agg #[v0, v1, v2], .int .i64 (a : Int)] w fun e w' => e = .returned (.int .i64 ((a + 2 * df_tot (fun j => bs.getD j []) bs.length + 3 * vl.length + mb.length : Nat) : Int)) ∧ df_Sg w' b top v0 v1 v2 (df_mkL a bs) (df_upV (a + 2 * df_tot (fun j => bs.getD j []) bs.length) vl.length) (df_upB (a + 2 * df_tot (fun j => bs.getD j []) bs.length + 3 * vl.length) mb.length) ∧ Below b w w' ∧ Kept w w' (fun k => b ≤ k ∧ k < top) := by
 have e := df_cut_size hb; have hB := df_cut_below hb; have := df_markSeg (df_cut w b) w a top v0 v1 v2 bs vl mb (e.symm ▸ h) (e.symm ▸ hB) ht hn; rw [e] at this; refine this.mono ?_; rintro e w' ⟨h1, h2, h3, h4⟩; exact ⟨h1, h2, df_below_of hB h3 h4.1, h4⟩
theorem df_markS' (w : World) (b a top : Nat) (v : Value) (ts : List S54) (hb : b ≤ w.heap.size) (h : k54.R 54 w b (fun k => k < top) v ts) (ht : a + 2 * ts.length ≤ 1000000000) :
  Calls Tryd.prog 14 #[v, .int .i64 (a : Int)] w fun e w' => e = .returned (.int .i64 ((a + 2 * ts.length : Nat) : Int)) ∧ k54.R 54 w' b (fun k => k < top) v (df_upS a ts.length) ∧ Below b w w' ∧ Kept w w' (fun k => b ≤ k ∧ k < top) := by
 have e := df_cut_size hb; have hB := df_cut_below hb; have hm := df_markS a ts (ts.length + 1) (by omega) ht; have hR := Kd.R_tight rfl h; rw [← e] at hR; have := laws_markSymS.calls _ (fun k => some k = v.ownBlock) v ts _ _ _ (df_cut w b) w (e.symm ▸ hB) hR hm; rw [e] at this; refine this.mono ?_; rintro e w' ⟨h1, h2, h3, h4⟩; exact ⟨h1, Kd.R_reok rfl h2 (fun k hk => h.1 k hk), df_below_of hB h3 h4.1, h4.mono (fun k hk => ⟨Kd.R_base h k hk.symm, h.1 k hk.symm⟩)⟩
abbrev df_ag (x0 x1 x2 : Sl) : Value := .agg #[.slice x0.1 x0.2.1 x0.2.2, .slice x1.1 x1.2.1 x1.2.2, .slice x2.1 x2.2.1 x2.2.2]
abbrev df_cl (x0 x1 x2 : Sl) : Array Value := #[.slice x0.1 x0.2.1 x0.2.2, .slice x1.1 x1.2.1 x1.2.2, .slice x2.1 x2.2.1 x2.2.2]
/-- All that the law holds, from its first comparison on. -/
def df_ST (w : World) (gA g10 g11 g13 b0 t0 b2 t2 b3 t3 bg tg : Nat) (y0 y1 y2 z0 z1 z2 x0 x1 x2 x3 g0 g1 g2 : Sl) (s0 : List (List S54)) (s1 : List S90) (s2 : List Bool) (c0 : List (List S54)) (c1 : List S90) (c2 : List Bool) (ts : List S54) (r0 : List (List S54)) (r1 : List S90) (r2 : List Bool) (W : World) : Prop :=
 Below w.heap.size w W ∧ W.heap[gA]? = some (.cells (df_cl y0 y1 y2) 26 (0, 0)) ∧ W.heap[g10]? = some (.cells (df_cl z0 z1 z2) 33 (0, 0)) ∧ df_Sg W b0 t0 (encSl z0) (encSl z1) (encSl z2) s0 s1 s2 ∧
 W.heap[g11]? = some (.cells (df_cl x0 x1 x2) 33 (0, 0)) ∧ df_Sg W b2 t2 (encSl x0) (encSl x1) (encSl x2) c0 c1 c2 ∧ k54.R 54 W b3 (fun k => k < t3) (encSl x3) ts ∧ W.heap[g13]? = some (.cells (df_cl g0 g1 g2) 33 (0, 0)) ∧ df_Sg W bg tg (encSl g0) (encSl g1) (encSl g2) r0 r1 r2
theorem df_ST.below {w : World} {gA g10 g11 g13 b0 t0 b2 t2 b3 t3 bg tg : Nat} {y0 y1 y2 z0 z1 z2 x0 x1 x2 x3 g0 g1 g2 : Sl} {s0 : List (List S54)} {s1 : List S90} {s2 : List Bool} {c0 : List (List S54)} {c1 : List S90} {c2 : List Bool} {ts : List S54} {r0 : List (List S54)} {r1 : List S90} {r2 : List Bool} {W W' : World}
  (h : df_ST w gA g10 g11 g13 b0 t0 b2 t2 b3 t3 bg tg y0 y1 y2 z0 z1 z2 x0 x1 x2 x3 g0 g1 g2 s0 s1 s2 c0 c1 c2 ts r0 r1 r2 W) (hb : Below W.heap.size W W') : df_ST w gA g10 g11 g13 b0 t0 b2 t2 b3 t3 bg tg y0 y1 y2 z0 z1 z2 x0 x1 x2 x3 g0 g1 g2 s0 s1 s2 c0 c1 c2 ts r0 r1 r2 W' := by
 obtain ⟨h1, h2, h3, h4, h5, h6, h7, h8, h9⟩ := h; exact ⟨below_step h1 hb, blk_below h2 hb, blk_below h3 hb, h4.below hb, blk_below h5 hb, h6.below hb, Kd.R_below h7 hb, blk_below h8 hb, h9.below hb⟩
theorem df_ST.markX {w : World} {gA g10 g11 g13 b0 t0 b2 t2 b3 t3 bg tg : Nat} {y0 y1 y2 z0 z1 z2 x0 x1 x2 x3 g0 g1 g2 : Sl} {s0 : List (List S54)} {s1 : List S90} {s2 : List Bool} {c0 d0 : List (List S54)} {c1 d1 : List S90} {c2 d2 : List Bool} {ts : List S54} {r0 : List (List S54)} {r1 : List S90} {r2 : List Bool} {W W' : World}
  (h : df_ST w gA g10 g11 g13 b0 t0 b2 t2 b3 t3 bg tg y0 y1 y2 z0 z1 z2 x0 x1 x2 x3 g0 g1 g2 s0 s1 s2 c0 c1 c2 ts r0 r1 r2 W) (ho : w.heap.size ≤ gA ∧ gA < b2 ∧ g10 < b2 ∧ t0 ≤ b2 ∧ t2 ≤ g11 ∧ t2 ≤ b3 ∧ t2 ≤ bg ∧ t2 ≤ g13) (hs : df_Sg W' b2 t2 (encSl x0) (encSl x1) (encSl x2) d0 d1 d2) (hb : Below b2 W W') (hk : Kept W W' (fun k => b2 ≤ k ∧ k < t2)) :
  df_ST w gA g10 g11 g13 b0 t0 b2 t2 b3 t3 bg tg y0 y1 y2 z0 z1 z2 x0 x1 x2 x3 g0 g1 g2 s0 s1 s2 d0 d1 d2 ts r0 r1 r2 W' := by
 obtain ⟨h1, h2, h3, h4, h5, h6, h7, h8, h9⟩ := h; have far : ∀ {g : Nat} {o : Obj}, W.heap[g]? = some o → (g < b2 ∨ t2 ≤ g) → W'.heap[g]? = some o := fun {g o} e hg => (hk.2 g (blk_lt e) (fun hs => by omega)).trans e; exact ⟨h1.trans (hb.mono (by omega)), far h2 (by omega), far h3 (by omega), h4.kept hk (fun k _ h2 hs => by omega), far h5 (by omega), hs, df_keptR h7 rfl hk (fun k h1 _ hs => by omega), far h8 (by omega), h9.kept hk (fun k h1 _ hs => by omega)⟩
theorem df_ST.markT {w : World} {gA g10 g11 g13 b0 t0 b2 t2 b3 t3 bg tg : Nat} {y0 y1 y2 z0 z1 z2 x0 x1 x2 x3 g0 g1 g2 : Sl} {s0 : List (List S54)} {s1 : List S90} {s2 : List Bool} {c0 : List (List S54)} {c1 : List S90} {c2 : List Bool} {ts us : List S54} {r0 : List (List S54)} {r1 : List S90} {r2 : List Bool} {W W' : World}
  (h : df_ST w gA g10 g11 g13 b0 t0 b2 t2 b3 t3 bg tg y0 y1 y2 z0 z1 z2 x0 x1 x2 x3 g0 g1 g2 s0 s1 s2 c0 c1 c2 ts r0 r1 r2 W) (ho : w.heap.size ≤ gA ∧ gA < b3 ∧ g10 < b3 ∧ t0 ≤ b3 ∧ g11 < b3 ∧ t2 ≤ b3 ∧ t3 ≤ bg ∧ t3 ≤ g13) (hs : k54.R 54 W' b3 (fun k => k < t3) (encSl x3) us) (hb : Below b3 W W') (hk : Kept W W' (fun k => b3 ≤ k ∧ k < t3)) :
  df_ST w gA g10 g11 g13 b0 t0 b2 t2 b3 t3 bg tg y0 y1 y2 z0 z1 z2 x0 x1 x2 x3 g0 g1 g2 s0 s1 s2 c0 c1 c2 us r0 r1 r2 W' := by
 obtain ⟨h1, h2, h3, h4, h5, h6, h7, h8, h9⟩ := h; have far : ∀ {g : Nat} {o : Obj}, W.heap[g]? = some o → (g < b3 ∨ t3 ≤ g) → W'.heap[g]? = some o := fun {g o} e hg => (hk.2 g (blk_lt e) (fun hs => by omega)).trans e; exact ⟨h1.trans (hb.mono (by omega)), far h2 (by omega), far h3 (by omega), h4.kept hk (fun k _ h2 hs => by omega), far h5 (by omega), h6.kept hk (fun k _ h2 hs => by omega), hs, far h8 (by omega), h9.kept hk (fun k h1 _ hs => by omega)⟩
theorem df_ST.markG {w : World} {gA g10 g11 g13 b0 t0 b2 t2 b3 t3 bg tg : Nat} {y0 y1 y2 z0 z1 z2 x0 x1 x2 x3 g0 g1 g2 : Sl} {s0 : List (List S54)} {s1 : List S90} {s2 : List Bool} {c0 : List (List S54)} {c1 : List S90} {c2 : List Bool} {ts : List S54} {r0 d0 : List (List S54)} {r1 d1 : List S90} {r2 d2 : List Bool} {W W' : World}
  (h : df_ST w gA g10 g11 g13 b0 t0 b2 t2 b3 t3 bg tg y0 y1 y2 z0 z1 z2 x0 x1 x2 x3 g0 g1 g2 s0 s1 s2 c0 c1 c2 ts r0 r1 r2 W) (ho : w.heap.size ≤ gA ∧ gA < bg ∧ g10 < bg ∧ t0 ≤ bg ∧ g11 < bg ∧ t2 ≤ bg ∧ t3 ≤ bg ∧ tg ≤ g13) (hs : df_Sg W' bg tg (encSl g0) (encSl g1) (encSl g2) d0 d1 d2) (hb : Below bg W W') (hk : Kept W W' (fun k => bg ≤ k ∧ k < tg)) :
  df_ST w gA g10 g11 g13 b0 t0 b2 t2 b3 t3 bg tg y0 y1 y2 z0 z1 z2 x0 x1 x2 x3 g0 g1 g2 s0 s1 s2 c0 c1 c2 ts d0 d1 d2 W' := by
 obtain ⟨h1, h2, h3, h4, h5, h6, h7, h8, h9⟩ := h; have far : ∀ {g : Nat} {o : Obj}, W.heap[g]? = some o → (g < bg ∨ tg ≤ g) → W'.heap[g]? = some o := fun {g o} e hg => (hk.2 g (blk_lt e) (fun hs => by omega)).trans e; exact ⟨h1.trans (hb.mono (by omega)), far h2 (by omega), far h3 (by omega), h4.kept hk (fun k _ h2 hs => by omega), far h5 (by omega), h6.kept hk (fun k _ h2 hs => by omega), df_keptR h7 rfl hk (fun k _ h2 hs => by omega), far h8 (by omega), hs⟩
theorem df_law_walk (a0 a1 t t2 : Int) (y0 y1 y2 y3 : Sl) (bs s0 r0 : List (List S54)) (vl s1 r1 : List S90) (mb s2 r2 : List Bool) (ts : List S54) (w : World) (ht : decide (t < 0) = false) (ht2 : decide (t2 < 0) = false)
  (hx : 2 * df_tot (fun j => bs.getD j []) bs.length + 3 * vl.length + mb.length ≤ 100000000 ∧ bs.length ≤ 100000000 ∧ ts.length ≤ 100000000) (hr : 2 * df_tot (fun j => r0.getD j []) r0.length + 3 * r1.length + r2.length ≤ 100000000 ∧ r0.length ≤ 100000000)
  (hSz : ∀ W, Below w.heap.size w W → Calls Tryd.prog 5 #[df_ag y0 y1 y2, .int .i64 1048576] W fun e w' => e = .returned (.int .i64 t) ∧ Below W.heap.size W w')
  (hSz2 : ∀ W, Below w.heap.size w W → Calls Tryd.prog 6 #[.slice y3.1 y3.2.1 y3.2.2, .int .i64 t] W fun e w' => e = .returned (.int .i64 t2) ∧ Below W.heap.size W w')
  (hT : ∀ W, Below w.heap.size w W → Calls Tryd.prog 8 #[df_ag y0 y1 y2] W fun e w' => ∃ x0 x1 x2 : Sl, e = .returned (df_ag x0 x1 x2) ∧ df_Sg w' W.heap.size w'.heap.size (encSl x0) (encSl x1) (encSl x2) bs vl mb ∧ Below W.heap.size W w')
  (hTs : ∀ W, Below w.heap.size w W → Calls Tryd.prog 9 #[.slice y3.1 y3.2.1 y3.2.2] W fun e w' => ∃ x : Sl, e = .returned (.slice x.1 x.2.1 x.2.2) ∧ k54.R 54 w' W.heap.size (fun k => k < w'.heap.size) (encSl x) ts ∧ Below W.heap.size W w')
  (hSp : ∀ W (x0 x1 x2 x3 : Sl) (b top b' top' : Nat), Below w.heap.size w W → df_Sg W b top (encSl x0) (encSl x1) (encSl x2) bs vl mb → k54.R 54 W b' (fun k => k < top') (encSl x3) ts → Calls Tryd.prog 7 #[.int .i64 a0, .int .i64 a1, df_ag x0 x1 x2, .slice x3.1 x3.2.1 x3.2.2] W fun e w' => ∃ z0 z1 z2 : Sl, e = .returned (df_ag z0 z1 z2) ∧ df_Sg w' W.heap.size w'.heap.size (encSl z0) (encSl z1) (encSl z2) s0 s1 s2 ∧ Below W.heap.size W w')
  (hI : ∀ W (x0 x1 x2 x3 : Sl) (b top b' top' : Nat), Below w.heap.size w W → df_Sg W b top (encSl x0) (encSl x1) (encSl x2) bs vl mb → k54.R 54 W b' (fun k => k < top') (encSl x3) ts → Calls Tryd.prog 10 #[.int .i64 a0, .int .i64 a1, df_ag x0 x1 x2, .slice x3.1 x3.2.1 x3.2.2] W fun e w' => ∃ z0 z1 z2 : Sl, e = .returned (df_ag z0 z1 z2) ∧ df_Sg w' W.heap.size w'.heap.size (encSl z0) (encSl z1) (encSl z2) r0 r1 r2 ∧ Below W.heap.size W w')
  (hE : ∀ W (x0 x1 x2 z0 z1 z2 : Sl) (b top b' top' : Nat), df_Sg W b top (encSl x0) (encSl x1) (encSl x2) r0 r1 r2 → df_Sg W b' top' (encSl z0) (encSl z1) (encSl z2) s0 s1 s2 → Calls Tryd.prog 11 #[df_ag x0 x1 x2, df_ag z0 z1 z2] W fun e w' => e = .returned (.bool true) ∧ Below W.heap.size W w')
  (hEX : ∀ W (x0 x1 x2 z0 z1 z2 : Sl) (b top b' top' : Nat), df_Sg W b top (encSl x0) (encSl x1) (encSl x2) bs vl mb → df_Sg W b' top' (encSl z0) (encSl z1) (encSl z2) bs vl mb → Calls Tryd.prog 11 #[df_ag x0 x1 x2, df_ag z0 z1 z2] W fun e w' => e = .returned (.bool true) ∧ Below W.heap.size W w')
  (hET : ∀ W (x z : Sl) (b top b' top' : Nat), k54.R 54 W b (fun k => k < top) (encSl x) ts → k54.R 54 W b' (fun k => k < top') (encSl z) ts → Calls Tryd.prog 12 #[.slice x.1 x.2.1 x.2.2, .slice z.1 z.2.1 z.2.2] W fun e w' => e = .returned (.bool true) ∧ Below W.heap.size W w')
  (hH : ∀ W (x0 x1 x2 : Sl) (b top : Nat), df_Sg W b top (encSl x0) (encSl x1) (encSl x2) (df_mkL 1 r0) (df_upV (1 + 2 * df_tot (fun j => r0.getD j []) r0.length) r1.length) (df_upB (1 + 2 * df_tot (fun j => r0.getD j []) r0.length + 3 * r1.length) r2.length) → Calls Tryd.prog 15 #[df_ag x0 x1 x2, .int .i64 1] W fun e w' => e = .returned (.int .i64 ((1 + 2 * df_tot (fun j => r0.getD j []) r0.length + 3 * r1.length + r2.length : Nat) : Int)) ∧ Below W.heap.size W w') :
  Calls Tryd.prog 3 #[.int .i64 a0, .int .i64 a1, df_ag y0 y1 y2, .slice y3.1 y3.2.1 y3.2.2] w fun e w' => e = .returned (.bool true) ∧ Below w.heap.size w w' := by
 obtain ⟨mm, hmM⟩ : ∃ mm : Int, mm = ((1 + 2 * df_tot (fun j => r0.getD j []) r0.length + 3 * r1.length + r2.length : Nat) : Int) := ⟨_, rfl⟩; rw [← hmM] at hH; have hm0 : decide (mm < 0) = false := decide_eq_false (by omega); have hmm : (mm != mm) = false := bne_self_eq_false mm; have HmM := am_ hmM; have HX := am_ hx; have HR := am_ hr; have HA0 : Below w.heap.size w (w.alloc (.cells (df_cl y0 y1 y2) 26 (0, 0))) := (Below.refl w.heap.size w).alloc (Nat.le_refl _) _; have P0 := blk_new w (.cells (df_cl y0 y1 y2) 26 (0, 0)); have p0 := cc_ (v := .slice y0.1 y0.2.1 y0.2.2) P0 0; have p1 := cc_ (v := .slice y1.1 y1.2.1 y1.2.2) P0 1; have p2 := cc_ (v := .slice y2.1 y2.2.1 y2.2.2) P0 2; have HP0 := am_ P0; have HB0 := am_ HA0; clear hx hr HA0 P0 hmM
 go_enter Tryd.func3, Tryd.ntmps3
 go_upto_region 5 with (go_at_call 5; refine (hSz _ HB0.out).mono ?_; rintro e w1 ⟨rfl, hb1⟩)
 have HP1 := am_ (blk_below HP0.out hb1); have HB1 := am_ (below_step HB0.out hb1); clear p0 p1 p2 hb1 HP0 HB0
 go_upto_region 8 with (go_at_call 6; refine (hSz2 _ HB1.out).mono ?_; rintro e w2 ⟨rfl, hb2⟩)
 have P2 := blk_below HP1.out hb2; have p0 := cc_ (v := .slice y0.1 y0.2.1 y0.2.2) P2 0; have p1 := cc_ (v := .slice y1.1 y1.2.1 y1.2.2) P2 1; have p2 := cc_ (v := .slice y2.1 y2.2.1 y2.2.2) P2 2; have HP2 := am_ P2; have HB2 := am_ (below_step HB1.out hb2); clear P2 hb2 HP1 HB1
 go_upto_region 9 with (first
  | (go_at_call 8; refine (hT _ HB2.out).mono ?_; rintro e wa ⟨xa0, xa1, xa2, rfl, hsa, hba⟩)
  | (go_at_call 9; refine (hTs _ (below_step HB2.out hba)).mono ?_; rintro e wb ⟨xa3, rfl, hra, hbb⟩)
  | (go_at_call 7; refine (hSp _ xa0 xa1 xa2 xa3 _ _ _ _ (below_step (below_step HB2.out hba) hbb) (hsa.below hbb) hra).mono ?_; rintro e w3 ⟨z0, z1, z2, rfl, hsz, hb3⟩))
 have P3 := blk_below (blk_below (blk_below HP2.out hba) hbb) hb3; have hlt3 : w.heap.size < w3.heap.size := blk_lt P3; have hbw3 : wb.heap.size ≤ w3.heap.size := hb3.size; have HB3 := below_step (below_step (below_step HB2.out hba) hbb) hb3; have hal : Below w3.heap.size w3 (w3.alloc (.cells #[.slice z0.1 z0.2.1 z0.2.2, .slice z1.1 z1.2.1 z1.2.2, .slice z2.1 z2.2.1 z2.2.2] 33 (0, 0))) := below_alloc (Below.refl _ _) _; have HB3 := below_step HB3 hal; have P3 := blk_below P3 hal; have Z3 := blk_new w3 (.cells (df_cl z0 z1 z2) 33 (0, 0)); have S3 := hsz.below hal; have N3 : (w3.alloc (.cells #[.slice z0.1 z0.2.1 z0.2.2, .slice z1.1 z1.2.1 z1.2.2, .slice z2.1 z2.2.1 z2.2.2] 33 (0, 0))).heap.size = w3.heap.size + 1 := df_sz _ _; generalize (w3.alloc (.cells #[.slice z0.1 z0.2.1 z0.2.2, .slice z1.1 z1.2.1 z1.2.2, .slice z2.1 z2.2.1 z2.2.2] 33 (0, 0))) = W3 at HB3 P3 Z3 S3 N3 hal ⊢; clear p0 p1 p2 hsa hba hra hbb hsz hb3 hal HP2 HB2; have p0 := cc_ (v := .slice y0.1 y0.2.1 y0.2.2) P3 0; have p1 := cc_ (v := .slice y1.1 y1.2.1 y1.2.2) P3 1; have p2 := cc_ (v := .slice y2.1 y2.2.1 y2.2.2) P3 2; have HP3 := am_ P3; have HZ3 := am_ Z3; have HS3 := am_ S3; have HN := am_ (And.intro N3 (And.intro hlt3 hbw3)); have HB3 := am_ HB3; clear P3 Z3 S3 N3 hlt3 hbw3
 go_upto_region 10 with (go_at_call 8; refine (hT _ HB3.out).mono ?_; rintro e w4 ⟨x0, x1, x2, rfl, hs4, hb4⟩)
 have hal : Below w4.heap.size w4 (w4.alloc (.cells #[.slice x0.1 x0.2.1 x0.2.2, .slice x1.1 x1.2.1 x1.2.2, .slice x2.1 x2.2.1 x2.2.2] 33 (0, 0))) := below_alloc (Below.refl _ _) _; have HB4 := below_step (below_step HB3.out hb4) hal; have P4 := blk_below (blk_below HP3.out hb4) hal; have Z4 := blk_below (blk_below HZ3.out hb4) hal; have S4 := (HS3.out.below hb4).below hal; have X4 := blk_new w4 (.cells (df_cl x0 x1 x2) 33 (0, 0)); have T4 := hs4.below hal; have N4 : (w4.alloc (.cells #[.slice x0.1 x0.2.1 x0.2.2, .slice x1.1 x1.2.1 x1.2.2, .slice x2.1 x2.2.1 x2.2.2] 33 (0, 0))).heap.size = w4.heap.size + 1 := df_sz _ _; have hle4 := hb4.size; generalize (w4.alloc (.cells #[.slice x0.1 x0.2.1 x0.2.2, .slice x1.1 x1.2.1 x1.2.2, .slice x2.1 x2.2.1 x2.2.2] 33 (0, 0))) = W4 at HB4 P4 Z4 S4 X4 T4 N4 hal ⊢; have HN4 := am_ (And.intro N4 hle4); have HP4 := am_ P4; have HZ4 := am_ Z4; have HS4 := am_ S4; have HX4 := am_ X4; have HT4 := am_ T4; have HB4 := am_ HB4; clear p0 p1 p2 hs4 hb4 hal P4 Z4 S4 X4 T4 N4 hle4 HP3 HZ3 HS3 HB3
 go_upto_region 11 with (go_at_call 9; refine (hTs _ HB4.out).mono ?_; rintro e W5 ⟨x3, rfl, hr5, hb5⟩)
 have HB5 := am_ (below_step HB4.out hb5); have HP5 := am_ (blk_below HP4.out hb5); have HZ5 := am_ (blk_below HZ4.out hb5); have HS5 := am_ (HS4.out.below hb5); have X5 := blk_below HX4.out hb5; have HT5 := am_ (HT4.out.below hb5); have al := am_ hr5; have HN5 := am_ hb5.size; have p0 := cc_ (v := .slice x0.1 x0.2.1 x0.2.2) X5 0; have p1 := cc_ (v := .slice x1.1 x1.2.1 x1.2.2) X5 1; have p2 := cc_ (v := .slice x2.1 x2.2.1 x2.2.2) X5 2; have HX5 := am_ X5; clear X5 hr5 hb5 HP4 HZ4 HS4 HX4 HT4 HB4
 go_upto_region 12 with (go_at_call 10; refine (hI _ x0 x1 x2 x3 _ _ _ _ HB5.out HT5.out al.out).mono ?_; rintro e w6 ⟨g0, g1, g2, rfl, hg6, hb6⟩)
 have hal : Below w6.heap.size w6 (w6.alloc (.cells #[.slice g0.1 g0.2.1 g0.2.2, .slice g1.1 g1.2.1 g1.2.2, .slice g2.1 g2.2.1 g2.2.2] 33 (0, 0))) := below_alloc (Below.refl _ _) _; have hN6 := hb6.size
 have HST : df_ST w w.heap.size w3.heap.size w4.heap.size w6.heap.size wb.heap.size w3.heap.size W3.heap.size w4.heap.size W4.heap.size W5.heap.size W5.heap.size w6.heap.size y0 y1 y2 z0 z1 z2 x0 x1 x2 x3 g0 g1 g2 s0 s1 s2 bs vl mb ts r0 r1 r2 (w6.alloc (.cells #[.slice g0.1 g0.2.1 g0.2.2, .slice g1.1 g1.2.1 g1.2.2, .slice g2.1 g2.2.1 g2.2.2] 33 (0, 0))) :=
  ⟨below_step (below_step HB5.out hb6) hal, blk_below (blk_below HP5.out hb6) hal, blk_below (blk_below HZ5.out hb6) hal, (HS5.out.below hb6).below hal, blk_below (blk_below HX5.out hb6) hal, (HT5.out.below hb6).below hal, Kd.R_below (Kd.R_below al.out hb6) hal, blk_new w6 (.cells (df_cl g0 g1 g2) 33 (0, 0)), hg6.below hal⟩
 generalize (w6.alloc (.cells #[.slice g0.1 g0.2.1 g0.2.2, .slice g1.1 g1.2.1 g1.2.2, .slice g2.1 g2.2.1 g2.2.2] 33 (0, 0))) = W6 at HST ⊢
 obtain ⟨O1, O2, O3, O4⟩ : (w.heap.size ≤ w.heap.size ∧ w.heap.size < W3.heap.size ∧ w3.heap.size < W3.heap.size ∧ w3.heap.size ≤ W3.heap.size ∧ w4.heap.size ≤ w4.heap.size ∧ w4.heap.size ≤ W4.heap.size ∧ w4.heap.size ≤ W5.heap.size ∧ w4.heap.size ≤ w6.heap.size) ∧ (w.heap.size ≤ w.heap.size ∧ w.heap.size < W4.heap.size ∧ w3.heap.size < W4.heap.size ∧ w3.heap.size ≤ W4.heap.size ∧ w4.heap.size < W4.heap.size ∧ w4.heap.size ≤ W4.heap.size ∧ W5.heap.size ≤ W5.heap.size ∧ W5.heap.size ≤ w6.heap.size) ∧ (w.heap.size ≤ w.heap.size ∧ w.heap.size < W5.heap.size ∧ w3.heap.size < W5.heap.size ∧ w3.heap.size ≤ W5.heap.size ∧ w4.heap.size < W5.heap.size ∧ w4.heap.size ≤ W5.heap.size ∧ W5.heap.size ≤ W5.heap.size ∧ w6.heap.size ≤ w6.heap.size) ∧ (W3.heap.size ≤ w6.heap.size ∧ W4.heap.size ≤ w6.heap.size ∧ W5.heap.size ≤ w6.heap.size) := by
  have := HN.out; have := HN4.out; have := HN5.out
  omega
 have HO := am_ (And.intro O1 (And.intro O2 (And.intro O3 O4))); clear hal hN6 hg6 hb6 O1 O2 O3 O4 p0 p1 p2 HP5 HZ5 HS5 HX5 HT5 al HB5 HN HN4 HN5; have H6 := am_ HST; have p0 := cc_ (v := .slice g0.1 g0.2.1 g0.2.2) HST.2.2.2.2.2.2.2.1 0; have p1 := cc_ (v := .slice g1.1 g1.2.1 g1.2.2) HST.2.2.2.2.2.2.2.1 1; have p2 := cc_ (v := .slice g2.1 g2.2.1 g2.2.2) HST.2.2.2.2.2.2.2.1 2; have q0 := cc_ (v := .slice z0.1 z0.2.1 z0.2.2) HST.2.2.1 0; have q1 := cc_ (v := .slice z1.1 z1.2.1 z1.2.2) HST.2.2.1 1; have q2 := cc_ (v := .slice z2.1 z2.2.1 z2.2.2) HST.2.2.1 2; clear HST
 go_upto_region 14 with (go_at_call 11; refine (hE _ _ _ _ _ _ _ _ _ _ _ H6.out.2.2.2.2.2.2.2.2 H6.out.2.2.2.1).mono ?_; rintro e W7 ⟨rfl, hb7⟩)
 have H7 := am_ (H6.out.below hb7); clear p0 p1 p2 q0 q1 q2 hb7 H6; have hdr : Below W7.heap.size W7 W7.drew := below_drew (Below.refl _ _); have H8 := am_ (H7.out.below hdr); clear hdr H7; refine start_ (n := 5) (S := fun w' => w'.cell? ⟨w4.heap.size, 0, none⟩ = some (.slice x0.1 x0.2.1 x0.2.2) ∧ w'.cell? ⟨w4.heap.size, 1, none⟩ = some (.slice x1.1 x1.2.1 x1.2.2) ∧ w'.cell? ⟨w4.heap.size, 2, none⟩ = some (.slice x2.1 x2.2.1 x2.2.2) ∧ w'.cell? ⟨w.heap.size, 0, none⟩ = some (.slice y0.1 y0.2.1 y0.2.2) ∧ w'.cell? ⟨w.heap.size, 1, none⟩ = some (.slice y1.1 y1.2.1 y1.2.2) ∧ w'.cell? ⟨w.heap.size, 2, none⟩ = some (.slice y2.1 y2.2.1 y2.2.2)) (ds := []) #[false, false, false, false, false] (by kernel_rfl) rfl rfl ⟨(blk_cell H8.out.2.2.2.2.1 0).trans rfl, (blk_cell H8.out.2.2.2.2.1 1).trans rfl, (blk_cell H8.out.2.2.2.2.1 2).trans rfl, (blk_cell H8.out.2.1 0).trans rfl, (blk_cell H8.out.2.1 1).trans rfl, (blk_cell H8.out.2.1 2).trans rfl⟩ (fun hHeld => ?_); generalize W7.drew = W8 at H8 hHeld ⊢; refine take_ (i := 0) (N := some 48) (v := ?_) (a' := ?_) #[true, false, false, false, false] rfl rfl (by kernel_rfl) (fun _ _ _ h => h) (Or.inl ⟨by rfl, ?_⟩) hHeld ?_ ?_; rotate_left
 ·
  rintro w' ⟨s0, s1, s2, s3, s4, s5⟩; go_simp; with_reducible rfl
 rotate_left
 ·
  simp only [Act.put, List.setIfInBounds_toArray, List.set_cons_zero, List.set_cons_succ, i64_w, i32_w]; rfl
 refine take_ (i := 1) (N := some 49) (v := ?_) (a' := ?_) #[true, true, false, false, false] rfl rfl (by kernel_rfl) (fun _ _ _ h => h) (Or.inl ⟨by rfl, ?_⟩) hHeld ?_ ?_; rotate_left
 ·
  rintro w' ⟨s0, s1, s2, s3, s4, s5⟩; go_simp; with_reducible rfl
 rotate_left
 ·
  simp only [Act.put, List.setIfInBounds_toArray, List.set_cons_zero, List.set_cons_succ, i64_w, i32_w]; rfl
 refine one_ (i := 2) (N := some 50) #[true, true, true, false, false] rfl rfl (by kernel_rfl) (by decide) (fun K hK => ?_); refine goes_ Tryd.func8 (by kernel_rfl) rfl #[.agg #[.slice y0.1 y0.2.1 y0.2.2, .slice y1.1 y1.2.1 y1.2.2, .slice y2.1 y2.2.1 y2.2.2]] (by rfl) rfl rfl (by (try simp only [List.map_toArray, List.map_cons, List.map_nil]); first | done | rfl) ?_; refine (hT _ H8.out.1).mono ?_; rintro e W9 ⟨u0, u1, u2, rfl, hs9, hb9⟩; refine ⟨_, rfl, ?_⟩; have H9 := am_ (H8.out.below hb9); have HS9 := am_ hs9; clear hs9 hb9 H8; refine hK.out _ _ ⟨(blk_cell H9.out.2.2.2.2.1 0).trans rfl, (blk_cell H9.out.2.2.2.2.1 1).trans rfl, (blk_cell H9.out.2.2.2.2.1 2).trans rfl, (blk_cell H9.out.2.1 0).trans rfl, (blk_cell H9.out.2.1 1).trans rfl, (blk_cell H9.out.2.1 2).trans rfl⟩ (fun hHeld => ?_); clear hK K; refine norm_y 50 (h := ?_)
 refine one_ (i := 3) (N := some 51) #[true, true, true, true, false] rfl rfl (by kernel_rfl) (by decide) (fun K hK => ?_); refine goes_ Tryd.func11 (by kernel_rfl) rfl #[.agg #[.slice x0.1 x0.2.1 x0.2.2, .slice x1.1 x1.2.1 x1.2.2, .slice x2.1 x2.2.1 x2.2.2], .agg #[.slice u0.1 u0.2.1 u0.2.2, .slice u1.1 u1.2.1 u1.2.2, .slice u2.1 u2.2.1 u2.2.2]] (by rfl) rfl rfl (by (try simp only [List.map_toArray, List.map_cons, List.map_nil]); first | done | rfl) ?_; refine (hEX _ _ _ _ _ _ _ _ _ _ _ H9.out.2.2.2.2.2.1 HS9.out).mono ?_; rintro e W10 ⟨rfl, hb10⟩; refine ⟨_, rfl, ?_⟩; have H10 := am_ (H9.out.below hb10); clear hb10 H9 HS9; refine hK.out _ _ ⟨(blk_cell H10.out.2.2.2.2.1 0).trans rfl, (blk_cell H10.out.2.2.2.2.1 1).trans rfl, (blk_cell H10.out.2.2.2.2.1 2).trans rfl, (blk_cell H10.out.2.1 0).trans rfl, (blk_cell H10.out.2.1 1).trans rfl, (blk_cell H10.out.2.1 2).trans rfl⟩ (fun hHeld => ?_); clear hK K; refine norm_y 51 (h := ?_)
 refine pure_ (i := 4) (N := some 52) (v := ?_) (a' := ?_) #[true, true, true, true, true] rfl rfl (by kernel_rfl) (fun _ _ _ h => h) (Or.inl ⟨by rfl, ?_⟩) ?_ ?_; rotate_left
 ·
  intro w'; go_simp; with_reducible rfl
 rotate_left
 ·
  simp only [Act.put, List.setIfInBounds_toArray, List.set_cons_zero, List.set_cons_succ, i64_w, i32_w]; rfl
 refine done_ (by kernel_rfl) ?_; clear hHeld
 go_upto_region 18 with (first | (go_at_call 9; refine (hTs _ H10.out.1).mono ?_; rintro e wc ⟨u3, rfl, ae, hb11⟩) | (go_at_call 12; refine (hET _ _ _ _ _ _ _ (Kd.R_below H10.out.2.2.2.2.2.2.1 hb11) ae).mono ?_; rintro e W11 ⟨rfl, hb12⟩))
 have H11 := am_ ((H10.out.below hb11).below hb12); clear ae hb11 hb12 H10; have p0 := cc_ (v := .slice x0.1 x0.2.1 x0.2.2) H11.out.2.2.2.2.1 0; have p1 := cc_ (v := .slice x1.1 x1.2.1 x1.2.2) H11.out.2.2.2.2.1 1; have p2 := cc_ (v := .slice x2.1 x2.2.1 x2.2.2) H11.out.2.2.2.2.1 2; have aa : W3.heap.size ≤ W11.heap.size := by have := blk_lt H11.out.2.2.2.2.2.2.2.1; have := HO.out; omega
 have hMX := df_markSeg' W11 W3.heap.size 1 w4.heap.size (encSl x0) (encSl x1) (encSl x2) bs vl mb aa H11.out.2.2.2.2.2.1 (by have := HX.out; omega) (by have := HX.out; omega); obtain ⟨n1, hn1⟩ : ∃ n1 : Nat, n1 = 1 + 2 * df_tot (fun j => bs.getD j []) bs.length + 3 * vl.length + mb.length := ⟨_, rfl⟩; rw [← hn1] at hMX; have HMX := am_ hMX; have HN1 := am_ hn1; clear hMX hn1 aa
 go_upto_region 20 with (go_at_call 13; refine HMX.out.mono ?_; rintro e W12 ⟨rfl, ag, hb12, hk12⟩)
 have H12 := am_ (H11.out.markX HO.out.1 ag hb12 hk12); clear p0 p1 p2 ag hb12 hk12 H11 HMX; have ab : W4.heap.size ≤ W12.heap.size := by have := blk_lt H12.out.2.2.2.2.2.2.2.1; have := HO.out; omega
 have hMT := df_markS' W12 W4.heap.size n1 W5.heap.size (encSl x3) ts ab H12.out.2.2.2.2.2.2.1 (by have := HX.out; have := HN1.out; omega); obtain ⟨n2, hn2⟩ : ∃ n2 : Nat, n2 = n1 + 2 * ts.length := ⟨_, rfl⟩; rw [← hn2] at hMT; have HMT := am_ hMT; have hk2 : decide ((n2 : Int) < 0) = false := decide_eq_false (by omega); clear hMT hn2 ab HN1
 go_upto_region 21 with (go_at_call 14; refine HMT.out.mono ?_; rintro e W13 ⟨rfl, ah, hb13, hk13⟩)
 have H13 := am_ (H12.out.markT HO.out.2.1 ah hb13 hk13); clear ah hb13 hk13 H12 HMT; have p0 := cc_ (v := .slice g0.1 g0.2.1 g0.2.2) H13.out.2.2.2.2.2.2.2.1 0; have p1 := cc_ (v := .slice g1.1 g1.2.1 g1.2.2) H13.out.2.2.2.2.2.2.2.1 1; have p2 := cc_ (v := .slice g2.1 g2.2.1 g2.2.2) H13.out.2.2.2.2.2.2.2.1 2; have q0 := cc_ (v := .slice z0.1 z0.2.1 z0.2.2) H13.out.2.2.1 0; have q1 := cc_ (v := .slice z1.1 z1.2.1 z1.2.2) H13.out.2.2.1 1; have q2 := cc_ (v := .slice z2.1 z2.2.1 z2.2.2) H13.out.2.2.1 2
 go_upto_region 23 with (go_at_call 11; refine (hE _ _ _ _ _ _ _ _ _ _ _ H13.out.2.2.2.2.2.2.2.2 H13.out.2.2.2.1).mono ?_; rintro e W14 ⟨rfl, hb14⟩)
 have H14 := am_ (H13.out.below hb14); clear p0 p1 p2 q0 q1 q2 hb14 H13 hk2; have p0 := cc_ (v := .slice g0.1 g0.2.1 g0.2.2) H14.out.2.2.2.2.2.2.2.1 0; have p1 := cc_ (v := .slice g1.1 g1.2.1 g1.2.2) H14.out.2.2.2.2.2.2.2.1 1; have p2 := cc_ (v := .slice g2.1 g2.2.1 g2.2.2) H14.out.2.2.2.2.2.2.2.1 2; have ac : W5.heap.size ≤ W14.heap.size := by have := blk_lt H14.out.2.2.2.2.2.2.2.1; have := HO.out; omega
 have hMG := df_markSeg' W14 W5.heap.size 1 w6.heap.size (encSl g0) (encSl g1) (encSl g2) r0 r1 r2 ac H14.out.2.2.2.2.2.2.2.2 (by have := HR.out; omega) (by have := HR.out; omega); rw [← HmM.out] at hMG; have HMG := am_ hMG; clear hMG ac
 go_upto_region 25 with (go_at_call 13; refine HMG.out.mono ?_; rintro e W15 ⟨rfl, ai, hb15, hk15⟩)
 have H15 := am_ (H14.out.markG HO.out.2.2.1 ai hb15 hk15); clear p0 p1 p2 ai hb15 hk15 H14 HMG; have p0 := cc_ (v := .slice g0.1 g0.2.1 g0.2.2) H15.out.2.2.2.2.2.2.2.1 0; have p1 := cc_ (v := .slice g1.1 g1.2.1 g1.2.2) H15.out.2.2.2.2.2.2.2.1 1; have p2 := cc_ (v := .slice g2.1 g2.2.1 g2.2.2) H15.out.2.2.2.2.2.2.2.1 2
 go_upto_region 31 with (go_at_call 15; refine (hH _ _ _ _ _ _ H15.out.2.2.2.2.2.2.2.2).mono ?_; rintro e W16 ⟨rfl, hb16⟩)
 have H16 := am_ (H15.out.below hb16); clear p0 p1 p2 hb16 H15; have p0 := cc_ (v := .slice y0.1 y0.2.1 y0.2.2) H16.out.2.1 0; have p1 := cc_ (v := .slice y1.1 y1.2.1 y1.2.2) H16.out.2.1 1; have p2 := cc_ (v := .slice y2.1 y2.2.1 y2.2.2) H16.out.2.1 2
 go_upto_region 32 with (first
  | (go_at_call 8; refine (hT _ H16.out.1).mono ?_; rintro e wd ⟨v0, v1, v2, rfl, aj, hb17⟩)
  | (go_at_call 9; refine (hTs _ (below_step H16.out.1 hb17)).mono ?_; rintro e we ⟨v3, rfl, af, hb18⟩)
  | (go_at_call 10; refine (hI _ v0 v1 v2 v3 _ _ _ _ (below_step (below_step H16.out.1 hb17) hb18) (aj.below hb18) af).mono ?_; rintro e ak ⟨h0, h1, h2, rfl, hg19, hb19⟩))
 have hal : Below ak.heap.size ak (ak.alloc (.cells #[.slice h0.1 h0.2.1 h0.2.2, .slice h1.1 h1.2.1 h1.2.2, .slice h2.1 h2.2.1 h2.2.2] 33 (0, 0))) := below_alloc (Below.refl _ _) _; have H19 := (((H16.out.below hb17).below hb18).below hb19).below hal; have R19 := blk_new ak (.cells (df_cl h0 h1 h2) 33 (0, 0)); have S19 := hg19.below hal; generalize (ak.alloc (.cells #[.slice h0.1 h0.2.1 h0.2.2, .slice h1.1 h1.2.1 h1.2.2, .slice h2.1 h2.2.1 h2.2.2] 33 (0, 0))) = W19 at H19 R19 S19 ⊢; clear p0 p1 p2 hal aj hb17 af hb18 hg19 hb19 H16; have p0 := cc_ (v := .slice h0.1 h0.2.1 h0.2.2) R19 0; have p1 := cc_ (v := .slice h1.1 h1.2.1 h1.2.2) R19 1; have p2 := cc_ (v := .slice h2.1 h2.2.1 h2.2.2) R19 2; have q0 := cc_ (v := .slice z0.1 z0.2.1 z0.2.2) H19.2.2.1 0; have q1 := cc_ (v := .slice z1.1 z1.2.1 z1.2.2) H19.2.2.1 1; have q2 := cc_ (v := .slice z2.1 z2.2.1 z2.2.2) H19.2.2.1 2; have H19 := am_ H19; have S19 := am_ S19; clear R19
 go_upto_region 34 with (go_at_call 11; refine (hE _ _ _ _ _ _ _ _ _ _ _ S19.out H19.out.2.2.2.1).mono ?_; rintro e W20 ⟨rfl, hb20⟩)
 have H20 := am_ (H19.out.below hb20); clear p0 p1 p2 q0 q1 q2 hb20 H19 S19; have p0 := cc_ (v := .slice g0.1 g0.2.1 g0.2.2) H20.out.2.2.2.2.2.2.2.1 0; have p1 := cc_ (v := .slice g1.1 g1.2.1 g1.2.2) H20.out.2.2.2.2.2.2.2.1 1; have p2 := cc_ (v := .slice g2.1 g2.2.1 g2.2.2) H20.out.2.2.2.2.2.2.2.1 2
 go_wp2_with (go_at_call 15; refine (hH _ _ _ _ _ _ H20.out.2.2.2.2.2.2.2.2).mono ?_; rintro e W21 ⟨rfl, hb21⟩)
 go_ret
 exact ⟨rfl, below_step H20.out.1 hb21⟩
theorem df_Bs_of {w : World} {b : Nat} {v : Value} {xs : List (List S54)} (h : Kd.S (Kd.slice 54 k54) 36 w b (fun _ => True) v xs) : df_Bs w b w.heap.size v xs := by
 rcases Nat.eq_zero_or_pos xs.length with h0 | h0
 ·
  obtain ⟨A, c, e⟩ := Kd.R_slice (Kd.S_R h); rw [h0] at e; exact .inl ⟨List.eq_nil_of_length_eq_zero h0, A, c, e⟩
 ·
  obtain ⟨g, cap, vs, f, e, hc, hg, hA⟩ := df_ap_of h h0; obtain ⟨⟨cur, h1, h2⟩, h3⟩ := hA; exact .inr ⟨h0, g, cap, vs, f, e, hc, hg, blk_lt h1, ⟨⟨cur, h1, h2⟩, h3⟩, fun j hj k hk => Kd.R_lt (h3 j hj).1 k hk⟩
theorem df_Sg_of {w : World} {b : Nat} {v0 v1 v2 : Value} {bs : List (List S54)} {vl : List S90} {mb : List Bool} (h0 : Kd.S (Kd.slice 54 k54) 36 w b (fun _ => True) v0 bs) (h1 : Kd.R k90 90 w b (fun _ => True) v1 vl) (h2 : Kd.R Kd.bool 4 w b (fun _ => True) v2 mb) : df_Sg w b w.heap.size v0 v1 v2 bs vl mb :=
 ⟨df_Bs_of h0, Kd.R_mono (Kd.R_bound h1) (fun k hk => hk.2.2.1), Kd.R_mono (Kd.R_bound h2) (fun k hk => hk.2.2.1)⟩
theorem df_Bs.reads {w : World} {b top : Nat} {x : Sl} {bs : List (List S54)} (h : df_Bs w b top (encSl x) bs) (hn : bs.length ≤ 1000000000) : x.2.1 = bs.length ∧ bs.length ≤ x.2.2 ∧ Kd.C (Kd.slice 54 k54) w x.1 bs.length bs := by
 rcases h with ⟨rfl, A, c, e⟩ | ⟨h0, g, cap, vs, f, e, hc, hg, hgt, ⟨⟨cur, c1, c2⟩, c3⟩, ht⟩
 ·
  injection e with e1 e2 e3
  exact ⟨e2, Nat.zero_le _, rfl, Nat.zero_le _, fun h => absurd h (Nat.lt_irrefl 0)⟩
 ·
  injection e with e1 e2 e3
  refine ⟨e2, by omega, ?_⟩; rw [e1]; refine ⟨rfl, by omega, fun _ => ⟨_, rfl, fun j p hj => ?_⟩⟩; have hjl : j < bs.length := (List.getElem?_eq_some_iff.1 hj).1; obtain ⟨hR, hl⟩ := c3 j hjl; have ep : bs.getD j [] = p := by simp [List.getD, hj]
  simp only [ep] at hR hl; obtain ⟨q1, q2, q3⟩ := Kd.R_reads' hR; refine ⟨[encSl (vs j)], rfl, ⟨(vs j).1, (vs j).2.2, by rw [← hl], by omega, q3⟩, fun i u hu => ?_⟩; cases i with
  | succ i => simp at hu
  | zero =>
   obtain rfl := Option.some.inj hu; have : (Addr.add ⟨g, 0, none⟩ (j * (Kd.slice 54 k54).sz + 0)) = ⟨g, j, none⟩ := by rw [Addr.add_lit]; show (⟨g, 0 + (j * 1 + 0), none⟩ : Addr) = _; congr 1; omega
   rw [this, blk_cell c1, c2 j hjl]
theorem df_Sg.reads {w : World} {b top : Nat} {x0 x1 x2 : Sl} {bs : List (List S54)} {vl : List S90} {mb : List Bool} (h : df_Sg w b top (encSl x0) (encSl x1) (encSl x2) bs vl mb) (hn : bs.length ≤ 1000000000) :
  (x0.2.1 = bs.length ∧ bs.length ≤ x0.2.2 ∧ Kd.C (Kd.slice 54 k54) w x0.1 bs.length bs) ∧ (x1.2.1 = vl.length ∧ vl.length ≤ x1.2.2 ∧ Kd.C k90 w x1.1 vl.length vl) ∧ (x2.2.1 = mb.length ∧ mb.length ≤ x2.2.2 ∧ Kd.C Kd.bool w x2.1 mb.length mb) := by
 obtain ⟨h0, h1, h2⟩ := h; obtain ⟨p1, p2, p3⟩ := Kd.R_reads' h1; obtain ⟨q1, q2, q3⟩ := Kd.R_reads' h2; exact ⟨h0.reads hn, ⟨p1, by omega, p3⟩, ⟨q1, by omega, q3⟩⟩
theorem df_eqSeg {k : Nat} {W : World} {x0 x1 x2 z0 z1 z2 : Sl} {b top b' top' : Nat} {c d : List (List S54)} {c1 d1 : List S90} {c2 d2 : List Bool} (h : df_Sg W b top (encSl x0) (encSl x1) (encSl x2) c c1 c2) (h' : df_Sg W b' top' (encSl z0) (encSl z1) (encSl z2) d d1 d2) (hc : c.length ≤ 1000000000) (hd : d.length ≤ 1000000000) (he : laws_eqSeg.f k c c1 c2 d d1 d2 = some true) :
  Calls Tryd.prog 11 #[df_ag x0 x1 x2, df_ag z0 z1 z2] W fun e w' => e = .returned (.bool true) ∧ Below W.heap.size W w' := by
 obtain ⟨⟨a1, a2, a3⟩, ⟨a4, a5, a6⟩, a7, a8, a9⟩ := h.reads hc; obtain ⟨⟨b1, b2, b3⟩, ⟨b4, b5, b6⟩, b7, b8, b9⟩ := h'.reads hd; show Calls _ _ #[.agg #[.slice x0.1 x0.2.1 x0.2.2, .slice x1.1 x1.2.1 x1.2.2, .slice x2.1 x2.2.1 x2.2.2], .agg #[.slice z0.1 z0.2.1 z0.2.2, .slice z1.1 z1.2.1 z1.2.2, .slice z2.1 z2.2.1 z2.2.2]] _ _; rw [a1, a4, a7, b1, b4, b7]; exact laws_eqSeg.calls k _ _ c _ _ c1 _ _ c2 _ _ d _ _ d1 _ _ d2 true W a3 a2 a6 a5 a9 a8 b3 b2 b6 b5 b9 b8 he
/-- What the law asks. -/
noncomputable def laws_FnExactSegDrop.f (k : Nat) (a0 a1 : Int) (b : List (List S65)) (v : List S111) (m : List Bool) (ts : List S65) : Option Bool :=
 (laws_szSeg.f k b v m 1048576).bind fun t => if t < 0 then some true else (laws_szSymS.f ts t).bind fun t2 => if t2 < 0 then some true else
 (laws_toSeg.f k b v m).bind fun s => (laws_toSymS.f k ts).bind fun us => (spec_SegDrop.f k a0 a1 s.1 s.2.1 s.2.2 us).bind fun z => (impl_SegDrop.f k a0 a1 s.1 s.2.1 s.2.2 us).bind fun g =>
 if (laws_eqSeg.f k g.1 g.2.1 g.2.2 z.1 z.2.1 z.2.2 = some true ∧ laws_eqSeg.f k s.1 s.2.1 s.2.2 s.1 s.2.1 s.2.2 = some true ∧ laws_eqSymS.f k us us = some true) ∧ (2 * df_tot (fun j => s.1.getD j []) s.1.length + 3 * s.2.1.length + s.2.2.length ≤ 100000000 ∧ s.1.length ≤ 100000000 ∧ us.length ≤ 100000000) ∧ (2 * df_tot (fun j => g.1.getD j []) g.1.length + 3 * g.2.1.length + g.2.2.length ≤ 100000000 ∧ g.1.length ≤ 100000000) ∧ z.1.length ≤ 100000000 then some true else none
theorem df_big1 (a0 a1 t : Int) (y0 y1 y2 y3 : Sl) (w : World) (ht : decide (t < 0) = true)
  (hSz : ∀ W, Below w.heap.size w W → Calls Tryd.prog 5 #[df_ag y0 y1 y2, .int .i64 1048576] W fun e w' => e = .returned (.int .i64 t) ∧ Below W.heap.size W w') :
  Calls Tryd.prog 3 #[.int .i64 a0, .int .i64 a1, df_ag y0 y1 y2, .slice y3.1 y3.2.1 y3.2.2] w fun e w' => e = .returned (.bool true) ∧ Below w.heap.size w w' := by
 have HA0 : Below w.heap.size w (w.alloc (.cells (df_cl y0 y1 y2) 26 (0, 0))) := (Below.refl w.heap.size w).alloc (Nat.le_refl _) _; have HB0 := am_ HA0; clear HA0
 go_enter Tryd.func3, Tryd.ntmps3
 go_wp2_with (go_at_call 5; refine (hSz _ HB0.out).mono ?_; rintro e w1 ⟨rfl, hb1⟩)
 go_ret
 exact ⟨rfl, below_step HB0.out hb1⟩
theorem df_big2 (a0 a1 t t2 : Int) (y0 y1 y2 y3 : Sl) (w : World) (ht : decide (t < 0) = false) (ht2 : decide (t2 < 0) = true)
  (hSz : ∀ W, Below w.heap.size w W → Calls Tryd.prog 5 #[df_ag y0 y1 y2, .int .i64 1048576] W fun e w' => e = .returned (.int .i64 t) ∧ Below W.heap.size W w')
  (hSz2 : ∀ W, Below w.heap.size w W → Calls Tryd.prog 6 #[.slice y3.1 y3.2.1 y3.2.2, .int .i64 t] W fun e w' => e = .returned (.int .i64 t2) ∧ Below W.heap.size W w') :
  Calls Tryd.prog 3 #[.int .i64 a0, .int .i64 a1, df_ag y0 y1 y2, .slice y3.1 y3.2.1 y3.2.2] w fun e w' => e = .returned (.bool true) ∧ Below w.heap.size w w' := by
 have HA0 : Below w.heap.size w (w.alloc (.cells (df_cl y0 y1 y2) 26 (0, 0))) := (Below.refl w.heap.size w).alloc (Nat.le_refl _) _; have HB0 := am_ HA0; clear HA0
 go_enter Tryd.func3, Tryd.ntmps3
 go_wp2_with (first | (go_at_call 5; refine (hSz _ HB0.out).mono ?_; rintro e w1 ⟨rfl, hb1⟩) | (go_at_call 6; refine (hSz2 _ (below_step HB0.out hb1)).mono ?_; rintro e w2 ⟨rfl, hb2⟩))
 go_ret
 exact ⟨rfl, below_step (below_step HB0.out hb1) hb2⟩
theorem laws_FnExactSegDrop.calls (k : Nat) (a0 a1 : Int) (A0 : Option Addr) (c0 : Nat) (b : List (List S65)) (A1 : Option Addr) (c1 : Nat) (v : List S111) (A2 : Option Addr) (c2 : Nat) (m : List Bool) (A3 : Option Addr) (c3 : Nat) (ts : List S65) (r : Bool) (w : World)
  (hG0 : GL0 w) (hG1 : GL1 w) (hr0 : Kd.C (Kd.slice 65 k65) w A0 b.length b) (hc0 : b.length ≤ c0) (hr1 : Kd.C k111 w A1 v.length v) (hc1 : v.length ≤ c1) (hr2 : Kd.C Kd.bool w A2 m.length m) (hc2 : m.length ≤ c2) (hr3 : Kd.C k65 w A3 ts.length ts) (hc3 : ts.length ≤ c3)
  (h : laws_FnExactSegDrop.f k a0 a1 b v m ts = some r) (hr_ : r = true) :
  Calls Tryd.prog 3 #[.int .i64 a0, .int .i64 a1, .agg #[.slice A0 b.length c0, .slice A1 v.length c1, .slice A2 m.length c2], .slice A3 ts.length c3] w fun e w' => e = .returned (.bool r) ∧ Below w.heap.size w w' := by
 subst hr_; unfold laws_FnExactSegDrop.f at h; obtain ⟨t, ht, h⟩ := Option.bind_eq_some_iff.mp h; have hSz : ∀ W, Below w.heap.size w W → Calls Tryd.prog 5 #[df_ag (A0, b.length, c0) (A1, v.length, c1) (A2, m.length, c2), .int .i64 1048576] W fun e w' => e = .returned (.int .i64 t) ∧ Below W.heap.size W w' := fun W hW => laws_szSeg.calls k A0 c0 b A1 c1 v A2 c2 m 1048576 t W (Kd.C_below hr0 hW) hc0 (Kd.C_below hr1 hW) hc1 (Kd.C_below hr2 hW) hc2 ht
 by_cases hneg : t < 0
 ·
  exact df_big1 a0 a1 t (A0, b.length, c0) (A1, v.length, c1) (A2, m.length, c2) (A3, ts.length, c3) w (decide_eq_true hneg) hSz
 ·
  rw [if_neg hneg] at h; obtain ⟨t2, ht2, h⟩ := Option.bind_eq_some_iff.mp h; have hSz2 : ∀ W, Below w.heap.size w W → Calls Tryd.prog 6 #[.slice A3 ts.length c3, .int .i64 t] W fun e w' => e = .returned (.int .i64 t2) ∧ Below W.heap.size W w' := fun W hW => (laws_szSymS.calls A3 c3 ts t t2 W (Kd.C_below hr3 hW) hc3 ht2).mono fun e w' h => ⟨h.1, by first | exact h.2 | (obtain ⟨n, rfl⟩ := h.2; exact pw_below_drewN (Below.refl _ _) _) | (have := h.2; unfold Drawn0 at this; obtain ⟨n, rfl⟩ := this; exact pw_below_drewN (Below.refl _ _) _)⟩
  by_cases hneg2 : t2 < 0
  ·
   exact df_big2 a0 a1 t t2 (A0, b.length, c0) (A1, v.length, c1) (A2, m.length, c2) (A3, ts.length, c3) w (decide_eq_false hneg) (decide_eq_true hneg2) hSz hSz2
  ·
   rw [if_neg hneg2] at h; obtain ⟨⟨bs, vl, mb⟩, hs, h⟩ := Option.bind_eq_some_iff.mp h; obtain ⟨us, hu, h⟩ := Option.bind_eq_some_iff.mp h; obtain ⟨⟨s0, s1, s2⟩, hz, h⟩ := Option.bind_eq_some_iff.mp h; obtain ⟨⟨r0, r1, r2⟩, hg, h⟩ := Option.bind_eq_some_iff.mp h; simp only at hz hg h
   split at h
   ·
    rename_i hc
    obtain ⟨⟨e1, e2, e3⟩, hx, hr, hzl⟩ := hc; refine df_law_walk a0 a1 t t2 (A0, b.length, c0) (A1, v.length, c1) (A2, m.length, c2) (A3, ts.length, c3) bs s0 r0 vl s1 r1 mb s2 r2 us w (decide_eq_false hneg) (decide_eq_false hneg2) hx hr hSz hSz2 ?_ ?_ ?_ ?_ ?_ ?_ ?_ ?_
    ·
     intro W hW; refine (laws_toSeg.calls k A0 c0 b A1 c1 v A2 c2 m bs vl mb W (Kd.C_below hr0 hW) hc0 (Kd.C_below hr1 hW) hc1 (Kd.C_below hr2 hW) hc2 hs).mono ?_; rintro e w' ⟨u0, u1, u2, rfl, q0, q1, q2, hb⟩; obtain ⟨B0, d0, rfl⟩ := Kd.R_slice (Kd.S_R q0); obtain ⟨B1, d1, rfl⟩ := Kd.R_slice q1; obtain ⟨B2, d2, rfl⟩ := Kd.R_slice q2; exact ⟨(B0, bs.length, d0), (B1, vl.length, d1), (B2, mb.length, d2), rfl, df_Sg_of q0 q1 q2, hb⟩
    ·
     intro W hW; refine (laws_toSymS.calls k A3 c3 ts us W (Kd.C_below hr3 hW) hc3 hu).mono ?_; rintro e w' ⟨u0, rfl, q0, hb⟩; obtain ⟨B0, d0, rfl⟩ := Kd.R_slice q0; exact ⟨(B0, us.length, d0), rfl, Kd.R_mono (Kd.R_bound q0) (fun k hk => hk.2.2.1), hb⟩
    ·
     intro W x0 x1 x2 x3 bb top bb' top' hW hS hT; obtain ⟨⟨a1_, a2_, a3_⟩, ⟨a4_, a5_, a6_⟩, a7_, a8_, a9_⟩ := hS.reads (by omega); obtain ⟨b1_, b2_, b3_⟩ := Kd.R_reads' hT; show Calls _ _ #[_, _, .agg #[.slice x0.1 x0.2.1 x0.2.2, .slice x1.1 x1.2.1 x1.2.2, .slice x2.1 x2.2.1 x2.2.2], .slice x3.1 x3.2.1 x3.2.2] _ _; rw [a1_, a4_, a7_, b1_]; refine (spec_SegDrop.calls k a0 a1 _ _ bs _ _ vl _ _ mb _ _ us s0 s1 s2 W a3_ a2_ a6_ a5_ a9_ a8_ b3_ (by omega) hz).mono ?_; rintro e w' ⟨u0, u1, u2, rfl, q0, q1, q2, hb⟩; obtain ⟨B0, d0, rfl⟩ := Kd.R_slice (Kd.S_R q0); obtain ⟨B1, d1, rfl⟩ := Kd.R_slice q1; obtain ⟨B2, d2, rfl⟩ := Kd.R_slice q2; exact ⟨(B0, s0.length, d0), (B1, s1.length, d1), (B2, s2.length, d2), rfl, df_Sg_of q0 q1 q2, hb⟩
    ·
     intro W x0 x1 x2 x3 bb top bb' top' hW hS hT; obtain ⟨⟨a1_, a2_, a3_⟩, ⟨a4_, a5_, a6_⟩, a7_, a8_, a9_⟩ := hS.reads (by omega); obtain ⟨b1_, b2_, b3_⟩ := Kd.R_reads' hT; show Calls _ _ #[_, _, .agg #[.slice x0.1 x0.2.1 x0.2.2, .slice x1.1 x1.2.1 x1.2.2, .slice x2.1 x2.2.1 x2.2.2], .slice x3.1 x3.2.1 x3.2.2] _ _; rw [a1_, a4_, a7_, b1_]; refine (impl_SegDrop.calls k a0 a1 _ _ bs _ _ vl _ _ mb _ _ us r0 r1 r2 W (GL0.below hG0 hW) (GL1.below hG1 hW) a3_ a2_ a6_ a5_ a9_ a8_ b3_ (by omega) hg).mono ?_; rintro e w' ⟨u0, u1, u2, rfl, q0, q1, q2, hb⟩; obtain ⟨B0, d0, rfl⟩ := Kd.R_slice (Kd.S_R q0); obtain ⟨B1, d1, rfl⟩ := Kd.R_slice q1; obtain ⟨B2, d2, rfl⟩ := Kd.R_slice q2; exact ⟨(B0, r0.length, d0), (B1, r1.length, d1), (B2, r2.length, d2), rfl, df_Sg_of q0 q1 q2, hb⟩
    ·
     intro W x0 x1 x2 z0 z1 z2 bb top bb' top' h1 h2; exact df_eqSeg h1 h2 (by omega) (by omega) e1
    ·
     intro W x0 x1 x2 z0 z1 z2 bb top bb' top' h1 h2; exact df_eqSeg h1 h2 (by omega) (by omega) e2
    ·
     intro W x z bb top bb' top' h1 h2; obtain ⟨a1_, a2_, a3_⟩ := Kd.R_reads' h1; obtain ⟨b1_, b2_, b3_⟩ := Kd.R_reads' h2; rw [a1_, b1_]; exact laws_eqSymS.calls k _ _ us _ _ us true W a3_ (by omega) b3_ (by omega) e3
    ·
     intro W x0 x1 x2 bb top h1; have hm := df_heldSeg r0 r1.length r2.length (r0.length + df_tot (fun j => r0.getD j []) r0.length + r1.length + r2.length + 1) (by omega) (by omega) (Nat.lt_succ_self _); have hl0 := df_mkL_len 1 r0; obtain ⟨⟨a1_, a2_, a3_⟩, ⟨a4_, a5_, a6_⟩, a7_, a8_, a9_⟩ := h1.reads (by omega); show Calls _ _ #[.agg #[.slice x0.1 x0.2.1 x0.2.2, .slice x1.1 x1.2.1 x1.2.2, .slice x2.1 x2.2.1 x2.2.2], _] _ _; rw [a1_, a4_, a7_]; exact laws_heldSeg.calls _ _ _ _ _ _ _ _ _ _ 1 _ W a3_ a2_ a6_ a5_ a9_ a8_ hm
   ·
    cases h


end Go.Proofs.YtdmdalapckcobaaDoor.Q
