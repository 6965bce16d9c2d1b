/- Functions of the translation as Lean functions, each with a proof that a call answers so; out of the seat, by this claim's own program prt.py. -/
import Derived.Test.YtdmdalapckcobaaDoorWRepsOne
import Derived.Test.YtdmdalapckcobaaDoorQx0
import Derived.Test.YtdmdalapckcobaaDoorQStep3
namespace Go.Proofs.YtdmdalapckcobaaDoor.Q
open Go.RowKit Go.Proofs.YtdmdalapckcobaaDoorW.PrintWords Go.Proofs.YtdmdalapckcobaaDoorW.PrintLast Go.Proofs.YtdmdalapckcobaaDoorW.PrintMore
attribute [local go_sem] max2_int min2_int max_two min_two max_three min_three max_four min_four   -- for this text's walks alone
set_option linter.unusedVariables false
set_option maxHeartbeats 8000000
set_option maxRecDepth 100000
set_option linter.unusedSimpArgs false

/-! ### laws_szSymS: function 6 -/
def laws_szSymS.f (l0 : List (S65)) (a1 : Int) : Option (Int) := if (wrap64 (a1 - (l0.length : Int))) < 0 then (some (-1)) else (some (wrap64 (a1 - (l0.length : Int))))
theorem laws_szSymS.calls (A0 : Option Addr) (c0 : Nat) (l0 : List (S65)) (a1 : Int) (r : Int) (w : World) (hr0 : Kd.C k65 w A0 l0.length l0) (hc0 : l0.length ≤ c0) (h : laws_szSymS.f l0 a1 = some r) :
  Calls Tryd.prog 6 #[.slice A0 l0.length c0, .int .i64 a1] w fun e w' => e = .returned (.int .i64 r) ∧ Drawn0 w w' := by
 have ac := am_ hr0; have ab := am_ hc0; clear hr0 hc0; have H : (if (wrap64 (a1 - (l0.length : Int))) < 0 then (some (-1)) else (some (wrap64 (a1 - (l0.length : Int))))) = some r := h; clear h
 by_cases c3 : (wrap64 (a1 - (l0.length : Int))) < 0
 ·
  rw [if_pos c3] at H; have aa := decide_eq_true (p := (wrap64 (a1 - (l0.length : Int))) < 0) c3; clear c3; obtain rfl := Option.some.inj H
  go_enter Tryd.func6, Tryd.ntmps6
  go_wp2
  go_ret
  exact ⟨by first | rfl | (simp; done) | (simp [*]; done), by repeat (first | exact Drawn0.refl _ | apply Drawn0.step)⟩
 ·
  rw [if_neg c3] at H; have aa := decide_eq_false (p := (wrap64 (a1 - (l0.length : Int))) < 0) c3; clear c3; obtain rfl := Option.some.inj H
  go_enter Tryd.func6, Tryd.ntmps6
  go_wp2
  go_ret
  exact ⟨by first | rfl | (simp; done) | (simp [*]; done), by repeat (first | exact Drawn0.refl _ | apply Drawn0.step)⟩

/-! ### laws_szSymSS: function 25 -/
def laws_szSymSS.l0 : Nat → List (List (S65)) → Int → Int → Option (Int)
 | 0, _, _, _ => none
 | k + 1, x0, x1, x5 => if x5 < (x0.length : Int) then (if 0 ≤ x5 then ((laws_szSymS.f (rd_L2 x0 x5) x1).bind fun ae => (if ae < 0 then (some (-1)) else (laws_szSymSS.l0 k x0 ae (wrap64 (x5 + 1))))) else (none)) else (some x1)
def laws_szSymSS.f (k : Nat) (l0 : List (List (S65))) (a1 : Int) : Option (Int) := if (wrap64 (a1 - (l0.length : Int))) < 0 then (some (-1)) else (laws_szSymSS.l0 k l0 (wrap64 (a1 - (l0.length : Int))) 0)
theorem laws_szSymSS.mono_l : ∀ k, (∀ y0 y1 y2, LeO (laws_szSymSS.l0 k y0 y1 y2) (laws_szSymSS.l0 (k + 1) y0 y1 y2))
 | 0 => fun _ _ _ r h => by simp [laws_szSymSS.l0] at h
 | k + 1 => by
  have ih0 := laws_szSymSS.mono_l k
  ·
   intro y0 y1 y2; unfold laws_szSymSS.l0
   repeat' first
   | (with_reducible exact ih0 _ _ _) | (with_reducible exact LeO.refl _) | (with_reducible exact LeO.none _) | (with_reducible refine LeO.ite ?_ ?_) | (with_reducible refine LeO.bind ?_ fun _ => ?_) | exact ih0 _ _ _ | exact LeO.none _ | refine LeO.ite ?_ ?_ | refine LeO.bind ?_ fun _ => ?_
theorem laws_szSymSS.mono : ∀ a0 a1 k, LeO (laws_szSymSS.f k a0 a1) (laws_szSymSS.f (k + 1) a0 a1) := by
 intro a0 a1 k; have ih0 := laws_szSymSS.mono_l k; unfold laws_szSymSS.f
 repeat' first
   | (with_reducible exact ih0 _ _ _) | (with_reducible exact LeO.refl _) | (with_reducible exact LeO.none _) | (with_reducible refine LeO.ite ?_ ?_) | (with_reducible refine LeO.bind ?_ fun _ => ?_) | exact ih0 _ _ _ | exact LeO.none _ | refine LeO.ite ?_ ?_ | refine LeO.bind ?_ fun _ => ?_
theorem laws_szSymSS.calls (k : Nat) (A0 : Option Addr) (c0 : Nat) (l0 : List (List (S65))) (a1 : Int) (r : Int) (w : World) (hr0 : Kd.C (Kd.slice 65 k65) w A0 l0.length l0) (hc0 : l0.length ≤ c0) (h : laws_szSymSS.f k l0 a1 = some r) :
  Calls Tryd.prog 25 #[.slice A0 l0.length c0, .int .i64 a1] w fun e w' => e = .returned (.int .i64 r) ∧ Drawn0 w w' := by
 have av := am_ hr0; have ax := am_ hc0; clear hr0 hc0; have H : (if (wrap64 (a1 - (l0.length : Int))) < 0 then (some (-1)) else (laws_szSymSS.l0 k l0 (wrap64 (a1 - (l0.length : Int))) 0)) = some r := h; clear h
 by_cases c3 : (wrap64 (a1 - (l0.length : Int))) < 0
 ·
  rw [if_pos c3] at H; have aq := decide_eq_true (p := (wrap64 (a1 - (l0.length : Int))) < 0) c3; clear c3; obtain rfl := Option.some.inj H
  go_enter Tryd.func25, Tryd.ntmps25
  go_wp2
  go_ret
  exact ⟨by first | rfl | (simp; done) | (simp [*]; done), by repeat (first | exact Drawn0.refl _ | apply Drawn0.step)⟩
 ·
  rw [if_neg c3] at H; have aq := decide_eq_false (p := (wrap64 (a1 - (l0.length : Int))) < 0) c3; clear c3; have H' := am_ H; clear H
  go_enter Tryd.func25, Tryd.ntmps25
  go_wp2
  go_loopg [1, 5] k (fun kq v1 v5 w' => ∃ (aj : Int) (aa : Int), v1 = .int .i64 aj ∧ v5 = .int .i64 aa ∧ Aside0 (laws_szSymSS.l0 kq l0 aj aa = some r) ∧ Aside0 (kq ≤ k) ∧ Drawn0 w w')
  case atStart => exact ⟨(wrap64 (a1 - (l0.length : Int))), (0), sr_, sr_, H', ⟨Nat.le_refl _⟩, by repeat (first | exact Drawn0.refl _ | apply Drawn0.step)⟩
  case round =>
   clear H'
   obtain ⟨aj, aa, rfl, rfl, HA, HK1, ⟨m1, rfl⟩⟩ := hrel; cases gk with
   | zero => exact absurd HA.out (by simp [laws_szSymSS.l0])
   | succ k1 =>
    have H := HA.out; clear HA; simp only [laws_szSymSS.l0] at H
    by_cases c4 : aa < (l0.length : Int)
    ·
     rw [if_pos c4] at H; have ar := decide_eq_true (p := aa < (l0.length : Int)) c4; clear c4
     by_cases c5 : 0 ≤ aa
     ·
      rw [if_pos c5] at H; have aw := decide_eq_true (p := 0 ≤ aa) c5; clear c5; obtain ⟨ae, A6, H⟩ := be_ H; (try dsimp only at H)
      by_cases c7 : ae < 0
      ·
       rw [if_pos c7] at H; have au := decide_eq_true (p := ae < 0) c7; clear c7; obtain rfl := Option.some.inj H; have ah : 0 ≤ (aa : Int) := sq_dec; have ai : aa < (l0.length : Int) := sq_dec; obtain ⟨ap, af, ag, ao, am, hl101_0, hi101_0⟩ := at_L2 av.out aa ah ai; cases ao; have ac := am_ hi101_0; have ab := am_ hl101_0; clear hi101_0 hl101_0; replace ah := eq_true ah; replace ai := eq_true ai
       go_wp2_with (first | ((with_reducible refine gate_callee (f := 6) rfl ?_); refine gl_ 23 Tryd.func6 #[.slice af (rd_L2 l0 aa).length ag, .int .i64 aj] (h := ?_); (with_reducible refine (laws_szSymS.calls _ _ (rd_L2 l0 aa) aj ae _ ?ak ?al A6.out).mono ?_); (case ak => repeat (first | exact ac.out | (with_reducible refine Kd.C_alloc ?_ _) | (with_reducible refine Kd.C_drewN ?_ _) | (with_reducible refine Kd.C_drew ?_))); (case al => exact ab.out); rintro e w' ⟨rfl, ⟨nd, rfl⟩⟩; refine ⟨_, rfl, ?_⟩))
       go_ret
       exact ⟨by first | rfl | (simp; done) | (simp [*]; done), by repeat (first | exact Drawn0.refl _ | apply Drawn0.step)⟩
      ·
       rw [if_neg c7] at H; have au := decide_eq_false (p := ae < 0) c7; clear c7; have H' := am_ H; clear H; have ah : 0 ≤ (aa : Int) := sq_dec; have ai : aa < (l0.length : Int) := sq_dec; obtain ⟨ap, af, ag, ao, am, hl101_0, hi101_0⟩ := at_L2 av.out aa ah ai; cases ao; have ac := am_ hi101_0; have ab := am_ hl101_0; clear hi101_0 hl101_0; replace ah := eq_true ah; replace ai := eq_true ai
       go_wp2_with (first | ((with_reducible refine gate_callee (f := 6) rfl ?_); refine gl_ 23 Tryd.func6 #[.slice af (rd_L2 l0 aa).length ag, .int .i64 aj] (h := ?_); (with_reducible refine (laws_szSymS.calls _ _ (rd_L2 l0 aa) aj ae _ ?ak ?al A6.out).mono ?_); (case ak => repeat (first | exact ac.out | (with_reducible refine Kd.C_alloc ?_ _) | (with_reducible refine Kd.C_drewN ?_ _) | (with_reducible refine Kd.C_drew ?_))); (case al => exact ab.out); rintro e w' ⟨rfl, ⟨nd, rfl⟩⟩; refine ⟨_, rfl, ?_⟩))
       go_roundg k1
       case measure => have := HK1.out; omega
       case rel => exact ⟨(ae), (wrap64 (aa + 1)), sr_, sr_, H', ⟨by have := HK1.out; omega⟩, by repeat (first | exact Drawn0.refl _ | apply Drawn0.step)⟩
     ·
      rw [if_neg c5] at H; exact absurd H (by simp)
    ·
     rw [if_neg c4] at H; have ar := decide_eq_false (p := aa < (l0.length : Int)) c4; clear c4; obtain rfl := Option.some.inj H
     go_wp2
     go_ret
     exact ⟨by first | rfl | (simp; done) | (simp [*]; done), by repeat (first | exact Drawn0.refl _ | apply Drawn0.step)⟩

/-! ### laws_szValS: function 26 -/
def laws_szValS.f (l0 : List (S111)) (a1 : Int) : Option (Int) := if (wrap64 (a1 - (l0.length : Int))) < 0 then (some (-1)) else (some (wrap64 (a1 - (l0.length : Int))))
theorem laws_szValS.calls (A0 : Option Addr) (c0 : Nat) (l0 : List (S111)) (a1 : Int) (r : Int) (w : World) (hr0 : Kd.C k111 w A0 l0.length l0) (hc0 : l0.length ≤ c0) (h : laws_szValS.f l0 a1 = some r) :
  Calls Tryd.prog 26 #[.slice A0 l0.length c0, .int .i64 a1] w fun e w' => e = .returned (.int .i64 r) ∧ Drawn0 w w' := by
 have ac := am_ hr0; have ab := am_ hc0; clear hr0 hc0; have H : (if (wrap64 (a1 - (l0.length : Int))) < 0 then (some (-1)) else (some (wrap64 (a1 - (l0.length : Int))))) = some r := h; clear h
 by_cases c3 : (wrap64 (a1 - (l0.length : Int))) < 0
 ·
  rw [if_pos c3] at H; have aa := decide_eq_true (p := (wrap64 (a1 - (l0.length : Int))) < 0) c3; clear c3; obtain rfl := Option.some.inj H
  go_enter Tryd.func26, Tryd.ntmps26
  go_wp2
  go_ret
  exact ⟨by first | rfl | (simp; done) | (simp [*]; done), by repeat (first | exact Drawn0.refl _ | apply Drawn0.step)⟩
 ·
  rw [if_neg c3] at H; have aa := decide_eq_false (p := (wrap64 (a1 - (l0.length : Int))) < 0) c3; clear c3; obtain rfl := Option.some.inj H
  go_enter Tryd.func26, Tryd.ntmps26
  go_wp2
  go_ret
  exact ⟨by first | rfl | (simp; done) | (simp [*]; done), by repeat (first | exact Drawn0.refl _ | apply Drawn0.step)⟩

/-! ### laws_szBoolS: function 27 -/
def laws_szBoolS.f (l0 : List Bool) (a1 : Int) : Option (Int) := if (wrap64 (a1 - (l0.length : Int))) < 0 then (some (-1)) else (some (wrap64 (a1 - (l0.length : Int))))
theorem laws_szBoolS.calls (A0 : Option Addr) (c0 : Nat) (l0 : List Bool) (a1 : Int) (r : Int) (w : World) (hr0 : Kd.C Kd.bool w A0 l0.length l0) (hc0 : l0.length ≤ c0) (h : laws_szBoolS.f l0 a1 = some r) :
  Calls Tryd.prog 27 #[.slice A0 l0.length c0, .int .i64 a1] w fun e w' => e = .returned (.int .i64 r) ∧ Drawn0 w w' := by
 have ac := am_ hr0; have ab := am_ hc0; clear hr0 hc0; have H : (if (wrap64 (a1 - (l0.length : Int))) < 0 then (some (-1)) else (some (wrap64 (a1 - (l0.length : Int))))) = some r := h; clear h
 by_cases c3 : (wrap64 (a1 - (l0.length : Int))) < 0
 ·
  rw [if_pos c3] at H; have aa := decide_eq_true (p := (wrap64 (a1 - (l0.length : Int))) < 0) c3; clear c3; obtain rfl := Option.some.inj H
  go_enter Tryd.func27, Tryd.ntmps27
  go_wp2
  go_ret
  exact ⟨by first | rfl | (simp; done) | (simp [*]; done), by repeat (first | exact Drawn0.refl _ | apply Drawn0.step)⟩
 ·
  rw [if_neg c3] at H; have aa := decide_eq_false (p := (wrap64 (a1 - (l0.length : Int))) < 0) c3; clear c3; obtain rfl := Option.some.inj H
  go_enter Tryd.func27, Tryd.ntmps27
  go_wp2
  go_ret
  exact ⟨by first | rfl | (simp; done) | (simp [*]; done), by repeat (first | exact Drawn0.refl _ | apply Drawn0.step)⟩

/-! ### laws_szSeg: function 5 -/
def laws_szSeg.f (k : Nat) (ac : List (List (S65))) (af : List (S111)) (ag : List Bool) (a1 : Int) : Option (Int) := (laws_szSymSS.f k ac a1).bind fun ae => (if ae < 0 then (some (-1)) else ((laws_szValS.f af ae).bind fun ah => (if ah < 0 then (some (-1)) else ((laws_szBoolS.f ag ah).bind fun ai => (if ai < 0 then (some (-1)) else (some ai))))))
theorem laws_szSeg.mono : ∀ a0 a1 a2 a3 k, LeO (laws_szSeg.f k a0 a1 a2 a3) (laws_szSeg.f (k + 1) a0 a1 a2 a3) := by
 intro a0 a1 a2 a3 k; unfold laws_szSeg.f
 repeat' first
   | (with_reducible exact laws_szSymSS.mono _ _ _) | (with_reducible exact LeO.refl _) | (with_reducible exact LeO.none _) | (with_reducible refine LeO.ite ?_ ?_) | (with_reducible refine LeO.bind ?_ fun _ => ?_) | exact laws_szSymSS.mono _ _ _ | exact LeO.none _ | refine LeO.ite ?_ ?_ | refine LeO.bind ?_ fun _ => ?_
theorem laws_szSeg.calls (k : Nat) (ak : Option Addr) (al : Nat) (ac : List (List (S65))) (am : Option Addr) (ao : Nat) (af : List (S111)) (ap : Option Addr) (ar : Nat) (ag : List Bool) (a1 : Int) (r : Int) (w : World) (aI : Kd.C (Kd.slice 65 k65) w ak ac.length ac) (aD : ac.length ≤ al) (aJ : Kd.C k111 w am af.length af) (aG : af.length ≤ ao) (aK : Kd.C Kd.bool w ap ag.length ag) (aH : ag.length ≤ ar) (h : laws_szSeg.f k ac af ag a1 = some r) :
  Calls Tryd.prog 5 #[.agg #[.slice ak ac.length al, .slice am af.length ao, .slice ap ag.length ar], .int .i64 a1] w fun e w' => e = .returned (.int .i64 r) ∧ Below w.heap.size w w' := by
 have hu26 := Tryd.underlying26; have av := am_ aI; have au := am_ aD; clear aI aD; have ay := am_ aJ; have ax := am_ aG; clear aJ aG; have aC := am_ aK; have aA := am_ aH; clear aK aH; have HB := am_ (Below.refl w.heap.size w); have H : ((laws_szSymSS.f k ac a1).bind fun ae => (if ae < 0 then (some (-1)) else ((laws_szValS.f af ae).bind fun ah => (if ah < 0 then (some (-1)) else ((laws_szBoolS.f ag ah).bind fun ai => (if ai < 0 then (some (-1)) else (some ai))))))) = some r := h; clear h; obtain ⟨ae, A3, H⟩ := be_ H; (try dsimp only at H)
 by_cases c4 : ae < 0
 ·
  rw [if_pos c4] at H; have bm := decide_eq_true (p := ae < 0) c4; clear c4; obtain rfl := Option.some.inj H
  go_enter Tryd.func5, Tryd.ntmps5
  go_wp2_with (first | ((with_reducible refine gate_dst (N := 2) rfl ?_); refine box_y 2 #[.slice ak ac.length al, .slice am af.length ao, .slice ap ag.length ar] 26 (h := ?_); intro az hg w5 hbox hb; have aj := am_ hbox; have aw := gz_ hg HB; have aq := gz_ hg HB; replace HB := hb_ HB hb; clear hb hbox hg; obtain ⟨bo, bp, bq, br, bt, bu⟩ := cz3_ aj) | ((with_reducible refine gate_callee (f := 25) rfl ?_); refine gl_ 8 Tryd.func25 #[.slice ak ac.length al, .int .i64 a1] (h := ?_); (with_reducible refine (laws_szSymSS.calls k _ _ ac a1 ae _ ?aa ?ab A3.out).mono ?_); (case aa => exact sq_c (Kd.C_below av.out HB.out)); (case ab => exact au.out); rintro e w' ⟨rfl, ⟨nd, rfl⟩⟩; refine ⟨_, rfl, ?_⟩))
  go_ret
  exact ⟨lf_, sq_below HB.out⟩
 ·
  rw [if_neg c4] at H; have bm := decide_eq_false (p := ae < 0) c4; clear c4; obtain ⟨ah, A7, H⟩ := be_ H; (try dsimp only at H)
  by_cases c8 : ah < 0
  ·
   rw [if_pos c8] at H; have bn := decide_eq_true (p := ah < 0) c8; clear c8; obtain rfl := Option.some.inj H
   go_enter Tryd.func5, Tryd.ntmps5
   go_wp2_with (first | ((with_reducible refine gate_dst (N := 2) rfl ?_); refine box_y 2 #[.slice ak ac.length al, .slice am af.length ao, .slice ap ag.length ar] 26 (h := ?_); intro az hg w9 hbox hb; have aj := am_ hbox; have aw := gz_ hg HB; have aq := gz_ hg HB; replace HB := hb_ HB hb; clear hb hbox hg; obtain ⟨aN, aQ, aT, ba, bc, bd⟩ := cz3_ aj) | ((with_reducible refine gate_callee (f := 25) rfl ?_); refine gl_ 8 Tryd.func25 #[.slice ak ac.length al, .int .i64 a1] (h := ?_); (with_reducible refine (laws_szSymSS.calls k _ _ ac a1 ae _ ?aa ?ab A3.out).mono ?_); (case aa => exact sq_c (Kd.C_below av.out HB.out)); (case ab => exact au.out); rintro e w' ⟨rfl, ⟨nd, rfl⟩⟩; refine ⟨_, rfl, ?_⟩) | ((with_reducible refine gate_callee (f := 26) rfl ?_); refine gl_ 14 Tryd.func26 #[.slice am af.length ao, .int .i64 ae] (h := ?_); (with_reducible refine (laws_szValS.calls _ _ af ae ah _ ?aa ?ab A7.out).mono ?_); (case aa => exact sq_c (Kd.C_below ay.out (sq_below HB.out))); (case ab => exact ax.out); rintro e w' ⟨rfl, ⟨nd, rfl⟩⟩; refine ⟨_, rfl, ?_⟩))
   go_ret
   exact ⟨lf_, sq_below HB.out⟩
  ·
   rw [if_neg c8] at H; have bn := decide_eq_false (p := ah < 0) c8; clear c8; replace H := Option.bind_eq_some_iff.mp H; obtain ⟨ai, A110, H⟩ := H; replace H : (if ai < 0 then (some (-1)) else (some ai)) = some r := H; have A11 := am_ A110; clear A110
   by_cases c12 : ai < 0
   ·
    rw [if_pos c12] at H; have aM := decide_eq_true (p := ai < 0) c12; clear c12; obtain rfl := Option.some.inj H
    go_enter Tryd.func5, Tryd.ntmps5
    go_wp2_with (first | ((with_reducible refine gate_dst (N := 2) rfl ?_); refine box_y 2 #[.slice ak ac.length al, .slice am af.length ao, .slice ap ag.length ar] 26 (h := ?_); intro az hg bv hbox hb; have aj := am_ hbox; have aw := gz_ hg HB; have aq := gz_ hg HB; replace HB := hb_ HB hb; clear hb hbox hg; obtain ⟨aU, aV, aW, bf, bh, bi⟩ := cz3_ aj) | ((with_reducible refine gate_callee (f := 25) rfl ?_); refine gl_ 8 Tryd.func25 #[.slice ak ac.length al, .int .i64 a1] (h := ?_); (with_reducible refine (laws_szSymSS.calls k _ _ ac a1 ae _ ?aa ?ab A3.out).mono ?_); (case aa => exact sq_c (Kd.C_below av.out HB.out)); (case ab => exact au.out); rintro e w' ⟨rfl, ⟨nd, rfl⟩⟩; refine ⟨_, rfl, ?_⟩) | ((with_reducible refine gate_callee (f := 26) rfl ?_); refine gl_ 14 Tryd.func26 #[.slice am af.length ao, .int .i64 ae] (h := ?_); (with_reducible refine (laws_szValS.calls _ _ af ae ah _ ?aa ?ab A7.out).mono ?_); (case aa => exact sq_c (Kd.C_below ay.out (sq_below1 HB.out aq.out))); (case ab => exact ax.out); rintro e w' ⟨rfl, ⟨nd, rfl⟩⟩; refine ⟨_, rfl, ?_⟩) | ((with_reducible refine gate_callee (f := 27) rfl ?_); refine gl_ 20 Tryd.func27 #[.slice ap ag.length ar, .int .i64 ah] (h := ?_); (with_reducible refine (laws_szBoolS.calls _ _ ag ah ai _ ?aa ?ab A11.out).mono ?_); (case aa => exact sq_c (Kd.C_below aC.out (sq_below HB.out))); (case ab => exact aA.out); rintro e w' ⟨rfl, ⟨nd, rfl⟩⟩; refine ⟨_, rfl, ?_⟩))
    go_ret
    exact ⟨lf_, sq_below HB.out⟩
   ·
    rw [if_neg c12] at H; have aM := decide_eq_false (p := ai < 0) c12; clear c12; obtain rfl := Option.some.inj H
    go_enter Tryd.func5, Tryd.ntmps5
    go_wp2_with (first | ((with_reducible refine gate_dst (N := 2) rfl ?_); refine box_y 2 #[.slice ak ac.length al, .slice am af.length ao, .slice ap ag.length ar] 26 (h := ?_); intro az hg bw hbox hb; have aj := am_ hbox; have aw := gz_ hg HB; have aq := gz_ hg HB; replace HB := hb_ HB hb; clear hb hbox hg; obtain ⟨aX, aY, aZ, bj, bk, bl⟩ := cz3_ aj) | ((with_reducible refine gate_callee (f := 25) rfl ?_); refine gl_ 8 Tryd.func25 #[.slice ak ac.length al, .int .i64 a1] (h := ?_); (with_reducible refine (laws_szSymSS.calls k _ _ ac a1 ae _ ?aa ?ab A3.out).mono ?_); (case aa => exact sq_c (Kd.C_below av.out HB.out)); (case ab => exact au.out); rintro e w' ⟨rfl, ⟨nd, rfl⟩⟩; refine ⟨_, rfl, ?_⟩) | ((with_reducible refine gate_callee (f := 26) rfl ?_); refine gl_ 14 Tryd.func26 #[.slice am af.length ao, .int .i64 ae] (h := ?_); (with_reducible refine (laws_szValS.calls _ _ af ae ah _ ?aa ?ab A7.out).mono ?_); (case aa => exact sq_c (Kd.C_below ay.out (sq_below1 HB.out aq.out))); (case ab => exact ax.out); rintro e w' ⟨rfl, ⟨nd, rfl⟩⟩; refine ⟨_, rfl, ?_⟩) | ((with_reducible refine gate_callee (f := 27) rfl ?_); refine gl_ 20 Tryd.func27 #[.slice ap ag.length ar, .int .i64 ah] (h := ?_); (with_reducible refine (laws_szBoolS.calls _ _ ag ah ai _ ?aa ?ab A11.out).mono ?_); (case aa => exact sq_c (Kd.C_below aC.out (sq_below HB.out))); (case ab => exact aA.out); rintro e w' ⟨rfl, ⟨nd, rfl⟩⟩; refine ⟨_, rfl, ?_⟩))
    go_ret
    exact ⟨lf_, sq_below HB.out⟩

/-! ### spec_l01Between: function 103 -/
def spec_l01Between.f (a0 : Int) (a1 : Int) (a2 : Int) : Option (Bool) := if a0 ≥ a1 then (some (decide (a0 ≤ a2))) else (some false)
theorem spec_l01Between.calls (a0 : Int) (a1 : Int) (a2 : Int) (r : Bool) (w : World) (h : spec_l01Between.f a0 a1 a2 = some r) :
  Calls Tryd.prog 103 #[.int .i64 a0, .int .i64 a1, .int .i64 a2] w fun e w' => e = .returned (.bool r) ∧ Drawn0 w w' := by
 have H : (if a0 ≥ a1 then (some (decide (a0 ≤ a2))) else (some false)) = some r := h; clear h
 by_cases c4 : a0 ≥ a1
 ·
  rw [if_pos c4] at H; have aa := decide_eq_true (p := a1 ≤ a0) c4; clear c4; obtain rfl := Option.some.inj H
  go_enter Tryd.func103, Tryd.ntmps103
  go_wp2
  go_ret
  exact ⟨by first | rfl | (simp; done) | (simp [*]; done), by repeat (first | exact Drawn0.refl _ | apply Drawn0.step)⟩
 ·
  rw [if_neg c4] at H; have aa := decide_eq_false (p := a1 ≤ a0) c4; clear c4; obtain rfl := Option.some.inj H
  go_enter Tryd.func103, Tryd.ntmps103
  go_wp2
  go_ret
  exact ⟨by first | rfl | (simp; done) | (simp [*]; done), by repeat (first | exact Drawn0.refl _ | apply Drawn0.step)⟩

/-! ### spec_l10Size: function 61 -/
def spec_l10Size.f (a0 : Int) (a1 : Int) : Option (Bool) := (spec_l01Between.f a0 2 13).bind fun ab => (if ab = true then ((spec_l01Between.f a1 1 (wrap64 (a0 - 1))).bind fun aa => (some aa)) else (some false))
theorem spec_l10Size.calls (a0 : Int) (a1 : Int) (r : Bool) (w : World) (h : spec_l10Size.f a0 a1 = some r) :
  Calls Tryd.prog 61 #[.int .i64 a0, .int .i64 a1] w fun e w' => e = .returned (.bool r) ∧ Drawn0 w w' := by
 have H : ((spec_l01Between.f a0 2 13).bind fun ab => (if ab = true then ((spec_l01Between.f a1 1 (wrap64 (a0 - 1))).bind fun aa => (some aa)) else (some false))) = some r := h; clear h; obtain ⟨ab, A3, H⟩ := be_ H; (try dsimp only at H)
 by_cases c4 : ab = true
 ·
  subst c4; have H1 := ifp_ H
  clear H; have H := H1; clear H1; replace H := Option.bind_eq_some_iff.mp H; obtain ⟨aa, A50, H⟩ := H; replace H : (some aa) = some r := H; have A5 := am_ A50; clear A50; obtain rfl := Option.some.inj H
  go_enter Tryd.func61, Tryd.ntmps61
  go_wp2_with (first | ((with_reducible refine gate_callee (f := 103) rfl ?_); refine gl_ 6 Tryd.func103 #[.int .i64 a0, .int .i64 2, .int .i64 13] (h := ?_); (with_reducible refine (spec_l01Between.calls a0 2 13 true _ A3.out).mono ?_); rintro e w' ⟨rfl, ⟨nd, rfl⟩⟩; refine ⟨_, rfl, ?_⟩) | (go_at_call 103; (with_reducible refine (spec_l01Between.calls a1 1 (wrap64 (a0 - 1)) aa _ A5.out).mono ?_); rintro e w' ⟨rfl, ⟨nd, rfl⟩⟩))
  go_ret
  exact ⟨by first | rfl | (simp; done) | (simp [*]; done), by repeat (first | exact Drawn0.refl _ | apply Drawn0.step)⟩
 ·
  replace c4 := Bool.eq_false_iff.mpr c4; subst c4; have H1 := ifn_ H
  clear H; have H := H1; clear H1; obtain rfl := Option.some.inj H
  go_enter Tryd.func61, Tryd.ntmps61
  go_wp2_with (first | ((with_reducible refine gate_callee (f := 103) rfl ?_); refine gl_ 6 Tryd.func103 #[.int .i64 a0, .int .i64 2, .int .i64 13] (h := ?_); (with_reducible refine (spec_l01Between.calls a0 2 13 false _ A3.out).mono ?_); rintro e w' ⟨rfl, ⟨nd, rfl⟩⟩; refine ⟨_, rfl, ?_⟩))
  go_ret
  exact ⟨by first | rfl | (simp; done) | (simp [*]; done), by repeat (first | exact Drawn0.refl _ | apply Drawn0.step)⟩

end Go.Proofs.YtdmdalapckcobaaDoor.Q
