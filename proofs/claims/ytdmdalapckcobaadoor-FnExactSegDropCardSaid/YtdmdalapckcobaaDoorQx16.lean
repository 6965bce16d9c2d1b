/- Functions of the translation as Lean functions, each with a proof that a call answers so; out of the seat, by this claim's own program prt.py. -/
import Derived.Test.YtdmdalapckcobaaDoorWRepsOne
import Derived.Test.YtdmdalapckcobaaDoorQx0
import Derived.Test.YtdmdalapckcobaaDoorQx1
import Derived.Test.YtdmdalapckcobaaDoorQStep3
namespace Go.Proofs.YtdmdalapckcobaaDoor.Q
open Go.RowKit Go.Proofs.YtdmdalapckcobaaDoorW.PrintWords Go.Proofs.YtdmdalapckcobaaDoorW.PrintLast Go.Proofs.YtdmdalapckcobaaDoorW.PrintMore
attribute [local go_sem] max2_int min2_int max_two min_two max_three min_three max_four min_four   -- for this text's walks alone
set_option linter.unusedVariables false
set_option maxHeartbeats 8000000
set_option maxRecDepth 100000
set_option linter.unusedSimpArgs false

attribute [local go_sem high] eqA54
/-! ### impl_Sym_81: function 81 -/
def impl_Sym_81.l0 : Nat → List (S54) → Int → Int → Int → Int → Option (Int)
 | 0, _, _, _, _, _ => none
 | k + 1, x0, x7, x8, ak, al => if x8 < x7 then (if 0 ≤ x8 then (if x8 < (x0.length : Int) then (if (ak == ((rd_T54 x0 x8).f0) && (al == ((rd_T54 x0 x8).f1))) = true then (some x8) else (impl_Sym_81.l0 k x0 x7 (wrap64 (x8 + 1)) ak al)) else (none)) else (none)) else (some (-1))
def impl_Sym_81.f (k : Nat) (l0 : List (S54)) (ab : Int) (ac : Int) : Option (Int) := impl_Sym_81.l0 k l0 (l0.length : Int) 0 ab ac
theorem impl_Sym_81.mono_l : ∀ k, (∀ y0 y1 y2 y3 y4, LeO (impl_Sym_81.l0 k y0 y1 y2 y3 y4) (impl_Sym_81.l0 (k + 1) y0 y1 y2 y3 y4))
 | 0 => fun _ _ _ _ _ r h => by simp [impl_Sym_81.l0] at h
 | k + 1 => by
  have ih0 := impl_Sym_81.mono_l k
  ·
   intro y0 y1 y2 y3 y4; unfold impl_Sym_81.l0
   repeat' first
   | (with_reducible exact ih0 _ _ _ _ _) | (with_reducible exact LeO.refl _) | (with_reducible exact LeO.none _) | (with_reducible refine LeO.ite ?_ ?_) | (with_reducible refine LeO.bind ?_ fun _ => ?_) | exact ih0 _ _ _ _ _ | exact LeO.none _ | refine LeO.ite ?_ ?_ | refine LeO.bind ?_ fun _ => ?_
theorem impl_Sym_81.mono : ∀ a0 a1 a2 k, LeO (impl_Sym_81.f k a0 a1 a2) (impl_Sym_81.f (k + 1) a0 a1 a2) := by
 intro a0 a1 a2 k; have ih0 := impl_Sym_81.mono_l k; unfold impl_Sym_81.f
 repeat' first
   | (with_reducible exact ih0 _ _ _ _ _) | (with_reducible exact LeO.refl _) | (with_reducible exact LeO.none _) | (with_reducible refine LeO.ite ?_ ?_) | (with_reducible refine LeO.bind ?_ fun _ => ?_) | exact ih0 _ _ _ _ _ | exact LeO.none _ | refine LeO.ite ?_ ?_ | refine LeO.bind ?_ fun _ => ?_
theorem impl_Sym_81.calls (k : Nat) (A0 : Option Addr) (c0 : Nat) (l0 : List (S54)) (ab : Int) (ac : Int) (r : Int) (w : World) (hr0 : Kd.C k54 w A0 l0.length l0) (hc0 : l0.length ≤ c0) (h : impl_Sym_81.f k l0 ab ac = some r) :
  Calls Tryd.prog 81 #[.slice A0 l0.length c0, .agg #[.int .i64 ab, .int .i64 ac]] w fun e w' => e = .returned (.int .i64 r) ∧ Below w.heap.size w w' := by
 have hu54 := Tryd.underlying54; have aI := am_ hr0; have aN := am_ hc0; clear hr0 hc0; have HB := am_ (Below.refl w.heap.size w); have H : (impl_Sym_81.l0 k l0 (l0.length : Int) 0 ab ac) = some r := h; clear h; have H' := am_ H; clear H
 go_enter Tryd.func81, Tryd.ntmps81
 go_wp2_with (first | ((with_reducible refine gate_dst (N := 3) rfl ?_); refine box_y 3 #[.int .i64 ab, .int .i64 ac] 54 (h := ?_); intro am hg w3 hbox hb; have ag := am_ hbox; have ao := gz_ hg HB; have ah := gz_ hg HB; replace HB := hb_ HB hb; clear hb hbox hg))
 repeat (go_quiet (first | ((with_reducible refine gate_dst (N := 3) rfl ?_); refine box_y 3 #[.int .i64 ab, .int .i64 ac] 54 (h := ?_); intro am hg w3 hbox hb; have ag := am_ hbox; have ao := gz_ hg HB; have ah := gz_ hg HB; replace HB := hb_ HB hb; clear hb hbox hg)); try go_wp2_with (first | ((with_reducible refine gate_dst (N := 3) rfl ?_); refine box_y 3 #[.int .i64 ab, .int .i64 ac] 54 (h := ?_); intro am hg w3 hbox hb; have ag := am_ hbox; have ao := gz_ hg HB; have ah := gz_ hg HB; replace HB := hb_ HB hb; clear hb hbox hg)))
 go_loopg [8] k (fun kq v8 w' => ∃ (aa : Int), v8 = .int .i64 aa ∧ Aside0 (impl_Sym_81.l0 kq l0 (l0.length : Int) aa ab ac = some r) ∧ Aside0 (kq ≤ k) ∧ Aside0 (w'.heap[am]? = some (.cells #[.int .i64 ab, .int .i64 ac] 54 (0, 0))) ∧ Aside0 (Below w.heap.size w w'))
 case atStart => exact ⟨(0), sr_, H', ⟨Nat.le_refl _⟩, bk_ ag, ⟨sq_below1 HB.out ah.out⟩⟩
 case round =>
  clear H'
  obtain ⟨aa, rfl, HA, HK1, ag, HB⟩ := hrel; cases gk with
  | zero => exact absurd HA.out (by simp [impl_Sym_81.l0])
  | succ k1 =>
   have H := HA.out; clear HA; simp only [impl_Sym_81.l0] at H
   by_cases c4 : aa < (l0.length : Int)
   ·
    rw [if_pos c4] at H; have ar := decide_eq_true (p := aa < (l0.length : Int)) c4; clear c4
    by_cases c5 : 0 ≤ aa
    ·
     rw [if_pos c5] at H; have aJ := decide_eq_true (p := 0 ≤ aa) c5; clear c5
     by_cases c6 : aa < (l0.length : Int)
     ·
      rw [if_pos c6] at H; have aK := decide_eq_true (p := aa < (l0.length : Int)) c6; clear c6
      by_cases c7 : (ab == ((rd_T54 l0 aa).f0) && (ac == ((rd_T54 l0 aa).f1))) = true
      ·
       rw [if_pos c7] at H; have au : (ab == ((rd_T54 l0 aa).f0) && (ac == ((rd_T54 l0 aa).f1))) = true := c7
       (try (have av : decide (ab = ((rd_T54 l0 aa).f0) && (ac == ((rd_T54 l0 aa).f1))) = true := by simpa using c7))
       (try (have aw : (ab == ((rd_T54 l0 aa).f0) && (ac == ((rd_T54 l0 aa).f1))) = true := by simpa using c7))
       clear c7; obtain rfl := Option.some.inj H; obtain ⟨ax, ay, aC, aD⟩ := cz2_ ag; have ai : 0 ≤ (aa : Int) := sq_dec; have aj : aa < (l0.length : Int) := sq_dec; obtain ⟨aq, ap, ae, af⟩ := at_T54 aI.out aa ai aj; cases ap; replace ae := cb_ HB ae; replace af := cb_ HB af; replace ai := eq_true ai; replace aj := eq_true aj
       go_wp2
       repeat (go_quiet (fail); try go_wp2)
       go_ret
       exact ⟨lf_, sq_below HB.out⟩
      ·
       rw [if_neg c7] at H; have au : (ab == ((rd_T54 l0 aa).f0) && (ac == ((rd_T54 l0 aa).f1))) = false := by simpa using c7
       (try (have av : decide (ab = ((rd_T54 l0 aa).f0) && (ac == ((rd_T54 l0 aa).f1))) = false := by simpa using c7))
       (try (have aw : (ab == ((rd_T54 l0 aa).f0) && (ac == ((rd_T54 l0 aa).f1))) = false := by simpa using c7))
       (try (have aM : ¬ (ab = ((rd_T54 l0 aa).f0) && (ac == ((rd_T54 l0 aa).f1))) := by simpa using c7))
       clear c7; have H' := am_ H; clear H; obtain ⟨az, aA, aG, aH⟩ := cz2_ ag; have ai : 0 ≤ (aa : Int) := sq_dec; have aj : aa < (l0.length : Int) := sq_dec; obtain ⟨aq, ap, ae, af⟩ := at_T54 aI.out aa ai aj; cases ap; replace ae := cb_ HB ae; replace af := cb_ HB af; replace ai := eq_true ai; replace aj := eq_true aj
       go_wp2
       repeat (go_quiet (fail); try go_wp2)
       go_roundg k1
       case measure => have := HK1.out; omega
       case rel => exact ⟨(wrap64 (aa + 1)), sr_, H', ⟨by have := HK1.out; omega⟩, bk_ ag, ⟨sq_below1 HB.out ah.out⟩⟩
     ·
      rw [if_neg c6] at H; exact absurd H (by simp)
    ·
     rw [if_neg c5] at H; exact absurd H (by simp)
   ·
    rw [if_neg c4] at H; have ar := decide_eq_false (p := aa < (l0.length : Int)) c4; clear c4; obtain rfl := Option.some.inj H
    go_wp2
    repeat (go_quiet (fail); try go_wp2)
    go_ret
    exact ⟨lf_, sq_below1 HB.out ah.out⟩

/-! ### impl_Sym_35: function 35 -/
def impl_Sym_35.f (k : Nat) (l0 : List (S54)) (aa : Int) (ab : Int) : Option (Bool) := (impl_Sym_81.f k l0 aa ab).bind fun ac => (some (decide (ac ≥ 0)))
theorem impl_Sym_35.mono : ∀ a0 a1 a2 k, LeO (impl_Sym_35.f k a0 a1 a2) (impl_Sym_35.f (k + 1) a0 a1 a2) := by
 intro a0 a1 a2 k; unfold impl_Sym_35.f
 repeat' first
   | (with_reducible exact impl_Sym_81.mono _ _ _ _) | (with_reducible exact LeO.refl _) | (with_reducible exact LeO.none _) | (with_reducible refine LeO.ite ?_ ?_) | (with_reducible refine LeO.bind ?_ fun _ => ?_) | exact impl_Sym_81.mono _ _ _ _ | exact LeO.none _ | refine LeO.ite ?_ ?_ | refine LeO.bind ?_ fun _ => ?_
theorem impl_Sym_35.calls (k : Nat) (A0 : Option Addr) (c0 : Nat) (l0 : List (S54)) (aa : Int) (ab : Int) (r : Bool) (w : World) (hr0 : Kd.C k54 w A0 l0.length l0) (hc0 : l0.length ≤ c0) (h : impl_Sym_35.f k l0 aa ab = some r) :
  Calls Tryd.prog 35 #[.slice A0 l0.length c0, .agg #[.int .i64 aa, .int .i64 ab]] w fun e w' => e = .returned (.bool r) ∧ Below w.heap.size w w' := by
 have hu54 := Tryd.underlying54; have aq := am_ hr0; have ap := am_ hc0; clear hr0 hc0; have HB := am_ (Below.refl w.heap.size w); have H : ((impl_Sym_81.f k l0 aa ab).bind fun ac => (some (decide (ac ≥ 0)))) = some r := h; clear h; replace H := Option.bind_eq_some_iff.mp H; obtain ⟨ac, A30, H⟩ := H; replace H : (some (decide (ac ≥ 0))) = some r := H; have A3 := am_ A30; clear A30; obtain rfl := Option.some.inj H
 go_enter Tryd.func35, Tryd.ntmps35
 go_wp2_with (first | ((with_reducible refine gate_dst (N := 3) rfl ?_); refine box_y 3 #[.int .i64 aa, .int .i64 ab] 54 (h := ?_); intro ao hg w4 hbox hb; have ae := am_ hbox; have am := gz_ hg HB; have al := gz_ hg HB; replace HB := hb_ HB hb; clear hb hbox hg; obtain ⟨ah, ai, aj, ak⟩ := cz2_ ae) | ((with_reducible refine gate_callee (f := 81) rfl ?_); refine gl_ 7 Tryd.func81 #[.slice A0 l0.length c0, .agg #[.int .i64 aa, .int .i64 ab]] (h := ?_); (with_reducible refine (impl_Sym_81.calls k _ _ l0 aa ab ac _ ?af ?ag A3.out).mono ?_); (case af => exact sq_c (Kd.C_below aq.out HB.out)); (case ag => exact ap.out); rintro e w6 ⟨rfl, hb⟩; refine ⟨_, rfl, ?_⟩; replace HB := hb_ HB hb; (try clear hb)))
 go_ret
 exact ⟨lf_, sq_below HB.out⟩

/-! ### impl_inRange: function 67 -/
def impl_inRange.f (a0 : Int) (a1 : Int) (a2 : Int) : Option (Bool) := if a1 ≤ a0 then (some (decide (a0 ≤ a2))) else (some false)
theorem impl_inRange.calls (a0 : Int) (a1 : Int) (a2 : Int) (r : Bool) (w : World) (h : impl_inRange.f a0 a1 a2 = some r) :
  Calls Tryd.prog 67 #[.int .i64 a0, .int .i64 a1, .int .i64 a2] w fun e w' => e = .returned (.bool r) ∧ Drawn0 w w' := by
 have H : (if a1 ≤ a0 then (some (decide (a0 ≤ a2))) else (some false)) = some r := h; clear h
 by_cases c4 : a1 ≤ a0
 ·
  rw [if_pos c4] at H; have aa := decide_eq_true (p := a1 ≤ a0) c4; clear c4; obtain rfl := Option.some.inj H
  go_enter Tryd.func67, Tryd.ntmps67
  go_wp2
  go_ret
  exact ⟨by first | rfl | (simp; done) | (simp [*]; done), by repeat (first | exact Drawn0.refl _ | apply Drawn0.step)⟩
 ·
  rw [if_neg c4] at H; have aa := decide_eq_false (p := a1 ≤ a0) c4; clear c4; obtain rfl := Option.some.inj H
  go_enter Tryd.func67, Tryd.ntmps67
  go_wp2
  go_ret
  exact ⟨by first | rfl | (simp; done) | (simp [*]; done), by repeat (first | exact Drawn0.refl _ | apply Drawn0.step)⟩

/-! ### impl_isShape: function 66 -/
def impl_isShape.f (a0 : Int) (a1 : Int) : Option (Bool) := (impl_inRange.f a0 2 13).bind fun ab => (if ab = true then ((impl_inRange.f a1 1 (wrap64 (a0 - 1))).bind fun aa => (some aa)) else (some false))
theorem impl_isShape.calls (a0 : Int) (a1 : Int) (r : Bool) (w : World) (h : impl_isShape.f a0 a1 = some r) :
  Calls Tryd.prog 66 #[.int .i64 a0, .int .i64 a1] w fun e w' => e = .returned (.bool r) ∧ Drawn0 w w' := by
 have H : ((impl_inRange.f a0 2 13).bind fun ab => (if ab = true then ((impl_inRange.f a1 1 (wrap64 (a0 - 1))).bind fun aa => (some aa)) else (some false))) = some r := h; clear h; obtain ⟨ab, A3, H⟩ := be_ H; (try dsimp only at H)
 by_cases c4 : ab = true
 ·
  subst c4; have H1 := ifp_ H
  clear H; have H := H1; clear H1; replace H := Option.bind_eq_some_iff.mp H; obtain ⟨aa, A50, H⟩ := H; replace H : (some aa) = some r := H; have A5 := am_ A50; clear A50; obtain rfl := Option.some.inj H
  go_enter Tryd.func66, Tryd.ntmps66
  go_wp2_with (first | ((with_reducible refine gate_callee (f := 67) rfl ?_); refine gl_ 6 Tryd.func67 #[.int .i64 a0, .int .i64 2, .int .i64 13] (h := ?_); (with_reducible refine (impl_inRange.calls a0 2 13 true _ A3.out).mono ?_); rintro e w' ⟨rfl, ⟨nd, rfl⟩⟩; refine ⟨_, rfl, ?_⟩) | (go_at_call 67; (with_reducible refine (impl_inRange.calls a1 1 (wrap64 (a0 - 1)) aa _ A5.out).mono ?_); rintro e w' ⟨rfl, ⟨nd, rfl⟩⟩))
  go_ret
  exact ⟨by first | rfl | (simp; done) | (simp [*]; done), by repeat (first | exact Drawn0.refl _ | apply Drawn0.step)⟩
 ·
  replace c4 := Bool.eq_false_iff.mpr c4; subst c4; have H1 := ifn_ H
  clear H; have H := H1; clear H1; obtain rfl := Option.some.inj H
  go_enter Tryd.func66, Tryd.ntmps66
  go_wp2_with (first | ((with_reducible refine gate_callee (f := 67) rfl ?_); refine gl_ 6 Tryd.func67 #[.int .i64 a0, .int .i64 2, .int .i64 13] (h := ?_); (with_reducible refine (impl_inRange.calls a0 2 13 false _ A3.out).mono ?_); rintro e w' ⟨rfl, ⟨nd, rfl⟩⟩; refine ⟨_, rfl, ?_⟩))
  go_ret
  exact ⟨by first | rfl | (simp; done) | (simp [*]; done), by repeat (first | exact Drawn0.refl _ | apply Drawn0.step)⟩

/-! ### impl_isPlace: function 105 -/
def impl_isPlace.f (a0 : Int) (a1 : Int) : Option (Bool) := (impl_inRange.f a0 0 (wrap64 (a1 - 1))).bind fun aa => (some aa)
theorem impl_isPlace.calls (a0 : Int) (a1 : Int) (r : Bool) (w : World) (h : impl_isPlace.f a0 a1 = some r) :
  Calls Tryd.prog 105 #[.int .i64 a0, .int .i64 a1] w fun e w' => e = .returned (.bool r) ∧ Drawn0 w w' := by
 have H : ((impl_inRange.f a0 0 (wrap64 (a1 - 1))).bind fun aa => (some aa)) = some r := h; clear h; replace H := Option.bind_eq_some_iff.mp H; obtain ⟨aa, A30, H⟩ := H; replace H : (some aa) = some r := H; have A3 := am_ A30; clear A30; obtain rfl := Option.some.inj H
 go_enter Tryd.func105, Tryd.ntmps105
 go_wp2_with (first | ((with_reducible refine gate_callee (f := 67) rfl ?_); refine gl_ 8 Tryd.func67 #[.int .i64 a0, .int .i64 0, .int .i64 (wrap64 (a1 - 1))] (h := ?_); (with_reducible refine (impl_inRange.calls a0 0 (wrap64 (a1 - 1)) aa _ A3.out).mono ?_); rintro e w' ⟨rfl, ⟨nd, rfl⟩⟩; refine ⟨_, rfl, ?_⟩))
 go_ret
 exact ⟨by first | rfl | (simp; done) | (simp [*]; done), by repeat (first | exact Drawn0.refl _ | apply Drawn0.step)⟩

/-! ### impl_SymOk: function 68 -/
def impl_SymOk.f (a0 : Int) (aa : Int) (ab : Int) : Option (Bool) := (impl_inRange.f a0 1 13).bind fun af => (if af = true then ((impl_isPlace.f aa a0).bind fun ag => (if ag = true then ((impl_inRange.f ab (-1000) 1000).bind fun ae => (some ae)) else (some false))) else (some false))
theorem impl_SymOk.calls (a0 : Int) (aa : Int) (ab : Int) (r : Bool) (w : World) (h : impl_SymOk.f a0 aa ab = some r) :
  Calls Tryd.prog 68 #[.int .i64 a0, .agg #[.int .i64 aa, .int .i64 ab]] w fun e w' => e = .returned (.bool r) ∧ Below w.heap.size w w' := by
 have hu54 := Tryd.underlying54; have HB := am_ (Below.refl w.heap.size w); have H : ((impl_inRange.f a0 1 13).bind fun af => (if af = true then ((impl_isPlace.f aa a0).bind fun ag => (if ag = true then ((impl_inRange.f ab (-1000) 1000).bind fun ae => (some ae)) else (some false))) else (some false))) = some r := h; clear h; obtain ⟨af, A3, H⟩ := be_ H; (try dsimp only at H)
 by_cases c4 : af = true
 ·
  subst c4; have H1 := ifp_ H
  clear H; have H := H1; clear H1; obtain ⟨ag, A5, H⟩ := be_ H; (try dsimp only at H)
  by_cases c6 : ag = true
  ·
   subst c6; have H1 := ifp_ H
   clear H; have H := H1; clear H1; replace H := Option.bind_eq_some_iff.mp H; obtain ⟨ae, A70, H⟩ := H; replace H : (some ae) = some r := H; have A7 := am_ A70; clear A70; obtain rfl := Option.some.inj H
   go_enter Tryd.func68, Tryd.ntmps68
   go_wp2_with (first | ((with_reducible refine gate_dst (N := 3) rfl ?_); refine box_y 3 #[.int .i64 aa, .int .i64 ab] 54 (h := ?_); intro aj hg w8 hbox hb; have ac := am_ hbox; have ai := gz_ hg HB; have ah := gz_ hg HB; replace HB := hb_ HB hb; clear hb hbox hg) | ((with_reducible refine gate_callee (f := 67) rfl ?_); refine gl_ 6 Tryd.func67 #[.int .i64 a0, .int .i64 1, .int .i64 13] (h := ?_); (with_reducible refine (impl_inRange.calls a0 1 13 true _ A3.out).mono ?_); rintro e w' ⟨rfl, ⟨nd, rfl⟩⟩; refine ⟨_, rfl, ?_⟩; obtain ⟨ap, aq, ar, au⟩ := cz2_ ac) | (go_at_call 105; (with_reducible refine (impl_isPlace.calls aa a0 true _ A5.out).mono ?_); rintro e w' ⟨rfl, ⟨nd, rfl⟩⟩) | (go_at_call 67; (with_reducible refine (impl_inRange.calls ab (-1000) 1000 ae _ A7.out).mono ?_); rintro e w' ⟨rfl, ⟨nd, rfl⟩⟩))
   go_ret
   exact ⟨lf_, sq_below HB.out⟩
  ·
   replace c6 := Bool.eq_false_iff.mpr c6; subst c6; have H1 := ifn_ H
   clear H; have H := H1; clear H1; obtain rfl := Option.some.inj H
   go_enter Tryd.func68, Tryd.ntmps68
   go_wp2_with (first | ((with_reducible refine gate_dst (N := 3) rfl ?_); refine box_y 3 #[.int .i64 aa, .int .i64 ab] 54 (h := ?_); intro aj hg av hbox hb; have ac := am_ hbox; have ai := gz_ hg HB; have ah := gz_ hg HB; replace HB := hb_ HB hb; clear hb hbox hg) | ((with_reducible refine gate_callee (f := 67) rfl ?_); refine gl_ 6 Tryd.func67 #[.int .i64 a0, .int .i64 1, .int .i64 13] (h := ?_); (with_reducible refine (impl_inRange.calls a0 1 13 true _ A3.out).mono ?_); rintro e w' ⟨rfl, ⟨nd, rfl⟩⟩; refine ⟨_, rfl, ?_⟩; obtain ⟨ak, al, am, ao⟩ := cz2_ ac) | (go_at_call 105; (with_reducible refine (impl_isPlace.calls aa a0 false _ A5.out).mono ?_); rintro e w' ⟨rfl, ⟨nd, rfl⟩⟩))
   go_ret
   exact ⟨lf_, sq_below HB.out⟩
 ·
  replace c4 := Bool.eq_false_iff.mpr c4; subst c4; have H1 := ifn_ H
  clear H; have H := H1; clear H1; obtain rfl := Option.some.inj H
  go_enter Tryd.func68, Tryd.ntmps68
  go_wp2_with (first | ((with_reducible refine gate_dst (N := 3) rfl ?_); refine box_y 3 #[.int .i64 aa, .int .i64 ab] 54 (h := ?_); intro aj hg aw hbox hb; have ac := am_ hbox; have ai := gz_ hg HB; have ah := gz_ hg HB; replace HB := hb_ HB hb; clear hb hbox hg) | ((with_reducible refine gate_callee (f := 67) rfl ?_); refine gl_ 6 Tryd.func67 #[.int .i64 a0, .int .i64 1, .int .i64 13] (h := ?_); (with_reducible refine (impl_inRange.calls a0 1 13 false _ A3.out).mono ?_); rintro e w' ⟨rfl, ⟨nd, rfl⟩⟩; refine ⟨_, rfl, ?_⟩))
  go_ret
  exact ⟨lf_, sq_below HB.out⟩

/-! ### impl_SymLess: function 69 -/
def impl_SymLess.f (ae : Int) (aj : Int) (af : Int) (ak : Int) : Option (Bool) := if ae < af then (some true) else (if ae = af then (some (decide (aj < ak))) else (some false))
theorem impl_SymLess.calls (ae : Int) (aj : Int) (af : Int) (ak : Int) (r : Bool) (w : World) (h : impl_SymLess.f ae aj af ak = some r) :
  Calls Tryd.prog 69 #[.agg #[.int .i64 ae, .int .i64 aj], .agg #[.int .i64 af, .int .i64 ak]] w fun e w' => e = .returned (.bool r) ∧ Below w.heap.size w w' := by
 have hu54 := Tryd.underlying54; have HB := am_ (Below.refl w.heap.size w); have H : (if ae < af then (some true) else (if ae = af then (some (decide (aj < ak))) else (some false))) = some r := h; clear h
 by_cases c3 : ae < af
 ·
  rw [if_pos c3] at H; have aM := decide_eq_true (p := ae < af) c3; clear c3; obtain rfl := Option.some.inj H
  go_enter Tryd.func69, Tryd.ntmps69
  go_wp2_with (first | ((with_reducible refine gate_dst (N := 2) rfl ?_); refine box_y 2 #[.int .i64 ae, .int .i64 aj] 54 (h := ?_); intro ao hg w4 hbox hb; have ab := am_ hbox; have al := gz_ hg HB; have ag := gz_ hg HB; replace HB := hb_ HB hb; clear hb hbox hg) | ((with_reducible refine gate_dst (N := 3) rfl ?_); refine box_y 3 #[.int .i64 af, .int .i64 ak] 54 (h := ?_); intro ap hg w5 hbox hb; have ah := am_ hbox; have am := gz1_ hg HB ag; have ai := gz1_ hg HB ag; replace HB := hb1_ HB hb ag; have aa := nb_ hg ab; replace ab := bb_ ab hb; have ac := ns_ aa; clear hb hbox hg; have bi := aa.out; have bj := ac.out; obtain ⟨aT, aU, aX, aY⟩ := cz2_ ab; obtain ⟨aV, aW, aZ, ba⟩ := cz2_ ah))
  go_ret
  exact ⟨lf_, sq_below1 HB.out ai.out⟩
 ·
  rw [if_neg c3] at H; have aM := decide_eq_false (p := ae < af) c3; clear c3
  by_cases c9 : ae = af
  ·
   rw [if_pos c9] at H; have aN : (ae == af) = true := beq_iff_eq.mpr c9; have aQ : (ae != af) = false := bne_eq_false_iff_eq.mpr c9; clear c9; obtain rfl := Option.some.inj H
   go_enter Tryd.func69, Tryd.ntmps69
   go_wp2_with (first | ((with_reducible refine gate_dst (N := 2) rfl ?_); refine box_y 2 #[.int .i64 ae, .int .i64 aj] 54 (h := ?_); intro ao hg bk hbox hb; have ab := am_ hbox; have al := gz_ hg HB; have ag := gz_ hg HB; replace HB := hb_ HB hb; clear hb hbox hg) | ((with_reducible refine gate_dst (N := 3) rfl ?_); refine box_y 3 #[.int .i64 af, .int .i64 ak] 54 (h := ?_); intro ap hg bl hbox hb; have ah := am_ hbox; have am := gz1_ hg HB ag; have ai := gz1_ hg HB ag; replace HB := hb1_ HB hb ag; have aa := nb_ hg ab; replace ab := bb_ ab hb; have ac := ns_ aa; clear hb hbox hg; have bc := aa.out; have bf := ac.out; obtain ⟨aq, ar, aA, aC⟩ := cz2_ ab; obtain ⟨au, av, aD, aG⟩ := cz2_ ah))
   go_ret
   exact ⟨lf_, sq_below1 HB.out ai.out⟩
  ·
   rw [if_neg c9] at H; have aN : (ae == af) = false := beq_eq_false_iff_ne.mpr c9; have aQ : (ae != af) = true := bne_iff_ne.mpr c9; obtain rfl := Option.some.inj H
   go_enter Tryd.func69, Tryd.ntmps69
   go_wp2_with (first | ((with_reducible refine gate_dst (N := 2) rfl ?_); refine box_y 2 #[.int .i64 ae, .int .i64 aj] 54 (h := ?_); intro ao hg bm hbox hb; have ab := am_ hbox; have al := gz_ hg HB; have ag := gz_ hg HB; replace HB := hb_ HB hb; clear hb hbox hg) | ((with_reducible refine gate_dst (N := 3) rfl ?_); refine box_y 3 #[.int .i64 af, .int .i64 ak] 54 (h := ?_); intro ap hg bn hbox hb; have ah := am_ hbox; have am := gz1_ hg HB ag; have ai := gz1_ hg HB ag; replace HB := hb1_ HB hb ag; have aa := nb_ hg ab; replace ab := bb_ ab hb; have ac := ns_ aa; clear hb hbox hg; have bd := aa.out; have bh := ac.out; obtain ⟨aw, ax, aH, aI⟩ := cz2_ ab; obtain ⟨ay, az, aJ, aK⟩ := cz2_ ah))
   go_ret
   exact ⟨lf_, sq_below1 HB.out ai.out⟩

/-! ### impl_ends: function 70 -/
def impl_ends.f (a0 : Int) : Option (Int × Int × Int × Int) := some (0, 0, a0, 0)
theorem impl_ends.calls (a0 : Int) (r1 : Int) (r2 : Int) (r3 : Int) (r4 : Int) (w : World) (h : impl_ends.f a0 = some (r1, r2, r3, r4)) :
  Calls Tryd.prog 70 #[.int .i64 a0] w fun e w' => e = .returned (.tuple #[.agg #[.int .i64 r1, .int .i64 r2], .agg #[.int .i64 r3, .int .i64 r4]]) ∧ Below w.heap.size w w' := by
 have hu54 := Tryd.underlying54; have HB := am_ (Below.refl w.heap.size w); have H : (some (0, 0, a0, 0)) = some (r1, r2, r3, r4) := h; clear h; simp only [Option.some.injEq, Prod.mk.injEq] at H; obtain ⟨rfl, rfl, rfl, rfl⟩ := H
 go_enter Tryd.func70, Tryd.ntmps70
 go_wp2_with (first | ((with_reducible refine gate_dst (N := 2) rfl ?_); refine box_y 2 #[.int .i64 0, .int .i64 0] 54 (h := ?_); intro ah hg w2 hbox hb; have ac := am_ hbox; have au := gz_ hg HB; have ae := gz_ hg HB; replace HB := hb_ HB hb; clear hb hbox hg) | ((with_reducible refine gate_dst (N := 3) rfl ?_); refine box_y 3 #[.int .i64 0, .int .i64 0] 54 (h := ?_); intro ai hg w3 hbox hb; have af := am_ hbox; have av := gz1_ hg HB ae; have ag := gz1_ hg HB ae; replace HB := hb1_ HB hb ae; have aa := nb_ hg ac; replace ac := bb_ ac hb; have ab := ns_ aa; clear hb hbox hg; have aw := aa.out; have ax := ab.out; obtain ⟨aj, ak, ao, ap⟩ := cz2_ ac; obtain ⟨al, am, aq, ar⟩ := cz2_ af))
 refine bodyPost_ret (results_cc rfl _ _ ah ai 54 54 #[.int .i64 0, .int .i64 0] #[.int .i64 a0, .int .i64 0] (0, 0) (0, 0) _ _ rfl (bp1_ ac aa) Tryd.underlying54 rfl (by kernel_rfl) rfl (bp1_ af ab) Tryd.underlying54 rfl (by kernel_rfl)) rfl ?_; exact ⟨lf_, sq_below2 HB.out ae.out ag.out⟩

/-! ### impl_isVal: function 97 -/
def impl_isVal.f (a0 : Int) : Option (Bool) := (impl_inRange.f a0 (-1000000) 1000000).bind fun aa => (some aa)
theorem impl_isVal.calls (a0 : Int) (r : Bool) (w : World) (h : impl_isVal.f a0 = some r) :
  Calls Tryd.prog 97 #[.int .i64 a0] w fun e w' => e = .returned (.bool r) ∧ Drawn0 w w' := by
 have H : ((impl_inRange.f a0 (-1000000) 1000000).bind fun aa => (some aa)) = some r := h; clear h; replace H := Option.bind_eq_some_iff.mp H; obtain ⟨aa, A20, H⟩ := H; replace H : (some aa) = some r := H; have A2 := am_ A20; clear A20; obtain rfl := Option.some.inj H
 go_enter Tryd.func97, Tryd.ntmps97
 go_wp2_with (first | ((with_reducible refine gate_callee (f := 67) rfl ?_); refine gl_ 4 Tryd.func67 #[.int .i64 a0, .int .i64 (-1000000), .int .i64 1000000] (h := ?_); (with_reducible refine (impl_inRange.calls a0 (-1000000) 1000000 aa _ A2.out).mono ?_); rintro e w' ⟨rfl, ⟨nd, rfl⟩⟩; refine ⟨_, rfl, ?_⟩))
 go_ret
 exact ⟨by first | rfl | (simp; done) | (simp [*]; done), by repeat (first | exact Drawn0.refl _ | apply Drawn0.step)⟩

end Go.Proofs.YtdmdalapckcobaaDoor.Q
