/- Functions of the translation as Lean functions, each with a proof that a call answers so; out of the seat, by this claim's own program prt.py. -/
import Derived.Test.YtdmdalapckcobaaDoorWRepsOne
import Derived.Test.YtdmdalapckcobaaDoorQx0
import Derived.Test.YtdmdalapckcobaaDoorQx2
import Derived.Test.YtdmdalapckcobaaDoorQx16
import Derived.Test.YtdmdalapckcobaaDoorQStep3
namespace Go.Proofs.YtdmdalapckcobaaDoor.Q
open Go.RowKit Go.Proofs.YtdmdalapckcobaaDoorW.PrintWords Go.Proofs.YtdmdalapckcobaaDoorW.PrintLast Go.Proofs.YtdmdalapckcobaaDoorW.PrintMore
attribute [local go_sem] max2_int min2_int max_two min_two max_three min_three max_four min_four   -- for this text's walks alone
set_option linter.unusedVariables false
set_option maxHeartbeats 8000000
set_option maxRecDepth 100000
set_option linter.unusedSimpArgs false

attribute [local go_sem high] eqA88
/-! ### impl_RangeOk: function 107 -/
def impl_RangeOk.f (aa : Int) (ab : Int) : Option (Bool) := if (aa == 1 && (ab == 0)) = true then (some true) else ((impl_isVal.f aa).bind fun ak => (if ak = true then ((impl_isVal.f ab).bind fun al => (if al = true then (some (decide (aa ≤ ab))) else (some false))) else (some false)))
theorem impl_RangeOk.calls (aa : Int) (ab : Int) (r : Bool) (w : World) (hG0 : GL0 w) (h : impl_RangeOk.f aa ab = some r) :
  Calls Tryd.prog 107 #[.agg #[.int .i64 aa, .int .i64 ab]] w fun e w' => e = .returned (.bool r) ∧ Below w.heap.size w w' := by
 have hu88 := Tryd.underlying88; have HB := am_ (Below.refl w.heap.size w); have HG0 := am_ hG0; clear hG0; have H : (if (aa == 1 && (ab == 0)) = true then (some true) else ((impl_isVal.f aa).bind fun ak => (if ak = true then ((impl_isVal.f ab).bind fun al => (if al = true then (some (decide (aa ≤ ab))) else (some false))) else (some false)))) = some r := h; clear h
 by_cases c2 : (aa == 1 && (ab == 0)) = true
 ·
  rw [if_pos c2] at H; have aC : (aa == 1 && (ab == 0)) = true := c2
  (try (have aD : decide (aa = 1 && (ab == 0)) = true := by simpa using c2))
  (try (have aG : (aa == 1 && (ab == 0)) = true := by simpa using c2))
  clear c2; obtain rfl := Option.some.inj H
  go_enter Tryd.func107, Tryd.ntmps107
  go_wp2_with (first | ((with_reducible refine gate_dst (N := 1) rfl ?_); refine box_y 1 #[.int .i64 aa, .int .i64 ab] 88 (h := ?_); intro ag hg w3 hbox hb; have ac := am_ hbox; have af := gz_ hg HB; have ae := gz_ hg HB; replace HB := hb_ HB hb; clear hb hbox hg; obtain ⟨aH, aI, aJ, aK⟩ := cz2_ ac; have hgl5_0 : w3.cell? ⟨0, 0, none⟩ = some (.int .i64 1) := GL0.c0 (GL0.below HG0.out HB.out); have hgl5_1 : w3.cell? ⟨0, 1, none⟩ = some (.int .i64 0) := GL0.c1 (GL0.below HG0.out HB.out)))
  go_ret
  exact ⟨lf_, sq_below HB.out⟩
 ·
  rw [if_neg c2] at H; have aC : (aa == 1 && (ab == 0)) = false := by simpa using c2
  (try (have aD : decide (aa = 1 && (ab == 0)) = false := by simpa using c2))
  (try (have aG : (aa == 1 && (ab == 0)) = false := by simpa using c2))
  (try (have aT : ¬ (aa = 1 && (ab == 0)) := by simpa using c2))
  clear c2; obtain ⟨ak, A6, H⟩ := be_ H; (try dsimp only at H)
  by_cases c7 : ak = true
  ·
   subst c7; have H1 := ifp_ H
   clear H; have H := H1; clear H1; obtain ⟨al, A8, H⟩ := be_ H; (try dsimp only at H)
   by_cases c9 : al = true
   ·
    subst c9; have H1 := ifp_ H
    clear H; have H := H1; clear H1; obtain rfl := Option.some.inj H
    go_enter Tryd.func107, Tryd.ntmps107
    go_wp2_with (first | ((with_reducible refine gate_dst (N := 1) rfl ?_); refine box_y 1 #[.int .i64 aa, .int .i64 ab] 88 (h := ?_); intro ag hg aM hbox hb; have ac := am_ hbox; have af := gz_ hg HB; have ae := gz_ hg HB; replace HB := hb_ HB hb; clear hb hbox hg; obtain ⟨am, ao, av, aw⟩ := cz2_ ac; have hgl12_0 : aM.cell? ⟨0, 0, none⟩ = some (.int .i64 1) := GL0.c0 (GL0.below HG0.out HB.out); have hgl12_1 : aM.cell? ⟨0, 1, none⟩ = some (.int .i64 0) := GL0.c1 (GL0.below HG0.out HB.out); have ah : ag ≠ 0 := (by first | exact Nat.ne_of_gt (Nat.lt_of_lt_of_le (World.block_lt_of_cell? _ _ (GL0.c0 HG0.out)) ae.out) | exact Nat.ne_of_gt (Nat.lt_of_lt_of_le (World.block_lt_of_cell? _ _ (GL0.c0 HG0.out)) af.out)); have hnhgl12_342 := Ne.symm ah) | (go_at_call 97; (with_reducible refine (impl_isVal.calls aa true _ A6.out).mono ?_); rintro e w' ⟨rfl, ⟨nd, rfl⟩⟩) | (go_at_call 97; (with_reducible refine (impl_isVal.calls ab true _ A8.out).mono ?_); rintro e w' ⟨rfl, ⟨nd, rfl⟩⟩))
    go_ret
    exact ⟨lf_, sq_below1 HB.out ae.out⟩
   ·
    replace c9 := Bool.eq_false_iff.mpr c9; subst c9; have H1 := ifn_ H
    clear H; have H := H1; clear H1; obtain rfl := Option.some.inj H
    go_enter Tryd.func107, Tryd.ntmps107
    go_wp2_with (first | ((with_reducible refine gate_dst (N := 1) rfl ?_); refine box_y 1 #[.int .i64 aa, .int .i64 ab] 88 (h := ?_); intro ag hg aN hbox hb; have ac := am_ hbox; have af := gz_ hg HB; have ae := gz_ hg HB; replace HB := hb_ HB hb; clear hb hbox hg; obtain ⟨ap, aq, ax, ay⟩ := cz2_ ac; have hgl15_0 : aN.cell? ⟨0, 0, none⟩ = some (.int .i64 1) := GL0.c0 (GL0.below HG0.out HB.out); have hgl15_1 : aN.cell? ⟨0, 1, none⟩ = some (.int .i64 0) := GL0.c1 (GL0.below HG0.out HB.out); have ai : ag ≠ 0 := (by first | exact Nat.ne_of_gt (Nat.lt_of_lt_of_le (World.block_lt_of_cell? _ _ (GL0.c0 HG0.out)) ae.out) | exact Nat.ne_of_gt (Nat.lt_of_lt_of_le (World.block_lt_of_cell? _ _ (GL0.c0 HG0.out)) af.out)); have hnhgl15_342 := Ne.symm ai) | (go_at_call 97; (with_reducible refine (impl_isVal.calls aa true _ A6.out).mono ?_); rintro e w' ⟨rfl, ⟨nd, rfl⟩⟩) | (go_at_call 97; (with_reducible refine (impl_isVal.calls ab false _ A8.out).mono ?_); rintro e w' ⟨rfl, ⟨nd, rfl⟩⟩))
    go_ret
    exact ⟨lf_, sq_below HB.out⟩
  ·
   replace c7 := Bool.eq_false_iff.mpr c7; subst c7; have H1 := ifn_ H
   clear H; have H := H1; clear H1; obtain rfl := Option.some.inj H
   go_enter Tryd.func107, Tryd.ntmps107
   go_wp2_with (first | ((with_reducible refine gate_dst (N := 1) rfl ?_); refine box_y 1 #[.int .i64 aa, .int .i64 ab] 88 (h := ?_); intro ag hg aQ hbox hb; have ac := am_ hbox; have af := gz_ hg HB; have ae := gz_ hg HB; replace HB := hb_ HB hb; clear hb hbox hg; obtain ⟨ar, au, az, aA⟩ := cz2_ ac; have hgl18_0 : aQ.cell? ⟨0, 0, none⟩ = some (.int .i64 1) := GL0.c0 (GL0.below HG0.out HB.out); have hgl18_1 : aQ.cell? ⟨0, 1, none⟩ = some (.int .i64 0) := GL0.c1 (GL0.below HG0.out HB.out); have aj : ag ≠ 0 := (by first | exact Nat.ne_of_gt (Nat.lt_of_lt_of_le (World.block_lt_of_cell? _ _ (GL0.c0 HG0.out)) ae.out) | exact Nat.ne_of_gt (Nat.lt_of_lt_of_le (World.block_lt_of_cell? _ _ (GL0.c0 HG0.out)) af.out)); have hnhgl18_342 := Ne.symm aj) | (go_at_call 97; (with_reducible refine (impl_isVal.calls aa false _ A6.out).mono ?_); rintro e w' ⟨rfl, ⟨nd, rfl⟩⟩))
   go_ret
   exact ⟨lf_, sq_below HB.out⟩

/-! ### impl_ValOk: function 73 -/
def impl_ValOk.f (aa : Int) (ab : Int) (ae : Bool) : Option (Bool) := (impl_RangeOk.f aa ab).bind fun ac => (some ac)
theorem impl_ValOk.calls (aa : Int) (ab : Int) (ae : Bool) (r : Bool) (w : World) (hG0 : GL0 w) (h : impl_ValOk.f aa ab ae = some r) :
  Calls Tryd.prog 73 #[.agg #[.int .i64 aa, .int .i64 ab, .bool ae]] w fun e w' => e = .returned (.bool r) ∧ Below w.heap.size w w' := by
 have hu90 := Tryd.underlying90; have hu88 := Tryd.underlying88; have HB := am_ (Below.refl w.heap.size w); have HG0 := am_ hG0; clear hG0; have H : ((impl_RangeOk.f aa ab).bind fun ac => (some ac)) = some r := h; clear h; replace H := Option.bind_eq_some_iff.mp H; obtain ⟨ac, A20, H⟩ := H; replace H : (some ac) = some r := H; have A2 := am_ A20; clear A20; obtain rfl := Option.some.inj H
 go_enter Tryd.func73, Tryd.ntmps73
 go_wp2_with (first | ((with_reducible refine gate_dst (N := 1) rfl ?_); refine box_y 1 #[.int .i64 aa, .int .i64 ab, .bool ae] 90 (h := ?_); intro aq hg w3 hbox hb; have af := am_ hbox; have ap := gz_ hg HB; have ao := gz_ hg HB; replace HB := hb_ HB hb; clear hb hbox hg; obtain ⟨ah, ai, aj, ak, al, am⟩ := cz3_ af) | ((with_reducible refine gate_callee (f := 107) rfl ?_); refine gl_ 5 Tryd.func107 #[.agg #[.int .i64 aa, .int .i64 ab]] (h := ?_); (with_reducible refine (impl_RangeOk.calls aa ab ac _ ?ag A2.out).mono ?_); (case ag => exact GL0.below HG0.out (sq_below HB.out)); rintro e w5 ⟨rfl, hb⟩; refine ⟨_, rfl, ?_⟩; replace HB := hb_ HB hb; (try clear hb)))
 go_ret
 exact ⟨lf_, sq_below HB.out⟩

/-! ### impl_SegOk_1: function 72 -/
def impl_SegOk_1.f (aa : Int) (ab : Int) (ac : Bool) : Option (Bool) := (impl_ValOk.f aa ab ac).bind fun ae => (some (!ae))
theorem impl_SegOk_1.calls (aa : Int) (ab : Int) (ac : Bool) (r : Bool) (w : World) (hG0 : GL0 w) (h : impl_SegOk_1.f aa ab ac = some r) :
  Calls Tryd.prog 72 #[.agg #[.int .i64 aa, .int .i64 ab, .bool ac]] w fun e w' => e = .returned (.bool r) ∧ Below w.heap.size w w' := by
 have hu90 := Tryd.underlying90; have HB := am_ (Below.refl w.heap.size w); have HG0 := am_ hG0; clear hG0; have H : ((impl_ValOk.f aa ab ac).bind fun ae => (some (!ae))) = some r := h; clear h; replace H := Option.bind_eq_some_iff.mp H; obtain ⟨ae, A20, H⟩ := H; replace H : (some (!ae)) = some r := H; have A2 := am_ A20; clear A20; obtain rfl := Option.some.inj H
 go_enter Tryd.func72, Tryd.ntmps72
 go_wp2_with (first | ((with_reducible refine gate_dst (N := 1) rfl ?_); refine box_y 1 #[.int .i64 aa, .int .i64 ab, .bool ac] 90 (h := ?_); intro aq hg w3 hbox hb; have af := am_ hbox; have ap := gz_ hg HB; have ao := gz_ hg HB; replace HB := hb_ HB hb; clear hb hbox hg; obtain ⟨ah, ai, aj, ak, al, am⟩ := cz3_ af) | ((with_reducible refine gate_callee (f := 73) rfl ?_); refine gl_ 4 Tryd.func73 #[.agg #[.int .i64 aa, .int .i64 ab, .bool ac]] (h := ?_); (with_reducible refine (impl_ValOk.calls aa ab ac ae _ ?ag A2.out).mono ?_); (case ag => exact GL0.below HG0.out (sq_below HB.out)); rintro e w5 ⟨rfl, hb⟩; refine ⟨_, rfl, ?_⟩; replace HB := hb_ HB hb; (try clear hb)))
 go_ret
 exact ⟨lf_, sq_below HB.out⟩

/-! ### slices_IndexFunc__impl_SegOk_1: function 106 -/
def slices_IndexFunc__impl_SegOk_1.l0 : Nat → List (S90) → Int → Int → Option (Int)
 | 0, _, _, _ => none
 | k + 1, x0, x7, x8 => if x8 < x7 then (if 0 ≤ x8 then (if x8 < (x0.length : Int) then ((impl_SegOk_1.f ((rd_T90 x0 x8).f0.f0) ((rd_T90 x0 x8).f0.f1) ((rd_T90 x0 x8).f1)).bind fun aj => (if aj = true then (some x8) else (slices_IndexFunc__impl_SegOk_1.l0 k x0 x7 (wrap64 (x8 + 1))))) else (none)) else (none)) else (some (-1))
def slices_IndexFunc__impl_SegOk_1.f (k : Nat) (l0 : List (S90))  : Option (Int) := slices_IndexFunc__impl_SegOk_1.l0 k l0 (l0.length : Int) 0
theorem slices_IndexFunc__impl_SegOk_1.mono_l : ∀ k, (∀ y0 y1 y2, LeO (slices_IndexFunc__impl_SegOk_1.l0 k y0 y1 y2) (slices_IndexFunc__impl_SegOk_1.l0 (k + 1) y0 y1 y2))
 | 0 => fun _ _ _ r h => by simp [slices_IndexFunc__impl_SegOk_1.l0] at h
 | k + 1 => by
  have ih0 := slices_IndexFunc__impl_SegOk_1.mono_l k
  ·
   intro y0 y1 y2; unfold slices_IndexFunc__impl_SegOk_1.l0
   repeat' first
   | (with_reducible exact ih0 _ _ _) | (with_reducible exact LeO.refl _) | (with_reducible exact LeO.none _) | (with_reducible refine LeO.ite ?_ ?_) | (with_reducible refine LeO.bind ?_ fun _ => ?_) | exact ih0 _ _ _ | exact LeO.none _ | refine LeO.ite ?_ ?_ | refine LeO.bind ?_ fun _ => ?_
theorem slices_IndexFunc__impl_SegOk_1.mono : ∀ a0 k, LeO (slices_IndexFunc__impl_SegOk_1.f k a0) (slices_IndexFunc__impl_SegOk_1.f (k + 1) a0) := by
 intro a0 k; have ih0 := slices_IndexFunc__impl_SegOk_1.mono_l k; unfold slices_IndexFunc__impl_SegOk_1.f
 repeat' first
   | (with_reducible exact ih0 _ _ _) | (with_reducible exact LeO.refl _) | (with_reducible exact LeO.none _) | (with_reducible refine LeO.ite ?_ ?_) | (with_reducible refine LeO.bind ?_ fun _ => ?_) | exact ih0 _ _ _ | exact LeO.none _ | refine LeO.ite ?_ ?_ | refine LeO.bind ?_ fun _ => ?_
theorem slices_IndexFunc__impl_SegOk_1.calls (k : Nat) (A0 : Option Addr) (c0 : Nat) (l0 : List (S90))  (r : Int) (w : World) (hG0 : GL0 w) (hr0 : Kd.C k90 w A0 l0.length l0) (hc0 : l0.length ≤ c0) (h : slices_IndexFunc__impl_SegOk_1.f k l0 = some r) :
  Calls Tryd.prog 106 #[.slice A0 l0.length c0, .func (.func 72) #[] #[]] w fun e w' => e = .returned (.int .i64 r) ∧ Below w.heap.size w w' := by
 have hu90 := Tryd.underlying90; have am := am_ hr0; have aq := am_ hc0; clear hr0 hc0; have HB := am_ (Below.refl w.heap.size w); have HG0 := am_ hG0; clear hG0; have H : (slices_IndexFunc__impl_SegOk_1.l0 k l0 (l0.length : Int) 0) = some r := h; clear h; have H' := am_ H; clear H
 go_enter Tryd.func106, Tryd.ntmps106
 go_wp2
 go_loopg [8] k (fun kq v8 w' => ∃ (aa : Int), v8 = .int .i64 aa ∧ Aside0 (slices_IndexFunc__impl_SegOk_1.l0 kq l0 (l0.length : Int) aa = some r) ∧ Aside0 (kq ≤ k) ∧ Aside0 (Below w.heap.size w w'))
 case atStart => exact ⟨(0), sr_, H', ⟨Nat.le_refl _⟩, ⟨sq_below HB.out⟩⟩
 case round =>
  clear H'
  obtain ⟨aa, rfl, HA, HK1, HB⟩ := hrel; cases gk with
  | zero => exact absurd HA.out (by simp [slices_IndexFunc__impl_SegOk_1.l0])
  | succ k1 =>
   have H := HA.out; clear HA; simp only [slices_IndexFunc__impl_SegOk_1.l0] at H
   by_cases c3 : aa < (l0.length : Int)
   ·
    rw [if_pos c3] at H; have al := decide_eq_true (p := aa < (l0.length : Int)) c3; clear c3
    by_cases c4 : 0 ≤ aa
    ·
     rw [if_pos c4] at H; have ao := decide_eq_true (p := 0 ≤ aa) c4; clear c4
     by_cases c5 : aa < (l0.length : Int)
     ·
      rw [if_pos c5] at H; have ap := decide_eq_true (p := aa < (l0.length : Int)) c5; clear c5; obtain ⟨aj, A6, H⟩ := be_ H; (try dsimp only at H)
      by_cases c7 : aj = true
      ·
       subst c7; have H1 := ifp_ H
       clear H; have H := H1; clear H1; obtain rfl := Option.some.inj H; have af : 0 ≤ (aa : Int) := sq_dec; have ag : aa < (l0.length : Int) := sq_dec; obtain ⟨ak, ai, ab, ac, ae⟩ := at_T90 am.out aa af ag; cases ai; replace ab := cb_ HB ab; replace ac := cb_ HB ac; replace ae := cb_ HB ae; replace af := eq_true af; replace ag := eq_true ag
       go_wp2_with (first | (go_at_call 72; (with_reducible refine (impl_SegOk_1.calls ((rd_T90 l0 aa).f0.f0) ((rd_T90 l0 aa).f0.f1) ((rd_T90 l0 aa).f1) true _ ?ah A6.out).mono ?_); (case ah => exact GL0.below HG0.out (sq_below HB.out)); rintro e w8 ⟨rfl, hb⟩; replace HB := hb_ HB hb; (try clear hb)))
       go_ret
       exact ⟨lf_, sq_below HB.out⟩
      ·
       replace c7 := Bool.eq_false_iff.mpr c7; subst c7; have H1 := ifn_ H
       clear H; have H := H1; clear H1; have H' := am_ H; clear H; have af : 0 ≤ (aa : Int) := sq_dec; have ag : aa < (l0.length : Int) := sq_dec; obtain ⟨ak, ai, ab, ac, ae⟩ := at_T90 am.out aa af ag; cases ai; replace ab := cb_ HB ab; replace ac := cb_ HB ac; replace ae := cb_ HB ae; replace af := eq_true af; replace ag := eq_true ag
       go_wp2_with (first | (go_at_call 72; (with_reducible refine (impl_SegOk_1.calls ((rd_T90 l0 aa).f0.f0) ((rd_T90 l0 aa).f0.f1) ((rd_T90 l0 aa).f1) false _ ?ah A6.out).mono ?_); (case ah => exact GL0.below HG0.out (sq_below HB.out)); rintro e w9 ⟨rfl, hb⟩; replace HB := hb_ HB hb; (try clear hb)))
       go_roundg k1
       case measure => have := HK1.out; omega
       case rel => exact ⟨(wrap64 (aa + 1)), sr_, H', ⟨by have := HK1.out; omega⟩, ⟨sq_below HB.out⟩⟩
     ·
      rw [if_neg c5] at H; exact absurd H (by simp)
    ·
     rw [if_neg c4] at H; exact absurd H (by simp)
   ·
    rw [if_neg c3] at H; have al := decide_eq_false (p := aa < (l0.length : Int)) c3; clear c3; obtain rfl := Option.some.inj H
    go_wp2
    go_ret
    exact ⟨lf_, sq_below HB.out⟩

/-! ### slices_ContainsFunc__impl_SegOk_1: function 71 -/
def slices_ContainsFunc__impl_SegOk_1.f (k : Nat) (l0 : List (S90))  : Option (Bool) := (slices_IndexFunc__impl_SegOk_1.f k l0).bind fun aa => (some (decide (aa ≥ 0)))
theorem slices_ContainsFunc__impl_SegOk_1.mono : ∀ a0 k, LeO (slices_ContainsFunc__impl_SegOk_1.f k a0) (slices_ContainsFunc__impl_SegOk_1.f (k + 1) a0) := by
 intro a0 k; unfold slices_ContainsFunc__impl_SegOk_1.f
 repeat' first
   | (with_reducible exact slices_IndexFunc__impl_SegOk_1.mono _ _) | (with_reducible exact LeO.refl _) | (with_reducible exact LeO.none _) | (with_reducible refine LeO.ite ?_ ?_) | (with_reducible refine LeO.bind ?_ fun _ => ?_) | exact slices_IndexFunc__impl_SegOk_1.mono _ _ | exact LeO.none _ | refine LeO.ite ?_ ?_ | refine LeO.bind ?_ fun _ => ?_
theorem slices_ContainsFunc__impl_SegOk_1.calls (k : Nat) (A0 : Option Addr) (c0 : Nat) (l0 : List (S90))  (r : Bool) (w : World) (hG0 : GL0 w) (hr0 : Kd.C k90 w A0 l0.length l0) (hc0 : l0.length ≤ c0) (h : slices_ContainsFunc__impl_SegOk_1.f k l0 = some r) :
  Calls Tryd.prog 71 #[.slice A0 l0.length c0, .func (.func 72) #[] #[]] w fun e w' => e = .returned (.bool r) ∧ Below w.heap.size w w' := by
 have ag := am_ hr0; have af := am_ hc0; clear hr0 hc0; have HB := am_ (Below.refl w.heap.size w); have HG0 := am_ hG0; clear hG0; have H : ((slices_IndexFunc__impl_SegOk_1.f k l0).bind fun aa => (some (decide (aa ≥ 0)))) = some r := h; clear h; replace H := Option.bind_eq_some_iff.mp H; obtain ⟨aa, A30, H⟩ := H; replace H : (some (decide (aa ≥ 0))) = some r := H; have A3 := am_ A30; clear A30; obtain rfl := Option.some.inj H
 go_enter Tryd.func71, Tryd.ntmps71
 go_wp2_with (first | ((with_reducible refine gate_callee (f := 106) rfl ?_); refine gl_ 7 Tryd.func106 #[.slice A0 l0.length c0, .func (.func 72) #[] #[]] (h := ?_); (with_reducible refine (slices_IndexFunc__impl_SegOk_1.calls k _ _ l0  aa _ ?ae ?ab ?ac A3.out).mono ?_); (case ab => repeat (first | exact ag.out | (with_reducible refine Kd.C_alloc ?_ _) | (with_reducible refine Kd.C_drewN ?_ _) | (with_reducible refine Kd.C_drew ?_))); (case ac => exact af.out); (case ae => exact GL0.below HG0.out (sq_below HB.out)); rintro e w4 ⟨rfl, hb⟩; refine ⟨_, rfl, ?_⟩; replace HB := hb_ HB hb; (try clear hb)))
 go_ret
 exact ⟨lf_, sq_below HB.out⟩

end Go.Proofs.YtdmdalapckcobaaDoor.Q
