/- Functions of the translation as Lean functions, each with a proof that a call answers so; out of the seat, by this claim's own program prt.py. -/
import Derived.Test.YtdmdalapckcobaaDoorWRepsOne
import Derived.Test.YtdmdalapckcobaaDoorQx0
import Derived.Test.YtdmdalapckcobaaDoorQx1
import Derived.Test.YtdmdalapckcobaaDoorQx5
import Derived.Test.YtdmdalapckcobaaDoorQStep3
namespace Go.Proofs.YtdmdalapckcobaaDoor.Q
open Go.RowKit Go.Proofs.YtdmdalapckcobaaDoorW.PrintWords Go.Proofs.YtdmdalapckcobaaDoorW.PrintLast Go.Proofs.YtdmdalapckcobaaDoorW.PrintMore
attribute [local go_sem] max2_int min2_int max_two min_two max_three min_three max_four min_four   -- for this text's walks alone
set_option linter.unusedVariables false
set_option maxHeartbeats 8000000
set_option maxRecDepth 100000
set_option linter.unusedSimpArgs false

attribute [local go_sem high] eqA54
/-! ### spec_l10Without: function 74 -/
def spec_l10Without.l0 : Nat → List (S54) → Int → List (S54) → List (S54) → Int → Option ((List (S54)))
 | 0, _, _, _, _, _ => none
 | k + 1, x0, x1, x2, x7, x8 => if x8 < (x0.length : Int) then (if 0 ≤ x8 then (if (((rd_T54 x0 x8).f0) == 0 && (((rd_T54 x0 x8).f1) == 0)) = true then (if x7.length < 8796093022208 then (spec_l10Without.l0 k x0 x1 x2 (x7 ++ [(⟨(rd_T54 x0 x8).f0, (rd_T54 x0 x8).f1⟩ : S54)]) (wrap64 (x8 + 1))) else (none)) else (if (((rd_T54 x0 x8).f0) == x1 && (((rd_T54 x0 x8).f1) == 0)) = true then (if x7.length < 8796093022208 then (spec_l10Without.l0 k x0 x1 x2 (x7 ++ [(⟨(rd_T54 x0 x8).f0, (rd_T54 x0 x8).f1⟩ : S54)]) (wrap64 (x8 + 1))) else (none)) else ((spec_l10Find.f k x2 ((rd_T54 x0 x8).f0) ((rd_T54 x0 x8).f1)).bind fun aA => (if aA < 0 then (if x7.length < 8796093022208 then (spec_l10Without.l0 k x0 x1 x2 (x7 ++ [(⟨(rd_T54 x0 x8).f0, (rd_T54 x0 x8).f1⟩ : S54)]) (wrap64 (x8 + 1))) else (none)) else (spec_l10Without.l0 k x0 x1 x2 x7 (wrap64 (x8 + 1))))))) else (none)) else (some x7)
def spec_l10Without.f (k : Nat) (l0 : List (S54)) (a1 : Int) (l2 : List (S54)) : Option ((List (S54))) := spec_l10Without.l0 k l0 a1 l2 (([] : List (S54))) 0
theorem spec_l10Without.mono_l : ∀ k, (∀ y0 y1 y2 y3 y4, LeO (spec_l10Without.l0 k y0 y1 y2 y3 y4) (spec_l10Without.l0 (k + 1) y0 y1 y2 y3 y4))
 | 0 => fun _ _ _ _ _ r h => by simp [spec_l10Without.l0] at h
 | k + 1 => by
  have ih0 := spec_l10Without.mono_l k
  ·
   intro y0 y1 y2 y3 y4; unfold spec_l10Without.l0
   repeat' first
   | (with_reducible exact ih0 _ _ _ _ _) | (with_reducible exact spec_l10Find.mono _ _ _ _) | (with_reducible exact LeO.refl _) | (with_reducible exact LeO.none _) | (with_reducible refine LeO.ite ?_ ?_) | (with_reducible refine LeO.bind ?_ fun _ => ?_) | exact ih0 _ _ _ _ _ | exact spec_l10Find.mono _ _ _ _ | exact LeO.none _ | refine LeO.ite ?_ ?_ | refine LeO.bind ?_ fun _ => ?_
theorem spec_l10Without.mono : ∀ a0 a1 a2 k, LeO (spec_l10Without.f k a0 a1 a2) (spec_l10Without.f (k + 1) a0 a1 a2) := by
 intro a0 a1 a2 k; have ih0 := spec_l10Without.mono_l k; unfold spec_l10Without.f
 repeat' first
   | (with_reducible exact ih0 _ _ _ _ _) | (with_reducible exact spec_l10Find.mono _ _ _ _) | (with_reducible exact LeO.refl _) | (with_reducible exact LeO.none _) | (with_reducible refine LeO.ite ?_ ?_) | (with_reducible refine LeO.bind ?_ fun _ => ?_) | exact ih0 _ _ _ _ _ | exact spec_l10Find.mono _ _ _ _ | exact LeO.none _ | refine LeO.ite ?_ ?_ | refine LeO.bind ?_ fun _ => ?_
theorem spec_l10Without.calls (k : Nat) (A0 : Option Addr) (c0 : Nat) (l0 : List (S54)) (a1 : Int) (A2 : Option Addr) (c2 : Nat) (l2 : List (S54)) (r : List (S54)) (w : World) (hr0 : Kd.C k54 w A0 l0.length l0) (hc0 : l0.length ≤ c0) (hr2 : Kd.C k54 w A2 l2.length l2) (hc2 : l2.length ≤ c2) (h : spec_l10Without.f k l0 a1 l2 = some r) :
  Calls Tryd.prog 74 #[.slice A0 l0.length c0, .int .i64 a1, .slice A2 l2.length c2] w fun e w' => ∃ v0_ : Value, e = .returned (v0_) ∧ Kd.R k54 54 w' w.heap.size (fun _ => True) v0_ r ∧ Below w.heap.size w w' := by
 have hu54 := Tryd.underlying54; have aK := am_ hr0; have bO := am_ hc0; clear hr0 hc0; have bK := am_ hr2; have bJ := am_ hc2; clear hr2 hc2; have HB := am_ (Below.refl w.heap.size w); have H : (spec_l10Without.l0 k l0 a1 l2 (([] : List (S54))) 0) = some r := h; clear h; obtain ⟨bw, ar⟩ : ∃ y_ : List (S54), y_ = (([] : List (S54))) := ⟨_, rfl⟩; replace H : (spec_l10Without.l0 k l0 a1 l2 bw 0) = some r := by first | (rw [ar]; with_reducible exact H) | (have H2_ := (Option.bind_some _ _).symm.trans H; rw [ar]; with_reducible exact H2_) | (have H2_ := (Option.bind_some _ _).symm.trans H; with_reducible exact H2_) | with_reducible exact H | (rw [ar]; exact H) | exact H
 have aU := am_ ar; clear ar; have H' := am_ H; clear H
 go_enter Tryd.func74, Tryd.ntmps74
 go_wp2_with (first | ((with_reducible refine gate_dst (N := 10) rfl ?_); refine Kd.R_lit k54 _ 54 ?hg (N := 10) ?hd (xs := ([] : List (S54))) (inner := []) (ok := fun _ => True) (okp := fun _ => True) ?hr ?hp (fun _ hk => hk) trivial (Below.refl _ _) (Nat.le_refl _) (by simp) ?_; (case hd => rfl); (case hg => rfl); (case hr => first | (go_simp; done) | (go_simp; rfl)); (case hp => exact (Reps.none _ _)); intro v149 w4 ho5 hb hg_ hnew_; clear hg_ hnew_; (first | rw [← aU.out] at ho5 | (simp only [Int.reduceToNat] at ho5; rw [← aU.out] at ho5)); have bd := am_ (Kd.R_lower ho5 (below_size (sq_below HB.out))); replace HB := hb_ HB hb; clear hb ho5))
 go_loopg [7, 8] k (fun kq v7 v8 w' => ∃ (al : List (S54)) (aa : Int), v8 = .int .i64 aa ∧ Aside0 (spec_l10Without.l0 kq l0 a1 l2 al aa = some r) ∧ Aside0 (kq ≤ k) ∧ Aside0 (Kd.R k54 54 w' w.heap.size (fun _ => True) v7 al) ∧ Aside0 (Below w.heap.size w w'))
 case atStart => exact ⟨(bw), (0), sr_, H', ⟨Nat.le_refl _⟩, ⟨by (with_reducible repeat (first | apply Kd.R_alloc | apply Kd.R_drewN | apply Kd.R_drew)); exact bd.out⟩, ⟨sq_below HB.out⟩⟩
 case round =>
  clear H'
  obtain ⟨al, aa, rfl, HA, HK1, am, HB⟩ := hrel; cases gk with
  | zero => exact absurd HA.out (by simp [spec_l10Without.l0])
  | succ k1 =>
   have H := HA.out; clear HA; simp only [spec_l10Without.l0] at H
   by_cases c6 : aa < (l0.length : Int)
   ·
    rw [if_pos c6] at H; have bC := decide_eq_true (p := aa < (l0.length : Int)) c6; clear c6
    by_cases c7 : 0 ≤ aa
    ·
     rw [if_pos c7] at H; have bM := decide_eq_true (p := 0 ≤ aa) c7; clear c7
     by_cases c8 : (((rd_T54 l0 aa).f0) == 0 && (((rd_T54 l0 aa).f1) == 0)) = true
     ·
      rw [if_pos c8] at H; have bD : (((rd_T54 l0 aa).f0) == 0 && (((rd_T54 l0 aa).f1) == 0)) = true := c8
      (try (have bE : decide (((rd_T54 l0 aa).f0) = 0 && (((rd_T54 l0 aa).f1) == 0)) = true := by simpa using c8))
      (try (have bF : (((rd_T54 l0 aa).f0) == 0 && (((rd_T54 l0 aa).f1) == 0)) = true := by simpa using c8))
      clear c8
      by_cases c9 : al.length < 8796093022208
      ·
       rw [if_pos c9] at H; have bB := am_ c9; clear c9; obtain ⟨bx, au⟩ : ∃ y_ : List (S54), y_ = (al ++ [(⟨(rd_T54 l0 aa).f0, (rd_T54 l0 aa).f1⟩ : S54)]) := ⟨_, rfl⟩; replace H : (spec_l10Without.l0 k1 l0 a1 l2 bx (wrap64 (aa + 1))) = some r := by first | (rw [au]; with_reducible exact H) | (have H2_ := (Option.bind_some _ _).symm.trans H; rw [au]; with_reducible exact H2_) | (have H2_ := (Option.bind_some _ _).symm.trans H; with_reducible exact H2_) | with_reducible exact H | (rw [au]; exact H) | exact H
       have bl := am_ au; clear au; have H' := am_ H; clear H; have ah : 0 ≤ (aa : Int) := sq_dec; have ai : aa < (l0.length : Int) := sq_dec; obtain ⟨ag, ax, ab, ac⟩ := at_T54 aK.out aa ah ai; cases ax; replace ab := cb_ HB ab; replace ac := cb_ HB ac; replace ah := eq_true ah; replace ai := eq_true ai; have aW : 0 ≤ (aa : Int) := sq_dec; have aZ : aa < (l0.length : Int) := sq_dec; obtain ⟨bo, bG, aC, aD⟩ := at_T54 aK.out aa aW aZ; obtain rfl : ag = bo := (by injection bG); replace aC := cb_ HB aC; replace aD := cb_ HB aD; replace aW := eq_true aW; replace aZ := eq_true aZ
       go_wp2_with (first | ((with_reducible refine gate_builtin (b := .append) (xs := #[.tmp 42, .tmp 47]) rfl ?_); at_builtin; refine Kd.R_append k54 (w0 := w) w.heap.size rfl (.tmp 42) (.tmp 47) 36 54 (.agg #[(.int .i64 0), (.int .i64 0)]) 16 rfl Tryd.underlying36 info54 rfl (by decide) (by omega) u7 al (⟨(rd_T54 l0 aa).f0, (rd_T54 l0 aa).f1⟩ : S54) [.int .i64 ((rd_T54 l0 aa).f0), .int .i64 ((rd_T54 l0 aa).f1)] (fun _ => True) (fun _ => False) rfl rfl ?aP (fun _ hk => hk.elim) ?aF ?aO ?aB ?aS ?aL ?_; (case aP => exact k54_mkM _ _ _ (⟨(rd_T54 l0 aa).f0, (rd_T54 l0 aa).f1⟩ : S54)); (case aB => exact (sq_below HB.out)); (case aF => exact (fun _ _ => trivial)); (case aO => exact (sq_row am.out)); (case aS => exact (below_size (sq_below HB.out))); (case aL => have := bB.out; omega); intro v154 bP ho hb hg hat; rw [← bl.out] at ho; replace HB := am_ hb; have bf := am_ ho; clear am; clear ho hb hg hat))
       go_roundg k1
       case measure => have := HK1.out; omega
       case rel => exact ⟨(bx), (wrap64 (aa + 1)), sr_, H', ⟨by have := HK1.out; omega⟩, ⟨by (with_reducible repeat (first | apply Kd.R_alloc | apply Kd.R_drewN | apply Kd.R_drew)); exact bf.out⟩, ⟨sq_below HB.out⟩⟩
      ·
       rw [if_neg c9] at H; exact absurd H (by simp)
     ·
      rw [if_neg c8] at H; have bD : (((rd_T54 l0 aa).f0) == 0 && (((rd_T54 l0 aa).f1) == 0)) = false := by simpa using c8
      (try (have bE : decide (((rd_T54 l0 aa).f0) = 0 && (((rd_T54 l0 aa).f1) == 0)) = false := by simpa using c8))
      (try (have bF : (((rd_T54 l0 aa).f0) == 0 && (((rd_T54 l0 aa).f1) == 0)) = false := by simpa using c8))
      (try (have bN : ¬ (((rd_T54 l0 aa).f0) = 0 && (((rd_T54 l0 aa).f1) == 0)) := by simpa using c8))
      clear c8
      by_cases c11 : (((rd_T54 l0 aa).f0) == a1 && (((rd_T54 l0 aa).f1) == 0)) = true
      ·
       rw [if_pos c11] at H; have br : (((rd_T54 l0 aa).f0) == a1 && (((rd_T54 l0 aa).f1) == 0)) = true := c11
       (try (have bt : decide (((rd_T54 l0 aa).f0) = a1 && (((rd_T54 l0 aa).f1) == 0)) = true := by simpa using c11))
       (try (have bu : (((rd_T54 l0 aa).f0) == a1 && (((rd_T54 l0 aa).f1) == 0)) = true := by simpa using c11))
       clear c11
       by_cases c12 : al.length < 8796093022208
       ·
        rw [if_pos c12] at H; have bj := am_ c12; clear c12; obtain ⟨bz, av⟩ : ∃ y_ : List (S54), y_ = (al ++ [(⟨(rd_T54 l0 aa).f0, (rd_T54 l0 aa).f1⟩ : S54)]) := ⟨_, rfl⟩; replace H : (spec_l10Without.l0 k1 l0 a1 l2 bz (wrap64 (aa + 1))) = some r := by first | (rw [av]; with_reducible exact H) | (have H2_ := (Option.bind_some _ _).symm.trans H; rw [av]; with_reducible exact H2_) | (have H2_ := (Option.bind_some _ _).symm.trans H; with_reducible exact H2_) | with_reducible exact H | (rw [av]; exact H) | exact H
        have bm := am_ av; clear av; have H' := am_ H; clear H; have ah : 0 ≤ (aa : Int) := sq_dec; have ai : aa < (l0.length : Int) := sq_dec; obtain ⟨ag, ax, ab, ac⟩ := at_T54 aK.out aa ah ai; cases ax; replace ab := cb_ HB ab; replace ac := cb_ HB ac; replace ah := eq_true ah; replace ai := eq_true ai; have ao : 0 ≤ (aa : Int) := sq_dec; have ap : aa < (l0.length : Int) := sq_dec; obtain ⟨aq, aN, ae, af⟩ := at_T54 aK.out aa ao ap; obtain rfl : ag = aq := (by injection aN); replace ae := cb_ HB ae; replace af := cb_ HB af; replace ao := eq_true ao; replace ap := eq_true ap; have aX : 0 ≤ (aa : Int) := sq_dec; have ba : aa < (l0.length : Int) := sq_dec; obtain ⟨bp, bH, aG, aH⟩ := at_T54 aK.out aa aX ba; obtain rfl : ag = bp := (by injection bH); replace aG := cb_ HB aG; replace aH := cb_ HB aH; replace aX := eq_true aX; replace ba := eq_true ba
        go_wp2_with (first | ((with_reducible refine gate_builtin (b := .append) (xs := #[.tmp 42, .tmp 47]) rfl ?_); at_builtin; refine Kd.R_append k54 (w0 := w) w.heap.size rfl (.tmp 42) (.tmp 47) 36 54 (.agg #[(.int .i64 0), (.int .i64 0)]) 16 rfl Tryd.underlying36 info54 rfl (by decide) (by omega) u7 al (⟨(rd_T54 l0 aa).f0, (rd_T54 l0 aa).f1⟩ : S54) [.int .i64 ((rd_T54 l0 aa).f0), .int .i64 ((rd_T54 l0 aa).f1)] (fun _ => True) (fun _ => False) rfl rfl ?aP (fun _ hk => hk.elim) ?aF ?aO ?aB ?aS ?aL ?_; (case aP => exact k54_mkM _ _ _ (⟨(rd_T54 l0 aa).f0, (rd_T54 l0 aa).f1⟩ : S54)); (case aB => exact (sq_below HB.out)); (case aF => exact (fun _ _ => trivial)); (case aO => exact (sq_row am.out)); (case aS => exact (below_size (sq_below HB.out))); (case aL => have := bj.out; omega); intro v159 bQ ho hb hg hat; rw [← bm.out] at ho; replace HB := am_ hb; have bh := am_ ho; clear am; clear ho hb hg hat))
        go_roundg k1
        case measure => have := HK1.out; omega
        case rel => exact ⟨(bz), (wrap64 (aa + 1)), sr_, H', ⟨by have := HK1.out; omega⟩, ⟨by (with_reducible repeat (first | apply Kd.R_alloc | apply Kd.R_drewN | apply Kd.R_drew)); exact bh.out⟩, ⟨sq_below HB.out⟩⟩
       ·
        rw [if_neg c12] at H; exact absurd H (by simp)
      ·
       rw [if_neg c11] at H; have br : (((rd_T54 l0 aa).f0) == a1 && (((rd_T54 l0 aa).f1) == 0)) = false := by simpa using c11
       (try (have bt : decide (((rd_T54 l0 aa).f0) = a1 && (((rd_T54 l0 aa).f1) == 0)) = false := by simpa using c11))
       (try (have bu : (((rd_T54 l0 aa).f0) == a1 && (((rd_T54 l0 aa).f1) == 0)) = false := by simpa using c11))
       (try (have bL : ¬ (((rd_T54 l0 aa).f0) = a1 && (((rd_T54 l0 aa).f1) == 0)) := by simpa using c11))
       clear c11; obtain ⟨aA, A14, H⟩ := be_ H; (try dsimp only at H)
       by_cases c15 : aA < 0
       ·
        rw [if_pos c15] at H; have bv := decide_eq_true (p := aA < 0) c15; clear c15
        by_cases c16 : al.length < 8796093022208
        ·
         rw [if_pos c16] at H; have bk := am_ c16; clear c16; obtain ⟨bA, aw⟩ : ∃ y_ : List (S54), y_ = (al ++ [(⟨(rd_T54 l0 aa).f0, (rd_T54 l0 aa).f1⟩ : S54)]) := ⟨_, rfl⟩; replace H : (spec_l10Without.l0 k1 l0 a1 l2 bA (wrap64 (aa + 1))) = some r := by first | (rw [aw]; with_reducible exact H) | (have H2_ := (Option.bind_some _ _).symm.trans H; rw [aw]; with_reducible exact H2_) | (have H2_ := (Option.bind_some _ _).symm.trans H; with_reducible exact H2_) | with_reducible exact H | (rw [aw]; exact H) | exact H
         have bn := am_ aw; clear aw; have H' := am_ H; clear H; have ah : 0 ≤ (aa : Int) := sq_dec; have ai : aa < (l0.length : Int) := sq_dec; obtain ⟨ag, ax, ab, ac⟩ := at_T54 aK.out aa ah ai; cases ax; replace ab := cb_ HB ab; replace ac := cb_ HB ac; replace ah := eq_true ah; replace ai := eq_true ai; have ao : 0 ≤ (aa : Int) := sq_dec; have ap : aa < (l0.length : Int) := sq_dec; obtain ⟨aq, aN, ae, af⟩ := at_T54 aK.out aa ao ap; obtain rfl : ag = aq := (by injection aN); replace ae := cb_ HB ae; replace af := cb_ HB af; replace ao := eq_true ao; replace ap := eq_true ap; have ay : 0 ≤ (aa : Int) := sq_dec; have az : aa < (l0.length : Int) := sq_dec; obtain ⟨aM, aV, aj, ak⟩ := at_T54 aK.out aa ay az; obtain rfl : ag = aM := (by injection aV); replace aj := cb_ HB aj; replace ak := cb_ HB ak; replace ay := eq_true ay; replace az := eq_true az
         go_wp2_with (first | (go_at_call 85; (with_reducible refine (spec_l10Find.calls k1 _ _ l2 ((rd_T54 l0 aa).f0) ((rd_T54 l0 aa).f1) aA _ ?aQ ?aT A14.out).mono ?_); (case aQ => exact sq_c (Kd.C_below bK.out HB.out)); (case aT => exact bJ.out); rintro e bR ⟨rfl, hb⟩; replace am := rb_ am hb; replace HB := hb_ HB hb; (try clear hb); have aY : 0 ≤ (aa : Int) := sq_dec; have bc : aa < (l0.length : Int) := sq_dec; obtain ⟨bq, bI, aI, aJ⟩ := at_T54 aK.out aa aY bc; obtain rfl : ag = bq := (by injection bI); replace aI := cb_ HB aI; replace aJ := cb_ HB aJ; replace aY := eq_true aY; replace bc := eq_true bc) | ((with_reducible refine gate_builtin (b := .append) (xs := #[.tmp 42, .tmp 47]) rfl ?_); at_builtin; refine Kd.R_append k54 (w0 := w) w.heap.size rfl (.tmp 42) (.tmp 47) 36 54 (.agg #[(.int .i64 0), (.int .i64 0)]) 16 rfl Tryd.underlying36 info54 rfl (by decide) (by omega) u7 al (⟨(rd_T54 l0 aa).f0, (rd_T54 l0 aa).f1⟩ : S54) [.int .i64 ((rd_T54 l0 aa).f0), .int .i64 ((rd_T54 l0 aa).f1)] (fun _ => True) (fun _ => False) rfl rfl ?aP (fun _ hk => hk.elim) ?aF ?aO ?aB ?aS ?aL ?_; (case aP => exact k54_mkM _ _ _ (⟨(rd_T54 l0 aa).f0, (rd_T54 l0 aa).f1⟩ : S54)); (case aB => exact (sq_below HB.out)); (case aF => exact (fun _ _ => trivial)); (case aO => exact (sq_row am.out)); (case aS => exact (below_size (sq_below HB.out))); (case aL => have := bk.out; omega); intro v165 bS ho hb hg hat; rw [← bn.out] at ho; replace HB := am_ hb; have bi := am_ ho; clear am; clear ho hb hg hat))
         go_roundg k1
         case measure => have := HK1.out; omega
         case rel => exact ⟨(bA), (wrap64 (aa + 1)), sr_, H', ⟨by have := HK1.out; omega⟩, ⟨by (with_reducible repeat (first | apply Kd.R_alloc | apply Kd.R_drewN | apply Kd.R_drew)); exact bi.out⟩, ⟨sq_below HB.out⟩⟩
        ·
         rw [if_neg c16] at H; exact absurd H (by simp)
       ·
        rw [if_neg c15] at H; have bv := decide_eq_false (p := aA < 0) c15; clear c15; have H' := am_ H; clear H; have ah : 0 ≤ (aa : Int) := sq_dec; have ai : aa < (l0.length : Int) := sq_dec; obtain ⟨ag, ax, ab, ac⟩ := at_T54 aK.out aa ah ai; cases ax; replace ab := cb_ HB ab; replace ac := cb_ HB ac; replace ah := eq_true ah; replace ai := eq_true ai; have ao : 0 ≤ (aa : Int) := sq_dec; have ap : aa < (l0.length : Int) := sq_dec; obtain ⟨aq, aN, ae, af⟩ := at_T54 aK.out aa ao ap; obtain rfl : ag = aq := (by injection aN); replace ae := cb_ HB ae; replace af := cb_ HB af; replace ao := eq_true ao; replace ap := eq_true ap; have ay : 0 ≤ (aa : Int) := sq_dec; have az : aa < (l0.length : Int) := sq_dec; obtain ⟨aM, aV, aj, ak⟩ := at_T54 aK.out aa ay az; obtain rfl : ag = aM := (by injection aV); replace aj := cb_ HB aj; replace ak := cb_ HB ak; replace ay := eq_true ay; replace az := eq_true az
        go_wp2_with (first | (go_at_call 85; (with_reducible refine (spec_l10Find.calls k1 _ _ l2 ((rd_T54 l0 aa).f0) ((rd_T54 l0 aa).f1) aA _ ?aQ ?aT A14.out).mono ?_); (case aQ => exact sq_c (Kd.C_below bK.out HB.out)); (case aT => exact bJ.out); rintro e bT ⟨rfl, hb⟩; replace am := rb_ am hb; replace HB := hb_ HB hb; (try clear hb)))
        go_roundg k1
        case measure => have := HK1.out; omega
        case rel => exact ⟨(al), (wrap64 (aa + 1)), sr_, H', ⟨by have := HK1.out; omega⟩, ⟨by (with_reducible repeat (first | apply Kd.R_alloc | apply Kd.R_drewN | apply Kd.R_drew)); exact am.out⟩, ⟨sq_below HB.out⟩⟩
    ·
     rw [if_neg c7] at H; exact absurd H (by simp)
   ·
    rw [if_neg c6] at H; have bC := decide_eq_false (p := aa < (l0.length : Int)) c6; clear c6; obtain rfl := Option.some.inj H
    go_wp2
    go_ret
    exact ⟨_, by first | rfl | (simp [errW_none, errW_some] <;> rfl) | (simp [*, errW_none, errW_some] <;> rfl), by (with_reducible repeat (first | apply Kd.R_alloc | apply Kd.R_drewN | apply Kd.R_drew)); exact am.out, sq_below HB.out⟩

/-! ### spec_l06None: function 88 -/
def spec_l06None.f  : Option (Int × Int) := some (1, 0)
theorem spec_l06None.calls  (r1 : Int) (r2 : Int) (w : World) (h : spec_l06None.f  = some (r1, r2)) :
  Calls Tryd.prog 88 #[] w fun e w' => e = .returned (.agg #[.int .i64 r1, .int .i64 r2]) ∧ Below w.heap.size w w' := by
 have hu88 := Tryd.underlying88; have HB := am_ (Below.refl w.heap.size w); have H : (some (1, 0)) = some (r1, r2) := h; clear h; simp only [Option.some.injEq, Prod.mk.injEq] at H; obtain ⟨rfl, rfl⟩ := H
 go_enter Tryd.func88, Tryd.ntmps88
 go_wp2_with (first | ((with_reducible refine gate_dst (N := 0) rfl ?_); refine box_y 0 #[.int .i64 0, .int .i64 0] 88 (h := ?_); intro ac hg w1 hbox hb; have aa := am_ hbox; have ai := gz_ hg HB; have ab := gz_ hg HB; replace HB := hb_ HB hb; clear hb hbox hg; obtain ⟨ae, af, ag, ah⟩ := cz2_ aa))
 refine bodyPost_ret (results_cell_row rfl _ _ ac 88 #[.int .i64 1, .int .i64 0] (0, 0) _ rfl (bp_ aa) Tryd.underlying88 rfl (by kernel_rfl)) rfl ?_; exact ⟨lf_, sq_below1 HB.out ab.out⟩

/-! ### spec_l09None: function 87 -/
def spec_l09None.f  : Option (Int × Int × Bool) := (spec_l06None.f).bind fun aa => (some (aa.1, aa.2, true))
theorem spec_l09None.calls  (r1 : Int) (r2 : Int) (r3 : Bool) (w : World) (h : spec_l09None.f  = some (r1, r2, r3)) :
  Calls Tryd.prog 87 #[] w fun e w' => e = .returned (.agg #[.int .i64 r1, .int .i64 r2, .bool r3]) ∧ Below w.heap.size w w' := by
 have hu90 := Tryd.underlying90; have HB := am_ (Below.refl w.heap.size w); have H : ((spec_l06None.f).bind fun aa => (some (aa.1, aa.2, true))) = some (r1, r2, r3) := h; clear h; replace H := Option.bind_eq_some_iff.mp H; obtain ⟨⟨ae, af⟩, A10, H⟩ := H; replace H : (some (ae, af, true)) = some (r1, r2, r3) := H; have A1 := am_ A10; clear A10; simp only [Option.some.injEq, Prod.mk.injEq] at H; obtain ⟨rfl, rfl, rfl⟩ := H
 go_enter Tryd.func87, Tryd.ntmps87
 go_wp2_with (first | ((with_reducible refine gate_dst (N := 0) rfl ?_); refine box_y 0 #[.int .i64 0, .int .i64 0, .bool false] 90 (h := ?_); intro ag hg w2 hbox hb; have ab := am_ hbox; have ao := gz_ hg HB; have ac := gz_ hg HB; replace HB := hb_ HB hb; clear hb hbox hg) | ((with_reducible refine gate_callee (f := 88) rfl ?_); refine gl_ 1 Tryd.func88 #[] (h := ?_); (with_reducible refine (spec_l06None.calls  ae af _ A1.out).mono ?_); rintro e w3 ⟨rfl, hb⟩; refine ⟨_, rfl, ?_⟩; replace ab := bb_ ab hb; replace HB := hb1_ HB hb ac; (try clear hb); obtain ⟨ah, ai, aj, ak, al, am⟩ := cz3_ ab))
 refine bodyPost_ret (results_cell_row rfl _ _ ag 90 #[.int .i64 ae, .int .i64 af, .bool true] (0, 0) _ rfl (bp_ ab) Tryd.underlying90 rfl (by kernel_rfl)) rfl ?_; exact ⟨lf_, sq_below1 HB.out ac.out⟩

/-! ### spec_l06Max: function 115 -/
def spec_l06Max.f (a0 : Int) (a1 : Int) : Option (Int) := if a0 > a1 then (some a0) else (some a1)
theorem spec_l06Max.calls (a0 : Int) (a1 : Int) (r : Int) (w : World) (h : spec_l06Max.f a0 a1 = some r) :
  Calls Tryd.prog 115 #[.int .i64 a0, .int .i64 a1] w fun e w' => e = .returned (.int .i64 r) ∧ Drawn0 w w' := by
 have H : (if a0 > a1 then (some a0) else (some a1)) = some r := h; clear h
 by_cases c3 : a0 > a1
 ·
  rw [if_pos c3] at H; have aa := decide_eq_true (p := a1 < a0) c3; clear c3; obtain rfl := Option.some.inj H
  go_enter Tryd.func115, Tryd.ntmps115
  go_wp2
  go_ret
  exact ⟨by first | rfl | (simp; done) | (simp [*]; done), by repeat (first | exact Drawn0.refl _ | apply Drawn0.step)⟩
 ·
  rw [if_neg c3] at H; have aa := decide_eq_false (p := a1 < a0) c3; clear c3; obtain rfl := Option.some.inj H
  go_enter Tryd.func115, Tryd.ntmps115
  go_wp2
  go_ret
  exact ⟨by first | rfl | (simp; done) | (simp [*]; done), by repeat (first | exact Drawn0.refl _ | apply Drawn0.step)⟩

/-! ### spec_l06Min: function 116 -/
def spec_l06Min.f (a0 : Int) (a1 : Int) : Option (Int) := if a0 < a1 then (some a0) else (some a1)
theorem spec_l06Min.calls (a0 : Int) (a1 : Int) (r : Int) (w : World) (h : spec_l06Min.f a0 a1 = some r) :
  Calls Tryd.prog 116 #[.int .i64 a0, .int .i64 a1] w fun e w' => e = .returned (.int .i64 r) ∧ Drawn0 w w' := by
 have H : (if a0 < a1 then (some a0) else (some a1)) = some r := h; clear h
 by_cases c3 : a0 < a1
 ·
  rw [if_pos c3] at H; have aa := decide_eq_true (p := a0 < a1) c3; clear c3; obtain rfl := Option.some.inj H
  go_enter Tryd.func116, Tryd.ntmps116
  go_wp2
  go_ret
  exact ⟨by first | rfl | (simp; done) | (simp [*]; done), by repeat (first | exact Drawn0.refl _ | apply Drawn0.step)⟩
 ·
  rw [if_neg c3] at H; have aa := decide_eq_false (p := a0 < a1) c3; clear c3; obtain rfl := Option.some.inj H
  go_enter Tryd.func116, Tryd.ntmps116
  go_wp2
  go_ret
  exact ⟨by first | rfl | (simp; done) | (simp [*]; done), by repeat (first | exact Drawn0.refl _ | apply Drawn0.step)⟩

/-! ### spec_l06Make: function 89 -/
def spec_l06Make.f (a0 : Int) (a1 : Int) : Option (Int × Int) := (spec_l06Max.f a0 (-1000000)).bind fun ac => ((spec_l06Min.f a1 1000000).bind fun ae => (if ac > ae then ((spec_l06None.f).bind fun af => (some (af.1, af.2))) else (some (ac, ae))))
theorem spec_l06Make.calls (a0 : Int) (a1 : Int) (r1 : Int) (r2 : Int) (w : World) (h : spec_l06Make.f a0 a1 = some (r1, r2)) :
  Calls Tryd.prog 89 #[.int .i64 a0, .int .i64 a1] w fun e w' => e = .returned (.agg #[.int .i64 r1, .int .i64 r2]) ∧ Below w.heap.size w w' := by
 have hu88 := Tryd.underlying88; have HB := am_ (Below.refl w.heap.size w); have H : ((spec_l06Max.f a0 (-1000000)).bind fun ac => ((spec_l06Min.f a1 1000000).bind fun ae => (if ac > ae then ((spec_l06None.f).bind fun af => (some (af.1, af.2))) else (some (ac, ae))))) = some (r1, r2) := h; clear h; obtain ⟨ac, A3, H⟩ := be_ H; (try dsimp only at H); obtain ⟨ae, A4, H⟩ := be_ H; (try dsimp only at H)
 by_cases c5 : ac > ae
 ·
  rw [if_pos c5] at H; have aq := decide_eq_true (p := ae < ac) c5; clear c5; replace H := Option.bind_eq_some_iff.mp H; obtain ⟨⟨ah, ai⟩, A60, H⟩ := H; replace H : (some (ah, ai)) = some (r1, r2) := H; have A6 := am_ A60; clear A60; simp only [Option.some.injEq, Prod.mk.injEq] at H; obtain ⟨rfl, rfl⟩ := H
  go_enter Tryd.func89, Tryd.ntmps89
  go_wp2_with (first | ((with_reducible refine gate_dst (N := 4) rfl ?_); refine box_y 4 #[.int .i64 0, .int .i64 0] 88 (h := ?_); intro ag hg w7 hbox hb; have aa := am_ hbox; have ak := gz_ hg HB; have ab := gz_ hg HB; replace HB := hb_ HB hb; clear hb hbox hg) | ((with_reducible refine gate_callee (f := 115) rfl ?_); refine gl_ 6 Tryd.func115 #[.int .i64 a0, .int .i64 (-1000000)] (h := ?_); (with_reducible refine (spec_l06Max.calls a0 (-1000000) ac _ A3.out).mono ?_); rintro e w' ⟨rfl, ⟨nd, rfl⟩⟩; refine ⟨_, rfl, ?_⟩; (try (rw [drewN_self w7]; generalize hq_ : World.drewN w7 _ = w7; replace aa := bq_ hq_ aa; replace HB := hq1_ hq_ HB ab; clear hq_))) | ((with_reducible refine gate_callee (f := 116) rfl ?_); refine gl_ 8 Tryd.func116 #[.int .i64 a1, .int .i64 1000000] (h := ?_); (with_reducible refine (spec_l06Min.calls a1 1000000 ae _ A4.out).mono ?_); rintro e w' ⟨rfl, ⟨nd, rfl⟩⟩; refine ⟨_, rfl, ?_⟩; (try (rw [drewN_self w7]; generalize hq_ : World.drewN w7 _ = w7; replace aa := bq_ hq_ aa; replace HB := hq1_ hq_ HB ab; clear hq_))) | ((with_reducible refine gate_callee (f := 88) rfl ?_); refine gl_ 12 Tryd.func88 #[] (h := ?_); (with_reducible refine (spec_l06None.calls  ah ai _ A6.out).mono ?_); rintro e w8 ⟨rfl, hb⟩; refine ⟨_, rfl, ?_⟩; replace aa := bb_ aa hb; replace HB := hb1_ HB hb ab; (try clear hb); obtain ⟨ar, au, av, aw⟩ := cz2_ aa))
  refine bodyPost_ret (results_cell_row rfl _ _ ag 88 #[.int .i64 ah, .int .i64 ai] (0, 0) _ rfl (bp_ aa) Tryd.underlying88 rfl (by kernel_rfl)) rfl ?_; exact ⟨lf_, sq_below1 HB.out ab.out⟩
 ·
  rw [if_neg c5] at H; have aq := decide_eq_false (p := ae < ac) c5; clear c5; simp only [Option.some.injEq, Prod.mk.injEq] at H; obtain ⟨rfl, rfl⟩ := H
  go_enter Tryd.func89, Tryd.ntmps89
  go_wp2_with (first | ((with_reducible refine gate_dst (N := 4) rfl ?_); refine box_y 4 #[.int .i64 0, .int .i64 0] 88 (h := ?_); intro ag hg aj hbox hb; have aa := am_ hbox; have ak := gz_ hg HB; have ab := gz_ hg HB; replace HB := hb_ HB hb; clear hb hbox hg) | ((with_reducible refine gate_callee (f := 115) rfl ?_); refine gl_ 6 Tryd.func115 #[.int .i64 a0, .int .i64 (-1000000)] (h := ?_); (with_reducible refine (spec_l06Max.calls a0 (-1000000) ac _ A3.out).mono ?_); rintro e w' ⟨rfl, ⟨nd, rfl⟩⟩; refine ⟨_, rfl, ?_⟩; (try (rw [drewN_self aj]; generalize hq_ : World.drewN aj _ = aj; replace aa := bq_ hq_ aa; replace HB := hq1_ hq_ HB ab; clear hq_))) | ((with_reducible refine gate_callee (f := 116) rfl ?_); refine gl_ 8 Tryd.func116 #[.int .i64 a1, .int .i64 1000000] (h := ?_); (with_reducible refine (spec_l06Min.calls a1 1000000 ae _ A4.out).mono ?_); rintro e w' ⟨rfl, ⟨nd, rfl⟩⟩; refine ⟨_, rfl, ?_⟩; (try (rw [drewN_self aj]; generalize hq_ : World.drewN aj _ = aj; replace aa := bq_ hq_ aa; replace HB := hq1_ hq_ HB ab; clear hq_)); obtain ⟨al, am, ao, ap⟩ := cz2_ aa))
  refine bodyPost_ret (results_cell_row rfl _ _ ag 88 #[.int .i64 ac, .int .i64 ae] (0, 0) _ rfl (bp_ aa) Tryd.underlying88 rfl (by kernel_rfl)) rfl ?_; exact ⟨lf_, sq_below1 HB.out ab.out⟩

end Go.Proofs.YtdmdalapckcobaaDoor.Q
