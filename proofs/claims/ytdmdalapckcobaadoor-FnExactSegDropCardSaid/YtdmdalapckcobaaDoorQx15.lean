/- Functions of the translation as Lean functions, each with a proof that a call answers so; out of the seat, by this claim's own program prt.py. -/
import Derived.Test.YtdmdalapckcobaaDoorWRepsOne
import Derived.Test.YtdmdalapckcobaaDoorQx0
import Derived.Test.YtdmdalapckcobaaDoorQx14
import Derived.Test.YtdmdalapckcobaaDoorQStep3
namespace Go.Proofs.YtdmdalapckcobaaDoor.Q
open Go.RowKit Go.Proofs.YtdmdalapckcobaaDoorW.PrintWords Go.Proofs.YtdmdalapckcobaaDoorW.PrintLast Go.Proofs.YtdmdalapckcobaaDoorW.PrintMore
attribute [local go_sem] max2_int min2_int max_two min_two max_three min_three max_four min_four   -- for this text's walks alone
set_option linter.unusedVariables false
set_option maxHeartbeats 8000000
set_option maxRecDepth 100000
set_option linter.unusedSimpArgs false

/-! ### laws_toVal: function 76 -/
def laws_toVal.f (ai : Int) (aj : Int) (ak : Bool) : Option (Int × Int × Bool) := (laws_toRange.f ai aj).bind fun al => (some (al.1, al.2, ak))
theorem laws_toVal.calls (ai : Int) (aj : Int) (ak : Bool) (r1 : Int) (r2 : Int) (r3 : Bool) (w : World) (h : laws_toVal.f ai aj ak = some (r1, r2, r3)) :
  Calls Tryd.prog 76 #[.agg #[.int .i64 ai, .int .i64 aj, .bool ak]] w fun e w' => e = .returned (.agg #[.int .i64 r1, .int .i64 r2, .bool r3]) ∧ Below w.heap.size w w' := by
 have hu111 := Tryd.underlying111; have hu90 := Tryd.underlying90; have hu109 := Tryd.underlying109; have hu88 := Tryd.underlying88; have HB := am_ (Below.refl w.heap.size w); have H : ((laws_toRange.f ai aj).bind fun al => (some (al.1, al.2, ak))) = some (r1, r2, r3) := h; clear h; replace H := Option.bind_eq_some_iff.mp H; obtain ⟨⟨au, av⟩, A20, H⟩ := H; replace H : (some (au, av, ak)) = some (r1, r2, r3) := H; have A2 := am_ A20; clear A20; simp only [Option.some.injEq, Prod.mk.injEq] at H; obtain ⟨rfl, rfl, rfl⟩ := H
 go_enter Tryd.func76, Tryd.ntmps76
 go_wp2_with (first | ((with_reducible refine gate_dst (N := 1) rfl ?_); refine box_y 1 #[.int .i64 ai, .int .i64 aj, .bool ak] 111 (h := ?_); intro bj hg w3 hbox hb; have aa := am_ hbox; have bf := gz_ hg HB; have ae := gz_ hg HB; replace HB := hb_ HB hb; clear hb hbox hg) | ((with_reducible refine gate_dst (N := 2) rfl ?_); refine box_y 2 #[.int .i64 0, .int .i64 0, .bool false] 90 (h := ?_); intro aw hg w4 hbox hb; have ac := am_ hbox; have bh := gz1_ hg HB ae; have ah := gz1_ hg HB ae; replace HB := hb1_ HB hb ae; have af := nb_ hg aa; replace aa := bb_ aa hb; have am := ns_ af; clear hb hbox hg) | ((with_reducible refine gate_dst (N := 3) rfl ?_); refine box_y 3 #[.int .i64 0, .int .i64 0, .bool false] 90 (h := ?_); intro bk hg w5 hbox hb; have aq := am_ hbox; have bi := gz2_ hg HB ae ah; have ar := gz2_ hg HB ae ah; replace HB := hb2_ HB hb ae ah; have ag := nb_ hg aa; replace aa := bb_ aa hb; have ao := ns_ ag; have ab := nb_ hg ac; replace ac := bb_ ac hb; have ap := ns_ ab; clear hb hbox hg; have bn := af.out; have bp := am.out; have bo := ag.out; have bq := ao.out; obtain ⟨aX, aY, aZ, ba, bc, bd⟩ := cz3_ aa) | ((with_reducible refine gate_callee (f := 108) rfl ?_); refine gl_ 6 Tryd.func108 #[.agg #[.int .i64 ai, .int .i64 aj]] (h := ?_); (with_reducible refine (laws_toRange.calls ai aj au av _ A2.out).mono ?_); rintro e w9 ⟨rfl, hb⟩; refine ⟨_, rfl, ?_⟩; replace aa := bb_ aa hb; replace ac := bb_ ac hb; replace aq := bb_ aq hb; replace HB := hb3_ HB hb ae ah ar; (try clear hb); have bl := ap.out; have bm := ab.out; obtain ⟨ax, ay, az, aJ, aK, aM⟩ := cz3_ aq; obtain ⟨aA, aC, aD, aN, aQ, aT⟩ := cz3_ aa; obtain ⟨aG, aH, aI, aU, aV, aW⟩ := cz3_ ac))
 refine bodyPost_ret (results_cell_row rfl _ _ aw 90 #[.int .i64 au, .int .i64 av, .bool ak] (0, 0) _ rfl (bp1_ ac ab) Tryd.underlying90 rfl (by kernel_rfl)) rfl ?_; exact ⟨lf_, sq_below2 HB.out ah.out ar.out⟩

/-! ### laws_toValS: function 30 -/
def laws_toValS.l0 : Nat → List (S111) → List (S90) → Int → Option ((List (S90)))
 | 0, _, _, _ => none
 | k + 1, x0, x3, x4 => if x4 < (x0.length : Int) then (if 0 ≤ x4 then ((laws_toVal.f ((rd_T111 x0 x4).f0.f0) ((rd_T111 x0 x4).f0.f1) ((rd_T111 x0 x4).f1)).bind fun am => (if x4 < (x3.length : Int) then (laws_toValS.l0 k x0 (x3.set (x4 : Int).toNat (⟨(⟨am.1, am.2.1⟩ : S88), am.2.2⟩ : S90)) (wrap64 (x4 + 1))) else (none))) else (none)) else (some x3)
def laws_toValS.f (k : Nat) (l0 : List (S111)) : Option ((List (S90))) := if 0 ≤ (l0.length : Int) then (if ((l0.length : Int) : Int).toNat ≤ 11728124029610 then (laws_toValS.l0 k l0 (List.replicate ((l0.length : Int) : Int).toNat z90) 0) else (none)) else (none)
theorem laws_toValS.mono_l : ∀ k, (∀ y0 y1 y2, LeO (laws_toValS.l0 k y0 y1 y2) (laws_toValS.l0 (k + 1) y0 y1 y2))
 | 0 => fun _ _ _ r h => by simp [laws_toValS.l0] at h
 | k + 1 => by
  have ih0 := laws_toValS.mono_l k
  ·
   intro y0 y1 y2; unfold laws_toValS.l0
   repeat' first
   | (with_reducible exact ih0 _ _ _) | (with_reducible exact LeO.refl _) | (with_reducible exact LeO.none _) | (with_reducible refine LeO.ite ?_ ?_) | (with_reducible refine LeO.bind ?_ fun _ => ?_) | exact ih0 _ _ _ | exact LeO.none _ | refine LeO.ite ?_ ?_ | refine LeO.bind ?_ fun _ => ?_
theorem laws_toValS.mono : ∀ a0 k, LeO (laws_toValS.f k a0) (laws_toValS.f (k + 1) a0) := by
 intro a0 k; have ih0 := laws_toValS.mono_l k; unfold laws_toValS.f
 repeat' first
   | (with_reducible exact ih0 _ _ _) | (with_reducible exact LeO.refl _) | (with_reducible exact LeO.none _) | (with_reducible refine LeO.ite ?_ ?_) | (with_reducible refine LeO.bind ?_ fun _ => ?_) | exact ih0 _ _ _ | exact LeO.none _ | refine LeO.ite ?_ ?_ | refine LeO.bind ?_ fun _ => ?_
theorem laws_toValS.calls (k : Nat) (A0 : Option Addr) (c0 : Nat) (l0 : List (S111)) (r : List (S90)) (w : World) (hr0 : Kd.C k111 w A0 l0.length l0) (hc0 : l0.length ≤ c0) (h : laws_toValS.f k l0 = some r) :
  Calls Tryd.prog 30 #[.slice A0 l0.length c0] w fun e w' => ∃ v0_ : Value, e = .returned (v0_) ∧ Kd.R k90 90 w' w.heap.size (fun _ => True) v0_ r ∧ Below w.heap.size w w' := by
 have hu111 := Tryd.underlying111; have hu90 := Tryd.underlying90; have aX := am_ hr0; have ba := am_ hc0; clear hr0 hc0; have HB := am_ (Below.refl w.heap.size w); have H : (if 0 ≤ (l0.length : Int) then (if ((l0.length : Int) : Int).toNat ≤ 11728124029610 then (laws_toValS.l0 k l0 (List.replicate ((l0.length : Int) : Int).toNat z90) 0) else (none)) else (none)) = some r := h; clear h
 by_cases c2 : 0 ≤ (l0.length : Int)
 ·
  rw [if_pos c2] at H; have aH := eq_true c2; have aI := decide_eq_true (p := 0 ≤ (l0.length : Int)) c2; clear c2
  by_cases c3 : ((l0.length : Int) : Int).toNat ≤ 11728124029610
  ·
   rw [if_pos c3] at H; have aJ := eq_true c3; have aK := decide_eq_true (p := ((l0.length : Int) : Int).toNat ≤ 11728124029610) c3; clear c3; obtain ⟨aG, ae⟩ : ∃ y_ : List (S90), y_ = (List.replicate ((l0.length : Int) : Int).toNat z90) := ⟨_, rfl⟩; replace H : (laws_toValS.l0 k l0 aG 0) = some r := by first | (rw [ae]; with_reducible exact H) | (have H2_ := (Option.bind_some _ _).symm.trans H; rw [ae]; with_reducible exact H2_) | (have H2_ := (Option.bind_some _ _).symm.trans H; with_reducible exact H2_) | with_reducible exact H | (rw [ae]; exact H) | exact H
   have ap := am_ ae; clear ae; have H' := am_ H; clear H
   go_enter Tryd.func30, Tryd.ntmps30
   go_wp2_with (first | ((with_reducible refine gate_dst (N := 7) rfl ?_); refine Kd.R_make k90 _ 90 rfl (N := 7) rfl 31 _ _ rfl (l0.length : Int) rfl rfl Tryd.underlying31 (.agg #[(.int .i64 0), (.int .i64 0), (.bool false)]) 24 info90 rfl (by decide) (by omega) z90 (ok := fun _ => True) (okp := fun _ => True) (k90_mkM _ _ _ z90 ) (fun _ hk => hk) trivial (sq_dec) (Nat.le_trans (Nat.mul_le_mul_right _ (sq_dec : (l0.length : Int).toNat ≤ 11728124029610)) (by omega)) (Below.refl _ _) (Nat.le_refl _) ?_; intro v302 w4 ho5 hb hg_ hnew_; clear hg_ hnew_; (first | rw [← ap.out] at ho5 | (simp only [Int.reduceToNat] at ho5; rw [← ap.out] at ho5)); have ay := am_ (Kd.R_lower ho5 (below_size (sq_below HB.out))); replace HB := hb_ HB hb; clear hb ho5))
   go_loopg [4] k (fun kq v4 w' => ∃ (ab : List (S90)) (aa : Int), v4 = .int .i64 aa ∧ Aside0 (laws_toValS.l0 kq l0 ab aa = some r) ∧ Aside0 (kq ≤ k) ∧ Aside0 (Kd.R k90 90 w' w.heap.size (fun _ => True) v302 ab) ∧ Aside0 (Below w.heap.size w w'))
   case atStart => exact ⟨(aG), (0), sr_, H', ⟨Nat.le_refl _⟩, ⟨by (with_reducible repeat (first | apply Kd.R_alloc | apply Kd.R_drewN | apply Kd.R_drew)); exact ay.out⟩, ⟨sq_below HB.out⟩⟩
   case round =>
    clear H'
    obtain ⟨ab, aa, rfl, HA, HK1, ac, HB⟩ := hrel; cases gk with
    | zero => exact absurd HA.out (by simp [laws_toValS.l0])
    | succ k1 =>
     have H := HA.out; clear HA; simp only [laws_toValS.l0] at H
     by_cases c6 : aa < (l0.length : Int)
     ·
      rw [if_pos c6] at H; have aM := decide_eq_true (p := aa < (l0.length : Int)) c6; clear c6
      by_cases c7 : 0 ≤ aa
      ·
       rw [if_pos c7] at H; have aY := decide_eq_true (p := 0 ≤ aa) c7; clear c7; replace H := Option.bind_eq_some_iff.mp H; obtain ⟨⟨aj, ak, al⟩, A80, H⟩ := H; (try dsimp only at H); have A8 := am_ A80; clear A80
       by_cases c9 : aa < (ab.length : Int)
       ·
        rw [if_pos c9] at H; have aZ := decide_eq_true (p := aa < (ab.length : Int)) c9; clear c9; obtain ⟨ax, af⟩ : ∃ y_ : List (S90), y_ = (ab.set (aa : Int).toNat (⟨(⟨aj, ak⟩ : S88), al⟩ : S90)) := ⟨_, rfl⟩; replace H : (laws_toValS.l0 k1 l0 ax (wrap64 (aa + 1))) = some r := by first | (rw [af]; with_reducible exact H) | (have H2_ := (Option.bind_some _ _).symm.trans H; rw [af]; with_reducible exact H2_) | (have H2_ := (Option.bind_some _ _).symm.trans H; with_reducible exact H2_) | with_reducible exact H | (rw [af]; exact H) | exact H
        have az := am_ af; clear af; have H' := am_ H; clear H; have av : 0 ≤ (aa : Int) := sq_dec; have aw : aa < (l0.length : Int) := sq_dec; obtain ⟨aW, aN, ag, ah, ai⟩ := at_T111 aX.out aa av aw; cases aN; replace ag := cb_ HB ag; replace ah := cb_ HB ah; replace ai := cb_ HB ai; replace av := eq_true av; replace aw := eq_true aw
        go_wp2_with (first | ((with_reducible refine gate_callee (f := 76) rfl ?_); refine gl_ 20 Tryd.func76 #[.agg #[.int .i64 ((rd_T111 l0 aa).f0.f0), .int .i64 ((rd_T111 l0 aa).f0.f1), .bool ((rd_T111 l0 aa).f1)]] (h := ?_); (with_reducible refine (laws_toVal.calls ((rd_T111 l0 aa).f0.f0) ((rd_T111 l0 aa).f0.f1) ((rd_T111 l0 aa).f1) aj ak al _ A8.out).mono ?_); rintro e ao ⟨rfl, hb⟩; refine ⟨_, rfl, ?_⟩; replace ac := rb_ ac hb; replace HB := hb_ HB hb; (try clear hb); have p10 : 0 ≤ (aa : Int) := sq_dec; have q10 : (aa : Int) < ((ab.length : Int) : Int) := sq_dec; obtain ⟨go10, aA, aC, aD, gl10, cl10, HG10⟩ := Kd.R_form ac.out (by omega); (first | cases aC | (injection aC with ea_ en_ ec_; (first | subst ea_ | (injection ea_ with ea_; subst ea_)); subst ec_; clear en_)); have GB10 := am_ aD; have GG10 := am_ HG10; clear aD gl10 HG10; obtain ⟨ce10, hcl10, hM10, hcc10, hfr10⟩ := Kd.R_elem ac.out z90 (aa : Int) p10 q10; obtain rfl := k90_openM hM10; have aQ : ao.cell? ⟨go10, (aa : Int).toNat * 3, none⟩ = some (.int .i64 ((rd_T90 ab aa).f0.f0)) := hcc10 0 _ rfl; have aT : ao.cell? ⟨go10, (aa : Int).toNat * 3 + 1, none⟩ = some (.int .i64 ((rd_T90 ab aa).f0.f1)) := hcc10 1 _ rfl; have aU : ao.cell? ⟨go10, (aa : Int).toNat * 3 + 2, none⟩ = some (.bool ((rd_T90 ab aa).f1)) := hcc10 2 _ rfl; have hf10_0 : ao.frozen? ⟨go10, (aa : Int).toNat * 3, none⟩ = false := hfr10 0; have hf10_1 : ao.frozen? ⟨go10, (aa : Int).toNat * 3 + 1, none⟩ = false := hfr10 1; have hf10_2 : ao.frozen? ⟨go10, (aa : Int).toNat * 3 + 2, none⟩ = false := hfr10 2; clear hcl10 hcc10 hfr10 hM10; replace p10 := eq_true p10; replace q10 := eq_true q10; have HX12 := am_ (show Kd.R k90 90 ao w.heap.size (fun _ => True) (.slice (some ⟨go10, 0, none⟩) ab.length aA) ab from (sq_row ac.out)); obtain ⟨ce12, hcl12, hM12, hcc12, hfr12⟩ := Kd.R_elem HX12.out z90 (aa : Int) (sq_dec) (by have h_ : (aa : Int) < ((ab.length : Int) : Int) := sq_dec; first | exact h_ | (have e_ := (Kd.R_reads' ac.out).1; omega) | simpa using h_); obtain rfl := k90_openM hM12; have HP12 := Kd.R_seg HX12.out (aa : Int) (sq_dec) (by have h_ : (aa : Int) < ((ab.length : Int) : Int) := sq_dec; first | exact h_ | (have e_ := (Kd.R_reads' ac.out).1; omega) | simpa using h_) (seg := [.int .i64 aj, .int .i64 ak, .bool al]) (j := 0) hcl12 hcc12 (show 3 ≤ 3 from by decide) (x' := (⟨(⟨aj, ak⟩ : S88), al⟩ : S90)) (k90_mkM _ _ _ (⟨(⟨aj, ak⟩ : S88), al⟩ : S90) ) (fun _ hk => hk); have aq := hcc12 0 _ rfl; (try simp only [show (k90).sz = 3 from rfl, Nat.mul_one, Nat.add_zero] at aq); have hf12_0 := hfr12 0; (try simp only [show (k90).sz = 3 from rfl, Nat.mul_one, Nat.add_zero] at hf12_0); have ar := hcc12 1 _ rfl; (try simp only [show (k90).sz = 3 from rfl, Nat.mul_one, Nat.add_zero] at ar); have hf12_1 := hfr12 1; (try simp only [show (k90).sz = 3 from rfl, Nat.mul_one, Nat.add_zero] at hf12_1); have au := hcc12 2 _ rfl; (try simp only [show (k90).sz = 3 from rfl, Nat.mul_one, Nat.add_zero] at au); have hf12_2 := hfr12 2; (try simp only [show (k90).sz = 3 from rfl, Nat.mul_one, Nat.add_zero] at hf12_2); clear hcl12 hcc12 hfr12 hM12) | ((with_reducible refine gate_store (t := 90) (p := 21) rfl ?_); refine store_event (t := 90) (p := 21) (v := ?vo_w13) (w1 := (((ao.setCell ⟨go10, (aa : Int).toNat * 3, none⟩ (.int .i64 aj)).setCell ⟨go10, (aa : Int).toNat * 3 + 1, none⟩ (.int .i64 ak)).setCell ⟨go10, (aa : Int).toNat * 3 + 2, none⟩ (.bool al))) ?hg ?ho ?hn ?hr ?_; (case ho => rfl); (case hg => rfl); (case hn => rfl); (case hr => first | (go_simp; done) | (go_simp; rfl)); intro aV hw; have hg : ao.grownBy aV (some go10) := (by rw [hw]; exact HP12.2); have hp_ : Kd.R k90 90 aV w.heap.size (fun _ => True) (.slice (some ⟨go10, 0, none⟩) ab.length aA) ax := (by rw [hw, az.out]; exact HP12.1); clear HP12; replace ac := am_ hp_; replace HB := am_ ((by rw [hw]; exact below_set (below_set (below_set (HB.out) GB10.out) GB10.out) GB10.out : Below w.heap.size w aV)); clear hg hw hp_))
        go_roundg k1
        case measure => have := HK1.out; omega
        case rel => exact ⟨(ax), (wrap64 (aa + 1)), sr_, H', ⟨by have := HK1.out; omega⟩, ⟨by (with_reducible repeat (first | apply Kd.R_alloc | apply Kd.R_drewN | apply Kd.R_drew)); exact ac.out⟩, ⟨sq_below HB.out⟩⟩
       ·
        rw [if_neg c9] at H; exact absurd H (by simp)
      ·
       rw [if_neg c7] at H; exact absurd H (by simp)
     ·
      rw [if_neg c6] at H; have aM := decide_eq_false (p := aa < (l0.length : Int)) c6; clear c6; obtain rfl := Option.some.inj H
      go_wp2
      go_ret
      exact ⟨_, by first | rfl | (simp [errW_none, errW_some] <;> rfl) | (simp [*, errW_none, errW_some] <;> rfl), by (with_reducible repeat (first | apply Kd.R_alloc | apply Kd.R_drewN | apply Kd.R_drew)); exact ac.out, sq_below HB.out⟩
  ·
   rw [if_neg c3] at H; exact absurd H (by simp)
 ·
  rw [if_neg c2] at H; exact absurd H (by simp)

/-! ### laws_toBoolS: function 31 -/
def laws_toBoolS.l0 : Nat → List Bool → List Bool → Int → Option (List Bool)
 | 0, _, _, _ => none
 | k + 1, x0, x3, x4 => if x4 < (x0.length : Int) then (if 0 ≤ x4 then (if x4 < (x3.length : Int) then (laws_toBoolS.l0 k x0 (x3.set (x4 : Int).toNat (rdOf false x0 x4)) (wrap64 (x4 + 1))) else (none)) else (none)) else (some x3)
def laws_toBoolS.f (k : Nat) (l0 : List Bool) : Option (List Bool) := if 0 ≤ (l0.length : Int) then (if ((l0.length : Int) : Int).toNat ≤ 281474976710656 then (laws_toBoolS.l0 k l0 (List.replicate ((l0.length : Int) : Int).toNat false) 0) else (none)) else (none)
theorem laws_toBoolS.mono_l : ∀ k, (∀ y0 y1 y2, LeO (laws_toBoolS.l0 k y0 y1 y2) (laws_toBoolS.l0 (k + 1) y0 y1 y2))
 | 0 => fun _ _ _ r h => by simp [laws_toBoolS.l0] at h
 | k + 1 => by
  have ih0 := laws_toBoolS.mono_l k
  ·
   intro y0 y1 y2; unfold laws_toBoolS.l0
   repeat' first
   | (with_reducible exact ih0 _ _ _) | (with_reducible exact LeO.refl _) | (with_reducible exact LeO.none _) | (with_reducible refine LeO.ite ?_ ?_) | (with_reducible refine LeO.bind ?_ fun _ => ?_) | exact ih0 _ _ _ | exact LeO.none _ | refine LeO.ite ?_ ?_ | refine LeO.bind ?_ fun _ => ?_
theorem laws_toBoolS.mono : ∀ a0 k, LeO (laws_toBoolS.f k a0) (laws_toBoolS.f (k + 1) a0) := by
 intro a0 k; have ih0 := laws_toBoolS.mono_l k; unfold laws_toBoolS.f
 repeat' first
   | (with_reducible exact ih0 _ _ _) | (with_reducible exact LeO.refl _) | (with_reducible exact LeO.none _) | (with_reducible refine LeO.ite ?_ ?_) | (with_reducible refine LeO.bind ?_ fun _ => ?_) | exact ih0 _ _ _ | exact LeO.none _ | refine LeO.ite ?_ ?_ | refine LeO.bind ?_ fun _ => ?_
theorem laws_toBoolS.calls (k : Nat) (A0 : Option Addr) (c0 : Nat) (l0 : List Bool) (r : List Bool) (w : World) (hr0 : Kd.C Kd.bool w A0 l0.length l0) (hc0 : l0.length ≤ c0) (h : laws_toBoolS.f k l0 = some r) :
  Calls Tryd.prog 31 #[.slice A0 l0.length c0] w fun e w' => ∃ v0_ : Value, e = .returned (v0_) ∧ Kd.R Kd.bool 4 w' w.heap.size (fun _ => True) v0_ r ∧ Below w.heap.size w w' := by
 have aD := am_ hr0; have aJ := am_ hc0; clear hr0 hc0; have HB := am_ (Below.refl w.heap.size w); have H : (if 0 ≤ (l0.length : Int) then (if ((l0.length : Int) : Int).toNat ≤ 281474976710656 then (laws_toBoolS.l0 k l0 (List.replicate ((l0.length : Int) : Int).toNat false) 0) else (none)) else (none)) = some r := h; clear h
 by_cases c2 : 0 ≤ (l0.length : Int)
 ·
  rw [if_pos c2] at H; have ap := eq_true c2; have aq := decide_eq_true (p := 0 ≤ (l0.length : Int)) c2; clear c2
  by_cases c3 : ((l0.length : Int) : Int).toNat ≤ 281474976710656
  ·
   rw [if_pos c3] at H; have ar := eq_true c3; have au := decide_eq_true (p := ((l0.length : Int) : Int).toNat ≤ 281474976710656) c3; clear c3; obtain ⟨ao, ab⟩ : ∃ y_ : List Bool, y_ = (List.replicate ((l0.length : Int) : Int).toNat false) := ⟨_, rfl⟩; replace H : (laws_toBoolS.l0 k l0 ao 0) = some r := by first | (rw [ab]; with_reducible exact H) | (have H2_ := (Option.bind_some _ _).symm.trans H; rw [ab]; with_reducible exact H2_) | (have H2_ := (Option.bind_some _ _).symm.trans H; with_reducible exact H2_) | with_reducible exact H | (rw [ab]; exact H) | exact H
   have ah := am_ ab; clear ab; have H' := am_ H; clear H
   go_enter Tryd.func31, Tryd.ntmps31
   go_wp2_with (first | ((with_reducible refine gate_dst (N := 7) rfl ?_); refine Kd.R_make Kd.bool _ 4 rfl (N := 7) rfl 24 _ _ rfl (l0.length : Int) rfl rfl Tryd.underlying24 (.bool false) 1 info4 rfl (by decide) (by omega) false (ok := fun _ => True) (okp := fun _ => True) rfl (fun _ hk => hk) trivial (sq_dec) (Nat.le_trans (Nat.mul_le_mul_right _ (sq_dec : (l0.length : Int).toNat ≤ 281474976710656)) (by omega)) (Below.refl _ _) (Nat.le_refl _) ?_; intro v310 w4 ho5 hb hg_ hnew_; clear hg_ hnew_; (first | rw [← ah.out] at ho5 | (simp only [Int.reduceToNat] at ho5; rw [← ah.out] at ho5)); have al := am_ (Kd.R_lower ho5 (below_size (sq_below HB.out))); replace HB := hb_ HB hb; clear hb ho5))
   go_loopg [4] k (fun kq v4 w' => ∃ (ae : List Bool) (aa : Int), v4 = .int .i64 aa ∧ Aside0 (laws_toBoolS.l0 kq l0 ae aa = some r) ∧ Aside0 (kq ≤ k) ∧ Aside0 (Kd.R Kd.bool 4 w' w.heap.size (fun _ => True) v310 ae) ∧ Aside0 (Below w.heap.size w w'))
   case atStart => exact ⟨(ao), (0), sr_, H', ⟨Nat.le_refl _⟩, ⟨by (with_reducible repeat (first | apply Kd.R_alloc | apply Kd.R_drewN | apply Kd.R_drew)); exact al.out⟩, ⟨sq_below HB.out⟩⟩
   case round =>
    clear H'
    obtain ⟨ae, aa, rfl, HA, HK1, ag, HB⟩ := hrel; cases gk with
    | zero => exact absurd HA.out (by simp [laws_toBoolS.l0])
    | succ k1 =>
     have H := HA.out; clear HA; simp only [laws_toBoolS.l0] at H
     by_cases c6 : aa < (l0.length : Int)
     ·
      rw [if_pos c6] at H; have av := decide_eq_true (p := aa < (l0.length : Int)) c6; clear c6
      by_cases c7 : 0 ≤ aa
      ·
       rw [if_pos c7] at H; have aG := decide_eq_true (p := 0 ≤ aa) c7; clear c7
       by_cases c8 : aa < (ae.length : Int)
       ·
        rw [if_pos c8] at H; have aH := decide_eq_true (p := aa < (ae.length : Int)) c8; clear c8; obtain ⟨ak, ac⟩ : ∃ y_ : List Bool, y_ = (ae.set (aa : Int).toNat (rdOf false l0 aa)) := ⟨_, rfl⟩; replace H : (laws_toBoolS.l0 k1 l0 ak (wrap64 (aa + 1))) = some r := by first | (rw [ac]; with_reducible exact H) | (have H2_ := (Option.bind_some _ _).symm.trans H; rw [ac]; with_reducible exact H2_) | (have H2_ := (Option.bind_some _ _).symm.trans H; with_reducible exact H2_) | with_reducible exact H | (rw [ac]; exact H) | exact H
        have am := am_ ac; clear ac; have H' := am_ H; clear H; have ai : 0 ≤ (aa : Int) := sq_dec; have aj : aa < (l0.length : Int) := sq_dec; obtain ⟨ay, aw, af⟩ := Kd.at_bool aD.out aa ai aj; cases aw; replace af := cb_ HB af; replace ai := eq_true ai; replace aj := eq_true aj; have p9 : 0 ≤ (aa : Int) := sq_dec; have q9 : (aa : Int) < ((ae.length : Int) : Int) := sq_dec; obtain ⟨go9, aI, az, aA, gl9, cl9, HG9⟩ := Kd.R_form ag.out (by omega)
        (first | cases az | (injection az with ea_ en_ ec_; (first | subst ea_ | (injection ea_ with ea_; subst ea_)); subst ec_; clear en_))
        have GB9 := am_ aA; have GG9 := am_ HG9; clear aA gl9 HG9; obtain ⟨aC, hf9_0⟩ := Kd.R_celln false ag.out (aa : Int) p9 q9; replace p9 := eq_true p9; replace q9 := eq_true q9; have HP10 := Kd.R_putg ag.out (aa : Int) (rdOf false l0 aa)
        go_wp2_with (first | ((with_reducible refine gate_store (t := 4) (p := 20) rfl ?_); refine store_event (t := 4) (p := 20) (v := ?vo_w11) (w1 := (wr.setCell ⟨go9, (aa : Int).toNat, none⟩ (.bool (rdOf false l0 aa)))) ?hg ?ho ?hn ?hr ?_; (case ho => rfl); (case hg => rfl); (case hn => rfl); (case hr => first | (go_simp; done) | (go_simp; rfl)); intro ax hw; have hg : wr.grownBy ax (some go9) := (by rw [hw]; exact HP10.2); have hp_ : Kd.R Kd.bool 4 ax w.heap.size (fun _ => True) (.slice (some ⟨go9, 0, none⟩) ae.length aI) ak := (by rw [hw, am.out]; exact HP10.1); clear HP10; replace ag := am_ hp_; replace HB := am_ ((by rw [hw]; exact below_set (HB.out) GB9.out : Below w.heap.size w ax)); clear hg hw hp_))
        go_roundg k1
        case measure => have := HK1.out; omega
        case rel => exact ⟨(ak), (wrap64 (aa + 1)), sr_, H', ⟨by have := HK1.out; omega⟩, ⟨by (with_reducible repeat (first | apply Kd.R_alloc | apply Kd.R_drewN | apply Kd.R_drew)); exact ag.out⟩, ⟨sq_below HB.out⟩⟩
       ·
        rw [if_neg c8] at H; exact absurd H (by simp)
      ·
       rw [if_neg c7] at H; exact absurd H (by simp)
     ·
      rw [if_neg c6] at H; have av := decide_eq_false (p := aa < (l0.length : Int)) c6; clear c6; obtain rfl := Option.some.inj H
      go_wp2
      go_ret
      exact ⟨_, by first | rfl | (simp [errW_none, errW_some] <;> rfl) | (simp [*, errW_none, errW_some] <;> rfl), by (with_reducible repeat (first | apply Kd.R_alloc | apply Kd.R_drewN | apply Kd.R_drew)); exact ag.out, sq_below HB.out⟩
  ·
   rw [if_neg c3] at H; exact absurd H (by simp)
 ·
  rw [if_neg c2] at H; exact absurd H (by simp)

/-! ### laws_toSeg: function 8 -/
def laws_toSeg.f (k : Nat) (ap : List (List (S65))) (aq : List (S111)) (ar : List Bool) : Option ((List (List (S54))) × (List (S90)) × List Bool) := (laws_toSymSS.f k ap).bind fun ak => ((laws_toValS.f k aq).bind fun al => ((laws_toBoolS.f k ar).bind fun am => (some (ak, al, am))))
theorem laws_toSeg.mono : ∀ a0 a1 a2 k, LeO (laws_toSeg.f k a0 a1 a2) (laws_toSeg.f (k + 1) a0 a1 a2) := by
 intro a0 a1 a2 k; unfold laws_toSeg.f
 repeat' first
   | (with_reducible exact laws_toBoolS.mono _ _) | (with_reducible exact laws_toSymSS.mono _ _) | (with_reducible exact laws_toValS.mono _ _) | (with_reducible exact LeO.refl _) | (with_reducible exact LeO.none _) | (with_reducible refine LeO.ite ?_ ?_) | (with_reducible refine LeO.bind ?_ fun _ => ?_) | exact laws_toBoolS.mono _ _ | exact laws_toSymSS.mono _ _ | exact laws_toValS.mono _ _ | exact LeO.none _ | refine LeO.ite ?_ ?_ | refine LeO.bind ?_ fun _ => ?_
theorem laws_toSeg.calls (k : Nat) (aM : Option Addr) (aT : Nat) (ap : List (List (S65))) (aN : Option Addr) (aU : Nat) (aq : List (S111)) (aQ : Option Addr) (aV : Nat) (ar : List Bool) (r1 : List (List (S54))) (r2 : List (S90)) (r3 : List Bool) (w : World) (ba : Kd.C (Kd.slice 65 k65) w aM ap.length ap) (aX : ap.length ≤ aT) (bc : Kd.C k111 w aN aq.length aq) (aY : aq.length ≤ aU) (bd : Kd.C Kd.bool w aQ ar.length ar) (aZ : ar.length ≤ aV) (h : laws_toSeg.f k ap aq ar = some (r1, r2, r3)) :
  Calls Tryd.prog 8 #[.agg #[.slice aM ap.length aT, .slice aN aq.length aU, .slice aQ ar.length aV]] w fun e w' => ∃ v0_ v1_ v2_ : Value, e = .returned (.agg #[v0_, v1_, v2_]) ∧ Kd.S (Kd.slice 54 k54) 36 w' w.heap.size (fun _ => True) v0_ r1 ∧ Kd.R k90 90 w' w.heap.size (fun _ => True) v1_ r2 ∧ Kd.R Kd.bool 4 w' w.heap.size (fun _ => True) v2_ r3 ∧ Below w.heap.size w w' := by
 have hu26 := Tryd.underlying26; have hu33 := Tryd.underlying33; have bj := am_ ba; have bf := am_ aX; clear ba aX; have bk := am_ bc; have bh := am_ aY; clear bc aY; have bl := am_ bd; have bi := am_ aZ; clear bd aZ; have HB := am_ (Below.refl w.heap.size w); have H : ((laws_toSymSS.f k ap).bind fun ak => ((laws_toValS.f k aq).bind fun al => ((laws_toBoolS.f k ar).bind fun am => (some (ak, al, am))))) = some (r1, r2, r3) := h; clear h; obtain ⟨ak, A2, H⟩ := be_ H; (try dsimp only at H); obtain ⟨al, A3, H⟩ := be_ H; (try dsimp only at H); replace H := Option.bind_eq_some_iff.mp H; obtain ⟨am, A40, H⟩ := H; replace H : (some (ak, al, am)) = some (r1, r2, r3) := H; have A4 := am_ A40; clear A40; simp only [Option.some.injEq, Prod.mk.injEq] at H; obtain ⟨rfl, rfl, rfl⟩ := H
 go_enter Tryd.func8, Tryd.ntmps8
 go_wp2_with (first | ((with_reducible refine gate_dst (N := 1) rfl ?_); refine box_y 1 #[.slice aM ap.length aT, .slice aN aq.length aU, .slice aQ ar.length aV] 26 (h := ?_); intro bm hg w5 hbox hb; have ac := am_ hbox; have cl := gz_ hg HB; have ah := gz_ hg HB; replace HB := hb_ HB hb; clear hb hbox hg) | ((with_reducible refine gate_dst (N := 2) rfl ?_); refine box_y 2 #[.slice none 0 0, .slice none 0 0, .slice none 0 0] 33 (h := ?_); intro ag hg w6 hbox hb; have ab := am_ hbox; have cm := gz1_ hg HB ah; have af := gz1_ hg HB ah; replace HB := hb1_ HB hb ah; have av := nb_ hg ac; replace ac := bb_ ac hb; have aI := ns_ av; clear hb hbox hg) | ((with_reducible refine gate_dst (N := 3) rfl ?_); refine box_y 3 #[.slice none 0 0, .slice none 0 0, .slice none 0 0] 33 (h := ?_); intro ao hg w7 hbox hb; have aa := am_ hbox; have cn := gz2_ hg HB ah af; have ai := gz2_ hg HB ah af; replace HB := hb2_ HB hb ah af; have aj := nb_ hg ac; replace ac := bb_ ac hb; have aJ := ns_ aj; have ae := nb_ hg ab; replace ab := bb_ ab hb; have aK := ns_ ae; clear hb hbox hg; have cq := av.out; have cu := aI.out; have cr := aj.out; have cv := aJ.out; obtain ⟨bn, bo, bp, bK, bL, bM⟩ := cz3_ ac) | ((with_reducible refine gate_callee (f := 29) rfl ?_); refine gl_ 6 Tryd.func29 #[.slice aM ap.length aT] (h := ?_); (with_reducible refine (laws_toSymSS.calls k _ _ ap ak _ ?aw ?ax A2.out).mono ?_); (case aw => exact sq_c (Kd.C_below bj.out HB.out)); (case ax => exact bf.out); rintro e cw ⟨v318, rfl, ho0, hb⟩; refine ⟨_, rfl, ?_⟩; have au := am_ (Kd.S_lower ho0 (below_size (sq_below3 HB.out ah.out af.out ai.out))); replace ac := bb_ ac hb; replace ab := bb_ ab hb; replace aa := bb_ aa hb; replace HB := hb3_ HB hb ah af ai; (try clear hb); (try clear ho0); obtain ⟨ay, aC, ch⟩ := Kd.S_slice au.out; subst ch; have co := aK.out; have cp := ae.out; obtain ⟨bq, br, bt, bN, bO, bP⟩ := cz3_ aa; obtain ⟨bu, bv, bw, bQ, bR, bS⟩ := cz3_ ac) | ((with_reducible refine gate_callee (f := 30) rfl ?_); refine gl_ 10 Tryd.func30 #[.slice aN aq.length aU] (h := ?_); (with_reducible refine (laws_toValS.calls k _ _ aq al _ ?aw ?ax A3.out).mono ?_); (case aw => exact Kd.C_below bk.out (sq_below3 HB.out ah.out af.out ai.out)); (case ax => exact bh.out); rintro e cx ⟨v321, rfl, ho0, hb⟩; refine ⟨_, rfl, ?_⟩; replace au := am_ (Kd.S_below (by (with_reducible repeat (first | apply Kd.S_alloc | apply Kd.S_drewN | apply Kd.S_drew)); exact (Kd.S_mono (Kd.S_far (p := ⟨ao, 0, none⟩) (Kd.S_types au.out aa.out (by decide)) (fun _ hk => hk.2) (.slice ay ak.length aC)) (fun _ h_ => h_.1))) hb); have aH := am_ (Kd.R_lower ho0 (below_size (sq_below3 HB.out ah.out af.out ai.out))); replace ac := am_ (blk_below (g := bm) (o := .cells #[.slice aM ap.length aT, .slice aN aq.length aU, .slice aQ ar.length aV] 26 (0, 0)) (bf_ ac aj).out hb); replace ab := am_ (blk_below (g := ag) (o := .cells #[.slice none 0 0, .slice none 0 0, .slice none 0 0] 33 (0, 0)) (bf_ ab ae).out hb); replace aa := am_ (blk_below (g := ao) (o := .cells #[.slice ay ak.length aC, .slice none 0 0, .slice none 0 0] 33 (0, 0)) (bp_ aa) hb); replace HB := hb3_ HB hb ah af ai; (try clear hb); (try clear ho0); obtain ⟨az, aD, cj⟩ := Kd.R_slice aH.out; subst cj; obtain ⟨bx, bz, bA, bT, bU, bV⟩ := cz3_ aa; obtain ⟨bB, bC, bD, bW, bX, bY⟩ := cz3_ ac) | ((with_reducible refine gate_callee (f := 31) rfl ?_); refine gl_ 14 Tryd.func31 #[.slice aQ ar.length aV] (h := ?_); (with_reducible refine (laws_toBoolS.calls k _ _ ar am _ ?aw ?ax A4.out).mono ?_); (case aw => exact Kd.C_below bl.out (sq_below2 HB.out af.out ai.out)); (case ax => exact bi.out); rintro e cy ⟨v324, rfl, ho0, hb⟩; refine ⟨_, rfl, ?_⟩; replace au := am_ (Kd.S_below (by (with_reducible repeat (first | apply Kd.S_alloc | apply Kd.S_drewN | apply Kd.S_drew)); exact (Kd.S_mono (Kd.S_far (p := ⟨ao, 1, none⟩) (Kd.S_types au.out aa.out (by decide)) (fun _ hk => hk.2) (.slice az al.length aD)) (fun _ h_ => h_.1))) hb); replace aH := am_ (Kd.R_below (by (with_reducible repeat (first | apply Kd.R_alloc | apply Kd.R_drewN | apply Kd.R_drew)); exact (Kd.R_mono (Kd.R_far (p := ⟨ao, 1, none⟩) (Kd.R_types aH.out aa.out (by decide)) (fun _ hk => hk.2) (.slice az al.length aD)) (fun _ h_ => h_.1))) hb); have aW := am_ (Kd.R_lower ho0 (below_size (sq_below2 HB.out af.out ai.out))); replace ab := am_ (blk_below (g := ag) (o := .cells #[.slice none 0 0, .slice none 0 0, .slice none 0 0] 33 (0, 0)) (bf_ ab ae).out hb); replace aa := am_ (blk_below (g := ao) (o := .cells #[.slice ay ak.length aC, .slice az al.length aD, .slice none 0 0] 33 (0, 0)) (bp_ aa) hb); replace HB := hb2_ HB hb af ai; (try clear hb); (try clear ho0); obtain ⟨aA, aG, ck⟩ := Kd.R_slice aW.out; subst ck; obtain ⟨bE, bF, bG, bZ, ca, cb⟩ := cz3_ aa; obtain ⟨bH, bI, bJ, cd, ce, cf⟩ := cz3_ ab))
 refine bodyPost_ret (results_cell_row rfl _ _ ag 33 #[.slice ay ak.length aC, .slice az al.length aD, .slice aA am.length aG] (0, 0) _ rfl (bp1_ ab ae) Tryd.underlying33 rfl (by kernel_rfl)) rfl ?_; exact ⟨_, _, _, by first | rfl | (simp [errW_none, errW_some] <;> rfl) | (simp [*, errW_none, errW_some] <;> rfl), by (with_reducible repeat (first | apply Kd.S_alloc | apply Kd.S_drewN | apply Kd.S_drew)); exact Kd.S_mono (Kd.S_far (p := ⟨ag, 2, none⟩) (Kd.S_far (p := ⟨ag, 1, none⟩) (Kd.S_far (p := ⟨ag, 0, none⟩) (Kd.S_far (p := ⟨ao, 2, none⟩) (Kd.S_types (Kd.S_types au.out aa.out (by decide)) ab.out (by decide)) (fun _ hk => hk.1.2) (.slice aA am.length aG)) (fun _ hk => hk.2) (.slice ay ak.length aC)) (fun _ hk => hk.2) (.slice az al.length aD)) (fun _ hk => hk.2) (.slice aA am.length aG)) (fun _ hk => trivial), by (with_reducible repeat (first | apply Kd.R_alloc | apply Kd.R_drewN | apply Kd.R_drew)); exact Kd.R_mono (Kd.R_far (p := ⟨ag, 2, none⟩) (Kd.R_far (p := ⟨ag, 1, none⟩) (Kd.R_far (p := ⟨ag, 0, none⟩) (Kd.R_far (p := ⟨ao, 2, none⟩) (Kd.R_types (Kd.R_types aH.out aa.out (by decide)) ab.out (by decide)) (fun _ hk => hk.1.2) (.slice aA am.length aG)) (fun _ hk => hk.2) (.slice ay ak.length aC)) (fun _ hk => hk.2) (.slice az al.length aD)) (fun _ hk => hk.2) (.slice aA am.length aG)) (fun _ hk => trivial), by (with_reducible repeat (first | apply Kd.R_alloc | apply Kd.R_drewN | apply Kd.R_drew)); exact Kd.R_mono (Kd.R_far (p := ⟨ag, 2, none⟩) (Kd.R_far (p := ⟨ag, 1, none⟩) (Kd.R_far (p := ⟨ag, 0, none⟩) (Kd.R_far (p := ⟨ao, 2, none⟩) (Kd.R_types (Kd.R_types aW.out aa.out (by decide)) ab.out (by decide)) (fun _ hk => hk.1.2) (.slice aA am.length aG)) (fun _ hk => hk.2) (.slice ay ak.length aC)) (fun _ hk => hk.2) (.slice az al.length aD)) (fun _ hk => hk.2) (.slice aA am.length aG)) (fun _ hk => trivial), sq_below2 HB.out af.out ai.out⟩

end Go.Proofs.YtdmdalapckcobaaDoor.Q
