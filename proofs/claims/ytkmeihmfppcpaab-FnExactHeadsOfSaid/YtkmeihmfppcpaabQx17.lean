/- Functions of the translation as Lean functions, each with a proof that a call answers so; out of the seat, by this claim's own program prt.py. -/
import Derived.Test.YtkmeihmfppcpaabWRepsOne
import Derived.Test.YtkmeihmfppcpaabQx0
import Derived.Test.YtkmeihmfppcpaabQx2
import Derived.Test.YtkmeihmfppcpaabQx5
import Derived.Test.YtkmeihmfppcpaabQx7
import Derived.Test.YtkmeihmfppcpaabQx10
import Derived.Test.YtkmeihmfppcpaabQx14
import Derived.Test.YtkmeihmfppcpaabQx15
import Derived.Test.YtkmeihmfppcpaabQx16
import Derived.Test.YtkmeihmfppcpaabQStep
namespace Go.Proofs.Ytkmeihmfppcpaab.Q
open Go.RowKit Go.Proofs.YtkmeihmfppcpaabW.PrintWords Go.Proofs.YtkmeihmfppcpaabW.PrintLast Go.Proofs.YtkmeihmfppcpaabW.PrintMore
attribute [local go_sem] max2_int min2_int max_two min_two max_three min_three max_four min_four   -- for this text's walks alone
set_option linter.unusedVariables false
set_option linter.unusedSimpArgs false

/-! ### laws_FnExactHeadsOf: function 3 -/
def laws_FnExactHeadsOf.j0 : Nat → List Int → List Int → Bool → Int → List (S48) → Option (Bool)
 | 0, _, _, _, _, _ => none
 | k + 1, x4, x6, x42, x239000, x239001 => if x42 = true then (some false) else ((laws_markIntS.f k x6 1).bind fun bt263 => ((laws_heldIntS.f k bt263.2 1).bind fun t265 => (if t265 < 0 then (some false) else (if t265 = bt263.1 then ((laws_toGraph.f k x239000 x239001).bind fun bt266 => ((impl_HeadsOf.f k bt266.1 bt266.2).bind fun t270 => ((laws_eqIntS.f k t270 x4).bind fun t273 => (if t273 = true then ((laws_heldIntS.f k bt263.2 1).bind fun t274 => (if t274 < 0 then (some false) else (if t274 = bt263.1 then (some true) else (some false)))) else (some false))))) else (some false)))))
def laws_FnExactHeadsOf.f (k : Nat) (a0_0 : Int) (l0_1 : List (S48)) : Option (Bool) := (laws_szGraph.f k a0_0 l0_1 1048576).bind fun t239 => (if t239 < 0 then (some true) else ((laws_toGraph.f k a0_0 l0_1).bind fun bt240 => ((spec_HeadsOf.f k bt240.1 bt240.2).bind fun t244 => ((laws_toGraph.f k a0_0 l0_1).bind fun bt247 => ((impl_HeadsOf.f k bt247.1 bt247.2).bind fun t252 => ((laws_eqIntS.f k t252 t244).bind fun t255 => (if t255 = true then ((laws_toGraph.f k a0_0 l0_1).bind fun bt256 => ((laws_eqGraph.f k bt247.1 bt247.2 bt256.1 bt256.2).bind fun t260 => (if t260 = true then ((laws_markGraph.f bt247.1 bt247.2 1).bind fun t261 => (if t261 < 0 then (laws_FnExactHeadsOf.j0 k t244 t252 true a0_0 l0_1) else ((laws_eqIntS.f k t252 t244).bind fun t262 => (laws_FnExactHeadsOf.j0 k t244 t252 (!t262) a0_0 l0_1)))) else (some false)))) else (some false))))))))
theorem laws_FnExactHeadsOf.mono_l : ∀ k, (∀ y0 y1 y2 y3 y4, LeO (laws_FnExactHeadsOf.j0 k y0 y1 y2 y3 y4) (laws_FnExactHeadsOf.j0 (k + 1) y0 y1 y2 y3 y4))
 | 0 => fun _ _ _ _ _ r h => by simp [laws_FnExactHeadsOf.j0] at h
 | k + 1 => by
  have ih0 := laws_FnExactHeadsOf.mono_l k
  ·
   intro y0 y1 y2 y3 y4; unfold laws_FnExactHeadsOf.j0
   repeat' first
   | (with_reducible exact ih0 _ _ _ _ _)
   | (with_reducible exact impl_HeadsOf.mono _ _ _)
   | (with_reducible exact laws_eqGraph.mono _ _ _ _ _)
   | (with_reducible exact laws_eqIntS.mono _ _ _)
   | (with_reducible exact laws_heldIntS.mono _ _ _)
   | (with_reducible exact laws_markIntS.mono _ _ _)
   | (with_reducible exact laws_szGraph.mono _ _ _ _)
   | (with_reducible exact laws_toGraph.mono _ _ _)
   | (with_reducible exact spec_HeadsOf.mono _ _ _)
   | (with_reducible exact LeO.refl _)
   | (with_reducible exact LeO.none _)
   | (with_reducible refine LeO.ite ?_ ?_)
   | (with_reducible refine LeO.bind ?_ (fun _ => ?_))
   | exact ih0 _ _ _ _ _
   | exact impl_HeadsOf.mono _ _ _
   | exact laws_eqGraph.mono _ _ _ _ _
   | exact laws_eqIntS.mono _ _ _
   | exact laws_heldIntS.mono _ _ _
   | exact laws_markIntS.mono _ _ _
   | exact laws_szGraph.mono _ _ _ _
   | exact laws_toGraph.mono _ _ _
   | exact spec_HeadsOf.mono _ _ _
   | exact LeO.none _
   | refine LeO.ite ?_ ?_
   | refine LeO.bind ?_ (fun _ => ?_)
theorem laws_FnExactHeadsOf.mono : ∀ a0 a1 k, LeO (laws_FnExactHeadsOf.f k a0 a1) (laws_FnExactHeadsOf.f (k + 1) a0 a1) := by
 intro a0 a1 k; have ih0 := laws_FnExactHeadsOf.mono_l k; unfold laws_FnExactHeadsOf.f
 repeat' first
   | (with_reducible exact ih0 _ _ _ _ _)
   | (with_reducible exact impl_HeadsOf.mono _ _ _)
   | (with_reducible exact laws_eqGraph.mono _ _ _ _ _)
   | (with_reducible exact laws_eqIntS.mono _ _ _)
   | (with_reducible exact laws_heldIntS.mono _ _ _)
   | (with_reducible exact laws_markIntS.mono _ _ _)
   | (with_reducible exact laws_szGraph.mono _ _ _ _)
   | (with_reducible exact laws_toGraph.mono _ _ _)
   | (with_reducible exact spec_HeadsOf.mono _ _ _)
   | (with_reducible exact LeO.refl _)
   | (with_reducible exact LeO.none _)
   | (with_reducible refine LeO.ite ?_ ?_)
   | (with_reducible refine LeO.bind ?_ (fun _ => ?_))
   | exact ih0 _ _ _ _ _
   | exact impl_HeadsOf.mono _ _ _
   | exact laws_eqGraph.mono _ _ _ _ _
   | exact laws_eqIntS.mono _ _ _
   | exact laws_heldIntS.mono _ _ _
   | exact laws_markIntS.mono _ _ _
   | exact laws_szGraph.mono _ _ _ _
   | exact laws_toGraph.mono _ _ _
   | exact spec_HeadsOf.mono _ _ _
   | exact LeO.none _
   | refine LeO.ite ?_ ?_
   | refine LeO.bind ?_ (fun _ => ?_)
set_option maxHeartbeats 8000000 in
set_option maxRecDepth 100000 in
theorem laws_FnExactHeadsOf.calls (k : Nat) (a0_0 : Int) (A0_1 : Option Addr) (c0_1 : Nat) (l0_1 : List (S48)) (r : Bool) (w : World) (hr0_1 : Kd.C k48 w A0_1 l0_1.length l0_1) (hc0_1 : l0_1.length ≤ c0_1) (h : laws_FnExactHeadsOf.f k a0_0 l0_1 = some r) (hr_ : r = true) :
  Calls Try.prog 3 #[.agg #[.int .i64 a0_0, .slice A0_1 l0_1.length c0_1]] w fun e w' => e = .returned (.bool r) ∧ Below w.heap.size w w' := by
 have hu24 := Try.underlying24; have hu30 := Try.underlying30; have HR0_1 := Aside0.mk hr0_1; have HC0_1 := Aside0.mk hc0_1; clear hr0_1 hc0_1; have HB := Aside0.mk (Below.refl w.heap.size w); have H : ((laws_szGraph.f k a0_0 l0_1 1048576).bind fun t239 => (if t239 < 0 then (some true) else ((laws_toGraph.f k a0_0 l0_1).bind fun bt240 => ((spec_HeadsOf.f k bt240.1 bt240.2).bind fun t244 => ((laws_toGraph.f k a0_0 l0_1).bind fun bt247 => ((impl_HeadsOf.f k bt247.1 bt247.2).bind fun t252 => ((laws_eqIntS.f k t252 t244).bind fun t255 => (if t255 = true then ((laws_toGraph.f k a0_0 l0_1).bind fun bt256 => ((laws_eqGraph.f k bt247.1 bt247.2 bt256.1 bt256.2).bind fun t260 => (if t260 = true then ((laws_markGraph.f bt247.1 bt247.2 1).bind fun t261 => (if t261 < 0 then (laws_FnExactHeadsOf.j0 k t244 t252 true a0_0 l0_1) else ((laws_eqIntS.f k t252 t244).bind fun t262 => (laws_FnExactHeadsOf.j0 k t244 t252 (!t262) a0_0 l0_1)))) else (some false)))) else (some false))))))))) = some r := h; clear h; replace H := Option.bind_eq_some_iff.mp H; obtain ⟨t239, A20, H⟩ := H; (try dsimp only at H); have A2 := Aside0.mk A20; clear A20
 by_cases c3 : t239 < 0
 ·
  rw [if_pos c3] at H; have c3b0 : decide (t239 < 0) = true := decide_eq_true c3; clear c3; obtain rfl := Option.some.inj H
  go_enter Try.func3, Try.ntmps3
  go_wp2_with (first | ((with_reducible refine gate_dst (N := 1) rfl ?_); refine box_y 1 #[.int .i64 a0_0, .slice A0_1 l0_1.length c0_1] 24 (h := ?_); intro gb238 hg w4 hbox hb; have n0_ := Aside0.mk (below_step (sq_below HB.out) hb); have n1_ := Aside0.mk (hbox); have n2_ := ge_ hg (below_size (sq_below HB.out)); have n3_ := ge_ hg (below_size (sq_below HB.out)); clear HB; have HB := n0_; have BK238 := n1_; have GW238 := n2_; have GE238 := n3_; clear n0_ n1_ n2_ n3_; clear hb hbox hg; have hcz5_0 := cl_ (v := .int .i64 a0_0) BK238 0; have hcz5_1 := cl_ (v := .slice A0_1 l0_1.length c0_1) BK238 1; have hfz5_0 := blk_frozen BK238.out 0; have hfz5_1 := blk_frozen BK238.out 1) | ((with_reducible refine gate_callee (f := 4) rfl ?_); refine gl_ 13 Try.func4 #[.agg #[.int .i64 a0_0, .slice A0_1 l0_1.length c0_1], .int .i64 1048576] (h := ?_); (with_reducible refine (laws_szGraph.calls k a0_0 _ _ l0_1 1048576 t239 _ ?side1 ?side2 A2.out).mono ?_); (case side1 => exact sq_c (Kd.C_below HR0_1.out HB.out)); (case side2 => exact HC0_1.out); rintro e w6 ⟨rfl, hb⟩; refine ⟨_, rfl, ?_⟩; replace HB := hb_ HB hb; (try clear hb)))
  go_ret
  exact ⟨by first | rfl | (simp [errW_none, errW_some] <;> rfl) | (simp [*, errW_none, errW_some] <;> rfl), sq_below HB.out⟩
 ·
  rw [if_neg c3] at H; have c3b0 : decide (t239 < 0) = false := decide_eq_false c3; clear c3; replace H := Option.bind_eq_some_iff.mp H; obtain ⟨⟨t240, t241⟩, A70, H⟩ := H; (try dsimp only at H); have A7 := Aside0.mk A70; clear A70; replace H := Option.bind_eq_some_iff.mp H; obtain ⟨t244, A80, H⟩ := H; (try dsimp only at H); have A8 := Aside0.mk A80; clear A80; replace H := Option.bind_eq_some_iff.mp H; obtain ⟨⟨t247, t248⟩, A90, H⟩ := H; (try dsimp only at H); have A9 := Aside0.mk A90; clear A90; replace H := Option.bind_eq_some_iff.mp H; obtain ⟨t252, A100, H⟩ := H; (try dsimp only at H); have A10 := Aside0.mk A100; clear A100; replace H := Option.bind_eq_some_iff.mp H; obtain ⟨t255, A110, H⟩ := H; (try dsimp only at H); have A11 := Aside0.mk A110; clear A110
  by_cases c12 : t255 = true
  ·
   subst c12; have H1 := ifp_ H
   clear H; have H := H1; clear H1; replace H := Option.bind_eq_some_iff.mp H; obtain ⟨⟨t256, t257⟩, A130, H⟩ := H; (try dsimp only at H); have A13 := Aside0.mk A130; clear A130; replace H := Option.bind_eq_some_iff.mp H; obtain ⟨t260, A140, H⟩ := H; (try dsimp only at H); have A14 := Aside0.mk A140; clear A140
   by_cases c15 : t260 = true
   ·
    subst c15; have H1 := ifp_ H
    clear H; have H := H1; clear H1; replace H := Option.bind_eq_some_iff.mp H; obtain ⟨t261, A160, H⟩ := H; (try dsimp only at H); have A16 := Aside0.mk A160; clear A160; have HC17 := Aside0.mk H; clear H
    go_enter Try.func3, Try.ntmps3
    try go_wp2_with (first | ((with_reducible refine gate_dst (N := 1) rfl ?_); refine box_y 1 #[.int .i64 a0_0, .slice A0_1 l0_1.length c0_1] 24 (h := ?_); intro gb238 hg w18 hbox hb; have n0_ := Aside0.mk (below_step (sq_below HB.out) hb); have n1_ := Aside0.mk (hbox); have n2_ := ge_ hg (below_size (sq_below HB.out)); have n3_ := ge_ hg (below_size (sq_below HB.out)); clear HB; have HB := n0_; have BK238 := n1_; have GW238 := n2_; have GE238 := n3_; clear n0_ n1_ n2_ n3_; clear hb hbox hg; have hcz19_0 := cl_ (v := .int .i64 a0_0) BK238 0; have hcz19_1 := cl_ (v := .slice A0_1 l0_1.length c0_1) BK238 1; have hfz19_0 := blk_frozen BK238.out 0; have hfz19_1 := blk_frozen BK238.out 1) | ((with_reducible refine gate_callee (f := 4) rfl ?_); refine gl_ 13 Try.func4 #[.agg #[.int .i64 a0_0, .slice A0_1 l0_1.length c0_1], .int .i64 1048576] (h := ?_); (with_reducible refine (laws_szGraph.calls k a0_0 _ _ l0_1 1048576 t239 _ ?side1 ?side2 A2.out).mono ?_); (case side1 => exact sq_c (Kd.C_below HR0_1.out HB.out)); (case side2 => exact HC0_1.out); rintro e w20 ⟨rfl, hb⟩; refine ⟨_, rfl, ?_⟩; replace BK238 := bb_ BK238 hb; replace HB := hb1_ HB hb GE238; (try clear hb); have hcz21_0 := cl_ (v := .int .i64 a0_0) BK238 0; have hcz21_1 := cl_ (v := .slice A0_1 l0_1.length c0_1) BK238 1; have hfz21_0 := blk_frozen BK238.out 0; have hfz21_1 := blk_frozen BK238.out 1) | ((with_reducible refine gate_callee (f := 6) rfl ?_); refine gl_ 17 Try.func6 #[.agg #[.int .i64 a0_0, .slice A0_1 l0_1.length c0_1]] (h := ?_); (with_reducible refine (laws_toGraph.calls k a0_0 _ _ l0_1 t240 t241 _ ?side1 ?side2 A7.out).mono ?_); (case side1 => exact sq_c (Kd.C_below HR0_1.out HB.out)); (case side2 => exact HC0_1.out); rintro e w22 ⟨v242, rfl, ho0, hb⟩; refine ⟨_, rfl, ?_⟩; have n0_ := Aside0.mk (Kd.R_lower ho0 (below_size (sq_below1 HB.out GE238.out))); have n1_ := Aside0.mk (blk_below (sq_blk BK238.out) hb); have n2_ := Aside0.mk (below_step (sq_below1 HB.out GE238.out) hb); clear BK238; clear HB; have HO243 := n0_; have BK238 := n1_; have HB := n2_; clear n0_ n1_ n2_; (try clear hb); (try clear ho0); obtain ⟨Ao23, co23, eo23⟩ := Kd.R_slice HO243.out; subst eo23) | ((with_reducible refine gate_callee (f := 5) rfl ?_); refine gl_ 18 Try.func5 #[.agg #[.int .i64 t240, .slice Ao23 t241.length co23]] (h := ?_); (with_reducible refine (spec_HeadsOf.calls k t240 _ _ t241 t244 _ ?side1 ?side2 A8.out).mono ?_); (case side1 => exact sq_c ((Kd.R_reads' HO243.out).2.2)); (case side2 => exact (Kd.R_reads' HO243.out).2.1); rintro e w24 ⟨v245, rfl, ho0, hb⟩; refine ⟨_, rfl, ?_⟩; have n0_ := Aside0.mk (Kd.R_below (sq_row HO243.out) hb); have n1_ := Aside0.mk (Kd.R_lower ho0 (below_size (sq_below1 HB.out GE238.out))); have n2_ := Aside0.mk (blk_below (sq_blk BK238.out) hb); have n3_ := Aside0.mk (below_step (sq_below1 HB.out GE238.out) hb); clear HO243; clear BK238; clear HB; have HO243 := n0_; have HO246 := n1_; have BK238 := n2_; have HB := n3_; clear n0_ n1_ n2_ n3_; (try clear hb); (try clear ho0); have hcz25_0 := cl_ (v := .int .i64 a0_0) BK238 0; have hcz25_1 := cl_ (v := .slice A0_1 l0_1.length c0_1) BK238 1; have hfz25_0 := blk_frozen BK238.out 0; have hfz25_1 := blk_frozen BK238.out 1) | ((with_reducible refine gate_callee (f := 6) rfl ?_); refine gl_ 20 Try.func6 #[.agg #[.int .i64 a0_0, .slice A0_1 l0_1.length c0_1]] (h := ?_); (with_reducible refine (laws_toGraph.calls k a0_0 _ _ l0_1 t247 t248 _ ?side1 ?side2 A9.out).mono ?_); (case side1 => exact sq_c (Kd.C_below HR0_1.out HB.out)); (case side2 => exact HC0_1.out); rintro e w26 ⟨v249, rfl, ho0, hb⟩; refine ⟨_, rfl, ?_⟩; have n0_ := Aside0.mk (Kd.R_elder' (sq_row HO243.out) (Kd.R_base ho0) hb); have n1_ := Aside0.mk (Kd.R_below (sq_row HO246.out) hb); have n2_ := Aside0.mk (Kd.R_lower (Kd.R_new' ho0 (Kd.R_lt (sq_row HO243.out))) (below_size (sq_below1 HB.out GE238.out))); have n3_ := Aside0.mk (blk_below (sq_blk BK238.out) hb); have n4_ := Aside0.mk (below_step (sq_below1 HB.out GE238.out) hb); clear HO243; clear HO246; clear BK238; clear HB; have HO243 := n0_; have HO246 := n1_; have HO250 := n2_; have BK238 := n3_; have HB := n4_; clear n0_ n1_ n2_ n3_ n4_; (try clear hb); (try clear ho0)) | ((with_reducible refine gate_dst (N := 5) rfl ?_); refine box_y 5 #[.int .i64 0, .slice none 0 0] 30 (h := ?_); intro gb251 hg w27 hbox hb; have n0_ := Aside0.mk (Kd.R_below (sq_row HO243.out) hb); have n1_ := Aside0.mk (Kd.R_below (sq_row HO246.out) hb); have n2_ := Aside0.mk (Kd.R_below (sq_row HO250.out) hb); have n3_ := Aside0.mk (blk_below (sq_blk BK238.out) hb); have n4_ := Aside0.mk (below_step (sq_below1 HB.out GE238.out) hb); have n5_ := Aside0.mk (hbox); have n6_ := ge_ hg (below_size (sq_below1 HB.out GE238.out)); have n7_ := ge_ hg (below_size (sq_below1 HB.out GE238.out)); have n8_ := nb_ hg BK238; have n9_ := Aside0.mk (Ne.symm n8_.out); clear HO243; clear HO246; clear HO250; clear BK238; clear HB; have HO243 := n0_; have HO246 := n1_; have HO250 := n2_; have BK238 := n3_; have HB := n4_; have BK251 := n5_; have GW251 := n6_; have GE251 := n7_; have NB238_251 := n8_; have NB251_238 := n9_; clear n0_ n1_ n2_ n3_ n4_ n5_ n6_ n7_ n8_ n9_; clear hb hbox hg; have hnb28 := NB251_238.out; have hnc28 := NB238_251.out; have hcz29_0 := cl_ (v := .int .i64 0) BK251 0; have hcz29_1 := cl_ (v := .slice none 0 0) BK251 1; have hfz29_0 := blk_frozen BK251.out 0; have hfz29_1 := blk_frozen BK251.out 1; obtain ⟨Ao30, co30, eo30⟩ := Kd.R_slice HO250.out; subst eo30) | ((with_reducible refine gate_callee (f := 7) rfl ?_); refine gl_ 22 Try.func7 #[.agg #[.int .i64 t247, .slice Ao30 t248.length co30]] (h := ?_); (with_reducible refine (impl_HeadsOf.calls k t247 _ _ t248 t252 _ ?side1 ?side2 A10.out).mono ?_); (case side1 => refine (Kd.R_reads' (e := 54) (base := w.heap.size) (ok := fun k_ => (True ∧ some k_ ≠ (.slice Ao23 t241.length co23 : Value).ownBlock)) (n := t248.length) (c := co30) ?_).2.2; exact (by (with_reducible repeat (first | apply Kd.R_alloc | apply Kd.R_drewN | apply Kd.R_drew)); exact (Kd.R_mono (Kd.R_far (p := ⟨gb251, 1, none⟩) (Kd.R_far (p := ⟨gb251, 0, none⟩) (Kd.R_types HO250.out BK251.out (by decide)) (fun _ hk => hk.2) (.int .i64 t247)) (fun _ hk => hk.2) (.slice Ao30 t248.length co30)) (fun _ h_ => h_.1)))); (case side2 => exact (Kd.R_reads' HO250.out).2.1); rintro e w31 ⟨v253, rfl, ho0, hb⟩; refine ⟨_, rfl, ?_⟩; have n0_ := Aside0.mk (Kd.R_below (by (with_reducible repeat (first | apply Kd.R_alloc | apply Kd.R_drewN | apply Kd.R_drew)); exact (Kd.R_mono (Kd.R_far (p := ⟨gb251, 1, none⟩) (Kd.R_far (p := ⟨gb251, 0, none⟩) (Kd.R_types HO243.out BK251.out (by decide)) (fun _ hk => hk.2) (.int .i64 t247)) (fun _ hk => hk.2) (.slice Ao30 t248.length co30)) (fun _ h_ => h_.1))) hb); have n1_ := Aside0.mk (Kd.R_elder' (by (with_reducible repeat (first | apply Kd.R_alloc | apply Kd.R_drewN | apply Kd.R_drew)); exact (Kd.R_mono (Kd.R_far (p := ⟨gb251, 1, none⟩) (Kd.R_far (p := ⟨gb251, 0, none⟩) (Kd.R_types HO246.out BK251.out (by decide)) (fun _ hk => hk.2) (.int .i64 t247)) (fun _ hk => hk.2) (.slice Ao30 t248.length co30)) (fun _ h_ => h_.1))) (Kd.R_base ho0) hb); have n2_ := Aside0.mk (Kd.R_below (by (with_reducible repeat (first | apply Kd.R_alloc | apply Kd.R_drewN | apply Kd.R_drew)); exact (Kd.R_mono (Kd.R_far (p := ⟨gb251, 1, none⟩) (Kd.R_far (p := ⟨gb251, 0, none⟩) (Kd.R_types HO250.out BK251.out (by decide)) (fun _ hk => hk.2) (.int .i64 t247)) (fun _ hk => hk.2) (.slice Ao30 t248.length co30)) (fun _ h_ => h_.1))) hb); have n3_ := Aside0.mk (Kd.R_lower (Kd.R_new' ho0 (Kd.R_lt (by (with_reducible repeat (first | apply Kd.R_alloc | apply Kd.R_drewN | apply Kd.R_drew)); exact (Kd.R_mono (Kd.R_far (p := ⟨gb251, 1, none⟩) (Kd.R_far (p := ⟨gb251, 0, none⟩) (Kd.R_types HO246.out BK251.out (by decide)) (fun _ hk => hk.2) (.int .i64 t247)) (fun _ hk => hk.2) (.slice Ao30 t248.length co30)) (fun _ h_ => h_.1))))) (below_size (sq_below2 HB.out GE238.out GE251.out))); have n4_ := Aside0.mk (blk_below (g := gb238) (o := .cells #[.int .i64 a0_0, .slice A0_1 l0_1.length c0_1] 24 (0, 0)) (bf_ BK238 NB238_251).out hb); have n5_ := Aside0.mk (blk_below (g := gb251) (o := .cells #[.int .i64 t247, .slice Ao30 t248.length co30] 30 (0, 0)) (bp_ BK251) hb); have n6_ := Aside0.mk (below_step (sq_below2 HB.out GE238.out GE251.out) hb); clear HO243; clear HO246; clear HO250; clear BK238; clear BK251; clear HB; have HO243 := n0_; have HO246 := n1_; have HO250 := n2_; have HO254 := n3_; have BK238 := n4_; have BK251 := n5_; have HB := n6_; clear n0_ n1_ n2_ n3_ n4_ n5_ n6_; (try clear hb); (try clear ho0); obtain ⟨Ao32, co32, eo32⟩ := Kd.R_slice HO254.out; subst eo32; obtain ⟨Ao33, co33, eo33⟩ := Kd.R_slice HO246.out; subst eo33) | ((with_reducible refine gate_callee (f := 8) rfl ?_); refine gl_ 25 Try.func8 #[.slice Ao32 t252.length co32, .slice Ao33 t244.length co33] (h := ?_); (with_reducible refine (laws_eqIntS.calls k _ _ t252 _ _ t244 true _ ?side1 ?side2 ?side3 ?side4 A11.out).mono ?_); (case side1 => exact sq_c ((Kd.R_reads' HO254.out).2.2)); (case side2 => exact (Kd.R_reads' HO254.out).2.1); (case side3 => exact sq_c ((Kd.R_reads' HO246.out).2.2)); (case side4 => exact (Kd.R_reads' HO246.out).2.1); rintro e w' ⟨rfl, ⟨nd, rfl⟩⟩; refine ⟨_, rfl, ?_⟩))
    (try (rw [drewN_self w31]; generalize hq_ : World.drewN w31 _ = w31; have n0_ : Aside0 (Kd.R k54 54 w31 w.heap.size (fun k_ => some k_ ≠ (.slice Ao30 t248.length co30 : Value).ownBlock) (.slice Ao23 t241.length co23) t241) := ⟨by rw [← hq_]; exact (by (with_reducible repeat (first | apply Kd.R_alloc | apply Kd.R_drewN | apply Kd.R_drew)); exact Kd.R_mono HO243.out (fun _ hk => hk.2))⟩; have n1_ : Aside0 (Kd.R (Kd.int .i64) 3 w31 w.heap.size (fun k_ => some k_ ≠ (.slice Ao32 t252.length co32 : Value).ownBlock) (.slice Ao33 t244.length co33) t244) := ⟨by rw [← hq_]; exact (by (with_reducible repeat (first | apply Kd.R_alloc | apply Kd.R_drewN | apply Kd.R_drew)); exact Kd.R_mono HO246.out (fun _ hk => hk.2))⟩; have n2_ : Aside0 (Kd.R k54 54 w31 w.heap.size (fun k_ => some k_ ≠ (.slice Ao23 t241.length co23 : Value).ownBlock) (.slice Ao30 t248.length co30) t248) := ⟨by rw [← hq_]; exact (by (with_reducible repeat (first | apply Kd.R_alloc | apply Kd.R_drewN | apply Kd.R_drew)); exact Kd.R_mono HO250.out (fun _ hk => hk.2))⟩; have n3_ : Aside0 (Kd.R (Kd.int .i64) 3 w31 w.heap.size (fun k_ => some k_ ≠ (.slice Ao33 t244.length co33 : Value).ownBlock) (.slice Ao32 t252.length co32) t252) := ⟨by rw [← hq_]; exact (by (with_reducible repeat (first | apply Kd.R_alloc | apply Kd.R_drewN | apply Kd.R_drew)); exact Kd.R_mono HO254.out (fun _ hk => hk.2))⟩; have n4_ : Aside0 (w31.heap[gb238]? = some (.cells #[.int .i64 a0_0, .slice A0_1 l0_1.length c0_1] 24 (0, 0))) := ⟨by rw [← hq_]; exact (sq_blk BK238.out)⟩; have n5_ : Aside0 (w31.heap[gb251]? = some (.cells #[.int .i64 t247, .slice Ao30 t248.length co30] 30 (0, 0))) := ⟨by rw [← hq_]; exact (sq_blk BK251.out)⟩; have n6_ : Aside0 (Below w.heap.size w w31) := ⟨by rw [← hq_]; exact (sq_below2 HB.out GE238.out GE251.out)⟩; clear HO243 HO246 HO250 HO254 BK238 BK251 HB hq_; have HO243 := n0_; have HO246 := n1_; have HO250 := n2_; have HO254 := n3_; have BK238 := n4_; have BK251 := n5_; have HB := n6_; clear n0_ n1_ n2_ n3_ n4_ n5_ n6_))
    replace HO243 := Aside0.mk (Kd.R_drew HO243.out); replace HO246 := Aside0.mk (Kd.R_drew HO246.out); replace HO250 := Aside0.mk (Kd.R_drew HO250.out); replace HO254 := Aside0.mk (Kd.R_drew HO254.out); replace BK238 := bd_ BK238; replace BK251 := bd_ BK251; replace HB := hd_ HB; refine start_ (n := 5) (S := fun w' => w'.cell? ⟨gb251, 0, none⟩ = some (.int .i64 t247) ∧ w'.cell? ⟨gb251, 1, none⟩ = some (.slice Ao30 t248.length co30) ∧ w'.cell? ⟨gb238, 0, none⟩ = some (.int .i64 a0_0) ∧ w'.cell? ⟨gb238, 1, none⟩ = some (.slice A0_1 l0_1.length c0_1)) (ds := []) #[false, false, false, false, false] (by kernel_rfl) rfl rfl ⟨cl_ BK251 0, cl_ BK251 1, cl_ BK238 0, cl_ BK238 1⟩ (fun hHeld => ?_); generalize w31.drew = w34 at HO243 HO246 HO250 HO254 BK238 BK251 HB hHeld ⊢; refine take_ (i := 0) (N := some 27) (v := ?_) (a' := ?_) #[true, false, false, false, false] rfl rfl (by kernel_rfl) (fun _ _ _ h => h) (Or.inl ⟨by rfl, ?_⟩) hHeld ?_ ?_; rotate_left
    ·
     rintro w' ⟨s0, s1, s2, s3⟩; go_simp; with_reducible rfl
    rotate_left
    ·
     simp only [Act.put, List.setIfInBounds_toArray, List.set_cons_zero, List.set_cons_succ, i64_w, i32_w]; rfl
    refine take_ (i := 1) (N := some 28) (v := ?_) (a' := ?_) #[true, true, false, false, false] rfl rfl (by kernel_rfl) (fun _ _ _ h => h) (Or.inl ⟨by rfl, ?_⟩) hHeld ?_ ?_; rotate_left
    ·
     rintro w' ⟨s0, s1, s2, s3⟩; go_simp; with_reducible rfl
    rotate_left
    ·
     simp only [Act.put, List.setIfInBounds_toArray, List.set_cons_zero, List.set_cons_succ, i64_w, i32_w]; rfl
    refine one_ (i := 2) (N := some 29) #[true, true, true, false, false] rfl rfl (by kernel_rfl) (by decide) (fun K hK => ?_); refine gs_ Try.func6 #[.agg #[.int .i64 a0_0, .slice A0_1 l0_1.length c0_1]] (h := ?_); with_reducible refine (laws_toGraph.calls k a0_0 _ _ l0_1 t256 t257 _ ?side1 ?side2 A13.out).mono ?_
    (case side1 => exact sq_c (Kd.C_below HR0_1.out HB.out))
    (case side2 => exact HC0_1.out)
    rintro e w35 ⟨v258, rfl, ho0, hb⟩; refine ⟨_, rfl, ?_⟩; have n0_ := Aside0.mk (Kd.R_elder' (sq_row HO243.out) (Kd.R_base ho0) hb); have n1_ := Aside0.mk (Kd.R_below (sq_row HO246.out) hb); have n2_ := Aside0.mk (Kd.R_elder' (sq_row HO250.out) (Kd.R_base ho0) hb); have n3_ := Aside0.mk (Kd.R_below (sq_row HO254.out) hb); have n4_ := Aside0.mk (Kd.R_lower (Kd.R_new' (Kd.R_new' ho0 (Kd.R_lt (sq_row HO243.out))) (Kd.R_lt (sq_row HO250.out))) (below_size (sq_below2 HB.out GE238.out GE251.out))); have n5_ := Aside0.mk (blk_below (sq_blk BK238.out) hb); have n6_ := Aside0.mk (blk_below (sq_blk BK251.out) hb); have n7_ := Aside0.mk (below_step (sq_below2 HB.out GE238.out GE251.out) hb); clear HO243 HO246 HO250 HO254 BK238 BK251 HB; have HO243 := n0_; have HO246 := n1_; have HO250 := n2_; have HO254 := n3_; have HO259 := n4_; have BK238 := n5_; have BK251 := n6_; have HB := n7_; clear n0_ n1_ n2_ n3_ n4_ n5_ n6_ n7_
    (try clear hb)
    (try clear hb2)
    (try clear hk)
    (try clear hi)
    (try clear ho0)
    obtain ⟨Ao36, co36, eo36⟩ := Kd.R_slice HO259.out
    (first | subst eo36 | (injection eo36 with f1_ f2_ f3_; have f4_ := f1_.symm; have f5_ := f3_.symm; clear f1_ f2_ f3_; subst f4_; subst f5_))
    refine hK.out _ _ ⟨cl_ BK251 0, cl_ BK251 1, cl_ BK238 0, cl_ BK238 1⟩ (fun hHeld => ?_); clear hK K; refine norm_y 29 (h := ?_)
    refine one_ (i := 3) (N := some 30) #[true, true, true, true, false] rfl rfl (by kernel_rfl) (by decide) (fun K hK => ?_); refine gs_ Try.func9 #[.agg #[.int .i64 t247, .slice Ao30 t248.length co30], .agg #[.int .i64 t256, .slice Ao36 t257.length co36]] (h := ?_); with_reducible refine (laws_eqGraph.calls k t247 _ _ t248 t256 _ _ t257 true _ ?side1 ?side2 ?side3 ?side4 A14.out).mono ?_
    (case side1 => exact sq_c ((Kd.R_reads' HO250.out).2.2))
    (case side2 => exact (Kd.R_reads' HO250.out).2.1)
    (case side3 => exact sq_c ((Kd.R_reads' HO259.out).2.2))
    (case side4 => exact (Kd.R_reads' HO259.out).2.1)
    rintro e w37 ⟨rfl, hb⟩; refine ⟨_, rfl, ?_⟩; replace HO243 := Aside0.mk (Kd.R_below (sq_row HO243.out) hb); replace HO246 := Aside0.mk (Kd.R_below (sq_row HO246.out) hb); replace HO250 := Aside0.mk (Kd.R_below (sq_row HO250.out) hb); replace HO254 := Aside0.mk (Kd.R_below (sq_row HO254.out) hb); replace HO259 := Aside0.mk (Kd.R_below (sq_row HO259.out) hb); replace BK238 := bb_ BK238 hb; replace BK251 := bb_ BK251 hb; replace HB := hb2_ HB hb GE238 GE251
    (try clear hb)
    (try clear hb2)
    (try clear hk)
    (try clear hi)
    refine hK.out _ _ ⟨cl_ BK251 0, cl_ BK251 1, cl_ BK238 0, cl_ BK238 1⟩ (fun hHeld => ?_); clear hK K; refine norm_y 30 (h := ?_)
    refine pure_ (i := 4) (N := some 31) (v := ?_) (a' := ?_) #[true, true, true, true, true] rfl rfl (by kernel_rfl) (fun _ _ _ h => h) (Or.inl ⟨by rfl, ?_⟩) ?_ ?_; rotate_left
    ·
     intro w'; go_simp; with_reducible rfl
    rotate_left
    ·
     simp only [Act.put, List.setIfInBounds_toArray, List.set_cons_zero, List.set_cons_succ, i64_w, i32_w]; rfl
    refine done_ (by kernel_rfl) ?_; have hcz38_0 := cl_ (v := .int .i64 t247) BK251 0; have hcz38_1 := cl_ (v := .slice Ao30 t248.length co30) BK251 1; have hfz38_0 := blk_frozen BK251.out 0; have hfz38_1 := blk_frozen BK251.out 1
    go_upto_region 14 with (first | ((with_reducible refine gate_callee (f := 10) rfl ?_); refine gl_ 34 Try.func10 #[.agg #[.int .i64 t247, .slice Ao30 t248.length co30], .int .i64 1] (h := ?_); (refine (laws_markGraph.calls t247 _ t248 1 t261 w _ _ (sq_below2 HB.out GE238.out GE251.out) (sq_row HO250.out) A16.out).mono ?_); rintro e w39 ⟨rfl, hm, hb⟩; refine ⟨_, rfl, ?_⟩; replace HO243 : Aside0 (Kd.R k54 54 w39 w.heap.size (fun _ => True) (.slice none 0 0) []) := ⟨Kd.R_nil _ _ _ _ _⟩; (first | replace HO246 := Aside0.mk (Mv.row hm (sq_row HO246.out) (by decide)) | clear HO246); replace HO250 : Aside0 (Kd.R k54 54 w39 w.heap.size (fun _ => True) (.slice none 0 0) []) := ⟨Kd.R_nil _ _ _ _ _⟩; (first | replace HO254 := Aside0.mk (Mv.row hm (sq_row HO254.out) (by decide)) | clear HO254); (first | replace HO259 := Aside0.mk (Mv.row hm (sq_row HO259.out) (by decide)) | clear HO259); replace BK238 := Aside0.mk (Mv.blk hm (sq_blk BK238.out) (by decide) (by decide)); replace BK251 := Aside0.mk (Mv.blk hm (sq_blk BK251.out) (by decide) (by decide)); replace HB := Aside0.mk hb; (try clear hb hm)))
    (try simp only [Act.put, List.setIfInBounds_toArray, List.set_cons_zero, List.set_cons_succ])
    go_cut [42] (fun v42 wc => ∃ (kq : Nat) (x42_16 : Bool), v42 = .bool x42_16 ∧ Aside0 (laws_FnExactHeadsOf.j0 kq t244 t252 x42_16 a0_0 l0_1 = some r) ∧ Aside0 (kq ≤ k) ∧ Aside0 (Kd.R (Kd.int .i64) 3 wc w.heap.size (fun k_ => some k_ ≠ ((.slice Ao32 t252.length co32) : Value).ownBlock) (.slice Ao33 t244.length co33) t244) ∧ Aside0 (Kd.R (Kd.int .i64) 3 wc w.heap.size (fun k_ => some k_ ≠ ((.slice Ao33 t244.length co33) : Value).ownBlock) (.slice Ao32 t252.length co32) t252) ∧ Aside0 (Kd.R k54 54 wc w.heap.size (fun _ => True) (.slice none 0 0) []) ∧ Aside0 (wc.heap[gb238]? = some (.cells #[.int .i64 a0_0, (.slice A0_1 l0_1.length c0_1)] 24 (0, 0))) ∧ Aside0 (wc.heap[gb251]? = some (.cells #[.int .i64 t247, (.slice Ao30 t248.length co30)] 30 (0, 0))) ∧ Aside0 (Below w.heap.size w wc))
    case first =>
     have H := HC17.out; clear HC17
     by_cases c40 : t261 < 0
     ·
      rw [if_pos c40] at H; have c40b0 : decide (t261 < 0) = true := decide_eq_true c40; clear c40
      (first | rw [c40b0] | (simp only [i64_w, i32_w]; rw [c40b0]) | skip)
      have H' := Aside0.mk H; clear H
      go_wp2
      go_meet
      case rel => exact ⟨_, (true), (by first | rfl | (simp; done) | (simp [*]; done)), H', ⟨by first | omega | exact Nat.le_refl _⟩, ⟨by (with_reducible repeat (first | apply Kd.R_alloc | apply Kd.R_drewN | apply Kd.R_drew)); exact Kd.R_mono HO246.out (fun _ hk => by first | exact hk | exact hk.2)⟩, ⟨by (with_reducible repeat (first | apply Kd.R_alloc | apply Kd.R_drewN | apply Kd.R_drew)); exact Kd.R_mono HO254.out (fun _ hk => by first | exact hk | exact hk.2)⟩, ⟨by (with_reducible repeat (first | apply Kd.R_alloc | apply Kd.R_drewN | apply Kd.R_drew)); exact Kd.R_mono HO250.out (fun _ hk => trivial)⟩, bk_ BK238, bk_ BK251, ⟨sq_below2 HB.out GE238.out GE251.out⟩⟩
     ·
      rw [if_neg c40] at H; have c40b0 : decide (t261 < 0) = false := decide_eq_false c40; clear c40
      (first | rw [c40b0] | (simp only [i64_w, i32_w]; rw [c40b0]) | skip)
      replace H := Option.bind_eq_some_iff.mp H; obtain ⟨t262, A410, H⟩ := H; (try dsimp only at H); have A41 := Aside0.mk A410; clear A410; have H' := Aside0.mk H; clear H
      go_wp2_with (first | (go_at_call 8; (with_reducible refine (laws_eqIntS.calls k _ _ t252 _ _ t244 t262 _ ?side1 ?side2 ?side3 ?side4 A41.out).mono ?_); (case side1 => exact sq_c ((Kd.R_reads' HO254.out).2.2)); (case side2 => exact (Kd.R_reads' HO254.out).2.1); (case side3 => exact sq_c ((Kd.R_reads' HO246.out).2.2)); (case side4 => exact (Kd.R_reads' HO246.out).2.1); rintro e w' ⟨rfl, ⟨nd, rfl⟩⟩))
      go_meet
      case rel => exact ⟨_, (!t262), (by first | rfl | (simp; done) | (simp [*]; done)), H', ⟨by first | omega | exact Nat.le_refl _⟩, ⟨by (with_reducible repeat (first | apply Kd.R_alloc | apply Kd.R_drewN | apply Kd.R_drew)); exact Kd.R_mono HO246.out (fun _ hk => by first | exact hk | exact hk.2)⟩, ⟨by (with_reducible repeat (first | apply Kd.R_alloc | apply Kd.R_drewN | apply Kd.R_drew)); exact Kd.R_mono HO254.out (fun _ hk => by first | exact hk | exact hk.2)⟩, ⟨by (with_reducible repeat (first | apply Kd.R_alloc | apply Kd.R_drewN | apply Kd.R_drew)); exact Kd.R_mono HO250.out (fun _ hk => trivial)⟩, bk_ BK238, bk_ BK251, ⟨sq_below2 HB.out GE238.out GE251.out⟩⟩
    case rest =>
     clear HC17
     try clear c1
     try clear c2
     try clear p2
     try clear c3
     try clear c3b0
     try clear c4
     try clear c5
     try clear c6
     try clear c7
     try clear c8
     try clear c9
     try clear c10
     try clear c12
     try clear c15
     try clear c28
     try clear c40
     try clear c40b0
     try clear hcz19_0
     try clear hcz19_1
     try clear hcz21_0
     try clear hcz21_1
     try clear hcz25_0
     try clear hcz25_1
     try clear hcz29_0
     try clear hcz29_1
     try clear hcz38_0
     try clear hcz38_1
     try clear hcz5_0
     try clear hcz5_1
     try clear hfz19_0
     try clear hfz19_1
     try clear hfz21_0
     try clear hfz21_1
     try clear hfz25_0
     try clear hfz25_1
     try clear hfz29_0
     try clear hfz29_1
     try clear hfz38_0
     try clear hfz38_1
     try clear hfz5_0
     try clear hfz5_1
     obtain ⟨kq, x42_16, rfl, HA, HJ16, HO_4, HO_6, HO_252001, BK238, BK251, HB⟩ := hcut; cases kq with
     | zero => exact absurd HA.out (by simp [laws_FnExactHeadsOf.j0])
     | succ kj16 =>
      have H := HA.out; clear HA; simp only [laws_FnExactHeadsOf.j0] at H
      by_cases c42 : x42_16 = true
      ·
       subst c42; have H1 := ifp_ H
       clear H; have H := H1; clear H1; exact absurd ((Option.some.inj H).trans hr_) Bool.false_ne_true
      ·
       replace c42 := Bool.eq_false_iff.mpr c42; subst c42; have H1 := ifn_ H
       clear H; have H := H1; clear H1; replace H := Option.bind_eq_some_iff.mp H; obtain ⟨⟨t263, t264⟩, A430, H⟩ := H; (try dsimp only at H); have A43 := Aside0.mk A430; clear A430; replace H := Option.bind_eq_some_iff.mp H; obtain ⟨t265, A440, H⟩ := H; (try dsimp only at H); have A44 := Aside0.mk A440; clear A440
       by_cases c45 : t265 < 0
       ·
        rw [if_pos c45] at H; have c45b0 : decide (t265 < 0) = true := decide_eq_true c45; clear c45; exact absurd ((Option.some.inj H).trans hr_) Bool.false_ne_true
       ·
        rw [if_neg c45] at H; have c45b0 : decide (t265 < 0) = false := decide_eq_false c45; clear c45
        by_cases c46 : t265 = t263
        ·
         rw [if_pos c46] at H; have c46b0 : (t265 == t263) = true := beq_iff_eq.mpr c46; have c46b1 : (t265 != t263) = false := bne_eq_false_iff_eq.mpr c46; clear c46; replace H := Option.bind_eq_some_iff.mp H; obtain ⟨⟨t266, t267⟩, A470, H⟩ := H; (try dsimp only at H); have A47 := Aside0.mk A470; clear A470; replace H := Option.bind_eq_some_iff.mp H; obtain ⟨t270, A480, H⟩ := H; (try dsimp only at H); have A48 := Aside0.mk A480; clear A480; replace H := Option.bind_eq_some_iff.mp H; obtain ⟨t273, A490, H⟩ := H; (try dsimp only at H); have A49 := Aside0.mk A490; clear A490
         by_cases c50 : t273 = true
         ·
          subst c50; have H1 := ifp_ H
          clear H; have H := H1; clear H1; replace H := Option.bind_eq_some_iff.mp H; obtain ⟨t274, A510, H⟩ := H; (try dsimp only at H); have A51 := Aside0.mk A510; clear A510
          by_cases c52 : t274 < 0
          ·
           rw [if_pos c52] at H; have c52b0 : decide (t274 < 0) = true := decide_eq_true c52; clear c52; exact absurd ((Option.some.inj H).trans hr_) Bool.false_ne_true
          ·
           rw [if_neg c52] at H; have c52b0 : decide (t274 < 0) = false := decide_eq_false c52; clear c52
           by_cases c53 : t274 = t263
           ·
            rw [if_pos c53] at H; have c53b0 : (t274 == t263) = true := beq_iff_eq.mpr c53; have c53b1 : (t274 != t263) = false := bne_eq_false_iff_eq.mpr c53; clear c53; obtain rfl := Option.some.inj H
            go_wp2_with (first | ((with_reducible refine gate_callee (f := 11) rfl ?_); refine gl_ 45 Try.func11 #[.slice Ao32 t252.length co32, .int .i64 1] (h := ?_); (with_reducible refine (laws_markIntS.calls kj16 (fun k_ => some k_ = (.slice Ao32 t252.length co32 : Value).ownBlock) (.slice Ao32 t252.length co32) t252 1 t263 t264 w _ ?side1 ?side2 A43.out).mono ?_); (case side1 => repeat (first | (with_reducible first | exact HB.out | apply below_alloc | apply pw_below_drewN | apply below_drew1 | refine below_set ?_ GE238.out) | exact HB.out)); (case side2 => exact Kd.R_tight rfl HO_6.out); rintro e w54 ⟨rfl, hy0, hb, hkp⟩; refine ⟨_, rfl, ?_⟩; have n0_ := Aside0.mk (Kd.R_mono (ok' := fun k_ => some k_ ≠ (.slice Ao32 t252.length co32 : Value).ownBlock) (Kd.R_keptB (HO_4.out) hkp (fun k_ hk_ hs_ => (hk_) hs_)) (fun k_ hk_ => hk_.1)); have n1_ := Aside0.mk (Kd.R_reok rfl hy0 (fun k_ e_ => HO_6.out.1 k_ e_)); have n2_ := Aside0.mk (Kd.R_mono (ok' := fun k_ => True) (Kd.R_keptB ((Kd.R_apart' HO_252001.out (Kd.R_typed HO_6.out) (by decide))) hkp (fun k_ hk_ hs_ => (hk_.2) hs_)) (fun k_ hk_ => trivial)); have n3_ := Aside0.mk (blk_kept (sq_blk BK238.out) hkp (fun hs_ => (fun e_ => (Kd.R_ne HO_6.out BK238.out (by decide)) e_) hs_)); have n4_ := Aside0.mk (hb); clear HO_4; clear HO_6; clear HO_252001; clear BK238; clear HB; have HO_4 := n0_; have HO_6 := n1_; have HO_252001 := n2_; have BK238 := n3_; have HB := n4_; clear n0_ n1_ n2_ n3_ n4_; (try clear hb); (try clear hkp); (try clear hy0)) | ((with_reducible refine gate_callee (f := 12) rfl ?_); refine goesL_ (some 48) rfl rfl Try.func12 (by kernel_rfl) rfl #[.slice Ao32 t264.length co32, .int .i64 1] rfl (by (try simp only [List.map_toArray, List.map_cons, List.map_nil]); first | done | (rw [show t264.length = t252.length from (Kd.R_reads' HO_6.out).1.symm] <;> rfl) | rfl | (simp only [List.length_drop, List.length_take]; rfl)) ?_; (with_reducible refine (laws_heldIntS.calls kj16 _ _ t264 1 t265 _ ?side1 ?side2 A44.out).mono ?_); (case side1 => exact sq_c ((Kd.R_reads' HO_6.out).2.2)); (case side2 => rw [show t264.length = t252.length from (Kd.R_reads' HO_6.out).1.symm]; exact (Kd.R_reads' HO_6.out).2.1); rintro e w' ⟨rfl, ⟨nd, rfl⟩⟩; refine ⟨_, rfl, ?_⟩; have hcz55_0 := cl_ (v := .int .i64 a0_0) BK238 0; have hcz55_1 := cl_ (v := .slice A0_1 l0_1.length c0_1) BK238 1; have hfz55_0 := blk_frozen BK238.out 0; have hfz55_1 := blk_frozen BK238.out 1) | ((with_reducible refine gate_callee (f := 6) rfl ?_); refine gl_ 55 Try.func6 #[.agg #[.int .i64 a0_0, .slice A0_1 l0_1.length c0_1]] (h := ?_); (with_reducible refine (laws_toGraph.calls kj16 a0_0 _ _ l0_1 t266 t267 _ ?side1 ?side2 A47.out).mono ?_); (case side1 => exact sq_c (Kd.C_below HR0_1.out (sq_below HB.out))); (case side2 => exact HC0_1.out); rintro e w56 ⟨v268, rfl, ho0, hb⟩; refine ⟨_, rfl, ?_⟩; have n0_ := Aside0.mk (Kd.R_below (sq_row HO_4.out) hb); have n1_ := Aside0.mk (Kd.R_below (sq_row HO_6.out) hb); have n2_ := Aside0.mk (Kd.R_elder' (sq_row HO_252001.out) (Kd.R_base ho0) hb); have n3_ := Aside0.mk (Kd.R_lower (Kd.R_new' ho0 (Kd.R_lt (sq_row HO_252001.out))) (below_size (sq_below HB.out))); have n4_ := Aside0.mk (below_step (sq_below HB.out) hb); clear HO_4; clear HO_6; clear HO_252001; clear HB; have HO_4 := n0_; have HO_6 := n1_; have HO_252001 := n2_; have HO269 := n3_; have HB := n4_; clear n0_ n1_ n2_ n3_ n4_; (try clear hb); (try clear ho0); obtain ⟨Ao57, co57, eo57⟩ := Kd.R_slice HO269.out; subst eo57) | ((with_reducible refine gate_callee (f := 7) rfl ?_); refine gl_ 56 Try.func7 #[.agg #[.int .i64 t266, .slice Ao57 t267.length co57]] (h := ?_); (with_reducible refine (impl_HeadsOf.calls kj16 t266 _ _ t267 t270 _ ?side1 ?side2 A48.out).mono ?_); (case side1 => exact sq_c ((Kd.R_reads' HO269.out).2.2)); (case side2 => exact (Kd.R_reads' HO269.out).2.1); rintro e w58 ⟨v271, rfl, ho0, hb⟩; refine ⟨_, rfl, ?_⟩; have n0_ := Aside0.mk (Kd.R_elder' (sq_row HO_4.out) (Kd.R_base ho0) hb); have n1_ := Aside0.mk (Kd.R_elder' (sq_row HO_6.out) (Kd.R_base ho0) hb); have n2_ := Aside0.mk (Kd.R_below (sq_row HO_252001.out) hb); have n3_ := Aside0.mk (Kd.R_below (sq_row HO269.out) hb); have n4_ := Aside0.mk (Kd.R_lower (Kd.R_new' (Kd.R_new' ho0 (Kd.R_lt (sq_row HO_4.out))) (Kd.R_lt (sq_row HO_6.out))) (below_size (sq_below HB.out))); have n5_ := Aside0.mk (below_step (sq_below HB.out) hb); clear HO_4; clear HO_6; clear HO_252001; clear HO269; clear HB; have HO_4 := n0_; have HO_6 := n1_; have HO_252001 := n2_; have HO269 := n3_; have HO272 := n4_; have HB := n5_; clear n0_ n1_ n2_ n3_ n4_ n5_; (try clear hb); (try clear ho0); obtain ⟨Ao59, co59, eo59⟩ := Kd.R_slice HO272.out; subst eo59) | ((with_reducible refine gate_callee (f := 8) rfl ?_); refine gl_ 59 Try.func8 #[.slice Ao59 t270.length co59, .slice Ao33 t244.length co33] (h := ?_); (with_reducible refine (laws_eqIntS.calls kj16 _ _ t270 _ _ t244 true _ ?side1 ?side2 ?side3 ?side4 A49.out).mono ?_); (case side1 => exact sq_c ((Kd.R_reads' HO272.out).2.2)); (case side2 => exact (Kd.R_reads' HO272.out).2.1); (case side3 => exact sq_c ((Kd.R_reads' HO_4.out).2.2)); (case side4 => exact (Kd.R_reads' HO_4.out).2.1); rintro e w' ⟨rfl, ⟨nd, rfl⟩⟩; refine ⟨_, rfl, ?_⟩) | ((with_reducible refine gate_callee (f := 12) rfl ?_); refine goesL_ (some 63) rfl rfl Try.func12 (by kernel_rfl) rfl #[.slice Ao32 t264.length co32, .int .i64 1] rfl (by (try simp only [List.map_toArray, List.map_cons, List.map_nil]); first | done | (rw [show t264.length = t252.length from (Kd.R_reads' HO_6.out).1.symm] <;> rfl) | rfl | (simp only [List.length_drop, List.length_take]; rfl)) ?_; (with_reducible refine (laws_heldIntS.calls kj16 _ _ t264 1 t274 _ ?side1 ?side2 A51.out).mono ?_); (case side1 => exact sq_c ((Kd.R_reads' HO_6.out).2.2)); (case side2 => rw [show t264.length = t252.length from (Kd.R_reads' HO_6.out).1.symm]; exact (Kd.R_reads' HO_6.out).2.1); rintro e w' ⟨rfl, ⟨nd, rfl⟩⟩; refine ⟨_, rfl, ?_⟩))
            go_ret
            exact ⟨by first | rfl | (simp [errW_none, errW_some] <;> rfl) | (simp [*, errW_none, errW_some] <;> rfl), sq_below HB.out⟩
           ·
            rw [if_neg c53] at H; have c53b0 : (t274 == t263) = false := beq_eq_false_iff_ne.mpr c53; have c53b1 : (t274 != t263) = true := bne_iff_ne.mpr c53; exact absurd ((Option.some.inj H).trans hr_) Bool.false_ne_true
         ·
          replace c50 := Bool.eq_false_iff.mpr c50; subst c50; exact (no_ H hr_).elim
        ·
         rw [if_neg c46] at H; have c46b0 : (t265 == t263) = false := beq_eq_false_iff_ne.mpr c46; have c46b1 : (t265 != t263) = true := bne_iff_ne.mpr c46; exact absurd ((Option.some.inj H).trans hr_) Bool.false_ne_true
   ·
    replace c15 := Bool.eq_false_iff.mpr c15; subst c15; exact (no_ H hr_).elim
  ·
   replace c12 := Bool.eq_false_iff.mpr c12; subst c12; exact (no_ H hr_).elim

end Go.Proofs.Ytkmeihmfppcpaab.Q
