/- Functions of the translation as Lean functions, each with a proof that a call answers so; out of the seat, by this claim's own program prt.py. -/
import Derived.Test.YtmdebfbkehnocaaWRepsOne
import Derived.Test.YtmdebfbkehnocaaQx0
import Derived.Test.YtmdebfbkehnocaaQx7
import Derived.Test.YtmdebfbkehnocaaQStep
namespace Go.Proofs.Ytmdebfbkehnocaa.Q
open Go.RowKit Go.Proofs.YtmdebfbkehnocaaW.PrintWords Go.Proofs.YtmdebfbkehnocaaW.PrintLast Go.Proofs.YtmdebfbkehnocaaW.PrintMore
attribute [local go_sem] max2_int min2_int max_two min_two max_three min_three max_four min_four   -- for this text's walks alone
set_option linter.unusedVariables false
set_option linter.unusedSimpArgs false

/-! ### laws_toEdgeS: function 17 -/
def laws_toEdgeS.l0 : Nat → List (S52) → List (S58) → Int → Option ((List (S58)))
 | 0, _, _, _ => none
 | k + 1, x0, x3, x4 => if x4 < (x0.length : Int) then (if 0 ≤ x4 then ((laws_toEdge.f k ((rd_T52 x0 x4).f0) ((rd_T52 x0 x4).f1) ((rd_T52 x0 x4).f2) ((rd_T52 x0 x4).f3) ((rd_T52 x0 x4).f4.f0) ((rd_T52 x0 x4).f4.f1) ((rd_T52 x0 x4).f4.f2) ((rd_T52 x0 x4).f4.f3)).bind fun bt199 => (if x4 < (x3.length : Int) then (laws_toEdgeS.l0 k x0 (x3.set (x4 : Int).toNat (⟨bt199.1, bt199.2.1, bt199.2.2.1, bt199.2.2.2.1, (⟨bt199.2.2.2.2.1, bt199.2.2.2.2.2.1, bt199.2.2.2.2.2.2.1, bt199.2.2.2.2.2.2.2⟩ : S56)⟩ : S58)) (wrap64 (x4 + 1))) else (none))) else (none)) else (some x3)
def laws_toEdgeS.f (k : Nat) (l0 : List (S52)) : Option ((List (S58))) := if 0 ≤ (l0.length : Int) then (if ((l0.length : Int) : Int).toNat ≤ 3198579280802 then (laws_toEdgeS.l0 k l0 (List.replicate ((l0.length : Int) : Int).toNat z58) 0) else (none)) else (none)
theorem laws_toEdgeS.mono_l : ∀ k, (∀ y0 y1 y2, LeO (laws_toEdgeS.l0 k y0 y1 y2) (laws_toEdgeS.l0 (k + 1) y0 y1 y2))
 | 0 => fun _ _ _ r h => by simp [laws_toEdgeS.l0] at h
 | k + 1 => by
  have ih0 := laws_toEdgeS.mono_l k
  ·
   intro y0 y1 y2; unfold laws_toEdgeS.l0
   repeat' first
   | (with_reducible exact ih0 _ _ _)
   | (with_reducible exact laws_toEdge.mono _ _ _ _ _ _ _ _ _)
   | (with_reducible exact LeO.refl _)
   | (with_reducible exact LeO.none _)
   | (with_reducible refine LeO.ite ?_ ?_)
   | (with_reducible refine LeO.bind ?_ (fun _ => ?_))
   | exact ih0 _ _ _
   | exact laws_toEdge.mono _ _ _ _ _ _ _ _ _
   | exact LeO.none _
   | refine LeO.ite ?_ ?_
   | refine LeO.bind ?_ (fun _ => ?_)
theorem laws_toEdgeS.mono : ∀ a0 k, LeO (laws_toEdgeS.f k a0) (laws_toEdgeS.f (k + 1) a0) := by
 intro a0 k; have ih0 := laws_toEdgeS.mono_l k; unfold laws_toEdgeS.f
 repeat' first
   | (with_reducible exact ih0 _ _ _)
   | (with_reducible exact laws_toEdge.mono _ _ _ _ _ _ _ _ _)
   | (with_reducible exact LeO.refl _)
   | (with_reducible exact LeO.none _)
   | (with_reducible refine LeO.ite ?_ ?_)
   | (with_reducible refine LeO.bind ?_ (fun _ => ?_))
   | exact ih0 _ _ _
   | exact laws_toEdge.mono _ _ _ _ _ _ _ _ _
   | exact LeO.none _
   | refine LeO.ite ?_ ?_
   | refine LeO.bind ?_ (fun _ => ?_)
set_option maxHeartbeats 8000000 in
set_option maxRecDepth 100000 in
theorem laws_toEdgeS.calls (k : Nat) (A0 : Option Addr) (c0 : Nat) (l0 : List (S52)) (r : List (S58)) (w : World) (hr0 : Kd.C k52 w A0 l0.length l0) (hc0 : l0.length ≤ c0) (h : laws_toEdgeS.f k l0 = some r) :
  Calls Try.prog 17 #[.slice A0 l0.length c0] w fun e w' => ∃ v0_ : Value, e = .returned (v0_) ∧ Kd.R k58 58 w' w.heap.size (fun _ => True) v0_ r ∧ Below w.heap.size w w' := by
 have hu52 := Try.underlying52; have hu58 := Try.underlying58; have HR0 := Aside0.mk hr0; have HC0 := Aside0.mk hc0; clear hr0 hc0; have HB := Aside0.mk (Below.refl w.heap.size w); have H : (if 0 ≤ (l0.length : Int) then (if ((l0.length : Int) : Int).toNat ≤ 3198579280802 then (laws_toEdgeS.l0 k l0 (List.replicate ((l0.length : Int) : Int).toNat z58) 0) else (none)) else (none)) = some r := h; clear h
 by_cases c2 : 0 ≤ (l0.length : Int)
 ·
  rw [if_pos c2] at H; have c2b0 := eq_true c2; have c2b1 : decide (0 ≤ (l0.length : Int)) = true := decide_eq_true c2; clear c2
  by_cases c3 : ((l0.length : Int) : Int).toNat ≤ 3198579280802
  ·
   rw [if_pos c3] at H; have c3b0 := eq_true c3; have c3b1 : decide (((l0.length : Int) : Int).toNat ≤ 3198579280802) = true := decide_eq_true c3; clear c3; obtain ⟨y195, hy195⟩ : ∃ y_ : List (S58), y_ = (List.replicate ((l0.length : Int) : Int).toNat z58) := ⟨_, rfl⟩; replace H : (laws_toEdgeS.l0 k l0 y195 0) = some r := by first | (rw [hy195]; with_reducible exact H) | (have H2_ := (Option.bind_some _ _).symm.trans H; rw [hy195]; with_reducible exact H2_) | (have H2_ := (Option.bind_some _ _).symm.trans H; with_reducible exact H2_) | with_reducible exact H | (rw [hy195]; exact H) | exact H
   have Ny195 := Aside0.mk hy195; clear hy195; have H' := Aside0.mk H; clear H
   go_enter Try.func17, Try.ntmps17
   go_wp2_with (first | ((with_reducible refine gate_dst (N := 7) rfl ?_); refine Kd.R_make k58 _ 58 rfl (N := 7) rfl 28 _ _ rfl (l0.length : Int) rfl rfl Try.underlying28 (.agg #[(.int .i64 0), (.int .i64 0), (.int .i64 0), (.bool false), (.int .i64 0), (.string ⟨#[]⟩), (.int .i64 0), (.slice none 0 0)]) 88 info58 rfl (by decide) (by omega) z58 (ok := fun _ => True) (okp := fun _ => True) (k58_mkM _ _ _ z58 (Kd.R_nil _ _ _ _ _)) (fun _ hk => hk) trivial (sq_dec) (Nat.le_trans (Nat.mul_le_mul_right _ (sq_dec : (l0.length : Int).toNat ≤ 3198579280802)) (by omega)) (Below.refl _ _) (Nat.le_refl _) ?_; intro v196 w4 ho5 hb hg_ hnew_; clear hg_ hnew_; (first | rw [← Ny195.out] at ho5 | (simp only [Int.reduceToNat] at ho5; rw [← Ny195.out] at ho5)); have n0_ := Aside0.mk (Kd.R_lower ho5 (below_size (sq_below HB.out))); have n1_ := Aside0.mk (below_step (sq_below HB.out) hb); clear HB; have HO197 := n0_; have HB := n1_; clear n0_ n1_; clear hb ho5))
   go_loopg [4] k (fun kq v4 w' => ∃ (x3_1 : List (S58)) (x4_1 : Int), v4 = .int .i64 x4_1 ∧ Aside0 (laws_toEdgeS.l0 kq l0 x3_1 x4_1 = some r) ∧ Aside0 (kq ≤ k) ∧ Aside0 (Kd.R k58 58 w' w.heap.size (fun _ => True) v196 x3_1) ∧ Aside0 (Below w.heap.size w w'))
   case atStart => exact ⟨(y195), (0), (by first | rfl | (simp; done) | (simp [*]; done)), H', ⟨Nat.le_refl _⟩, ⟨by (with_reducible repeat (first | apply Kd.R_alloc | apply Kd.R_drewN | apply Kd.R_drew)); exact HO197.out⟩, ⟨sq_below HB.out⟩⟩
   case round =>
    clear H'
    try clear c1
    try clear c2
    try clear c2b0
    try clear c2b1
    try clear p2
    try clear c3
    try clear c3b0
    try clear c3b1
    obtain ⟨x3_1, x4_1, rfl, HA, HK1, HO_3, HB⟩ := hrel; cases gk with
    | zero => exact absurd HA.out (by simp [laws_toEdgeS.l0])
    | succ k1 =>
     have H := HA.out; clear HA; simp only [laws_toEdgeS.l0] at H
     by_cases c6 : x4_1 < (l0.length : Int)
     ·
      rw [if_pos c6] at H; have c6b0 : decide (x4_1 < (l0.length : Int)) = true := decide_eq_true c6; clear c6
      by_cases c7 : 0 ≤ x4_1
      ·
       rw [if_pos c7] at H; have c7b0 : decide (0 ≤ x4_1) = true := decide_eq_true c7; clear c7; replace H := Option.bind_eq_some_iff.mp H; obtain ⟨⟨t199, t200, t201, t202, t203, t204, t205, t206⟩, A80, H⟩ := H; (try dsimp only at H); have A8 := Aside0.mk A80; clear A80
       by_cases c9 : x4_1 < (x3_1.length : Int)
       ·
        rw [if_pos c9] at H; have c9b0 : decide (x4_1 < (x3_1.length : Int)) = true := decide_eq_true c9; clear c9; obtain ⟨y209, hy209⟩ : ∃ y_ : List (S58), y_ = (x3_1.set (x4_1 : Int).toNat (⟨t199, t200, t201, t202, (⟨t203, t204, t205, t206⟩ : S56)⟩ : S58)) := ⟨_, rfl⟩; replace H : (laws_toEdgeS.l0 k1 l0 y209 (wrap64 (x4_1 + 1))) = some r := by first | (rw [hy209]; with_reducible exact H) | (have H2_ := (Option.bind_some _ _).symm.trans H; rw [hy209]; with_reducible exact H2_) | (have H2_ := (Option.bind_some _ _).symm.trans H; with_reducible exact H2_) | with_reducible exact H | (rw [hy209]; exact H) | exact H
        have Ny209 := Aside0.mk hy209; clear hy209; have H' := Aside0.mk H; clear H; have p198 : 0 ≤ (x4_1 : Int) := sq_dec; have q198 : x4_1 < (l0.length : Int) := sq_dec; obtain ⟨ad198, A198_7, c198_7, e198, hx198_0, hx198_1, hx198_2, hx198_3, hx198_4, hx198_5, hx198_6, hx198_7, hl198_7, hi198_7⟩ := at_T52 HR0.out x4_1 p198 q198; cases e198; replace hx198_0 := (HB.out.cell (World.block_lt_of_cell? w _ hx198_0)).trans hx198_0; replace hx198_1 := (HB.out.cell (World.block_lt_of_cell? w _ hx198_1)).trans hx198_1; replace hx198_2 := (HB.out.cell (World.block_lt_of_cell? w _ hx198_2)).trans hx198_2; replace hx198_3 := (HB.out.cell (World.block_lt_of_cell? w _ hx198_3)).trans hx198_3; replace hx198_4 := (HB.out.cell (World.block_lt_of_cell? w _ hx198_4)).trans hx198_4; replace hx198_5 := (HB.out.cell (World.block_lt_of_cell? w _ hx198_5)).trans hx198_5; replace hx198_6 := (HB.out.cell (World.block_lt_of_cell? w _ hx198_6)).trans hx198_6; replace hx198_7 := (HB.out.cell (World.block_lt_of_cell? w _ hx198_7)).trans hx198_7; have HR198_7 := Aside0.mk hi198_7; have HC198_7 := Aside0.mk hl198_7; clear hi198_7 hl198_7; replace p198 := eq_true p198; replace q198 := eq_true q198
        go_wp2_with (first | ((with_reducible refine gate_callee (f := 27) rfl ?_); refine gl_ 20 Try.func27 #[.agg #[.int .i64 ((rd_T52 l0 x4_1).f0), .int .i64 ((rd_T52 l0 x4_1).f1), .int .i64 ((rd_T52 l0 x4_1).f2), .bool ((rd_T52 l0 x4_1).f3), .int .i64 ((rd_T52 l0 x4_1).f4.f0), .string ((rd_T52 l0 x4_1).f4.f1), .int .i64 ((rd_T52 l0 x4_1).f4.f2), .slice A198_7 ((rd_T52 l0 x4_1).f4.f3).length c198_7]] (h := ?_); (with_reducible refine (laws_toEdge.calls k1 ((rd_T52 l0 x4_1).f0) ((rd_T52 l0 x4_1).f1) ((rd_T52 l0 x4_1).f2) ((rd_T52 l0 x4_1).f3) ((rd_T52 l0 x4_1).f4.f0) ((rd_T52 l0 x4_1).f4.f1) ((rd_T52 l0 x4_1).f4.f2) _ _ ((rd_T52 l0 x4_1).f4.f3) t199 t200 t201 t202 t203 t204 t205 t206 _ ?side1 ?side2 A8.out).mono ?_); (case side1 => exact sq_c (Kd.C_below HR198_7.out HB.out)); (case side2 => exact HC198_7.out); rintro e w11 ⟨v207, rfl, ho0, hb⟩; refine ⟨_, rfl, ?_⟩; have n0_ := Aside0.mk (Kd.R_elder' (sq_row HO_3.out) (Kd.R_base ho0) hb); have n1_ := Aside0.mk (Kd.R_lower ho0 (below_size (sq_below HB.out))); have n2_ := Aside0.mk (below_step (sq_below HB.out) hb); clear HO_3; clear HB; have HO_3 := n0_; have HO208 := n1_; have HB := n2_; clear n0_ n1_ n2_; (try clear hb); (try clear ho0); have p10 : 0 ≤ (x4_1 : Int) := sq_dec; have q10 : (x4_1 : Int) < ((x3_1.length : Int) : Int) := sq_dec; obtain ⟨go10, co10, eo10, gb10, gl10, cl10, HG10⟩ := Kd.R_form HO_3.out (by omega); (first | cases eo10 | (injection eo10 with ea_ en_ ec_; (first | subst ea_ | (injection ea_ with ea_; subst ea_)); subst ec_; clear en_)); have GB10 := Aside0.mk gb10; have GG10 := Aside0.mk HG10; clear gb10 gl10 HG10; obtain ⟨ce10, hcl10, hM10, hcc10, hfr10⟩ := Kd.R_elem HO_3.out z58 (x4_1 : Int) p10 q10; obtain ⟨ve10_7, rfl, ge10_7⟩ := k58_openM hM10; have hx10_0 : w11.cell? ⟨go10, (x4_1 : Int).toNat * 8, none⟩ = some (.int .i64 ((rd_T58 x3_1 x4_1).f0)) := hcc10 0 _ rfl; have hx10_1 : w11.cell? ⟨go10, (x4_1 : Int).toNat * 8 + 1, none⟩ = some (.int .i64 ((rd_T58 x3_1 x4_1).f1)) := hcc10 1 _ rfl; have hx10_2 : w11.cell? ⟨go10, (x4_1 : Int).toNat * 8 + 2, none⟩ = some (.int .i64 ((rd_T58 x3_1 x4_1).f2)) := hcc10 2 _ rfl; have hx10_3 : w11.cell? ⟨go10, (x4_1 : Int).toNat * 8 + 3, none⟩ = some (.bool ((rd_T58 x3_1 x4_1).f3)) := hcc10 3 _ rfl; have hx10_4 : w11.cell? ⟨go10, (x4_1 : Int).toNat * 8 + 4, none⟩ = some (.int .i64 ((rd_T58 x3_1 x4_1).f4.f0)) := hcc10 4 _ rfl; have hx10_5 : w11.cell? ⟨go10, (x4_1 : Int).toNat * 8 + 5, none⟩ = some (.string ((rd_T58 x3_1 x4_1).f4.f1)) := hcc10 5 _ rfl; have hx10_6 : w11.cell? ⟨go10, (x4_1 : Int).toNat * 8 + 6, none⟩ = some (.int .i64 ((rd_T58 x3_1 x4_1).f4.f2)) := hcc10 6 _ rfl; have hx10_7 : w11.cell? ⟨go10, (x4_1 : Int).toNat * 8 + 7, none⟩ = some (ve10_7) := hcc10 7 _ rfl; have hf10_0 : w11.frozen? ⟨go10, (x4_1 : Int).toNat * 8, none⟩ = false := hfr10 0; have hf10_1 : w11.frozen? ⟨go10, (x4_1 : Int).toNat * 8 + 1, none⟩ = false := hfr10 1; have hf10_2 : w11.frozen? ⟨go10, (x4_1 : Int).toNat * 8 + 2, none⟩ = false := hfr10 2; have hf10_3 : w11.frozen? ⟨go10, (x4_1 : Int).toNat * 8 + 3, none⟩ = false := hfr10 3; have hf10_4 : w11.frozen? ⟨go10, (x4_1 : Int).toNat * 8 + 4, none⟩ = false := hfr10 4; have hf10_5 : w11.frozen? ⟨go10, (x4_1 : Int).toNat * 8 + 5, none⟩ = false := hfr10 5; have hf10_6 : w11.frozen? ⟨go10, (x4_1 : Int).toNat * 8 + 6, none⟩ = false := hfr10 6; have hf10_7 : w11.frozen? ⟨go10, (x4_1 : Int).toNat * 8 + 7, none⟩ = false := hfr10 7; clear hcl10 hcc10 hfr10 hM10; replace p10 := eq_true p10; replace q10 := eq_true q10; obtain ⟨Ao14, co14, eo14⟩ := Kd.R_slice HO208.out; subst eo14; have n_ := Aside0.mk (Kd.R_mono (ok' := (fun k_ => some k_ ≠ (.slice Ao14 t206.length co14 : Value).ownBlock)) HO_3.out (fun k_ hk => hk.2)); clear HO_3; have HO_3 := n_; clear n_; have HX12 := Aside0.mk (show Kd.R k58 58 w11 w.heap.size (fun _ => True) (.slice (some ⟨go10, 0, none⟩) x3_1.length co10) x3_1 from (by (with_reducible repeat (first | apply Kd.R_alloc | apply Kd.R_drewN | apply Kd.R_drew)); exact Kd.R_mono HO_3.out (fun _ hk => trivial))); obtain ⟨ce12, hcl12, hM12, hcc12, hfr12⟩ := Kd.R_elem HX12.out z58 (x4_1 : Int) (sq_dec) (by have h_ : (x4_1 : Int) < ((x3_1.length : Int) : Int) := sq_dec; first | exact h_ | (have e_ := (Kd.R_reads' HO_3.out).1; omega) | simpa using h_); obtain ⟨ve12_7, rfl, ge12_7⟩ := k58_openM hM12; have HP12 := Kd.R_seg HX12.out (x4_1 : Int) (sq_dec) (by have h_ : (x4_1 : Int) < ((x3_1.length : Int) : Int) := sq_dec; first | exact h_ | (have e_ := (Kd.R_reads' HO_3.out).1; omega) | simpa using h_) (seg := [.int .i64 t199, .int .i64 t200, .int .i64 t201, .bool t202, .int .i64 t203, .string t204, .int .i64 t205, .slice Ao14 t206.length co14]) (j := 0) hcl12 hcc12 (show 8 ≤ 8 from by decide) (x' := (⟨t199, t200, t201, t202, (⟨t203, t204, t205, t206⟩ : S56)⟩ : S58)) (k58_mkM _ _ _ (⟨t199, t200, t201, t202, (⟨t203, t204, t205, t206⟩ : S56)⟩ : S58) (Kd.R_mono (Kd.R_apart' (HO208.out) (Kd.R_typed HO_3.out) (by decide)) (fun k_ hk => ⟨trivial, fun e_ => (hk.2) (by rw [e_]; rfl)⟩))) (fun _ hk => hk); have hx12_0 := hcc12 0 _ rfl; (try simp only [show (k58).sz = 8 from rfl, Nat.mul_one, Nat.add_zero] at hx12_0); have hf12_0 := hfr12 0; (try simp only [show (k58).sz = 8 from rfl, Nat.mul_one, Nat.add_zero] at hf12_0); have hx12_1 := hcc12 1 _ rfl; (try simp only [show (k58).sz = 8 from rfl, Nat.mul_one, Nat.add_zero] at hx12_1); have hf12_1 := hfr12 1; (try simp only [show (k58).sz = 8 from rfl, Nat.mul_one, Nat.add_zero] at hf12_1); have hx12_2 := hcc12 2 _ rfl; (try simp only [show (k58).sz = 8 from rfl, Nat.mul_one, Nat.add_zero] at hx12_2); have hf12_2 := hfr12 2; (try simp only [show (k58).sz = 8 from rfl, Nat.mul_one, Nat.add_zero] at hf12_2); have hx12_3 := hcc12 3 _ rfl; (try simp only [show (k58).sz = 8 from rfl, Nat.mul_one, Nat.add_zero] at hx12_3); have hf12_3 := hfr12 3; (try simp only [show (k58).sz = 8 from rfl, Nat.mul_one, Nat.add_zero] at hf12_3); have hx12_4 := hcc12 4 _ rfl; (try simp only [show (k58).sz = 8 from rfl, Nat.mul_one, Nat.add_zero] at hx12_4); have hf12_4 := hfr12 4; (try simp only [show (k58).sz = 8 from rfl, Nat.mul_one, Nat.add_zero] at hf12_4); have hx12_5 := hcc12 5 _ rfl; (try simp only [show (k58).sz = 8 from rfl, Nat.mul_one, Nat.add_zero] at hx12_5); have hf12_5 := hfr12 5; (try simp only [show (k58).sz = 8 from rfl, Nat.mul_one, Nat.add_zero] at hf12_5); have hx12_6 := hcc12 6 _ rfl; (try simp only [show (k58).sz = 8 from rfl, Nat.mul_one, Nat.add_zero] at hx12_6); have hf12_6 := hfr12 6; (try simp only [show (k58).sz = 8 from rfl, Nat.mul_one, Nat.add_zero] at hf12_6); have hx12_7 := hcc12 7 _ rfl; (try simp only [show (k58).sz = 8 from rfl, Nat.mul_one, Nat.add_zero] at hx12_7); have hf12_7 := hfr12 7; (try simp only [show (k58).sz = 8 from rfl, Nat.mul_one, Nat.add_zero] at hf12_7); clear hcl12 hcc12 hfr12 hM12) | ((with_reducible refine gate_store (t := 58) (p := 21) rfl ?_); refine store_event (t := 58) (p := 21) (v := ?vo_w13) (w1 := ((((((((w11.setCell ⟨go10, (x4_1 : Int).toNat * 8, none⟩ (.int .i64 t199)).setCell ⟨go10, (x4_1 : Int).toNat * 8 + 1, none⟩ (.int .i64 t200)).setCell ⟨go10, (x4_1 : Int).toNat * 8 + 2, none⟩ (.int .i64 t201)).setCell ⟨go10, (x4_1 : Int).toNat * 8 + 3, none⟩ (.bool t202)).setCell ⟨go10, (x4_1 : Int).toNat * 8 + 4, none⟩ (.int .i64 t203)).setCell ⟨go10, (x4_1 : Int).toNat * 8 + 5, none⟩ (.string t204)).setCell ⟨go10, (x4_1 : Int).toNat * 8 + 6, none⟩ (.int .i64 t205)).setCell ⟨go10, (x4_1 : Int).toNat * 8 + 7, none⟩ (.slice Ao14 t206.length co14))) ?hg ?ho ?hn ?hr ?_; (case ho => rfl); (case hg => rfl); (case hn => rfl); (case hr => first | (go_simp; done) | (go_simp; rfl)); intro w13 hw; have hg : w11.grownBy w13 (some go10) := (by rw [hw]; exact HP12.2); have hp_ : Kd.R k58 58 w13 w.heap.size (fun _ => True) (.slice (some ⟨go10, 0, none⟩) x3_1.length co10) y209 := (by rw [hw, Ny209.out]; exact HP12.1); clear HP12; have n0_ := Aside0.mk (hp_); have n1_ := Aside0.mk ((by rw [hw]; exact below_set (below_set (below_set (below_set (below_set (below_set (below_set (below_set (HB.out) GB10.out) GB10.out) GB10.out) GB10.out) GB10.out) GB10.out) GB10.out) GB10.out : Below w.heap.size w w13)); clear HO_3; clear HB; clear HO208; have HO_3 := n0_; have HB := n1_; clear n0_ n1_; clear hg hw hp_))
        go_roundg k1
        case measure => have := HK1.out; omega
        case rel => exact ⟨(y209), (wrap64 (x4_1 + 1)), (by first | rfl | (simp; done) | (simp [*]; done)), H', ⟨by have := HK1.out; omega⟩, ⟨by (with_reducible repeat (first | apply Kd.R_alloc | apply Kd.R_drewN | apply Kd.R_drew)); exact HO_3.out⟩, ⟨sq_below HB.out⟩⟩
       ·
        rw [if_neg c9] at H; exact absurd H (by simp)
      ·
       rw [if_neg c7] at H; exact absurd H (by simp)
     ·
      rw [if_neg c6] at H; have c6b0 : decide (x4_1 < (l0.length : Int)) = false := decide_eq_false c6; clear c6; obtain rfl := Option.some.inj H
      go_wp2
      go_ret
      exact ⟨_, by first | rfl | (simp [errW_none, errW_some] <;> rfl) | (simp [*, errW_none, errW_some] <;> rfl), by (with_reducible repeat (first | apply Kd.R_alloc | apply Kd.R_drewN | apply Kd.R_drew)); exact HO_3.out, sq_below HB.out⟩
  ·
   rw [if_neg c3] at H; exact absurd H (by simp)
 ·
  rw [if_neg c2] at H; exact absurd H (by simp)

/-! ### laws_toGraph: function 6 -/
def laws_toGraph.f (k : Nat) (a0_0 : Int) (l0_1 : List (S52)) : Option (Int × (List (S58))) := (laws_toEdgeS.f k l0_1).bind fun t213 => (some (a0_0, t213))
theorem laws_toGraph.mono : ∀ a0 a1 k, LeO (laws_toGraph.f k a0 a1) (laws_toGraph.f (k + 1) a0 a1) := by
 intro a0 a1 k; unfold laws_toGraph.f
 repeat' first
   | (with_reducible exact laws_toEdgeS.mono _ _)
   | (with_reducible exact LeO.refl _)
   | (with_reducible exact LeO.none _)
   | (with_reducible refine LeO.ite ?_ ?_)
   | (with_reducible refine LeO.bind ?_ (fun _ => ?_))
   | exact laws_toEdgeS.mono _ _
   | exact LeO.none _
   | refine LeO.ite ?_ ?_
   | refine LeO.bind ?_ (fun _ => ?_)
set_option maxHeartbeats 8000000 in
set_option maxRecDepth 100000 in
theorem laws_toGraph.calls (k : Nat) (a0_0 : Int) (A0_1 : Option Addr) (c0_1 : Nat) (l0_1 : List (S52)) (r1 : Int) (r2 : List (S58)) (w : World) (hr0_1 : Kd.C k52 w A0_1 l0_1.length l0_1) (hc0_1 : l0_1.length ≤ c0_1) (h : laws_toGraph.f k a0_0 l0_1 = some (r1, r2)) :
  Calls Try.prog 6 #[.agg #[.int .i64 a0_0, .slice A0_1 l0_1.length c0_1]] w fun e w' => ∃ v1_ : Value, e = .returned (.agg #[.int .i64 r1, v1_]) ∧ Kd.R k58 58 w' w.heap.size (fun _ => True) v1_ r2 ∧ Below w.heap.size w w' := by
 have hu24 := Try.underlying24; have hu30 := Try.underlying30; have HR0_1 := Aside0.mk hr0_1; have HC0_1 := Aside0.mk hc0_1; clear hr0_1 hc0_1; have HB := Aside0.mk (Below.refl w.heap.size w); have H : ((laws_toEdgeS.f k l0_1).bind fun t213 => (some (a0_0, t213))) = some (r1, r2) := h; clear h; replace H := Option.bind_eq_some_iff.mp H; obtain ⟨t213, A20, H⟩ := H; replace H : (some (a0_0, t213)) = some (r1, r2) := H; have A2 := Aside0.mk A20; clear A20; simp only [Option.some.injEq, Prod.mk.injEq] at H; obtain ⟨rfl, rfl⟩ := H
 go_enter Try.func6, Try.ntmps6
 go_wp2_with (first | ((with_reducible refine gate_dst (N := 1) rfl ?_); refine box_y 1 #[.int .i64 a0_0, .slice A0_1 l0_1.length c0_1] 24 (h := ?_); intro gb210 hg w3 hbox hb; have n0_ := Aside0.mk (below_step (sq_below HB.out) hb); have n1_ := Aside0.mk (hbox); have n2_ := ge_ hg (below_size (sq_below HB.out)); have n3_ := ge_ hg (below_size (sq_below HB.out)); clear HB; have HB := n0_; have BK210 := n1_; have GW210 := n2_; have GE210 := n3_; clear n0_ n1_ n2_ n3_; clear hb hbox hg) | ((with_reducible refine gate_dst (N := 2) rfl ?_); refine box_y 2 #[.int .i64 0, .slice none 0 0] 30 (h := ?_); intro gb211 hg w4 hbox hb; have n0_ := Aside0.mk (blk_below (sq_blk BK210.out) hb); have n1_ := Aside0.mk (below_step (sq_below1 HB.out GE210.out) hb); have n2_ := Aside0.mk (hbox); have n3_ := ge_ hg (below_size (sq_below1 HB.out GE210.out)); have n4_ := ge_ hg (below_size (sq_below1 HB.out GE210.out)); have n5_ := nb_ hg BK210; have n6_ := Aside0.mk (Ne.symm n5_.out); clear BK210; clear HB; have BK210 := n0_; have HB := n1_; have BK211 := n2_; have GW211 := n3_; have GE211 := n4_; have NB210_211 := n5_; have NB211_210 := n6_; clear n0_ n1_ n2_ n3_ n4_ n5_ n6_; clear hb hbox hg) | ((with_reducible refine gate_dst (N := 3) rfl ?_); refine box_y 3 #[.int .i64 0, .slice none 0 0] 30 (h := ?_); intro gb212 hg w5 hbox hb; have n0_ := Aside0.mk (blk_below (sq_blk BK210.out) hb); have n1_ := Aside0.mk (blk_below (sq_blk BK211.out) hb); have n2_ := Aside0.mk (below_step (sq_below2 HB.out GE210.out GE211.out) hb); have n3_ := Aside0.mk (hbox); have n4_ := ge_ hg (below_size (sq_below2 HB.out GE210.out GE211.out)); have n5_ := ge_ hg (below_size (sq_below2 HB.out GE210.out GE211.out)); have n6_ := nb_ hg BK210; have n7_ := Aside0.mk (Ne.symm n6_.out); have n8_ := nb_ hg BK211; have n9_ := Aside0.mk (Ne.symm n8_.out); clear BK210; clear BK211; clear HB; have BK210 := n0_; have BK211 := n1_; have HB := n2_; have BK212 := n3_; have GW212 := n4_; have GE212 := n5_; have NB210_212 := n6_; have NB212_210 := n7_; have NB211_212 := n8_; have NB212_211 := n9_; clear n0_ n1_ n2_ n3_ n4_ n5_ n6_ n7_ n8_ n9_; clear hb hbox hg; have hnb6 := NB210_211.out; have hnc6 := NB211_210.out; have hnb7 := NB210_212.out; have hnc7 := NB212_210.out; have hcz8_0 := cl_ (v := .int .i64 a0_0) BK210 0; have hcz8_1 := cl_ (v := .slice A0_1 l0_1.length c0_1) BK210 1; have hfz8_0 := blk_frozen BK210.out 0; have hfz8_1 := blk_frozen BK210.out 1; have hnb9 := NB212_211.out; have hnc9 := NB211_212.out; have hcz10_0 := cl_ (v := .int .i64 0) BK212 0; have hcz10_1 := cl_ (v := .slice none 0 0) BK212 1; have hfz10_0 := blk_frozen BK212.out 0; have hfz10_1 := blk_frozen BK212.out 1) | ((with_reducible refine gate_callee (f := 17) rfl ?_); refine gl_ 9 Try.func17 #[.slice A0_1 l0_1.length c0_1] (h := ?_); (with_reducible refine (laws_toEdgeS.calls k _ _ l0_1 t213 _ ?side1 ?side2 A2.out).mono ?_); (case side1 => exact Kd.C_below HR0_1.out (sq_below2 HB.out GE211.out GE212.out)); (case side2 => exact HC0_1.out); rintro e w11 ⟨v214, rfl, ho0, hb⟩; refine ⟨_, rfl, ?_⟩; have n0_ := Aside0.mk (Kd.R_lower ho0 (below_size (sq_below2 HB.out GE211.out GE212.out))); have n1_ := Aside0.mk (blk_below (g := gb211) (o := .cells #[.int .i64 0, .slice none 0 0] 30 (0, 0)) (bf_ BK211 NB211_212).out hb); have n2_ := Aside0.mk (blk_below (g := gb212) (o := .cells #[.int .i64 a0_0, .slice none 0 0] 30 (0, 0)) (bp_ BK212) hb); have n3_ := Aside0.mk (below_step (sq_below2 HB.out GE211.out GE212.out) hb); clear BK211; clear BK212; clear HB; have HO215 := n0_; have BK211 := n1_; have BK212 := n2_; have HB := n3_; clear n0_ n1_ n2_ n3_; (try clear hb); (try clear ho0); obtain ⟨Ao12, co12, eo12⟩ := Kd.R_slice HO215.out; subst eo12; have hcz13_0 := cl_ (v := .int .i64 a0_0) BK212 0; have hcz13_1 := cl_ (v := .slice none 0 0) BK212 1; have hfz13_0 := blk_frozen BK212.out 0; have hfz13_1 := blk_frozen BK212.out 1; have hcz14_0 := cl_ (v := .int .i64 0) BK211 0; have hcz14_1 := cl_ (v := .slice none 0 0) BK211 1; have hfz14_0 := blk_frozen BK211.out 0; have hfz14_1 := blk_frozen BK211.out 1))
 refine bodyPost_ret (results_cell_row rfl _ _ gb211 30 #[.int .i64 a0_0, .slice Ao12 t213.length co12] (0, 0) _ rfl (bp1_ BK211 NB211_212) Try.underlying30 rfl (by kernel_rfl)) rfl ?_; exact ⟨_, by first | rfl | (simp [errW_none, errW_some] <;> rfl) | (simp [*, errW_none, errW_some] <;> rfl), by (with_reducible repeat (first | apply Kd.R_alloc | apply Kd.R_drewN | apply Kd.R_drew)); exact Kd.R_mono (Kd.R_far (p := ⟨gb211, 1, none⟩) (Kd.R_far (p := ⟨gb211, 0, none⟩) (Kd.R_far (p := ⟨gb212, 1, none⟩) (Kd.R_types (Kd.R_types HO215.out BK212.out (by decide)) BK211.out (by decide)) (fun _ hk => hk.1.2) (.slice Ao12 t213.length co12)) (fun _ hk => hk.2) (.int .i64 a0_0)) (fun _ hk => hk.2) (.slice Ao12 t213.length co12)) (fun _ hk => trivial), sq_below2 HB.out GE211.out GE212.out⟩

/-! ### impl_inRange: function 28 -/
def impl_inRange.f (a0 : Int) (a1 : Int) (a2 : Int) : Option (Bool) := if a1 ≤ a0 then (some (decide (a0 ≤ a2))) else (some false)
set_option maxHeartbeats 8000000 in
set_option maxRecDepth 100000 in
theorem impl_inRange.calls (a0 : Int) (a1 : Int) (a2 : Int) (r : Bool) (w : World) (h : impl_inRange.f a0 a1 a2 = some r) :
  Calls Try.prog 28 #[.int .i64 a0, .int .i64 a1, .int .i64 a2] w fun e w' => e = .returned (.bool r) ∧ Drawn0 w w' := by
 have H : (if a1 ≤ a0 then (some (decide (a0 ≤ a2))) else (some false)) = some r := h; clear h
 by_cases c4 : a1 ≤ a0
 ·
  rw [if_pos c4] at H; have c4b0 : decide (a1 ≤ a0) = true := decide_eq_true c4; clear c4; obtain rfl := Option.some.inj H
  go_enter Try.func28, Try.ntmps28
  go_wp2
  go_ret
  exact ⟨by first | rfl | (simp; done) | (simp [*]; done), by repeat (first | exact Drawn0.refl _ | apply Drawn0.step)⟩
 ·
  rw [if_neg c4] at H; have c4b0 : decide (a1 ≤ a0) = false := decide_eq_false c4; clear c4; obtain rfl := Option.some.inj H
  go_enter Try.func28, Try.ntmps28
  go_wp2
  go_ret
  exact ⟨by first | rfl | (simp; done) | (simp [*]; done), by repeat (first | exact Drawn0.refl _ | apply Drawn0.step)⟩

/-! ### impl_isPlace: function 31 -/
def impl_isPlace.f (a0 : Int) (a1 : Int) : Option (Bool) := (impl_inRange.f a0 0 (wrap64 (a1 - 1))).bind fun t216 => (some t216)
set_option maxHeartbeats 8000000 in
set_option maxRecDepth 100000 in
theorem impl_isPlace.calls (a0 : Int) (a1 : Int) (r : Bool) (w : World) (h : impl_isPlace.f a0 a1 = some r) :
  Calls Try.prog 31 #[.int .i64 a0, .int .i64 a1] w fun e w' => e = .returned (.bool r) ∧ Drawn0 w w' := by
 have H : ((impl_inRange.f a0 0 (wrap64 (a1 - 1))).bind fun t216 => (some t216)) = some r := h; clear h; replace H := Option.bind_eq_some_iff.mp H; obtain ⟨t216, A30, H⟩ := H; replace H : (some t216) = some r := H; have A3 := Aside0.mk A30; clear A30; obtain rfl := Option.some.inj H
 go_enter Try.func31, Try.ntmps31
 go_wp2_with (first | ((with_reducible refine gate_callee (f := 28) rfl ?_); refine gl_ 8 Try.func28 #[.int .i64 a0, .int .i64 0, .int .i64 (wrap64 (a1 - 1))] (h := ?_); (with_reducible refine (impl_inRange.calls a0 0 (wrap64 (a1 - 1)) t216 _ A3.out).mono ?_); rintro e w' ⟨rfl, ⟨nd, rfl⟩⟩; refine ⟨_, rfl, ?_⟩))
 go_ret
 exact ⟨by first | rfl | (simp; done) | (simp [*]; done), by repeat (first | exact Drawn0.refl _ | apply Drawn0.step)⟩

/-! ### impl_GraphOk: function 18 -/
theorem impl_GraphOk.index_none (A : Option Addr) (c : Nat) (f : Value) (w : World) :
  Calls Try.prog 38 #[.slice A 0 c, f] w fun e w' => e = .returned (.int .i64 (-1)) ∧ Below w.heap.size w w' := by
 go_enter Try.func38, Try.ntmps38
 go_wp2
 go_loopg [5, 8] 0 (fun gg _ s8 wr => s8 = .int .i64 0 ∧ Aside0 (Below w.heap.size w wr))
 case atStart => exact ⟨rfl, ⟨Below.refl _ w⟩⟩
 case round =>
  obtain ⟨rfl, BW⟩ := hrel
  go_wp2
  go_ret
  exact ⟨rfl, BW.out⟩
theorem impl_GraphOk.contains {n : Nat} {b : Bool} (r : Int) (s f : Value) (hr : decide (0 ≤ r) = b) (w : World) (hi : Calls Try.prog 38 #[s, f] w fun e w' => e = .returned (.int .i64 r) ∧ Below w.heap.size w w') :
  Calls Try.prog 29 #[s, f] w fun e w' => e = .returned (.bool b) ∧ Below w.heap.size w w' := by
 have HR := Aside0.mk hr; clear hr
 go_enter Try.func29, Try.ntmps29
 go_wp2_with (go_at_call 38; refine hi.mono ?_; rintro e w' ⟨rfl, hb'⟩)
 go_ret
 exact ⟨by rw [← HR.out]; rfl, hb'⟩
theorem impl_GraphOk.search {α : Type} (d : Kd α) (hd : d.sz = 8) (q : α → Bool) (g : Nat) (lb : Array Value) (eg : ∀ args w, (callFunc g args).run Try.prog w = .ok (.enter g args) w) (A : Option Addr) (c : Nat) (xs : List α) (w : World) (hr : d.C w A xs.length xs)
  (hbig : xs.length ≤ 9223372036854775807) (hp : ∀ x ∈ xs, ∀ cs, d.K w x cs → ∀ W, Below w.heap.size w W → Calls Try.prog g (#[.agg cs.toArray] ++ lb) W fun e w' => e = .returned (.bool (q x)) ∧ Below w.heap.size w w') :
  Calls Try.prog 29 #[.slice A xs.length c, .func (.func g) #[] lb] w fun e w' => e = .returned (.bool (xs.any q)) ∧ Below w.heap.size w w' := by
 rcases Nat.eq_zero_or_pos xs.length with h0 | h0
 ·
  obtain rfl := List.eq_nil_of_length_eq_zero h0; exact impl_GraphOk.contains (n := 0) (-1) _ _ (by rfl) w (impl_GraphOk.index_none A c _ w)
 ·
  haveI : Inhabited α := ⟨xs[0]⟩
  obtain ⟨⟨b, off, pp⟩, rfl, hcells⟩ := hr.2.2 h0
  have hlen : ∀ j, j < xs.length → ∃ cs : List Value, d.K w xs[j]! cs ∧ cs.length = 8 ∧ ∀ i v, cs[i]? = some v → w.cell? ((⟨b, off, pp⟩ : Addr).add (j * 8 + i)) = some v := fun j hj => by
   obtain ⟨cs, h1, hK, hce⟩ := hcells j xs[j] (List.getElem?_eq_getElem hj); refine ⟨cs, ?_, ?_, ?_⟩
   ·
    rw [getElem!_pos xs j hj]; exact hK
   ·
    rw [← hd]; exact d.K_len hK
   ·
    intro i v hv; have := hce i v hv
    rwa [hd] at this
  obtain ⟨cs0, hK0, hl0, hc0⟩ := hlen 0 h0; obtain ⟨v0, hv0⟩ : ∃ v, cs0[0]? = some v := ⟨cs0[0], List.getElem?_eq_getElem (by omega)⟩; have e0 := hc0 0 v0 hv0
  have hpn : pp = none := by
   cases pp with
   | none => rfl
   | some z =>
    simp only [Addr.add, World.cell?] at e0
    split at e0 <;> simp at e0
  subst hpn; have hb : b < w.heap.size := World.block_lt_of_cell? w _ e0; have hm : ∀ j, min j (xs.length - 1) < xs.length := fun j => by omega
  have hcs := fun j => Classical.choose_spec (hlen (min j (xs.length - 1)) (hm j))
  have hS := Try.slices_ContainsFunc (α := Nat) 8 Try.isAgg58 Try.sizeOf58 (fun j => Classical.choose (hlen (min j (xs.length - 1)) (hm j))) (fun j => (hcs j).2.1) (fun j => q xs[min j (xs.length - 1)]!) g lb eg b off xs.length c (List.range xs.length) w
   (fun W j hW => hp _ (by rw [getElem!_pos xs _ (hm j)]; exact List.getElem_mem (hm j)) _ (hcs j).1 W hW) (by simp) hbig hb (fun j hj i v hv => by
    have hj' : j < xs.length := by simpa using hj
    have e1 : (List.range xs.length)[j]! = j := by rw [getElem!_pos _ j hj]; simp
    rw [e1] at hv; have h := (hcs j).2.2 i v hv
    rwa [Addr.add_lit, show min j (xs.length - 1) = j by omega, ← Nat.add_assoc] at h)
  refine hS.mono ?_; rintro e w' ⟨rfl, hb'⟩; refine ⟨?_, hb'⟩
  congr 2
  rw [List.take_of_length_le (by simp)]
  have e2 : xs = (List.range xs.length).map fun j => xs[min j (xs.length - 1)]! := by
   apply List.ext_getElem (by simp)
   intro j h1 h2; rw [List.getElem_map, List.getElem_range, getElem!_pos xs _ (hm j)]
   congr 1; omega
  conv => rhs; rw [e2, List.any_map]
  rfl
def impl_GraphOk.ip (a b : Int) : Bool := (impl_isPlace.f a b).getD false
def impl_GraphOk.ir (a b c : Int) : Bool := (impl_inRange.f a b c).getD false
theorem impl_GraphOk.ip_ (a b : Int) (w : World) : Calls Try.prog 31 #[.int .i64 a, .int .i64 b] w fun e w' => e = .returned (.bool (impl_GraphOk.ip a b)) ∧ Drawn0 w w' := by
 refine impl_isPlace.calls a b _ w ?_; unfold impl_GraphOk.ip impl_isPlace.f impl_inRange.f
 repeat' split
 all_goals rfl
theorem impl_GraphOk.ir_ (a b c : Int) (w : World) : Calls Try.prog 28 #[.int .i64 a, .int .i64 b, .int .i64 c] w fun e w' => e = .returned (.bool (impl_GraphOk.ir a b c)) ∧ Drawn0 w w' := by
 refine impl_inRange.calls a b c _ w ?_; unfold impl_GraphOk.ir impl_inRange.f
 repeat' split
 all_goals rfl
/-- Is an edge none of a graph with p points? -/
def impl_GraphOk.bad (p a b c : Int) : Bool := !(impl_GraphOk.ip a p) || !(impl_GraphOk.ip b p) || !(impl_GraphOk.ir c 1 7)
set_option maxRecDepth 100000 in
set_option maxHeartbeats 4000000 in
theorem impl_GraphOk.lit (p : Int) (B : Nat) (a b c : Int) (z3 z4 z5 z6 z7 : Value) (W0 w : World) (hb : Below W0.heap.size W0 w) (hB : B < W0.heap.size) (hp : W0.cell? ⟨B, 0, none⟩ = some (.int .i64 p)) :
  Calls Try.prog 30 (#[.agg #[.int .i64 a, .int .i64 b, .int .i64 c, z3, z4, z5, z6, z7]] ++ #[.pointer (some ⟨B, 0, none⟩)]) w fun e w' => e = .returned (.bool (impl_GraphOk.bad p a b c)) ∧ Below W0.heap.size W0 w' := by
 have hcw : w.cell? ⟨B, 0, none⟩ = some (.int .i64 p) := (hb.cell (p := ⟨B, 0, none⟩) hB).trans hp; have hBw : B < w.heap.size := Nat.lt_of_lt_of_le hB hb.size; have hne : B ≠ w.heap.size := by omega
 clear hp hB; have hz := hb.size; have fin : ∀ n, Below W0.heap.size W0 ((w.alloc (.cells #[.int .i64 a, .int .i64 b, .int .i64 c, z3, z4, z5, z6, z7] 58)).drewN n) := fun n => pw_below_drewN (hb.alloc hz _) n; show Calls Try.prog 30 #[.agg #[.int .i64 a, .int .i64 b, .int .i64 c, z3, z4, z5, z6, z7], .pointer (some ⟨B, 0, none⟩)] w _; cases h1 : impl_GraphOk.ip a p with
 | false =>
  rw [show impl_GraphOk.bad p a b c = true by unfold impl_GraphOk.bad; rw [h1]; rfl]
  go_enter Try.func30, Try.ntmps30
  go_wp2_with (go_at_call 31; refine (impl_GraphOk.ip_ _ _ _).mono ?_; rintro e w1 ⟨rfl, ⟨n1, rfl⟩⟩)
  go_ret
  exact ⟨rfl, fin _⟩
 | true =>
  cases h2 : impl_GraphOk.ip b p with
  | false =>
   rw [show impl_GraphOk.bad p a b c = true by unfold impl_GraphOk.bad; rw [h1, h2]; rfl]
   go_enter Try.func30, Try.ntmps30
   go_wp2_with (go_at_call 31; refine (impl_GraphOk.ip_ _ _ _).mono ?_; rintro e w1 ⟨rfl, ⟨n1, rfl⟩⟩)
   go_ret
   exact ⟨rfl, by simpa using fin _⟩
  | true =>
   rw [show impl_GraphOk.bad p a b c = !(impl_GraphOk.ir c 1 7) by unfold impl_GraphOk.bad; rw [h1, h2]; rfl]
   go_enter Try.func30, Try.ntmps30
   go_wp2_with (first | (go_at_call 31; refine (impl_GraphOk.ip_ _ _ _).mono ?_; rintro e w1 ⟨rfl, ⟨n1, rfl⟩⟩) | (go_at_call 28; refine (impl_GraphOk.ir_ _ _ _ _).mono ?_; rintro e w1 ⟨rfl, ⟨n1, rfl⟩⟩))
   go_ret
   exact ⟨rfl, by simpa using fin _⟩
def impl_GraphOk.f (a0_0 : Int) (l0_1 : List (S58)) : Option Bool :=
 if impl_GraphOk.ir a0_0 1 3000 = true then (if (l0_1.length : Int) ≤ 6000 then some (!(l0_1.any fun e => impl_GraphOk.bad a0_0 e.f0 e.f1 e.f2)) else some false) else some false
set_option maxRecDepth 100000 in
set_option maxHeartbeats 4000000 in
theorem impl_GraphOk.calls (a0_0 : Int) (A0_1 : Option Addr) (c0_1 : Nat) (l0_1 : List (S58)) (r : Bool) (w : World) (hr0_1 : Kd.C k58 w A0_1 l0_1.length l0_1) (hc0_1 : l0_1.length ≤ c0_1) (h : impl_GraphOk.f a0_0 l0_1 = some r) :
  Calls Try.prog 18 #[.agg #[.int .i64 a0_0, .slice A0_1 l0_1.length c0_1]] w fun e w' => e = .returned (.bool r) ∧ Below w.heap.size w w' := by
 unfold impl_GraphOk.f at h; have fin : ∀ n, Below w.heap.size w ((w.alloc (.cells #[.int .i64 a0_0, .slice A0_1 l0_1.length c0_1] 30)).drewN n) := fun n => pw_below_drewN ((Below.refl _ w).alloc (Nat.le_refl _) _) n; cases h1 : impl_GraphOk.ir a0_0 1 3000 with
 | false =>
  rw [h1, if_neg (by decide)] at h; obtain rfl := Option.some.inj h
  go_enter Try.func18, Try.ntmps18
  go_wp2_with (go_at_call 28; refine (impl_GraphOk.ir_ _ _ _ _).mono ?_; rintro e w1 ⟨rfl, ⟨n1, rfl⟩⟩)
  go_ret
  exact ⟨rfl, fin _⟩
 | true =>
  rw [h1, if_pos rfl] at h
  by_cases h2 : (l0_1.length : Int) ≤ 6000
  ·
   rw [if_pos h2] at h; have hr := Option.some.inj h
   have hs : ∀ n, Calls Try.prog 29 #[.slice A0_1 l0_1.length c0_1, .func (.func 30) #[] #[.pointer (some ⟨w.heap.size, 0, none⟩)]] ((w.alloc (.cells #[.int .i64 a0_0, .slice A0_1 l0_1.length c0_1] 30)).drewN n) fun e w' => e = .returned (.bool (!r)) ∧ Below w.heap.size w w' := fun n => by
    rw [← hr, Bool.not_not]; refine (impl_GraphOk.search k58 rfl (fun e => impl_GraphOk.bad a0_0 e.f0 e.f1 e.f2) 30 #[.pointer (some ⟨w.heap.size, 0, none⟩)] (enters_of Try.func30 (by kernel_rfl) rfl) A0_1 c0_1 l0_1 _ (Kd.C_below hr0_1 (fin n)) (by omega) (fun x hx cs hK W2 hW2 => ?_)).mono ?_
    ·
     obtain ⟨A2, c2, o2, l2, r2⟩ := k58_open hK; subst o2; exact impl_GraphOk.lit a0_0 w.heap.size _ _ _ _ _ _ _ _ _ _ hW2 (by simp) (by simp)
    ·
     rintro e w' ⟨rfl, hb⟩; exact ⟨rfl, (fin n).trans (hb.mono (fin n).size)⟩
   clear h hr fin; have h2d : decide ((l0_1.length : Int) ≤ 6000) = true := decide_eq_true h2; clear h2
   go_enter Try.func18, Try.ntmps18
   go_wp2_with (first | (go_at_call 28; refine (impl_GraphOk.ir_ _ _ _ _).mono ?_; rintro e w1 ⟨rfl, ⟨n1, rfl⟩⟩) | (go_at_call 29; refine (hs _).mono ?_; rintro e w2 ⟨rfl, hb2⟩))
   go_ret
   exact ⟨by simp, hb2⟩
  ·
   rw [if_neg h2] at h; obtain rfl := Option.some.inj h; have h2d : decide ((l0_1.length : Int) ≤ 6000) = false := decide_eq_false h2; clear h2
   go_enter Try.func18, Try.ntmps18
   go_wp2_with (go_at_call 28; refine (impl_GraphOk.ir_ _ _ _ _).mono ?_; rintro e w1 ⟨rfl, ⟨n1, rfl⟩⟩)
   go_ret
   exact ⟨rfl, fin _⟩


end Go.Proofs.Ytmdebfbkehnocaa.Q
