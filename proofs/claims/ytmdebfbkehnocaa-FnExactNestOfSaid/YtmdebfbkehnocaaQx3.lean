/- Functions of the translation as Lean functions, each with a proof that a call answers so; out of the seat, by this claim's own program prt.py. -/
import Derived.Test.YtmdebfbkehnocaaWRepsOne
import Derived.Test.YtmdebfbkehnocaaWGuard
import Derived.Test.YtmdebfbkehnocaaQx0
import Derived.Test.YtmdebfbkehnocaaQx2
import Derived.Test.YtmdebfbkehnocaaQStep
namespace Go.Proofs.Ytmdebfbkehnocaa.Q
open Go.RowKit Go.Proofs.YtmdebfbkehnocaaW.PrintWords Go.Proofs.YtmdebfbkehnocaaW.PrintLast Go.Proofs.YtmdebfbkehnocaaW.PrintMore
attribute [local go_sem] max2_int min2_int max_two min_two max_three min_three max_four min_four   -- for this text's walks alone
set_option linter.unusedVariables false
set_option linter.unusedSimpArgs false

/-! ### spec_GraphOk: function 14 -/
mutual
def spec_GraphOk.j0 : Nat → Bool → Int → List (S58) → Option (Bool)
 | 0, _, _, _ => none
 | k + 1, x14, x112000, x112001 => if x14 = true then (some false) else (spec_GraphOk.l0 k 0 x112000 x112001)
def spec_GraphOk.l0 : Nat → Int → Int → List (S58) → Option (Bool)
 | 0, _, _, _ => none
 | k + 1, x3, x112000, x112001 => if x3 < (x112001.length : Int) then (if 0 ≤ x3 then ((spec_l01Between.f ((rd_T58 x112001 x3).f0) 0 (wrap64 (x112000 - 1))).bind fun t115 => (if t115 = true then ((spec_l01Between.f ((rd_T58 x112001 x3).f1) 0 (wrap64 (x112000 - 1))).bind fun t116 => (if t116 = true then ((spec_l01Between.f ((rd_T58 x112001 x3).f2) 1 7).bind fun t117 => (if t117 = true then (spec_GraphOk.l0 k (wrap64 (x3 + 1)) x112000 x112001) else (some false))) else (some false))) else (some false))) else (none)) else (some true)
end
def spec_GraphOk.f (k : Nat) (a0_0 : Int) (l0_1 : List (S58)) : Option (Bool) := (spec_l01Between.f a0_0 1 3000).bind fun t112 => (if t112 = true then (spec_GraphOk.j0 k (decide ((l0_1.length : Int) > 6000)) a0_0 l0_1) else (spec_GraphOk.j0 k true a0_0 l0_1))
theorem spec_GraphOk.mono_l : ∀ k, (∀ y0 y1 y2, LeO (spec_GraphOk.j0 k y0 y1 y2) (spec_GraphOk.j0 (k + 1) y0 y1 y2)) ∧ (∀ y0 y1 y2, LeO (spec_GraphOk.l0 k y0 y1 y2) (spec_GraphOk.l0 (k + 1) y0 y1 y2))
 | 0 => ⟨fun _ _ _ r h => by simp [spec_GraphOk.j0] at h, fun _ _ _ r h => by simp [spec_GraphOk.l0] at h⟩
 | k + 1 => by
  obtain ⟨ih0, ih1⟩ := spec_GraphOk.mono_l k; refine ⟨?_, ?_⟩
  ·
   intro y0 y1 y2; unfold spec_GraphOk.j0
   repeat' first
   | (with_reducible exact ih0 _ _ _)
   | (with_reducible exact ih1 _ _ _)
   | (with_reducible exact LeO.refl _)
   | (with_reducible exact LeO.none _)
   | (with_reducible refine LeO.ite ?_ ?_)
   | (with_reducible refine LeO.bind ?_ (fun _ => ?_))
   | exact ih0 _ _ _
   | exact ih1 _ _ _
   | exact LeO.none _
   | refine LeO.ite ?_ ?_
   | refine LeO.bind ?_ (fun _ => ?_)
  ·
   intro y0 y1 y2; unfold spec_GraphOk.l0
   repeat' first
   | (with_reducible exact ih0 _ _ _)
   | (with_reducible exact ih1 _ _ _)
   | (with_reducible exact LeO.refl _)
   | (with_reducible exact LeO.none _)
   | (with_reducible refine LeO.ite ?_ ?_)
   | (with_reducible refine LeO.bind ?_ (fun _ => ?_))
   | exact ih0 _ _ _
   | exact ih1 _ _ _
   | exact LeO.none _
   | refine LeO.ite ?_ ?_
   | refine LeO.bind ?_ (fun _ => ?_)
theorem spec_GraphOk.mono : ∀ a0 a1 k, LeO (spec_GraphOk.f k a0 a1) (spec_GraphOk.f (k + 1) a0 a1) := by
 intro a0 a1 k; obtain ⟨ih0, ih1⟩ := spec_GraphOk.mono_l k; unfold spec_GraphOk.f
 repeat' first
   | (with_reducible exact ih0 _ _ _)
   | (with_reducible exact ih1 _ _ _)
   | (with_reducible exact LeO.refl _)
   | (with_reducible exact LeO.none _)
   | (with_reducible refine LeO.ite ?_ ?_)
   | (with_reducible refine LeO.bind ?_ (fun _ => ?_))
   | exact ih0 _ _ _
   | exact ih1 _ _ _
   | exact LeO.none _
   | refine LeO.ite ?_ ?_
   | refine LeO.bind ?_ (fun _ => ?_)
set_option maxHeartbeats 8000000 in
set_option maxRecDepth 100000 in
theorem spec_GraphOk.calls (k : Nat) (a0_0 : Int) (A0_1 : Option Addr) (c0_1 : Nat) (l0_1 : List (S58)) (r : Bool) (w : World) (hr0_1 : Kd.C k58 w A0_1 l0_1.length l0_1) (hc0_1 : l0_1.length ≤ c0_1) (h : spec_GraphOk.f k a0_0 l0_1 = some r) :
  Calls Try.prog 14 #[.agg #[.int .i64 a0_0, .slice A0_1 l0_1.length c0_1]] w fun e w' => e = .returned (.bool r) ∧ Below w.heap.size w w' := by
 have hu30 := Try.underlying30; have hu58 := Try.underlying58; have HR0_1 := Aside0.mk hr0_1; have HC0_1 := Aside0.mk hc0_1; clear hr0_1 hc0_1; have HB := Aside0.mk (Below.refl w.heap.size w); have H : ((spec_l01Between.f a0_0 1 3000).bind fun t112 => (if t112 = true then (spec_GraphOk.j0 k (decide ((l0_1.length : Int) > 6000)) a0_0 l0_1) else (spec_GraphOk.j0 k true a0_0 l0_1))) = some r := h; clear h; have HC2 := Aside0.mk H; clear H
 go_enter Try.func14, Try.ntmps14
 go_upto_region 1 with (first | ((with_reducible refine gate_dst (N := 1) rfl ?_); (try (refine gate_guard (by rfl) ?_; dsimp only)); refine box_y 1 #[.int .i64 a0_0, .slice A0_1 l0_1.length c0_1] 30 (h := ?_); intro gb111 hg w3 hbox hb; have n0_ := Aside0.mk (below_step (sq_below HB.out) hb); have n1_ := Aside0.mk (hbox); have n2_ := ge_ hg (below_size (sq_below HB.out)); have n3_ := ge_ hg (below_size (sq_below HB.out)); clear HB; have HB := n0_; have BK111 := n1_; have GW111 := n2_; have GE111 := n3_; clear n0_ n1_ n2_ n3_; clear hb hbox hg))
 (try simp only [Act.put, List.setIfInBounds_toArray, List.set_cons_zero, List.set_cons_succ])
 go_cut [14] (fun v14 wc => ∃ (kq : Nat) (x14_1 : Bool), v14 = .bool x14_1 ∧ Aside0 (spec_GraphOk.j0 kq x14_1 a0_0 l0_1 = some r) ∧ Aside0 (kq ≤ k) ∧ Aside0 (wc.heap[gb111]? = some (.cells #[.int .i64 a0_0, (.slice A0_1 l0_1.length c0_1)] 30 (0, 0))) ∧ Aside0 (Below w.heap.size w wc))
 case first =>
  have H := HC2.out; clear HC2; replace H := Option.bind_eq_some_iff.mp H; obtain ⟨t112, A40, H⟩ := H; (try dsimp only at H); have A4 := Aside0.mk A40; clear A40
  by_cases c5 : t112 = true
  ·
   subst c5; have H1 := ifp_ H
   clear H; have H := H1; clear H1; have H' := Aside0.mk H; clear H; have hcz6_0 := cl_ (v := .int .i64 a0_0) BK111 0; have hcz6_1 := cl_ (v := .slice A0_1 l0_1.length c0_1) BK111 1; have hfz6_0 := blk_frozen BK111.out 0; have hfz6_1 := blk_frozen BK111.out 1
   go_wp2_with (first | ((with_reducible refine gate_callee (f := 26) rfl ?_); refine gl_ 7 Try.func26 #[.int .i64 a0_0, .int .i64 1, .int .i64 3000] (h := ?_); (with_reducible refine (spec_l01Between.calls a0_0 1 3000 true _ A4.out).mono ?_); rintro e w' ⟨rfl, ⟨nd, rfl⟩⟩; refine ⟨_, rfl, ?_⟩))
   go_meet
   case rel => exact ⟨_, (decide ((l0_1.length : Int) > 6000)), (by first | rfl | (simp; done) | (simp [*]; done)), H', ⟨by first | omega | exact Nat.le_refl _⟩, bk_ BK111, ⟨sq_below1 HB.out GE111.out⟩⟩
  ·
   replace c5 := Bool.eq_false_iff.mpr c5; subst c5; have H1 := ifn_ H
   clear H; have H := H1; clear H1; have H' := Aside0.mk H; clear H; have hcz7_0 := cl_ (v := .int .i64 a0_0) BK111 0; have hcz7_1 := cl_ (v := .slice A0_1 l0_1.length c0_1) BK111 1; have hfz7_0 := blk_frozen BK111.out 0; have hfz7_1 := blk_frozen BK111.out 1
   go_wp2_with (first | ((with_reducible refine gate_callee (f := 26) rfl ?_); refine gl_ 7 Try.func26 #[.int .i64 a0_0, .int .i64 1, .int .i64 3000] (h := ?_); (with_reducible refine (spec_l01Between.calls a0_0 1 3000 false _ A4.out).mono ?_); rintro e w' ⟨rfl, ⟨nd, rfl⟩⟩; refine ⟨_, rfl, ?_⟩))
   go_meet
   case rel => exact ⟨_, (true), (by first | rfl | (simp; done) | (simp [*]; done)), H', ⟨by first | omega | exact Nat.le_refl _⟩, bk_ BK111, ⟨sq_below1 HB.out GE111.out⟩⟩
 case rest =>
  clear HC2
  try clear c1
  try clear c2
  try clear p2
  try clear c5
  try clear hcz6_0
  try clear hcz6_1
  try clear hcz7_0
  try clear hcz7_1
  try clear hfz6_0
  try clear hfz6_1
  try clear hfz7_0
  try clear hfz7_1
  obtain ⟨kq, x14_1, rfl, HA, HJ1, BK111, HB⟩ := hcut; cases kq with
  | zero => exact absurd HA.out (by simp [spec_GraphOk.j0])
  | succ kj1 =>
   have H := HA.out; clear HA; simp only [spec_GraphOk.j0] at H
   by_cases c8 : x14_1 = true
   ·
    subst c8; have H1 := ifp_ H
    clear H; have H := H1; clear H1; obtain rfl := Option.some.inj H
    go_wp2
    go_ret
    exact ⟨by first | rfl | (simp [errW_none, errW_some] <;> rfl) | (simp [*, errW_none, errW_some] <;> rfl), sq_below1 HB.out GE111.out⟩
   ·
    replace c8 := Bool.eq_false_iff.mpr c8; subst c8; have H1 := ifn_ H
    clear H; have H := H1; clear H1; have H' := Aside0.mk H; clear H
    go_wp2
    go_loopg [3] kj1 (fun kq v3 w' => ∃ (x3_2 : Int), v3 = .int .i64 x3_2 ∧ Aside0 (spec_GraphOk.l0 kq x3_2 a0_0 l0_1 = some r) ∧ Aside0 (kq ≤ kj1) ∧ Aside0 (w'.heap[gb111]? = some (.cells #[.int .i64 a0_0, (.slice A0_1 l0_1.length c0_1)] 30 (0, 0))) ∧ Aside0 (Below w.heap.size w w'))
    case atStart => exact ⟨(0), (by first | rfl | (simp; done) | (simp [*]; done)), H', ⟨Nat.le_refl _⟩, bk_ BK111, ⟨sq_below1 HB.out GE111.out⟩⟩
    case round =>
     clear H'
     try clear c1
     try clear c2
     try clear p2
     try clear c5
     try clear c8
     try clear hcz6_0
     try clear hcz6_1
     try clear hcz7_0
     try clear hcz7_1
     try clear hfz6_0
     try clear hfz6_1
     try clear hfz7_0
     try clear hfz7_1
     try clear p2
     obtain ⟨x3_2, rfl, HA, HK2, BK111, HB⟩ := hrel; cases gk with
     | zero => exact absurd HA.out (by simp [spec_GraphOk.l0])
     | succ k2 =>
      have H := HA.out; clear HA; simp only [spec_GraphOk.l0] at H
      by_cases c9 : x3_2 < (l0_1.length : Int)
      ·
       rw [if_pos c9] at H; have c9b0 : decide (x3_2 < (l0_1.length : Int)) = true := decide_eq_true c9; clear c9
       by_cases c10 : 0 ≤ x3_2
       ·
        rw [if_pos c10] at H; have c10b0 : decide (0 ≤ x3_2) = true := decide_eq_true c10; clear c10; replace H := Option.bind_eq_some_iff.mp H; obtain ⟨t115, A110, H⟩ := H; (try dsimp only at H); have A11 := Aside0.mk A110; clear A110
        by_cases c12 : t115 = true
        ·
         subst c12; have H1 := ifp_ H
         clear H; have H := H1; clear H1; replace H := Option.bind_eq_some_iff.mp H; obtain ⟨t116, A130, H⟩ := H; (try dsimp only at H); have A13 := Aside0.mk A130; clear A130
         by_cases c14 : t116 = true
         ·
          subst c14; have H1 := ifp_ H
          clear H; have H := H1; clear H1; replace H := Option.bind_eq_some_iff.mp H; obtain ⟨t117, A150, H⟩ := H; (try dsimp only at H); have A15 := Aside0.mk A150; clear A150
          by_cases c16 : t117 = true
          ·
           subst c16; have H1 := ifp_ H
           clear H; have H := H1; clear H1; have H' := Aside0.mk H; clear H; have hcz17_0 := cl_ (v := .int .i64 a0_0) BK111 0; have hcz17_1 := cl_ (v := .slice A0_1 l0_1.length c0_1) BK111 1; have hfz17_0 := blk_frozen BK111.out 0; have hfz17_1 := blk_frozen BK111.out 1; have p113 : 0 ≤ (x3_2 : Int) := sq_dec; have q113 : x3_2 < (l0_1.length : Int) := sq_dec; obtain ⟨ad113, A113_7, c113_7, e113, hx113_0, hx113_1, hx113_2, hx113_3, hx113_4, hx113_5, hx113_6, hx113_7, hl113_7, hi113_7⟩ := at_T58 HR0_1.out x3_2 p113 q113; cases e113; replace hx113_0 := (HB.out.cell (World.block_lt_of_cell? w _ hx113_0)).trans hx113_0; replace hx113_1 := (HB.out.cell (World.block_lt_of_cell? w _ hx113_1)).trans hx113_1; replace hx113_2 := (HB.out.cell (World.block_lt_of_cell? w _ hx113_2)).trans hx113_2; replace hx113_3 := (HB.out.cell (World.block_lt_of_cell? w _ hx113_3)).trans hx113_3; replace hx113_4 := (HB.out.cell (World.block_lt_of_cell? w _ hx113_4)).trans hx113_4; replace hx113_5 := (HB.out.cell (World.block_lt_of_cell? w _ hx113_5)).trans hx113_5; replace hx113_6 := (HB.out.cell (World.block_lt_of_cell? w _ hx113_6)).trans hx113_6; replace hx113_7 := (HB.out.cell (World.block_lt_of_cell? w _ hx113_7)).trans hx113_7; have HR113_7 := Aside0.mk hi113_7; have HC113_7 := Aside0.mk hl113_7; clear hi113_7 hl113_7; replace p113 := eq_true p113; replace q113 := eq_true q113
           go_wp2_with (first | ((with_reducible refine gate_dst (N := 4) rfl ?_); (try (refine gate_guard (by rfl) ?_; dsimp only)); refine box_event ?hg (N := 4) ?hd (cs := #[.int .i64 0, .int .i64 0, .int .i64 0, .bool false, .int .i64 0, .string (⟨#[]⟩ : ByteArray), .int .i64 0, .slice none 0 0]) (t := 58) ?hr ?_; (case hd => rfl); (case hg => rfl); (case hr => first | (go_simp; done) | (go_simp; rfl)); intro gb114 hg w18 hbox hb; have n0_ := Aside0.mk (blk_below (sq_blk BK111.out) hb); have n1_ := Aside0.mk (below_step (sq_below1 HB.out GE111.out) hb); have n2_ := Aside0.mk (hbox); have n3_ := ge_ hg (below_size (sq_below1 HB.out GE111.out)); have n4_ := ge_ hg (below_size (sq_below1 HB.out GE111.out)); have n5_ := nb_ hg BK111; have n6_ := Aside0.mk (Ne.symm n5_.out); clear BK111; clear HB; have BK111 := n0_; have HB := n1_; have BK114 := n2_; have GW114 := n3_; have GE114 := n4_; have NB111_114 := n5_; have NB114_111 := n6_; clear n0_ n1_ n2_ n3_ n4_ n5_ n6_; clear hb hbox hg; have hnb19 := NB114_111.out; have hnc19 := NB111_114.out; have hcz20_0 := cl_ (v := .int .i64 0) BK114 0; have hcz20_1 := cl_ (v := .int .i64 0) BK114 1; have hcz20_2 := cl_ (v := .int .i64 0) BK114 2; have hcz20_3 := cl_ (v := .bool false) BK114 3; have hcz20_4 := cl_ (v := .int .i64 0) BK114 4; have hcz20_5 := cl_ (v := .string (⟨#[]⟩ : ByteArray)) BK114 5; have hcz20_6 := cl_ (v := .int .i64 0) BK114 6; have hcz20_7 := cl_ (v := .slice none 0 0) BK114 7; have hfz20_0 := blk_frozen BK114.out 0; have hfz20_1 := blk_frozen BK114.out 1; have hfz20_2 := blk_frozen BK114.out 2; have hfz20_3 := blk_frozen BK114.out 3; have hfz20_4 := blk_frozen BK114.out 4; have hfz20_5 := blk_frozen BK114.out 5; have hfz20_6 := blk_frozen BK114.out 6; have hfz20_7 := blk_frozen BK114.out 7; have hcz21_0 := cl_ (v := .int .i64 a0_0) BK111 0; have hcz21_1 := cl_ (v := .slice (some ad113) l0_1.length c0_1) BK111 1; have hfz21_0 := blk_frozen BK111.out 0; have hfz21_1 := blk_frozen BK111.out 1) | ((with_reducible refine gate_callee (f := 26) rfl ?_); refine gl_ 32 Try.func26 #[.int .i64 ((rd_T58 l0_1 x3_2).f0), .int .i64 0, .int .i64 (wrap64 (a0_0 - 1))] (h := ?_); (with_reducible refine (spec_l01Between.calls ((rd_T58 l0_1 x3_2).f0) 0 (wrap64 (a0_0 - 1)) true _ A11.out).mono ?_); rintro e w' ⟨rfl, ⟨nd, rfl⟩⟩; refine ⟨_, rfl, ?_⟩) | (go_at_call 26; (with_reducible refine (spec_l01Between.calls ((rd_T58 l0_1 x3_2).f1) 0 (wrap64 (a0_0 - 1)) true _ A13.out).mono ?_); rintro e w' ⟨rfl, ⟨nd, rfl⟩⟩) | (go_at_call 26; (with_reducible refine (spec_l01Between.calls ((rd_T58 l0_1 x3_2).f2) 1 7 true _ A15.out).mono ?_); rintro e w' ⟨rfl, ⟨nd, rfl⟩⟩))
           go_roundg k2
           case measure => have := HJ1.out; have := HK2.out; omega
           case rel => exact ⟨(wrap64 (x3_2 + 1)), (by first | rfl | (simp; done) | (simp [*]; done)), H', ⟨by have := HJ1.out; have := HK2.out; omega⟩, bf_ BK111 NB111_114, ⟨sq_below2 HB.out GE111.out GE114.out⟩⟩
          ·
           replace c16 := Bool.eq_false_iff.mpr c16; subst c16; have H1 := ifn_ H
           clear H; have H := H1; clear H1; obtain rfl := Option.some.inj H; have hcz22_0 := cl_ (v := .int .i64 a0_0) BK111 0; have hcz22_1 := cl_ (v := .slice A0_1 l0_1.length c0_1) BK111 1; have hfz22_0 := blk_frozen BK111.out 0; have hfz22_1 := blk_frozen BK111.out 1; have p113 : 0 ≤ (x3_2 : Int) := sq_dec; have q113 : x3_2 < (l0_1.length : Int) := sq_dec; obtain ⟨ad113, A113_7, c113_7, e113, hx113_0, hx113_1, hx113_2, hx113_3, hx113_4, hx113_5, hx113_6, hx113_7, hl113_7, hi113_7⟩ := at_T58 HR0_1.out x3_2 p113 q113; cases e113; replace hx113_0 := (HB.out.cell (World.block_lt_of_cell? w _ hx113_0)).trans hx113_0; replace hx113_1 := (HB.out.cell (World.block_lt_of_cell? w _ hx113_1)).trans hx113_1; replace hx113_2 := (HB.out.cell (World.block_lt_of_cell? w _ hx113_2)).trans hx113_2; replace hx113_3 := (HB.out.cell (World.block_lt_of_cell? w _ hx113_3)).trans hx113_3; replace hx113_4 := (HB.out.cell (World.block_lt_of_cell? w _ hx113_4)).trans hx113_4; replace hx113_5 := (HB.out.cell (World.block_lt_of_cell? w _ hx113_5)).trans hx113_5; replace hx113_6 := (HB.out.cell (World.block_lt_of_cell? w _ hx113_6)).trans hx113_6; replace hx113_7 := (HB.out.cell (World.block_lt_of_cell? w _ hx113_7)).trans hx113_7; have HR113_7 := Aside0.mk hi113_7; have HC113_7 := Aside0.mk hl113_7; clear hi113_7 hl113_7; replace p113 := eq_true p113; replace q113 := eq_true q113
           go_wp2_with (first | ((with_reducible refine gate_dst (N := 4) rfl ?_); (try (refine gate_guard (by rfl) ?_; dsimp only)); refine box_event ?hg (N := 4) ?hd (cs := #[.int .i64 0, .int .i64 0, .int .i64 0, .bool false, .int .i64 0, .string (⟨#[]⟩ : ByteArray), .int .i64 0, .slice none 0 0]) (t := 58) ?hr ?_; (case hd => rfl); (case hg => rfl); (case hr => first | (go_simp; done) | (go_simp; rfl)); intro gb114 hg w23 hbox hb; have n0_ := Aside0.mk (blk_below (sq_blk BK111.out) hb); have n1_ := Aside0.mk (below_step (sq_below1 HB.out GE111.out) hb); have n2_ := Aside0.mk (hbox); have n3_ := ge_ hg (below_size (sq_below1 HB.out GE111.out)); have n4_ := ge_ hg (below_size (sq_below1 HB.out GE111.out)); have n5_ := nb_ hg BK111; have n6_ := Aside0.mk (Ne.symm n5_.out); clear BK111; clear HB; have BK111 := n0_; have HB := n1_; have BK114 := n2_; have GW114 := n3_; have GE114 := n4_; have NB111_114 := n5_; have NB114_111 := n6_; clear n0_ n1_ n2_ n3_ n4_ n5_ n6_; clear hb hbox hg; have hnb24 := NB114_111.out; have hnc24 := NB111_114.out; have hcz25_0 := cl_ (v := .int .i64 0) BK114 0; have hcz25_1 := cl_ (v := .int .i64 0) BK114 1; have hcz25_2 := cl_ (v := .int .i64 0) BK114 2; have hcz25_3 := cl_ (v := .bool false) BK114 3; have hcz25_4 := cl_ (v := .int .i64 0) BK114 4; have hcz25_5 := cl_ (v := .string (⟨#[]⟩ : ByteArray)) BK114 5; have hcz25_6 := cl_ (v := .int .i64 0) BK114 6; have hcz25_7 := cl_ (v := .slice none 0 0) BK114 7; have hfz25_0 := blk_frozen BK114.out 0; have hfz25_1 := blk_frozen BK114.out 1; have hfz25_2 := blk_frozen BK114.out 2; have hfz25_3 := blk_frozen BK114.out 3; have hfz25_4 := blk_frozen BK114.out 4; have hfz25_5 := blk_frozen BK114.out 5; have hfz25_6 := blk_frozen BK114.out 6; have hfz25_7 := blk_frozen BK114.out 7; have hcz26_0 := cl_ (v := .int .i64 a0_0) BK111 0; have hcz26_1 := cl_ (v := .slice (some ad113) l0_1.length c0_1) BK111 1; have hfz26_0 := blk_frozen BK111.out 0; have hfz26_1 := blk_frozen BK111.out 1) | ((with_reducible refine gate_callee (f := 26) rfl ?_); refine gl_ 32 Try.func26 #[.int .i64 ((rd_T58 l0_1 x3_2).f0), .int .i64 0, .int .i64 (wrap64 (a0_0 - 1))] (h := ?_); (with_reducible refine (spec_l01Between.calls ((rd_T58 l0_1 x3_2).f0) 0 (wrap64 (a0_0 - 1)) true _ A11.out).mono ?_); rintro e w' ⟨rfl, ⟨nd, rfl⟩⟩; refine ⟨_, rfl, ?_⟩) | (go_at_call 26; (with_reducible refine (spec_l01Between.calls ((rd_T58 l0_1 x3_2).f1) 0 (wrap64 (a0_0 - 1)) true _ A13.out).mono ?_); rintro e w' ⟨rfl, ⟨nd, rfl⟩⟩) | (go_at_call 26; (with_reducible refine (spec_l01Between.calls ((rd_T58 l0_1 x3_2).f2) 1 7 false _ A15.out).mono ?_); rintro e w' ⟨rfl, ⟨nd, rfl⟩⟩))
           go_ret
           exact ⟨by first | rfl | (simp [errW_none, errW_some] <;> rfl) | (simp [*, errW_none, errW_some] <;> rfl), sq_below1 HB.out GE114.out⟩
         ·
          replace c14 := Bool.eq_false_iff.mpr c14; subst c14; have H1 := ifn_ H
          clear H; have H := H1; clear H1; obtain rfl := Option.some.inj H; have hcz27_0 := cl_ (v := .int .i64 a0_0) BK111 0; have hcz27_1 := cl_ (v := .slice A0_1 l0_1.length c0_1) BK111 1; have hfz27_0 := blk_frozen BK111.out 0; have hfz27_1 := blk_frozen BK111.out 1; have p113 : 0 ≤ (x3_2 : Int) := sq_dec; have q113 : x3_2 < (l0_1.length : Int) := sq_dec; obtain ⟨ad113, A113_7, c113_7, e113, hx113_0, hx113_1, hx113_2, hx113_3, hx113_4, hx113_5, hx113_6, hx113_7, hl113_7, hi113_7⟩ := at_T58 HR0_1.out x3_2 p113 q113; cases e113; replace hx113_0 := (HB.out.cell (World.block_lt_of_cell? w _ hx113_0)).trans hx113_0; replace hx113_1 := (HB.out.cell (World.block_lt_of_cell? w _ hx113_1)).trans hx113_1; replace hx113_2 := (HB.out.cell (World.block_lt_of_cell? w _ hx113_2)).trans hx113_2; replace hx113_3 := (HB.out.cell (World.block_lt_of_cell? w _ hx113_3)).trans hx113_3; replace hx113_4 := (HB.out.cell (World.block_lt_of_cell? w _ hx113_4)).trans hx113_4; replace hx113_5 := (HB.out.cell (World.block_lt_of_cell? w _ hx113_5)).trans hx113_5; replace hx113_6 := (HB.out.cell (World.block_lt_of_cell? w _ hx113_6)).trans hx113_6; replace hx113_7 := (HB.out.cell (World.block_lt_of_cell? w _ hx113_7)).trans hx113_7; have HR113_7 := Aside0.mk hi113_7; have HC113_7 := Aside0.mk hl113_7; clear hi113_7 hl113_7; replace p113 := eq_true p113; replace q113 := eq_true q113
          go_wp2_with (first | ((with_reducible refine gate_dst (N := 4) rfl ?_); (try (refine gate_guard (by rfl) ?_; dsimp only)); refine box_event ?hg (N := 4) ?hd (cs := #[.int .i64 0, .int .i64 0, .int .i64 0, .bool false, .int .i64 0, .string (⟨#[]⟩ : ByteArray), .int .i64 0, .slice none 0 0]) (t := 58) ?hr ?_; (case hd => rfl); (case hg => rfl); (case hr => first | (go_simp; done) | (go_simp; rfl)); intro gb114 hg w28 hbox hb; have n0_ := Aside0.mk (blk_below (sq_blk BK111.out) hb); have n1_ := Aside0.mk (below_step (sq_below1 HB.out GE111.out) hb); have n2_ := Aside0.mk (hbox); have n3_ := ge_ hg (below_size (sq_below1 HB.out GE111.out)); have n4_ := ge_ hg (below_size (sq_below1 HB.out GE111.out)); have n5_ := nb_ hg BK111; have n6_ := Aside0.mk (Ne.symm n5_.out); clear BK111; clear HB; have BK111 := n0_; have HB := n1_; have BK114 := n2_; have GW114 := n3_; have GE114 := n4_; have NB111_114 := n5_; have NB114_111 := n6_; clear n0_ n1_ n2_ n3_ n4_ n5_ n6_; clear hb hbox hg; have hnb29 := NB114_111.out; have hnc29 := NB111_114.out; have hcz30_0 := cl_ (v := .int .i64 0) BK114 0; have hcz30_1 := cl_ (v := .int .i64 0) BK114 1; have hcz30_2 := cl_ (v := .int .i64 0) BK114 2; have hcz30_3 := cl_ (v := .bool false) BK114 3; have hcz30_4 := cl_ (v := .int .i64 0) BK114 4; have hcz30_5 := cl_ (v := .string (⟨#[]⟩ : ByteArray)) BK114 5; have hcz30_6 := cl_ (v := .int .i64 0) BK114 6; have hcz30_7 := cl_ (v := .slice none 0 0) BK114 7; have hfz30_0 := blk_frozen BK114.out 0; have hfz30_1 := blk_frozen BK114.out 1; have hfz30_2 := blk_frozen BK114.out 2; have hfz30_3 := blk_frozen BK114.out 3; have hfz30_4 := blk_frozen BK114.out 4; have hfz30_5 := blk_frozen BK114.out 5; have hfz30_6 := blk_frozen BK114.out 6; have hfz30_7 := blk_frozen BK114.out 7; have hcz31_0 := cl_ (v := .int .i64 a0_0) BK111 0; have hcz31_1 := cl_ (v := .slice (some ad113) l0_1.length c0_1) BK111 1; have hfz31_0 := blk_frozen BK111.out 0; have hfz31_1 := blk_frozen BK111.out 1) | ((with_reducible refine gate_callee (f := 26) rfl ?_); refine gl_ 32 Try.func26 #[.int .i64 ((rd_T58 l0_1 x3_2).f0), .int .i64 0, .int .i64 (wrap64 (a0_0 - 1))] (h := ?_); (with_reducible refine (spec_l01Between.calls ((rd_T58 l0_1 x3_2).f0) 0 (wrap64 (a0_0 - 1)) true _ A11.out).mono ?_); rintro e w' ⟨rfl, ⟨nd, rfl⟩⟩; refine ⟨_, rfl, ?_⟩) | (go_at_call 26; (with_reducible refine (spec_l01Between.calls ((rd_T58 l0_1 x3_2).f1) 0 (wrap64 (a0_0 - 1)) false _ A13.out).mono ?_); rintro e w' ⟨rfl, ⟨nd, rfl⟩⟩))
          go_ret
          exact ⟨by first | rfl | (simp [errW_none, errW_some] <;> rfl) | (simp [*, errW_none, errW_some] <;> rfl), sq_below1 HB.out GE114.out⟩
        ·
         replace c12 := Bool.eq_false_iff.mpr c12; subst c12; have H1 := ifn_ H
         clear H; have H := H1; clear H1; obtain rfl := Option.some.inj H; have hcz32_0 := cl_ (v := .int .i64 a0_0) BK111 0; have hcz32_1 := cl_ (v := .slice A0_1 l0_1.length c0_1) BK111 1; have hfz32_0 := blk_frozen BK111.out 0; have hfz32_1 := blk_frozen BK111.out 1; have p113 : 0 ≤ (x3_2 : Int) := sq_dec; have q113 : x3_2 < (l0_1.length : Int) := sq_dec; obtain ⟨ad113, A113_7, c113_7, e113, hx113_0, hx113_1, hx113_2, hx113_3, hx113_4, hx113_5, hx113_6, hx113_7, hl113_7, hi113_7⟩ := at_T58 HR0_1.out x3_2 p113 q113; cases e113; replace hx113_0 := (HB.out.cell (World.block_lt_of_cell? w _ hx113_0)).trans hx113_0; replace hx113_1 := (HB.out.cell (World.block_lt_of_cell? w _ hx113_1)).trans hx113_1; replace hx113_2 := (HB.out.cell (World.block_lt_of_cell? w _ hx113_2)).trans hx113_2; replace hx113_3 := (HB.out.cell (World.block_lt_of_cell? w _ hx113_3)).trans hx113_3; replace hx113_4 := (HB.out.cell (World.block_lt_of_cell? w _ hx113_4)).trans hx113_4; replace hx113_5 := (HB.out.cell (World.block_lt_of_cell? w _ hx113_5)).trans hx113_5; replace hx113_6 := (HB.out.cell (World.block_lt_of_cell? w _ hx113_6)).trans hx113_6; replace hx113_7 := (HB.out.cell (World.block_lt_of_cell? w _ hx113_7)).trans hx113_7; have HR113_7 := Aside0.mk hi113_7; have HC113_7 := Aside0.mk hl113_7; clear hi113_7 hl113_7; replace p113 := eq_true p113; replace q113 := eq_true q113
         go_wp2_with (first | ((with_reducible refine gate_dst (N := 4) rfl ?_); (try (refine gate_guard (by rfl) ?_; dsimp only)); refine box_event ?hg (N := 4) ?hd (cs := #[.int .i64 0, .int .i64 0, .int .i64 0, .bool false, .int .i64 0, .string (⟨#[]⟩ : ByteArray), .int .i64 0, .slice none 0 0]) (t := 58) ?hr ?_; (case hd => rfl); (case hg => rfl); (case hr => first | (go_simp; done) | (go_simp; rfl)); intro gb114 hg w33 hbox hb; have n0_ := Aside0.mk (blk_below (sq_blk BK111.out) hb); have n1_ := Aside0.mk (below_step (sq_below1 HB.out GE111.out) hb); have n2_ := Aside0.mk (hbox); have n3_ := ge_ hg (below_size (sq_below1 HB.out GE111.out)); have n4_ := ge_ hg (below_size (sq_below1 HB.out GE111.out)); have n5_ := nb_ hg BK111; have n6_ := Aside0.mk (Ne.symm n5_.out); clear BK111; clear HB; have BK111 := n0_; have HB := n1_; have BK114 := n2_; have GW114 := n3_; have GE114 := n4_; have NB111_114 := n5_; have NB114_111 := n6_; clear n0_ n1_ n2_ n3_ n4_ n5_ n6_; clear hb hbox hg; have hnb34 := NB114_111.out; have hnc34 := NB111_114.out; have hcz35_0 := cl_ (v := .int .i64 0) BK114 0; have hcz35_1 := cl_ (v := .int .i64 0) BK114 1; have hcz35_2 := cl_ (v := .int .i64 0) BK114 2; have hcz35_3 := cl_ (v := .bool false) BK114 3; have hcz35_4 := cl_ (v := .int .i64 0) BK114 4; have hcz35_5 := cl_ (v := .string (⟨#[]⟩ : ByteArray)) BK114 5; have hcz35_6 := cl_ (v := .int .i64 0) BK114 6; have hcz35_7 := cl_ (v := .slice none 0 0) BK114 7; have hfz35_0 := blk_frozen BK114.out 0; have hfz35_1 := blk_frozen BK114.out 1; have hfz35_2 := blk_frozen BK114.out 2; have hfz35_3 := blk_frozen BK114.out 3; have hfz35_4 := blk_frozen BK114.out 4; have hfz35_5 := blk_frozen BK114.out 5; have hfz35_6 := blk_frozen BK114.out 6; have hfz35_7 := blk_frozen BK114.out 7; have hcz36_0 := cl_ (v := .int .i64 a0_0) BK111 0; have hcz36_1 := cl_ (v := .slice (some ad113) l0_1.length c0_1) BK111 1; have hfz36_0 := blk_frozen BK111.out 0; have hfz36_1 := blk_frozen BK111.out 1) | ((with_reducible refine gate_callee (f := 26) rfl ?_); refine gl_ 32 Try.func26 #[.int .i64 ((rd_T58 l0_1 x3_2).f0), .int .i64 0, .int .i64 (wrap64 (a0_0 - 1))] (h := ?_); (with_reducible refine (spec_l01Between.calls ((rd_T58 l0_1 x3_2).f0) 0 (wrap64 (a0_0 - 1)) false _ A11.out).mono ?_); rintro e w' ⟨rfl, ⟨nd, rfl⟩⟩; refine ⟨_, rfl, ?_⟩))
         go_ret
         exact ⟨by first | rfl | (simp [errW_none, errW_some] <;> rfl) | (simp [*, errW_none, errW_some] <;> rfl), sq_below1 HB.out GE114.out⟩
       ·
        rw [if_neg c10] at H; exact absurd H (by simp)
      ·
       rw [if_neg c9] at H; have c9b0 : decide (x3_2 < (l0_1.length : Int)) = false := decide_eq_false c9; clear c9; obtain rfl := Option.some.inj H; have hcz37_0 := cl_ (v := .int .i64 a0_0) BK111 0; have hcz37_1 := cl_ (v := .slice A0_1 l0_1.length c0_1) BK111 1; have hfz37_0 := blk_frozen BK111.out 0; have hfz37_1 := blk_frozen BK111.out 1
       go_wp2
       go_ret
       exact ⟨by first | rfl | (simp [errW_none, errW_some] <;> rfl) | (simp [*, errW_none, errW_some] <;> rfl), sq_below1 HB.out GE111.out⟩

end Go.Proofs.Ytmdebfbkehnocaa.Q
