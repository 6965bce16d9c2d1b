/- Functions of the translation as Lean functions, each with a proof that a call answers so; out of the seat, by this claim's own program prt.py. -/
import Derived.Test.YtfeloencepgdlaaGreatDoorWRepsOne
import Derived.Test.YtfeloencepgdlaaGreatDoorQx0
import Derived.Test.YtfeloencepgdlaaGreatDoorQx13
import Derived.Test.YtfeloencepgdlaaGreatDoorQx14
import Derived.Test.YtfeloencepgdlaaGreatDoorQStep
namespace Go.Proofs.YtfeloencepgdlaaGreatDoor.Q
open Go.RowKit Go.Proofs.YtfeloencepgdlaaGreatDoorW.PrintWords Go.Proofs.YtfeloencepgdlaaGreatDoorW.PrintLast Go.Proofs.YtfeloencepgdlaaGreatDoorW.PrintMore
attribute [local go_sem] max2_int min2_int max_two min_two max_three min_three max_four min_four   -- for this text's walks alone
set_option linter.unusedVariables false
set_option linter.unusedSimpArgs false

/-! ### spec_l10Text: function 17 -/
mutual
def spec_l10Text.l0 : Nat → List ByteArray → ByteArray → Int → List (List (S59)) → List (S66) → List Bool → Option (ByteArray)
 | 0, _, _, _, _, _, _ => none
 | k + 1, x1, x5, x6, x191000, x191001, x191002 => if x6 < (x191000.length : Int) then (if x6 > 0 then (if x5.size + 1 ≤ 9223372036854775807 then (if 0 ≤ (wrap64 (x6 - 1)) then (if (wrap64 (x6 - 1)) < (x191001.length : Int) then ((spec_ValText.f k ((rd_T66 x191001 (wrap64 (x6 - 1))).f0.f0) ((rd_T66 x191001 (wrap64 (x6 - 1))).f0.f1) ((rd_T66 x191001 (wrap64 (x6 - 1))).f1)).bind fun t192 => (if x5.size + 1 + t192.size ≤ 9223372036854775807 then (if x5.size + 1 + t192.size + 1 ≤ 9223372036854775807 then (if (wrap64 (x6 - 1)) < (x191002.length : Int) then (if rdOf false x191002 (wrap64 (x6 - 1)) = true then (if x5.size + 1 + t192.size + 1 + 2 ≤ 9223372036854775807 then (spec_l10Text.j1 k x1 ((((x5 ++ (⟨#[32]⟩ : ByteArray)) ++ t192) ++ (⟨#[32]⟩ : ByteArray)) ++ (⟨#[63, 32]⟩ : ByteArray)) x6 x191000 x191001 x191002) else (none)) else (spec_l10Text.j1 k x1 (((x5 ++ (⟨#[32]⟩ : ByteArray)) ++ t192) ++ (⟨#[32]⟩ : ByteArray)) x6 x191000 x191001 x191002)) else (none)) else (none)) else (none))) else (none)) else (none)) else (none)) else (spec_l10Text.j1 k x1 x5 x6 x191000 x191001 x191002)) else (some x5)
def spec_l10Text.j1 : Nat → List ByteArray → ByteArray → Int → List (List (S59)) → List (S66) → List Bool → Option (ByteArray)
 | 0, _, _, _, _, _, _ => none
 | k + 1, x1, x5, x6, x191000, x191001, x191002 => if x5.size + 1 ≤ 9223372036854775807 then (spec_l10Text.l1 k x1 (x5 ++ (⟨#[123]⟩ : ByteArray)) x6 0 x191000 x191001 x191002) else (none)
def spec_l10Text.l1 : Nat → List ByteArray → ByteArray → Int → Int → List (List (S59)) → List (S66) → List Bool → Option (ByteArray)
 | 0, _, _, _, _, _, _, _ => none
 | k + 1, x1, x5, x6, x7, x191000, x191001, x191002 => if 0 ≤ x6 then (if x6 < (x191000.length : Int) then (if x7 < ((rd_L8 x191000 x6).length : Int) then (if x7 > 0 then (if x5.size + 2 ≤ 9223372036854775807 then (if 0 ≤ x7 then ((spec_SymText.f k ((rd_T59 (rd_L8 x191000 x6) x7).f0) ((rd_T59 (rd_L8 x191000 x6) x7).f1) x1).bind fun t197 => (if x5.size + 2 + t197.size ≤ 9223372036854775807 then (spec_l10Text.l1 k x1 ((x5 ++ (⟨#[44, 32]⟩ : ByteArray)) ++ t197) x6 (wrap64 (x7 + 1)) x191000 x191001 x191002) else (none))) else (none)) else (none)) else (if 0 ≤ x7 then ((spec_SymText.f k ((rd_T59 (rd_L8 x191000 x6) x7).f0) ((rd_T59 (rd_L8 x191000 x6) x7).f1) x1).bind fun t200 => (if x5.size + t200.size ≤ 9223372036854775807 then (spec_l10Text.l1 k x1 (x5 ++ t200) x6 (wrap64 (x7 + 1)) x191000 x191001 x191002) else (none))) else (none))) else (if x5.size + 1 ≤ 9223372036854775807 then (spec_l10Text.l0 k x1 (x5 ++ (⟨#[125]⟩ : ByteArray)) (wrap64 (x6 + 1)) x191000 x191001 x191002) else (none))) else (none)) else (none)
end
def spec_l10Text.f (k : Nat) (l0_0 : List (List (S59))) (l0_1 : List (S66)) (l0_2 : List Bool) (l1 : List ByteArray) : Option (ByteArray) := spec_l10Text.l0 k l1 (⟨#[]⟩ : ByteArray) 0 l0_0 l0_1 l0_2
theorem spec_l10Text.mono_l : ∀ k, (∀ y0 y1 y2 y3 y4 y5, LeO (spec_l10Text.l0 k y0 y1 y2 y3 y4 y5) (spec_l10Text.l0 (k + 1) y0 y1 y2 y3 y4 y5)) ∧ (∀ y0 y1 y2 y3 y4 y5, LeO (spec_l10Text.j1 k y0 y1 y2 y3 y4 y5) (spec_l10Text.j1 (k + 1) y0 y1 y2 y3 y4 y5)) ∧ (∀ y0 y1 y2 y3 y4 y5 y6, LeO (spec_l10Text.l1 k y0 y1 y2 y3 y4 y5 y6) (spec_l10Text.l1 (k + 1) y0 y1 y2 y3 y4 y5 y6))
 | 0 => ⟨fun _ _ _ _ _ _ r h => by simp [spec_l10Text.l0] at h, fun _ _ _ _ _ _ r h => by simp [spec_l10Text.j1] at h, fun _ _ _ _ _ _ _ r h => by simp [spec_l10Text.l1] at h⟩
 | k + 1 => by
  obtain ⟨ih0, ih1, ih2⟩ := spec_l10Text.mono_l k; refine ⟨?_, ?_, ?_⟩
  ·
   intro y0 y1 y2 y3 y4 y5; unfold spec_l10Text.l0
   repeat' first
   | (with_reducible exact ih0 _ _ _ _ _ _)
   | (with_reducible exact ih1 _ _ _ _ _ _)
   | (with_reducible exact ih2 _ _ _ _ _ _ _)
   | (with_reducible exact spec_SymText.mono _ _ _ _)
   | (with_reducible exact spec_ValText.mono _ _ _ _)
   | (with_reducible exact LeO.refl _)
   | (with_reducible exact LeO.none _)
   | (with_reducible refine LeO.ite ?_ ?_)
   | (with_reducible refine LeO.bind ?_ (fun _ => ?_))
   | exact ih0 _ _ _ _ _ _
   | exact ih1 _ _ _ _ _ _
   | exact ih2 _ _ _ _ _ _ _
   | exact spec_SymText.mono _ _ _ _
   | exact spec_ValText.mono _ _ _ _
   | exact LeO.none _
   | refine LeO.ite ?_ ?_
   | refine LeO.bind ?_ (fun _ => ?_)
  ·
   intro y0 y1 y2 y3 y4 y5; unfold spec_l10Text.j1
   repeat' first
   | (with_reducible exact ih0 _ _ _ _ _ _)
   | (with_reducible exact ih1 _ _ _ _ _ _)
   | (with_reducible exact ih2 _ _ _ _ _ _ _)
   | (with_reducible exact spec_SymText.mono _ _ _ _)
   | (with_reducible exact spec_ValText.mono _ _ _ _)
   | (with_reducible exact LeO.refl _)
   | (with_reducible exact LeO.none _)
   | (with_reducible refine LeO.ite ?_ ?_)
   | (with_reducible refine LeO.bind ?_ (fun _ => ?_))
   | exact ih0 _ _ _ _ _ _
   | exact ih1 _ _ _ _ _ _
   | exact ih2 _ _ _ _ _ _ _
   | exact spec_SymText.mono _ _ _ _
   | exact spec_ValText.mono _ _ _ _
   | exact LeO.none _
   | refine LeO.ite ?_ ?_
   | refine LeO.bind ?_ (fun _ => ?_)
  ·
   intro y0 y1 y2 y3 y4 y5 y6; unfold spec_l10Text.l1
   repeat' first
   | (with_reducible exact ih0 _ _ _ _ _ _)
   | (with_reducible exact ih1 _ _ _ _ _ _)
   | (with_reducible exact ih2 _ _ _ _ _ _ _)
   | (with_reducible exact spec_SymText.mono _ _ _ _)
   | (with_reducible exact spec_ValText.mono _ _ _ _)
   | (with_reducible exact LeO.refl _)
   | (with_reducible exact LeO.none _)
   | (with_reducible refine LeO.ite ?_ ?_)
   | (with_reducible refine LeO.bind ?_ (fun _ => ?_))
   | exact ih0 _ _ _ _ _ _
   | exact ih1 _ _ _ _ _ _
   | exact ih2 _ _ _ _ _ _ _
   | exact spec_SymText.mono _ _ _ _
   | exact spec_ValText.mono _ _ _ _
   | exact LeO.none _
   | refine LeO.ite ?_ ?_
   | refine LeO.bind ?_ (fun _ => ?_)
theorem spec_l10Text.mono : ∀ a0 a1 a2 a3 k, LeO (spec_l10Text.f k a0 a1 a2 a3) (spec_l10Text.f (k + 1) a0 a1 a2 a3) := by
 intro a0 a1 a2 a3 k; obtain ⟨ih0, ih1, ih2⟩ := spec_l10Text.mono_l k; unfold spec_l10Text.f
 repeat' first
   | (with_reducible exact ih0 _ _ _ _ _ _)
   | (with_reducible exact ih1 _ _ _ _ _ _)
   | (with_reducible exact ih2 _ _ _ _ _ _ _)
   | (with_reducible exact spec_SymText.mono _ _ _ _)
   | (with_reducible exact spec_ValText.mono _ _ _ _)
   | (with_reducible exact LeO.refl _)
   | (with_reducible exact LeO.none _)
   | (with_reducible refine LeO.ite ?_ ?_)
   | (with_reducible refine LeO.bind ?_ (fun _ => ?_))
   | exact ih0 _ _ _ _ _ _
   | exact ih1 _ _ _ _ _ _
   | exact ih2 _ _ _ _ _ _ _
   | exact spec_SymText.mono _ _ _ _
   | exact spec_ValText.mono _ _ _ _
   | exact LeO.none _
   | refine LeO.ite ?_ ?_
   | refine LeO.bind ?_ (fun _ => ?_)
set_option maxHeartbeats 8000000 in
set_option maxRecDepth 100000 in
theorem spec_l10Text.calls (k : Nat) (A0_0 : Option Addr) (c0_0 : Nat) (l0_0 : List (List (S59))) (A0_1 : Option Addr) (c0_1 : Nat) (l0_1 : List (S66)) (A0_2 : Option Addr) (c0_2 : Nat) (l0_2 : List Bool) (A1 : Option Addr) (c1 : Nat) (l1 : List ByteArray) (r : ByteArray) (w : World) (hr0_0 : Kd.C (Kd.slice 59 k59) w A0_0 l0_0.length l0_0) (hc0_0 : l0_0.length ≤ c0_0) (hr0_1 : Kd.C k66 w A0_1 l0_1.length l0_1) (hc0_1 : l0_1.length ≤ c0_1) (hr0_2 : Kd.C Kd.bool w A0_2 l0_2.length l0_2) (hc0_2 : l0_2.length ≤ c0_2) (hr1 : Kd.C Kd.string w A1 l1.length l1) (hc1 : l1.length ≤ c1) (h : spec_l10Text.f k l0_0 l0_1 l0_2 l1 = some r) :
  Calls Tryz.prog 17 #[.agg #[.slice A0_0 l0_0.length c0_0, .slice A0_1 l0_1.length c0_1, .slice A0_2 l0_2.length c0_2], .slice A1 l1.length c1] w fun e w' => e = .returned (.string r) ∧ Below w.heap.size w w' := by
 have hu34 := Tryz.underlying34; have hu66 := Tryz.underlying66; have hu59 := Tryz.underlying59; have HR0_0 := Aside0.mk hr0_0; have HC0_0 := Aside0.mk hc0_0; clear hr0_0 hc0_0; have HR0_1 := Aside0.mk hr0_1; have HC0_1 := Aside0.mk hc0_1; clear hr0_1 hc0_1; have HR0_2 := Aside0.mk hr0_2; have HC0_2 := Aside0.mk hc0_2; clear hr0_2 hc0_2; have HR1 := Aside0.mk hr1; have HC1 := Aside0.mk hc1; clear hr1 hc1; have HB := Aside0.mk (Below.refl w.heap.size w); have H : (spec_l10Text.l0 k l1 (⟨#[]⟩ : ByteArray) 0 l0_0 l0_1 l0_2) = some r := h; clear h; have H' := Aside0.mk H; clear H
 go_enter Tryz.func17, Tryz.ntmps17
 go_wp2_with (first | ((with_reducible refine gate_dst (N := 2) rfl ?_); refine box_y 2 #[.slice A0_0 l0_0.length c0_0, .slice A0_1 l0_1.length c0_1, .slice A0_2 l0_2.length c0_2] 34 (h := ?_); intro gb190 hg w3 hbox hb; have n0_ := Aside0.mk (below_step (sq_below HB.out) hb); have n1_ := Aside0.mk (hbox); have n2_ := ge_ hg (below_size (sq_below HB.out)); have n3_ := ge_ hg (below_size (sq_below HB.out)); clear HB; have HB := n0_; have BK190 := n1_; have GW190 := n2_; have GE190 := n3_; clear n0_ n1_ n2_ n3_; clear hb hbox hg))
 go_loopg [5, 6] k (fun kq v5 v6 w' => ∃ (x5_1 : ByteArray) (x6_1 : Int), v5 = .string x5_1 ∧ v6 = .int .i64 x6_1 ∧ Aside0 (spec_l10Text.l0 kq l1 x5_1 x6_1 l0_0 l0_1 l0_2 = some r) ∧ Aside0 (kq ≤ k) ∧ Aside0 (w'.heap[gb190]? = some (.cells #[(.slice A0_0 l0_0.length c0_0), (.slice A0_1 l0_1.length c0_1), (.slice A0_2 l0_2.length c0_2)] 34 (0, 0))) ∧ Aside0 (Below w.heap.size w w'))
 case atStart => exact ⟨((⟨#[]⟩ : ByteArray)), (0), (by first | rfl | (simp; done) | (simp [*]; done)), (by first | rfl | (simp; done) | (simp [*]; done)), H', ⟨Nat.le_refl _⟩, bk_ BK190, ⟨sq_below1 HB.out GE190.out⟩⟩
 case round =>
  clear H'
  try clear c1
  try clear p2
  obtain ⟨x5_1, x6_1, rfl, rfl, HA, HK1, BK190, HB⟩ := hrel; cases gk with
  | zero => exact absurd HA.out (by simp [spec_l10Text.l0])
  | succ k1 =>
   have H := HA.out; clear HA; simp only [spec_l10Text.l0] at H
   by_cases c4 : x6_1 < (l0_0.length : Int)
   ·
    rw [if_pos c4] at H; have c4b0 : decide (x6_1 < (l0_0.length : Int)) = true := decide_eq_true c4; clear c4; have HC5 := Aside0.mk H; clear H; have hcz6_0 := cl_ (v := .slice A0_0 l0_0.length c0_0) BK190 0; have hcz6_1 := cl_ (v := .slice A0_1 l0_1.length c0_1) BK190 1; have hcz6_2 := cl_ (v := .slice A0_2 l0_2.length c0_2) BK190 2; have hfz6_0 := blk_frozen BK190.out 0; have hfz6_1 := blk_frozen BK190.out 1; have hfz6_2 := blk_frozen BK190.out 2
    go_upto_if 16 with (fail)
    go_cut [5] (fun v5 wc => ∃ (kq : Nat) (x5_4 : ByteArray), v5 = .string x5_4 ∧ Aside0 (spec_l10Text.j1 kq l1 x5_4 x6_1 l0_0 l0_1 l0_2 = some r) ∧ Aside0 (kq ≤ k1) ∧ Aside0 (wc.heap[gb190]? = some (.cells #[(.slice A0_0 l0_0.length c0_0), (.slice A0_1 l0_1.length c0_1), (.slice A0_2 l0_2.length c0_2)] 34 (0, 0))) ∧ Aside0 (Below w.heap.size w wc))
    case first =>
     have H := HC5.out; clear HC5
     by_cases c7 : x6_1 > 0
     ·
      rw [if_pos c7] at H; have c7b0 : decide (0 < x6_1) = true := decide_eq_true c7; clear c7
      (first | rw [c7b0] | (simp only [i64_w, i32_w]; rw [c7b0]) | skip)
      by_cases c8 : x5_1.size + 1 ≤ 9223372036854775807
      ·
       rw [if_pos c8] at H; have c8b0 := eq_true c8; have c8b1 : decide (x5_1.size + 1 ≤ 9223372036854775807) = true := decide_eq_true c8
       try have c8b2 : (9223372036854775807 < x5_1.size + 1) = False := eq_false (Nat.not_lt.2 c8)
       obtain ⟨ji9, hji9⟩ : ∃ j_ : Int, (wrap64 (x6_1 - 1)) = j_ := ⟨_, rfl⟩; replace H : (if 0 ≤ (ji9) then (if (ji9) < (l0_1.length : Int) then ((spec_ValText.f k1 ((rd_T66 l0_1 (ji9)).f0.f0) ((rd_T66 l0_1 (ji9)).f0.f1) ((rd_T66 l0_1 (ji9)).f1)).bind fun t192 => (if x5_1.size + 1 + t192.size ≤ 9223372036854775807 then (if x5_1.size + 1 + t192.size + 1 ≤ 9223372036854775807 then (if (ji9) < (l0_2.length : Int) then (if rdOf false l0_2 (ji9) = true then (if x5_1.size + 1 + t192.size + 1 + 2 ≤ 9223372036854775807 then (spec_l10Text.j1 k1 l1 ((((x5_1 ++ (⟨#[32]⟩ : ByteArray)) ++ t192) ++ (⟨#[32]⟩ : ByteArray)) ++ (⟨#[63, 32]⟩ : ByteArray)) x6_1 l0_0 l0_1 l0_2) else (none)) else (spec_l10Text.j1 k1 l1 (((x5_1 ++ (⟨#[32]⟩ : ByteArray)) ++ t192) ++ (⟨#[32]⟩ : ByteArray)) x6_1 l0_0 l0_1 l0_2)) else (none)) else (none)) else (none))) else (none)) else (none)) = some r := by first | (rw [hji9] at H; exact H) | (simp only [hji9] at H ⊢; exact H)
       have hji9w : (IntKind.i64.wrap (x6_1 - 1)) = ji9 := (i64_w _).trans hji9
       by_cases c10 : 0 ≤ (ji9)
       ·
        rw [if_pos c10] at H; have c10b0 : decide (0 ≤ (ji9)) = true := decide_eq_true c10; clear c10
        by_cases c11 : (ji9) < (l0_1.length : Int)
        ·
         rw [if_pos c11] at H; have c11b0 : decide ((ji9) < (l0_1.length : Int)) = true := decide_eq_true c11; clear c11; replace H := Option.bind_eq_some_iff.mp H; obtain ⟨t192, A120, H⟩ := H; (try dsimp only at H); have A12 := Aside0.mk A120; clear A120
         by_cases c13 : x5_1.size + 1 + t192.size ≤ 9223372036854775807
         ·
          rw [if_pos c13] at H; have c13b0 := eq_true c13; have c13b1 : decide (x5_1.size + 1 + t192.size ≤ 9223372036854775807) = true := decide_eq_true c13
          try have c13b2 : (9223372036854775807 < x5_1.size + 1 + t192.size) = False := eq_false (Nat.not_lt.2 c13)
          by_cases c14 : x5_1.size + 1 + t192.size + 1 ≤ 9223372036854775807
          ·
           rw [if_pos c14] at H; have c14b0 := eq_true c14; have c14b1 : decide (x5_1.size + 1 + t192.size + 1 ≤ 9223372036854775807) = true := decide_eq_true c14
           try have c14b2 : (9223372036854775807 < x5_1.size + 1 + t192.size + 1) = False := eq_false (Nat.not_lt.2 c14)
           by_cases c15 : (ji9) < (l0_2.length : Int)
           ·
            rw [if_pos c15] at H; have c15b0 : decide ((ji9) < (l0_2.length : Int)) = true := decide_eq_true c15; clear c15; obtain ⟨bq16, hbq16⟩ : ∃ b_ : Bool, b_ = (rdOf false l0_2 (ji9)) := ⟨_, rfl⟩; replace H : (if bq16 = true then (if x5_1.size + 1 + t192.size + 1 + 2 ≤ 9223372036854775807 then (spec_l10Text.j1 k1 l1 ((((x5_1 ++ (⟨#[32]⟩ : ByteArray)) ++ t192) ++ (⟨#[32]⟩ : ByteArray)) ++ (⟨#[63, 32]⟩ : ByteArray)) x6_1 l0_0 l0_1 l0_2) else (none)) else (spec_l10Text.j1 k1 l1 (((x5_1 ++ (⟨#[32]⟩ : ByteArray)) ++ t192) ++ (⟨#[32]⟩ : ByteArray)) x6_1 l0_0 l0_1 l0_2)) = some r := by rw [← hbq16] at H; exact H
            have Nbq16 := Aside0.mk hbq16; clear hbq16
            by_cases c17 : bq16 = true
            ·
             subst c17; have H1 := ifp_ H
             clear H; have H := H1; clear H1
             by_cases c18 : x5_1.size + 1 + t192.size + 1 + 2 ≤ 9223372036854775807
             ·
              rw [if_pos c18] at H; have c18b0 := eq_true c18; have c18b1 : decide (x5_1.size + 1 + t192.size + 1 + 2 ≤ 9223372036854775807) = true := decide_eq_true c18
              try have c18b2 : (9223372036854775807 < x5_1.size + 1 + t192.size + 1 + 2) = False := eq_false (Nat.not_lt.2 c18)
              have H' := Aside0.mk H; clear H; have hcz19_0 := cl_ (v := .slice A0_0 l0_0.length c0_0) BK190 0; have hcz19_1 := cl_ (v := .slice A0_1 l0_1.length c0_1) BK190 1; have hcz19_2 := cl_ (v := .slice A0_2 l0_2.length c0_2) BK190 2; have hfz19_0 := blk_frozen BK190.out 0; have hfz19_1 := blk_frozen BK190.out 1; have hfz19_2 := blk_frozen BK190.out 2; have p191 : 0 ≤ ((ji9) : Int) := sq_dec; have q191 : (ji9) < (l0_1.length : Int) := sq_dec; obtain ⟨ad191, e191, hx191_0, hx191_1, hx191_2⟩ := at_T66 HR0_1.out (ji9) p191 q191
              (try rw [← Nbq16.out] at hx191_2)
              cases e191; replace hx191_0 := (HB.out.cell (World.block_lt_of_cell? w _ hx191_0)).trans hx191_0; replace hx191_1 := (HB.out.cell (World.block_lt_of_cell? w _ hx191_1)).trans hx191_1; replace hx191_2 := (HB.out.cell (World.block_lt_of_cell? w _ hx191_2)).trans hx191_2; replace p191 := eq_true p191; replace q191 := eq_true q191
              go_wp2_with (first | ((with_reducible refine gate_callee (f := 34) rfl ?_); refine goesL_ (some 25) rfl rfl Tryz.func34 (by kernel_rfl) rfl #[.agg #[.int .i64 ((rd_T66 l0_1 (ji9)).f0.f0), .int .i64 ((rd_T66 l0_1 (ji9)).f0.f1), .bool ((rd_T66 l0_1 (ji9)).f1)]] rfl (by (try simp only [List.map_toArray, List.map_cons, List.map_nil]); first | done | (simp only [hji9]; rfl) | rfl | (simp only [List.length_drop, List.length_take]; rfl)) ?_; (with_reducible refine (spec_ValText.calls k1 ((rd_T66 l0_1 (ji9)).f0.f0) ((rd_T66 l0_1 (ji9)).f0.f1) ((rd_T66 l0_1 (ji9)).f1) t192 _ A12.out).mono ?_); rintro e w20 ⟨rfl, hb⟩; refine ⟨_, rfl, ?_⟩; replace BK190 := bb_ BK190 hb; replace HB := hb1_ HB hb GE190; (try clear hb); have hcz21_0 := cl_ (v := .slice A0_0 l0_0.length c0_0) BK190 0; have hcz21_1 := cl_ (v := .slice (some ad191) l0_1.length c0_1) BK190 1; have hcz21_2 := cl_ (v := .slice A0_2 l0_2.length c0_2) BK190 2; have hfz21_0 := blk_frozen BK190.out 0; have hfz21_1 := blk_frozen BK190.out 1; have hfz21_2 := blk_frozen BK190.out 2; have p193 : 0 ≤ ((ji9) : Int) := sq_dec; have q193 : (ji9) < (l0_2.length : Int) := sq_dec; obtain ⟨ad193, e193, hx193_0⟩ := Kd.at_bool HR0_2.out (ji9) p193 q193; (try rw [← Nbq16.out] at hx193_0); cases e193; replace hx193_0 := (HB.out.cell (World.block_lt_of_cell? w _ hx193_0)).trans hx193_0; replace p193 := eq_true p193; replace q193 := eq_true q193))
              go_meet
              case rel => exact ⟨_, ((((x5_1 ++ (⟨#[32]⟩ : ByteArray)) ++ t192) ++ (⟨#[32]⟩ : ByteArray)) ++ (⟨#[63, 32]⟩ : ByteArray)), (by first | rfl | (simp; done) | (simp [*]; done)), (by first | exact H' | (rw [hji9]; exact H')), ⟨by have := HK1.out; first | omega | exact Nat.le_refl _⟩, bk_ BK190, ⟨sq_below1 HB.out GE190.out⟩⟩
             ·
              rw [if_neg c18] at H; exact absurd H (by simp)
            ·
             replace c17 := Bool.eq_false_iff.mpr c17; subst c17; have H1 := ifn_ H
             clear H; have H := H1; clear H1; have H' := Aside0.mk H; clear H; have hcz22_0 := cl_ (v := .slice A0_0 l0_0.length c0_0) BK190 0; have hcz22_1 := cl_ (v := .slice A0_1 l0_1.length c0_1) BK190 1; have hcz22_2 := cl_ (v := .slice A0_2 l0_2.length c0_2) BK190 2; have hfz22_0 := blk_frozen BK190.out 0; have hfz22_1 := blk_frozen BK190.out 1; have hfz22_2 := blk_frozen BK190.out 2; have p191 : 0 ≤ ((ji9) : Int) := sq_dec; have q191 : (ji9) < (l0_1.length : Int) := sq_dec; obtain ⟨ad191, e191, hx191_0, hx191_1, hx191_2⟩ := at_T66 HR0_1.out (ji9) p191 q191
             (try rw [← Nbq16.out] at hx191_2)
             cases e191; replace hx191_0 := (HB.out.cell (World.block_lt_of_cell? w _ hx191_0)).trans hx191_0; replace hx191_1 := (HB.out.cell (World.block_lt_of_cell? w _ hx191_1)).trans hx191_1; replace hx191_2 := (HB.out.cell (World.block_lt_of_cell? w _ hx191_2)).trans hx191_2; replace p191 := eq_true p191; replace q191 := eq_true q191
             go_wp2_with (first | ((with_reducible refine gate_callee (f := 34) rfl ?_); refine goesL_ (some 25) rfl rfl Tryz.func34 (by kernel_rfl) rfl #[.agg #[.int .i64 ((rd_T66 l0_1 (ji9)).f0.f0), .int .i64 ((rd_T66 l0_1 (ji9)).f0.f1), .bool ((rd_T66 l0_1 (ji9)).f1)]] rfl (by (try simp only [List.map_toArray, List.map_cons, List.map_nil]); first | done | (simp only [hji9]; rfl) | rfl | (simp only [List.length_drop, List.length_take]; rfl)) ?_; (with_reducible refine (spec_ValText.calls k1 ((rd_T66 l0_1 (ji9)).f0.f0) ((rd_T66 l0_1 (ji9)).f0.f1) ((rd_T66 l0_1 (ji9)).f1) t192 _ A12.out).mono ?_); rintro e w23 ⟨rfl, hb⟩; refine ⟨_, rfl, ?_⟩; replace BK190 := bb_ BK190 hb; replace HB := hb1_ HB hb GE190; (try clear hb); have hcz24_0 := cl_ (v := .slice A0_0 l0_0.length c0_0) BK190 0; have hcz24_1 := cl_ (v := .slice (some ad191) l0_1.length c0_1) BK190 1; have hcz24_2 := cl_ (v := .slice A0_2 l0_2.length c0_2) BK190 2; have hfz24_0 := blk_frozen BK190.out 0; have hfz24_1 := blk_frozen BK190.out 1; have hfz24_2 := blk_frozen BK190.out 2; have p193 : 0 ≤ ((ji9) : Int) := sq_dec; have q193 : (ji9) < (l0_2.length : Int) := sq_dec; obtain ⟨ad193, e193, hx193_0⟩ := Kd.at_bool HR0_2.out (ji9) p193 q193; (try rw [← Nbq16.out] at hx193_0); cases e193; replace hx193_0 := (HB.out.cell (World.block_lt_of_cell? w _ hx193_0)).trans hx193_0; replace p193 := eq_true p193; replace q193 := eq_true q193))
             go_meet
             case rel => exact ⟨_, (((x5_1 ++ (⟨#[32]⟩ : ByteArray)) ++ t192) ++ (⟨#[32]⟩ : ByteArray)), (by first | rfl | (simp; done) | (simp [*]; done)), (by first | exact H' | (rw [hji9]; exact H')), ⟨by have := HK1.out; first | omega | exact Nat.le_refl _⟩, bk_ BK190, ⟨sq_below1 HB.out GE190.out⟩⟩
           ·
            rw [if_neg c15] at H; exact absurd H (by simp)
          ·
           rw [if_neg c14] at H; exact absurd H (by simp)
         ·
          rw [if_neg c13] at H; exact absurd H (by simp)
        ·
         rw [if_neg c11] at H; exact absurd H (by simp)
       ·
        rw [if_neg c10] at H; exact absurd H (by simp)
      ·
       rw [if_neg c8] at H; exact absurd H (by simp)
     ·
      rw [if_neg c7] at H; have c7b0 : decide (0 < x6_1) = false := decide_eq_false c7; clear c7
      (first | rw [c7b0] | (simp only [i64_w, i32_w]; rw [c7b0]) | skip)
      have H' := Aside0.mk H; clear H
      go_wp2
      go_meet
      case rel => exact ⟨_, (x5_1), (by first | rfl | (simp; done) | (simp [*]; done)), H', ⟨by have := HK1.out; first | omega | exact Nat.le_refl _⟩, bk_ BK190, ⟨sq_below1 HB.out GE190.out⟩⟩
    case rest =>
     clear HC5
     try clear c1
     try clear p1
     try clear q1
     try clear hx1
     try clear p2
     try clear c3
     try clear c4
     try clear c4b0
     try clear p6
     try clear c7
     try clear c7b0
     try clear c8
     try clear c8b0
     try clear c8b1
     try clear c8b2
     try clear c10
     try clear c10b0
     try clear c11
     try clear c11b0
     try clear c13
     try clear c13b0
     try clear c13b1
     try clear c13b2
     try clear c14
     try clear c14b0
     try clear c14b1
     try clear c14b2
     try clear c15
     try clear c15b0
     try clear q16
     try clear c17
     try clear c18
     try clear c18b0
     try clear c18b1
     try clear c18b2
     try clear p19
     try clear q19
     try clear hx19
     try clear hcz19_0
     try clear hcz19_1
     try clear hcz19_2
     try clear hcz21_0
     try clear hcz21_1
     try clear hcz21_2
     try clear hcz22_0
     try clear hcz22_1
     try clear hcz22_2
     try clear hcz24_0
     try clear hcz24_1
     try clear hcz24_2
     try clear hcz6_0
     try clear hcz6_1
     try clear hcz6_2
     try clear hfz19_0
     try clear hfz19_1
     try clear hfz19_2
     try clear hfz21_0
     try clear hfz21_1
     try clear hfz21_2
     try clear hfz22_0
     try clear hfz22_1
     try clear hfz22_2
     try clear hfz24_0
     try clear hfz24_1
     try clear hfz24_2
     try clear hfz6_0
     try clear hfz6_1
     try clear hfz6_2
     try clear hx191_0
     try clear hx191_1
     try clear hx191_2
     try clear hx193_0
     try clear p191
     try clear p193
     try clear p2
     try clear q191
     try clear q193
     obtain ⟨kq, x5_4, rfl, HA, HJ4, BK190, HB⟩ := hcut; cases kq with
     | zero => exact absurd HA.out (by simp [spec_l10Text.j1])
     | succ kj4 =>
      have H := HA.out; clear HA; simp only [spec_l10Text.j1] at H
      by_cases c25 : x5_4.size + 1 ≤ 9223372036854775807
      ·
       rw [if_pos c25] at H; have c25b0 := eq_true c25; have c25b1 : decide (x5_4.size + 1 ≤ 9223372036854775807) = true := decide_eq_true c25
       try have c25b2 : (9223372036854775807 < x5_4.size + 1) = False := eq_false (Nat.not_lt.2 c25)
       have H' := Aside0.mk H; clear H
       go_wp2
       go_loopg [5, 7] kj4 (fun kq v5 v7 w' => ∃ (x5_3 : ByteArray) (x7_3 : Int), v5 = .string x5_3 ∧ v7 = .int .i64 x7_3 ∧ Aside0 (spec_l10Text.l1 kq l1 x5_3 x6_1 x7_3 l0_0 l0_1 l0_2 = some r) ∧ Aside0 (kq ≤ kj4) ∧ Aside0 (w'.heap[gb190]? = some (.cells #[(.slice A0_0 l0_0.length c0_0), (.slice A0_1 l0_1.length c0_1), (.slice A0_2 l0_2.length c0_2)] 34 (0, 0))) ∧ Aside0 (Below w.heap.size w w'))
       case atStart => exact ⟨(x5_4 ++ (⟨#[123]⟩ : ByteArray)), (0), (by first | rfl | (simp; done) | (simp [*]; done)), (by first | rfl | (simp; done) | (simp [*]; done)), H', ⟨Nat.le_refl _⟩, bk_ BK190, ⟨sq_below1 HB.out GE190.out⟩⟩
       case round =>
        clear H'
        try clear c1
        try clear p1
        try clear q1
        try clear hx1
        try clear c2
        try clear p2
        try clear c3
        try clear c4
        try clear c4b0
        try clear p6
        try clear c7
        try clear c7b0
        try clear c8
        try clear c8b0
        try clear c8b1
        try clear c8b2
        try clear c10
        try clear c10b0
        try clear c11
        try clear c11b0
        try clear c13
        try clear c13b0
        try clear c13b1
        try clear c13b2
        try clear c14
        try clear c14b0
        try clear c14b1
        try clear c14b2
        try clear c15
        try clear c15b0
        try clear q16
        try clear c17
        try clear c18
        try clear c18b0
        try clear c18b1
        try clear c18b2
        try clear p19
        try clear q19
        try clear hx19
        try clear c25
        try clear c25b0
        try clear c25b1
        try clear c25b2
        try clear hcz19_0
        try clear hcz19_1
        try clear hcz19_2
        try clear hcz21_0
        try clear hcz21_1
        try clear hcz21_2
        try clear hcz22_0
        try clear hcz22_1
        try clear hcz22_2
        try clear hcz24_0
        try clear hcz24_1
        try clear hcz24_2
        try clear hcz6_0
        try clear hcz6_1
        try clear hcz6_2
        try clear hfz19_0
        try clear hfz19_1
        try clear hfz19_2
        try clear hfz21_0
        try clear hfz21_1
        try clear hfz21_2
        try clear hfz22_0
        try clear hfz22_1
        try clear hfz22_2
        try clear hfz24_0
        try clear hfz24_1
        try clear hfz24_2
        try clear hfz6_0
        try clear hfz6_1
        try clear hfz6_2
        try clear hx191_0
        try clear hx191_1
        try clear hx191_2
        try clear hx193_0
        try clear p1
        try clear p19
        try clear p191
        try clear p193
        try clear p2
        try clear p6
        try clear q1
        try clear q16
        try clear q19
        try clear q191
        try clear q193
        obtain ⟨x5_3, x7_3, rfl, rfl, HA, HK3, BK190, HB⟩ := hrel; cases gk with
        | zero => exact absurd HA.out (by simp [spec_l10Text.l1])
        | succ k3 =>
         have H := HA.out; clear HA; simp only [spec_l10Text.l1] at H
         by_cases c26 : 0 ≤ x6_1
         ·
          rw [if_pos c26] at H; have c26b0 : decide (0 ≤ x6_1) = true := decide_eq_true c26; clear c26
          by_cases c27 : x6_1 < (l0_0.length : Int)
          ·
           rw [if_pos c27] at H; have c27b0 : decide (x6_1 < (l0_0.length : Int)) = true := decide_eq_true c27; clear c27
           by_cases c28 : x7_3 < ((rd_L8 l0_0 x6_1).length : Int)
           ·
            rw [if_pos c28] at H; have c28b0 : decide (x7_3 < ((rd_L8 l0_0 x6_1).length : Int)) = true := decide_eq_true c28; clear c28
            by_cases c29 : x7_3 > 0
            ·
             rw [if_pos c29] at H; have c29b0 : decide (0 < x7_3) = true := decide_eq_true c29; clear c29
             by_cases c30 : x5_3.size + 2 ≤ 9223372036854775807
             ·
              rw [if_pos c30] at H; have c30b0 := eq_true c30; have c30b1 : decide (x5_3.size + 2 ≤ 9223372036854775807) = true := decide_eq_true c30
              try have c30b2 : (9223372036854775807 < x5_3.size + 2) = False := eq_false (Nat.not_lt.2 c30)
              by_cases c31 : 0 ≤ x7_3
              ·
               rw [if_pos c31] at H; have c31b0 : decide (0 ≤ x7_3) = true := decide_eq_true c31; clear c31; replace H := Option.bind_eq_some_iff.mp H; obtain ⟨t197, A320, H⟩ := H; (try dsimp only at H); have A32 := Aside0.mk A320; clear A320
               by_cases c33 : x5_3.size + 2 + t197.size ≤ 9223372036854775807
               ·
                rw [if_pos c33] at H; have c33b0 := eq_true c33; have c33b1 : decide (x5_3.size + 2 + t197.size ≤ 9223372036854775807) = true := decide_eq_true c33
                try have c33b2 : (9223372036854775807 < x5_3.size + 2 + t197.size) = False := eq_false (Nat.not_lt.2 c33)
                have H' := Aside0.mk H; clear H; have hcz34_0 := cl_ (v := .slice A0_0 l0_0.length c0_0) BK190 0; have hcz34_1 := cl_ (v := .slice A0_1 l0_1.length c0_1) BK190 1; have hcz34_2 := cl_ (v := .slice A0_2 l0_2.length c0_2) BK190 2; have hfz34_0 := blk_frozen BK190.out 0; have hfz34_1 := blk_frozen BK190.out 1; have hfz34_2 := blk_frozen BK190.out 2; have p194 : 0 ≤ (x6_1 : Int) := sq_dec; have q194 : x6_1 < (l0_0.length : Int) := sq_dec; obtain ⟨ad194, A194_0, c194_0, e194, hx194_0, hl194_0, hi194_0⟩ := at_L8 HR0_0.out x6_1 p194 q194; cases e194; replace hx194_0 := (HB.out.cell (World.block_lt_of_cell? w _ hx194_0)).trans hx194_0; have HR194_0 := Aside0.mk hi194_0; have HC194_0 := Aside0.mk hl194_0; clear hi194_0 hl194_0; replace p194 := eq_true p194; replace q194 := eq_true q194; have p195 : 0 ≤ (x6_1 : Int) := sq_dec; have q195 : x6_1 < (l0_0.length : Int) := sq_dec; obtain ⟨ad195, A195_0, c195_0, e195, hx195_0, hl195_0, hi195_0⟩ := at_L8 HR0_0.out x6_1 p195 q195; obtain rfl : ad194 = ad195 := (by injection e195); replace hx195_0 := (HB.out.cell (World.block_lt_of_cell? w _ hx195_0)).trans hx195_0; have HR195_0 := Aside0.mk hi195_0; have HC195_0 := Aside0.mk hl195_0; clear hi195_0 hl195_0; replace p195 := eq_true p195; replace q195 := eq_true q195; have ea_ := Option.some.inj (hx194_0.symm.trans hx195_0)
                injection ea_ with ea_ en_ ec_
                subst ea_; subst ec_; clear en_; have p196 : 0 ≤ (x7_3 : Int) := sq_dec; have q196 : x7_3 < ((rd_L8 l0_0 x6_1).length : Int) := sq_dec; obtain ⟨ad196, e196, hx196_0, hx196_1⟩ := at_T59 HR195_0.out x7_3 p196 q196; cases e196; replace hx196_0 := (HB.out.cell (World.block_lt_of_cell? w _ hx196_0)).trans hx196_0; replace hx196_1 := (HB.out.cell (World.block_lt_of_cell? w _ hx196_1)).trans hx196_1; replace p196 := eq_true p196; replace q196 := eq_true q196
                go_wp2_with (first | ((with_reducible refine gate_callee (f := 35) rfl ?_); refine gl_ 62 Tryz.func35 #[.agg #[.int .i64 ((rd_T59 (rd_L8 l0_0 x6_1) x7_3).f0), .int .i64 ((rd_T59 (rd_L8 l0_0 x6_1) x7_3).f1)], .slice A1 l1.length c1] (h := ?_); (with_reducible refine (spec_SymText.calls k3 ((rd_T59 (rd_L8 l0_0 x6_1) x7_3).f0) ((rd_T59 (rd_L8 l0_0 x6_1) x7_3).f1) _ _ l1 t197 _ ?side1 ?side2 A32.out).mono ?_); (case side1 => exact sq_c (Kd.C_below HR1.out HB.out)); (case side2 => exact HC1.out); rintro e w35 ⟨rfl, hb⟩; refine ⟨_, rfl, ?_⟩; replace BK190 := bb_ BK190 hb; replace HB := hb1_ HB hb GE190; (try clear hb)))
                go_roundg k3
                case measure => have := HK1.out; have := HJ4.out; have := HK3.out; omega
                case rel => exact ⟨((x5_3 ++ (⟨#[44, 32]⟩ : ByteArray)) ++ t197), (wrap64 (x7_3 + 1)), (by first | rfl | (simp; done) | (simp [*]; done)), (by first | rfl | (simp; done) | (simp [*]; done)), H', ⟨by have := HK1.out; have := HJ4.out; have := HK3.out; omega⟩, bk_ BK190, ⟨sq_below1 HB.out GE190.out⟩⟩
               ·
                rw [if_neg c33] at H; exact absurd H (by simp)
              ·
               rw [if_neg c31] at H; exact absurd H (by simp)
             ·
              rw [if_neg c30] at H; exact absurd H (by simp)
            ·
             rw [if_neg c29] at H; have c29b0 : decide (0 < x7_3) = false := decide_eq_false c29; clear c29
             by_cases c36 : 0 ≤ x7_3
             ·
              rw [if_pos c36] at H; have c36b0 : decide (0 ≤ x7_3) = true := decide_eq_true c36; clear c36; replace H := Option.bind_eq_some_iff.mp H; obtain ⟨t200, A370, H⟩ := H; (try dsimp only at H); have A37 := Aside0.mk A370; clear A370
              by_cases c38 : x5_3.size + t200.size ≤ 9223372036854775807
              ·
               rw [if_pos c38] at H; have c38b0 := eq_true c38; have c38b1 : decide (x5_3.size + t200.size ≤ 9223372036854775807) = true := decide_eq_true c38
               try have c38b2 : (9223372036854775807 < x5_3.size + t200.size) = False := eq_false (Nat.not_lt.2 c38)
               have H' := Aside0.mk H; clear H; have hcz39_0 := cl_ (v := .slice A0_0 l0_0.length c0_0) BK190 0; have hcz39_1 := cl_ (v := .slice A0_1 l0_1.length c0_1) BK190 1; have hcz39_2 := cl_ (v := .slice A0_2 l0_2.length c0_2) BK190 2; have hfz39_0 := blk_frozen BK190.out 0; have hfz39_1 := blk_frozen BK190.out 1; have hfz39_2 := blk_frozen BK190.out 2; have p194 : 0 ≤ (x6_1 : Int) := sq_dec; have q194 : x6_1 < (l0_0.length : Int) := sq_dec; obtain ⟨ad194, A194_0, c194_0, e194, hx194_0, hl194_0, hi194_0⟩ := at_L8 HR0_0.out x6_1 p194 q194; cases e194; replace hx194_0 := (HB.out.cell (World.block_lt_of_cell? w _ hx194_0)).trans hx194_0; have HR194_0 := Aside0.mk hi194_0; have HC194_0 := Aside0.mk hl194_0; clear hi194_0 hl194_0; replace p194 := eq_true p194; replace q194 := eq_true q194; have p198 : 0 ≤ (x6_1 : Int) := sq_dec; have q198 : x6_1 < (l0_0.length : Int) := sq_dec; obtain ⟨ad198, A198_0, c198_0, e198, hx198_0, hl198_0, hi198_0⟩ := at_L8 HR0_0.out x6_1 p198 q198; obtain rfl : ad194 = ad198 := (by injection e198); replace hx198_0 := (HB.out.cell (World.block_lt_of_cell? w _ hx198_0)).trans hx198_0; have HR198_0 := Aside0.mk hi198_0; have HC198_0 := Aside0.mk hl198_0; clear hi198_0 hl198_0; replace p198 := eq_true p198; replace q198 := eq_true q198; have ea_ := Option.some.inj (hx194_0.symm.trans hx198_0)
               injection ea_ with ea_ en_ ec_
               subst ea_; subst ec_; clear en_; have p199 : 0 ≤ (x7_3 : Int) := sq_dec; have q199 : x7_3 < ((rd_L8 l0_0 x6_1).length : Int) := sq_dec; obtain ⟨ad199, e199, hx199_0, hx199_1⟩ := at_T59 HR198_0.out x7_3 p199 q199; cases e199; replace hx199_0 := (HB.out.cell (World.block_lt_of_cell? w _ hx199_0)).trans hx199_0; replace hx199_1 := (HB.out.cell (World.block_lt_of_cell? w _ hx199_1)).trans hx199_1; replace p199 := eq_true p199; replace q199 := eq_true q199
               go_wp2_with (first | ((with_reducible refine gate_callee (f := 35) rfl ?_); refine gl_ 62 Tryz.func35 #[.agg #[.int .i64 ((rd_T59 (rd_L8 l0_0 x6_1) x7_3).f0), .int .i64 ((rd_T59 (rd_L8 l0_0 x6_1) x7_3).f1)], .slice A1 l1.length c1] (h := ?_); (with_reducible refine (spec_SymText.calls k3 ((rd_T59 (rd_L8 l0_0 x6_1) x7_3).f0) ((rd_T59 (rd_L8 l0_0 x6_1) x7_3).f1) _ _ l1 t200 _ ?side1 ?side2 A37.out).mono ?_); (case side1 => exact sq_c (Kd.C_below HR1.out HB.out)); (case side2 => exact HC1.out); rintro e w40 ⟨rfl, hb⟩; refine ⟨_, rfl, ?_⟩; replace BK190 := bb_ BK190 hb; replace HB := hb1_ HB hb GE190; (try clear hb)))
               go_roundg k3
               case measure => have := HK1.out; have := HJ4.out; have := HK3.out; omega
               case rel => exact ⟨(x5_3 ++ t200), (wrap64 (x7_3 + 1)), (by first | rfl | (simp; done) | (simp [*]; done)), (by first | rfl | (simp; done) | (simp [*]; done)), H', ⟨by have := HK1.out; have := HJ4.out; have := HK3.out; omega⟩, bk_ BK190, ⟨sq_below1 HB.out GE190.out⟩⟩
              ·
               rw [if_neg c38] at H; exact absurd H (by simp)
             ·
              rw [if_neg c36] at H; exact absurd H (by simp)
           ·
            rw [if_neg c28] at H; have c28b0 : decide (x7_3 < ((rd_L8 l0_0 x6_1).length : Int)) = false := decide_eq_false c28; clear c28
            by_cases c41 : x5_3.size + 1 ≤ 9223372036854775807
            ·
             rw [if_pos c41] at H; have c41b0 := eq_true c41; have c41b1 : decide (x5_3.size + 1 ≤ 9223372036854775807) = true := decide_eq_true c41
             try have c41b2 : (9223372036854775807 < x5_3.size + 1) = False := eq_false (Nat.not_lt.2 c41)
             have H' := Aside0.mk H; clear H; have hcz42_0 := cl_ (v := .slice A0_0 l0_0.length c0_0) BK190 0; have hcz42_1 := cl_ (v := .slice A0_1 l0_1.length c0_1) BK190 1; have hcz42_2 := cl_ (v := .slice A0_2 l0_2.length c0_2) BK190 2; have hfz42_0 := blk_frozen BK190.out 0; have hfz42_1 := blk_frozen BK190.out 1; have hfz42_2 := blk_frozen BK190.out 2; have p194 : 0 ≤ (x6_1 : Int) := sq_dec; have q194 : x6_1 < (l0_0.length : Int) := sq_dec; obtain ⟨ad194, A194_0, c194_0, e194, hx194_0, hl194_0, hi194_0⟩ := at_L8 HR0_0.out x6_1 p194 q194; cases e194; replace hx194_0 := (HB.out.cell (World.block_lt_of_cell? w _ hx194_0)).trans hx194_0; have HR194_0 := Aside0.mk hi194_0; have HC194_0 := Aside0.mk hl194_0; clear hi194_0 hl194_0; replace p194 := eq_true p194; replace q194 := eq_true q194
             go_wp2
             go_roundg k3
             case measure => have := HK1.out; have := HJ4.out; have := HK3.out; omega
             case rel => exact ⟨(x5_3 ++ (⟨#[125]⟩ : ByteArray)), (wrap64 (x6_1 + 1)), (by first | rfl | (simp; done) | (simp [*]; done)), (by first | rfl | (simp; done) | (simp [*]; done)), H', ⟨by have := HK1.out; have := HJ4.out; have := HK3.out; omega⟩, bk_ BK190, ⟨sq_below1 HB.out GE190.out⟩⟩
            ·
             rw [if_neg c41] at H; exact absurd H (by simp)
          ·
           rw [if_neg c27] at H; exact absurd H (by simp)
         ·
          rw [if_neg c26] at H; exact absurd H (by simp)
      ·
       rw [if_neg c25] at H; exact absurd H (by simp)
   ·
    rw [if_neg c4] at H; have c4b0 : decide (x6_1 < (l0_0.length : Int)) = false := decide_eq_false c4; clear c4; obtain rfl := Option.some.inj H; have hcz43_0 := cl_ (v := .slice A0_0 l0_0.length c0_0) BK190 0; have hcz43_1 := cl_ (v := .slice A0_1 l0_1.length c0_1) BK190 1; have hcz43_2 := cl_ (v := .slice A0_2 l0_2.length c0_2) BK190 2; have hfz43_0 := blk_frozen BK190.out 0; have hfz43_1 := blk_frozen BK190.out 1; have hfz43_2 := blk_frozen BK190.out 2
    go_wp2
    go_ret
    exact ⟨by first | rfl | (simp [errW_none, errW_some] <;> rfl) | (simp [*, errW_none, errW_some] <;> rfl), sq_below1 HB.out GE190.out⟩

end Go.Proofs.YtfeloencepgdlaaGreatDoor.Q
