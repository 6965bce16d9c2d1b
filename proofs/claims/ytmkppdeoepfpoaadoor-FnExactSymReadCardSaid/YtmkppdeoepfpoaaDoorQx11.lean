/- Functions of the translation as Lean functions, each with a proof that a call answers so; out of the seat, by this claim's own program prt.py. -/
import Derived.Test.YtmkppdeoepfpoaaDoorWRepsOne
import Derived.Test.YtmkppdeoepfpoaaDoorQx0
import Derived.Test.YtmkppdeoepfpoaaDoorQx9
import Derived.Test.YtmkppdeoepfpoaaDoorQx10
namespace Go.Proofs.YtmkppdeoepfpoaaDoor.Q
open Go.RowKit Go.Proofs.YtmkppdeoepfpoaaDoorW.PrintWords Go.Proofs.YtmkppdeoepfpoaaDoorW.PrintLast Go.Proofs.YtmkppdeoepfpoaaDoorW.PrintMore
attribute [local go_sem] max2_int min2_int max_two min_two max_three min_three max_four min_four   -- for this text's walks alone
set_option linter.unusedVariables false
set_option linter.unusedSimpArgs false

/-! ### spec_SymRead: function 7 -/
mutual
def spec_SymRead.l0 : Nat → ByteArray → List ByteArray → Int → Option (Int × Int × Bool)
 | 0, _, _, _ => none
 | k + 1, x0, x1, x8 => if x8 < (x1.length : Int) then (if 0 ≤ x8 then (if (x0.size : Int) < ((rdOf ByteArray.empty x1 x8).size : Int) then (spec_SymRead.j1 k x0 x1 x8 ((rdOf ByteArray.empty x1 x8).size : Int) true) else (if 0 ≤ ((rdOf ByteArray.empty x1 x8).size : Int) then (if ((rdOf ByteArray.empty x1 x8).size : Int) ≤ (x0.size : Int) then (spec_SymRead.j1 k x0 x1 x8 ((rdOf ByteArray.empty x1 x8).size : Int) ((x0.extract 0 (((rdOf ByteArray.empty x1 x8).size : Int) : Int).toNat).toList != (rdOf ByteArray.empty x1 x8).toList)) else (none)) else (none))) else (none)) else (some (0, 0, false))
def spec_SymRead.j1 : Nat → ByteArray → List ByteArray → Int → Int → Bool → Option (Int × Int × Bool)
 | 0, _, _, _, _, _ => none
 | k + 1, x0, x1, x8, x9, x49 => if x49 = true then (spec_SymRead.l0 k x0 x1 (wrap64 (x8 + 1))) else (if 0 ≤ x9 then (if x9 ≤ (x0.size : Int) then (if (x0.extract (x9 : Int).toNat x0.size).toList = ([] : List UInt8) then (some (wrap64 (x8 + 1), 0, true)) else (if ((x0.extract (x9 : Int).toNat x0.size).size : Int) < 4 then (spec_SymRead.j2 k x0 x1 x8 (x0.extract (x9 : Int).toNat x0.size) true) else (if 0 < ((x0.extract (x9 : Int).toNat x0.size).size : Int) then (if (bt (x0.extract (x9 : Int).toNat x0.size) 0) = 32 then (if 1 < ((x0.extract (x9 : Int).toNat x0.size).size : Int) then (if (bt (x0.extract (x9 : Int).toNat x0.size) 1) = 43 then (if 2 < ((x0.extract (x9 : Int).toNat x0.size).size : Int) then (if (bt (x0.extract (x9 : Int).toNat x0.size) 2) = 32 then (if 3 < ((x0.extract (x9 : Int).toNat x0.size).size : Int) then (spec_SymRead.j2 k x0 x1 x8 (x0.extract (x9 : Int).toNat x0.size) ((bt (x0.extract (x9 : Int).toNat x0.size) 3) == 45)) else (none)) else (spec_SymRead.j2 k x0 x1 x8 (x0.extract (x9 : Int).toNat x0.size) true)) else (none)) else (if (bt (x0.extract (x9 : Int).toNat x0.size) 1) = 45 then (if 2 < ((x0.extract (x9 : Int).toNat x0.size).size : Int) then (if (bt (x0.extract (x9 : Int).toNat x0.size) 2) = 32 then (if 3 < ((x0.extract (x9 : Int).toNat x0.size).size : Int) then (spec_SymRead.j2 k x0 x1 x8 (x0.extract (x9 : Int).toNat x0.size) ((bt (x0.extract (x9 : Int).toNat x0.size) 3) == 45)) else (none)) else (spec_SymRead.j2 k x0 x1 x8 (x0.extract (x9 : Int).toNat x0.size) true)) else (none)) else (spec_SymRead.j2 k x0 x1 x8 (x0.extract (x9 : Int).toNat x0.size) true))) else (none)) else (spec_SymRead.j2 k x0 x1 x8 (x0.extract (x9 : Int).toNat x0.size) true)) else (none)))) else (none)) else (none))
def spec_SymRead.j2 : Nat → ByteArray → List ByteArray → Int → ByteArray → Bool → Option (Int × Int × Bool)
 | 0, _, _, _, _, _ => none
 | k + 1, x0, x1, x8, x10, x85 => if x85 = true then (spec_SymRead.l0 k x0 x1 (wrap64 (x8 + 1))) else (if 3 ≤ (x10.size : Int) then ((spec_l06Int.f k (x10.extract 3 x10.size) 1000).bind fun bt122 => (if bt122.2 = true then (spec_SymRead.j3 k x0 x1 x8 x10 bt122.1 (decide (bt122.1 > 0))) else (spec_SymRead.j3 k x0 x1 x8 x10 bt122.1 false))) else (none))
def spec_SymRead.j3 : Nat → ByteArray → List ByteArray → Int → ByteArray → Int → Bool → Option (Int × Int × Bool)
 | 0, _, _, _, _, _, _ => none
 | k + 1, x0, x1, x8, x10, x11, x96 => if x96 = true then (if 1 < (x10.size : Int) then (if (bt x10 1) = 45 then (some (wrap64 (x8 + 1), wrap64 (-x11), true)) else (some (wrap64 (x8 + 1), x11, true))) else (none)) else (spec_SymRead.l0 k x0 x1 (wrap64 (x8 + 1)))
end
def spec_SymRead.f (k : Nat) (a0 : ByteArray) (l1 : List ByteArray) : Option (Int × Int × Bool) := (spec_l08Labels.f k l1).bind fun t117 => (if t117 = true then ((spec_l06Int.f k a0 1000).bind fun bt118 => (if bt118.2 = true then (some (0, bt118.1, true)) else (spec_SymRead.l0 k a0 l1 0))) else (some (0, 0, false)))
theorem spec_SymRead.mono_l : ∀ k, (∀ y0 y1 y2, LeO (spec_SymRead.l0 k y0 y1 y2) (spec_SymRead.l0 (k + 1) y0 y1 y2)) ∧ (∀ y0 y1 y2 y3 y4, LeO (spec_SymRead.j1 k y0 y1 y2 y3 y4) (spec_SymRead.j1 (k + 1) y0 y1 y2 y3 y4)) ∧ (∀ y0 y1 y2 y3 y4, LeO (spec_SymRead.j2 k y0 y1 y2 y3 y4) (spec_SymRead.j2 (k + 1) y0 y1 y2 y3 y4)) ∧ (∀ y0 y1 y2 y3 y4 y5, LeO (spec_SymRead.j3 k y0 y1 y2 y3 y4 y5) (spec_SymRead.j3 (k + 1) y0 y1 y2 y3 y4 y5))
 | 0 => ⟨fun _ _ _ r h => by simp [spec_SymRead.l0] at h, fun _ _ _ _ _ r h => by simp [spec_SymRead.j1] at h, fun _ _ _ _ _ r h => by simp [spec_SymRead.j2] at h, fun _ _ _ _ _ _ r h => by simp [spec_SymRead.j3] at h⟩
 | k + 1 => by
  obtain ⟨ih0, ih1, ih2, ih3⟩ := spec_SymRead.mono_l k; refine ⟨?_, ?_, ?_, ?_⟩
  ·
   intro y0 y1 y2; unfold spec_SymRead.l0
   repeat' first
   | (with_reducible exact ih0 _ _ _)
   | (with_reducible exact ih1 _ _ _ _ _)
   | (with_reducible exact ih2 _ _ _ _ _)
   | (with_reducible exact ih3 _ _ _ _ _ _)
   | (with_reducible exact spec_l06Int.mono _ _ _)
   | (with_reducible exact spec_l08Labels.mono _ _)
   | (with_reducible exact LeO.refl _)
   | (with_reducible exact LeO.none _)
   | (with_reducible refine LeO.ite ?_ ?_)
   | (with_reducible refine LeO.bind ?_ (fun _ => ?_))
   | exact ih0 _ _ _
   | exact ih1 _ _ _ _ _
   | exact ih2 _ _ _ _ _
   | exact ih3 _ _ _ _ _ _
   | exact spec_l06Int.mono _ _ _
   | exact spec_l08Labels.mono _ _
   | exact LeO.none _
   | refine LeO.ite ?_ ?_
   | refine LeO.bind ?_ (fun _ => ?_)
  ·
   intro y0 y1 y2 y3 y4; unfold spec_SymRead.j1
   repeat' first
   | (with_reducible exact ih0 _ _ _)
   | (with_reducible exact ih1 _ _ _ _ _)
   | (with_reducible exact ih2 _ _ _ _ _)
   | (with_reducible exact ih3 _ _ _ _ _ _)
   | (with_reducible exact spec_l06Int.mono _ _ _)
   | (with_reducible exact spec_l08Labels.mono _ _)
   | (with_reducible exact LeO.refl _)
   | (with_reducible exact LeO.none _)
   | (with_reducible refine LeO.ite ?_ ?_)
   | (with_reducible refine LeO.bind ?_ (fun _ => ?_))
   | exact ih0 _ _ _
   | exact ih1 _ _ _ _ _
   | exact ih2 _ _ _ _ _
   | exact ih3 _ _ _ _ _ _
   | exact spec_l06Int.mono _ _ _
   | exact spec_l08Labels.mono _ _
   | exact LeO.none _
   | refine LeO.ite ?_ ?_
   | refine LeO.bind ?_ (fun _ => ?_)
  ·
   intro y0 y1 y2 y3 y4; unfold spec_SymRead.j2
   repeat' first
   | (with_reducible exact ih0 _ _ _)
   | (with_reducible exact ih1 _ _ _ _ _)
   | (with_reducible exact ih2 _ _ _ _ _)
   | (with_reducible exact ih3 _ _ _ _ _ _)
   | (with_reducible exact spec_l06Int.mono _ _ _)
   | (with_reducible exact spec_l08Labels.mono _ _)
   | (with_reducible exact LeO.refl _)
   | (with_reducible exact LeO.none _)
   | (with_reducible refine LeO.ite ?_ ?_)
   | (with_reducible refine LeO.bind ?_ (fun _ => ?_))
   | exact ih0 _ _ _
   | exact ih1 _ _ _ _ _
   | exact ih2 _ _ _ _ _
   | exact ih3 _ _ _ _ _ _
   | exact spec_l06Int.mono _ _ _
   | exact spec_l08Labels.mono _ _
   | exact LeO.none _
   | refine LeO.ite ?_ ?_
   | refine LeO.bind ?_ (fun _ => ?_)
  ·
   intro y0 y1 y2 y3 y4 y5; unfold spec_SymRead.j3
   repeat' first
   | (with_reducible exact ih0 _ _ _)
   | (with_reducible exact ih1 _ _ _ _ _)
   | (with_reducible exact ih2 _ _ _ _ _)
   | (with_reducible exact ih3 _ _ _ _ _ _)
   | (with_reducible exact spec_l06Int.mono _ _ _)
   | (with_reducible exact spec_l08Labels.mono _ _)
   | (with_reducible exact LeO.refl _)
   | (with_reducible exact LeO.none _)
   | (with_reducible refine LeO.ite ?_ ?_)
   | (with_reducible refine LeO.bind ?_ (fun _ => ?_))
   | exact ih0 _ _ _
   | exact ih1 _ _ _ _ _
   | exact ih2 _ _ _ _ _
   | exact ih3 _ _ _ _ _ _
   | exact spec_l06Int.mono _ _ _
   | exact spec_l08Labels.mono _ _
   | exact LeO.none _
   | refine LeO.ite ?_ ?_
   | refine LeO.bind ?_ (fun _ => ?_)
theorem spec_SymRead.mono : ∀ a0 a1 k, LeO (spec_SymRead.f k a0 a1) (spec_SymRead.f (k + 1) a0 a1) := by
 intro a0 a1 k; obtain ⟨ih0, ih1, ih2, ih3⟩ := spec_SymRead.mono_l k; unfold spec_SymRead.f
 repeat' first
   | (with_reducible exact ih0 _ _ _)
   | (with_reducible exact ih1 _ _ _ _ _)
   | (with_reducible exact ih2 _ _ _ _ _)
   | (with_reducible exact ih3 _ _ _ _ _ _)
   | (with_reducible exact spec_l06Int.mono _ _ _)
   | (with_reducible exact spec_l08Labels.mono _ _)
   | (with_reducible exact LeO.refl _)
   | (with_reducible exact LeO.none _)
   | (with_reducible refine LeO.ite ?_ ?_)
   | (with_reducible refine LeO.bind ?_ (fun _ => ?_))
   | exact ih0 _ _ _
   | exact ih1 _ _ _ _ _
   | exact ih2 _ _ _ _ _
   | exact ih3 _ _ _ _ _ _
   | exact spec_l06Int.mono _ _ _
   | exact spec_l08Labels.mono _ _
   | exact LeO.none _
   | refine LeO.ite ?_ ?_
   | refine LeO.bind ?_ (fun _ => ?_)
set_option maxHeartbeats 8000000 in
set_option maxRecDepth 100000 in
theorem spec_SymRead.calls (k : Nat) (a0 : ByteArray) (A1 : Option Addr) (c1 : Nat) (l1 : List ByteArray) (r1 : Int) (r2 : Int) (r3 : Bool) (w : World) (hr1 : Kd.C Kd.string w A1 l1.length l1) (hc1 : l1.length ≤ c1) (h : spec_SymRead.f k a0 l1 = some (r1, r2, r3)) :
  Calls Tryd.prog 7 #[.string a0, .slice A1 l1.length c1] w fun e w' => e = .returned (.tuple #[.agg #[.int .i64 r1, .int .i64 r2], .bool r3]) ∧ Below w.heap.size w w' := by
 have hu25 := Tryd.underlying25; have HR1 := Aside0.mk hr1; have HC1 := Aside0.mk hc1; clear hr1 hc1; have HB := Aside0.mk (Below.refl w.heap.size w); have H : ((spec_l08Labels.f k l1).bind fun t117 => (if t117 = true then ((spec_l06Int.f k a0 1000).bind fun bt118 => (if bt118.2 = true then (some (0, bt118.1, true)) else (spec_SymRead.l0 k a0 l1 0))) else (some (0, 0, false)))) = some (r1, r2, r3) := h; clear h; replace H := Option.bind_eq_some_iff.mp H; obtain ⟨t117, A30, H⟩ := H; replace H : (if t117 = true then ((spec_l06Int.f k a0 1000).bind fun bt118 => (if bt118.2 = true then (some (0, bt118.1, true)) else (spec_SymRead.l0 k a0 l1 0))) else (some (0, 0, false))) = some (r1, r2, r3) := H; have A3 := Aside0.mk A30; clear A30
 by_cases c4 : t117 = true
 ·
  subst c4; have H1 : ((spec_l06Int.f k a0 1000).bind fun bt118 => (if bt118.2 = true then (some (0, bt118.1, true)) else (spec_SymRead.l0 k a0 l1 0))) = some (r1, r2, r3) := by rw [if_pos rfl] at H; exact H
  clear H; have H := H1; clear H1; replace H := Option.bind_eq_some_iff.mp H; obtain ⟨⟨t118, t119⟩, A50, H⟩ := H; replace H : (if t119 = true then (some (0, t118, true)) else (spec_SymRead.l0 k a0 l1 0)) = some (r1, r2, r3) := H; have A5 := Aside0.mk A50; clear A50
  by_cases c6 : t119 = true
  ·
   subst c6; have H1 : (some (0, t118, true)) = some (r1, r2, r3) := by rw [if_pos rfl] at H; exact H
   clear H; have H := H1; clear H1; simp only [Option.some.injEq, Prod.mk.injEq] at H; obtain ⟨rfl, rfl, rfl⟩ := H
   go_enter Tryd.func7, Tryd.ntmps7
   go_wp2_with (first | ((with_reducible refine gate_dst (N := 4) rfl ?_); refine box_event ?hg (N := 4) ?hd (cs := #[.int .i64 0, .int .i64 0]) (t := 25) ?hr ?_; (case hd => rfl); (case hg => rfl); (case hr => first | (go_simp; done) | (go_simp; rfl)); intro gb116 hg w7 hbox hb; have n0_ := Aside0.mk (below_step (by repeat (first | (with_reducible first | exact HB.out | apply below_alloc | apply pw_below_drewN | apply below_drew1) | exact HB.out)) hb); have n1_ := Aside0.mk (hbox); have n2_ := Aside0.mk ((by rw [hg]; exact (below_size (by repeat (first | (with_reducible first | exact HB.out | apply below_alloc | apply pw_below_drewN | apply below_drew1) | exact HB.out))) : w.heap.size ≤ gb116)); have n3_ := Aside0.mk ((by rw [hg]; exact (below_size (by repeat (first | (with_reducible first | exact HB.out | apply below_alloc | apply pw_below_drewN | apply below_drew1) | exact HB.out))) : w.heap.size ≤ gb116)); clear HB; have HB := n0_; have BK116 := n1_; have GW116 := n2_; have GE116 := n3_; clear n0_ n1_ n2_ n3_; clear hb hbox hg) | (go_at_call 19; (with_reducible refine (spec_l08Labels.calls k _ _ l1 true _ ?side1 ?side2 A3.out).mono ?_); (case side1 => repeat (first | exact (Kd.C_below HR1.out HB.out) | (with_reducible refine Kd.C_alloc ?_ _) | (with_reducible refine Kd.C_drewN ?_ _) | (with_reducible refine Kd.C_drew ?_))); (case side2 => exact HC1.out); rintro e w8 ⟨rfl, hb⟩; have n0_ := Aside0.mk (blk_below (g := gb116) (o := .cells #[.int .i64 0, .int .i64 0] 25 (0, 0)) (by (with_reducible repeat (first | refine blk_drewN ?_ _ | refine blk_drew ?_ | refine blk_alloc ?_ _)); exact BK116.out) hb); have n1_ := Aside0.mk (below_step (by repeat (first | (with_reducible first | exact HB.out | apply below_alloc | apply pw_below_drewN | apply below_drew1 | refine below_set ?_ GE116.out) | exact HB.out)) hb); clear BK116; clear HB; have BK116 := n0_; have HB := n1_; clear n0_ n1_; (try clear hb); (try clear hb2); (try clear hk); (try clear hi)) | (go_at_call 20; (with_reducible refine (spec_l06Int.calls k a0 1000 t118 true _ A5.out).mono ?_); rintro e w' ⟨rfl, ⟨nd, rfl⟩⟩; (try first | exact ⟨rfl, _, World.drewN_drewN _ _ _⟩ | exact ⟨rfl, _, Eq.trans (World.drewN_drewN _ _ _) (congrArg (World.drewN _) (Nat.add_assoc _ _ _))⟩); have hcz9_0 : w8.cell? ⟨gb116, 0, none⟩ = some (.int .i64 0) := (blk_cell BK116.out 0).trans rfl; have hcz9_1 : w8.cell? ⟨gb116, 1, none⟩ = some (.int .i64 0) := (blk_cell BK116.out 1).trans rfl; have hfz9_0 := blk_frozen BK116.out 0; have hfz9_1 := blk_frozen BK116.out 1))
   repeat (go_quiet (first | ((with_reducible refine gate_dst (N := 4) rfl ?_); refine box_event ?hg (N := 4) ?hd (cs := #[.int .i64 0, .int .i64 0]) (t := 25) ?hr ?_; (case hd => rfl); (case hg => rfl); (case hr => first | (go_simp; done) | (go_simp; rfl)); intro gb116 hg w7 hbox hb; have n0_ := Aside0.mk (below_step (by repeat (first | (with_reducible first | exact HB.out | apply below_alloc | apply pw_below_drewN | apply below_drew1) | exact HB.out)) hb); have n1_ := Aside0.mk (hbox); have n2_ := Aside0.mk ((by rw [hg]; exact (below_size (by repeat (first | (with_reducible first | exact HB.out | apply below_alloc | apply pw_below_drewN | apply below_drew1) | exact HB.out))) : w.heap.size ≤ gb116)); have n3_ := Aside0.mk ((by rw [hg]; exact (below_size (by repeat (first | (with_reducible first | exact HB.out | apply below_alloc | apply pw_below_drewN | apply below_drew1) | exact HB.out))) : w.heap.size ≤ gb116)); clear HB; have HB := n0_; have BK116 := n1_; have GW116 := n2_; have GE116 := n3_; clear n0_ n1_ n2_ n3_; clear hb hbox hg) | (go_at_call 19; (with_reducible refine (spec_l08Labels.calls k _ _ l1 true _ ?side1 ?side2 A3.out).mono ?_); (case side1 => repeat (first | exact (Kd.C_below HR1.out HB.out) | (with_reducible refine Kd.C_alloc ?_ _) | (with_reducible refine Kd.C_drewN ?_ _) | (with_reducible refine Kd.C_drew ?_))); (case side2 => exact HC1.out); rintro e w8 ⟨rfl, hb⟩; have n0_ := Aside0.mk (blk_below (g := gb116) (o := .cells #[.int .i64 0, .int .i64 0] 25 (0, 0)) (by (with_reducible repeat (first | refine blk_drewN ?_ _ | refine blk_drew ?_ | refine blk_alloc ?_ _)); exact BK116.out) hb); have n1_ := Aside0.mk (below_step (by repeat (first | (with_reducible first | exact HB.out | apply below_alloc | apply pw_below_drewN | apply below_drew1 | refine below_set ?_ GE116.out) | exact HB.out)) hb); clear BK116; clear HB; have BK116 := n0_; have HB := n1_; clear n0_ n1_; (try clear hb); (try clear hb2); (try clear hk); (try clear hi)) | (go_at_call 20; (with_reducible refine (spec_l06Int.calls k a0 1000 t118 true _ A5.out).mono ?_); rintro e w' ⟨rfl, ⟨nd, rfl⟩⟩; (try first | exact ⟨rfl, _, World.drewN_drewN _ _ _⟩ | exact ⟨rfl, _, Eq.trans (World.drewN_drewN _ _ _) (congrArg (World.drewN _) (Nat.add_assoc _ _ _))⟩); have hcz9_0 : w8.cell? ⟨gb116, 0, none⟩ = some (.int .i64 0) := (blk_cell BK116.out 0).trans rfl; have hcz9_1 : w8.cell? ⟨gb116, 1, none⟩ = some (.int .i64 0) := (blk_cell BK116.out 1).trans rfl; have hfz9_0 := blk_frozen BK116.out 0; have hfz9_1 := blk_frozen BK116.out 1)); try go_wp2_with (first | ((with_reducible refine gate_dst (N := 4) rfl ?_); refine box_event ?hg (N := 4) ?hd (cs := #[.int .i64 0, .int .i64 0]) (t := 25) ?hr ?_; (case hd => rfl); (case hg => rfl); (case hr => first | (go_simp; done) | (go_simp; rfl)); intro gb116 hg w7 hbox hb; have n0_ := Aside0.mk (below_step (by repeat (first | (with_reducible first | exact HB.out | apply below_alloc | apply pw_below_drewN | apply below_drew1) | exact HB.out)) hb); have n1_ := Aside0.mk (hbox); have n2_ := Aside0.mk ((by rw [hg]; exact (below_size (by repeat (first | (with_reducible first | exact HB.out | apply below_alloc | apply pw_below_drewN | apply below_drew1) | exact HB.out))) : w.heap.size ≤ gb116)); have n3_ := Aside0.mk ((by rw [hg]; exact (below_size (by repeat (first | (with_reducible first | exact HB.out | apply below_alloc | apply pw_below_drewN | apply below_drew1) | exact HB.out))) : w.heap.size ≤ gb116)); clear HB; have HB := n0_; have BK116 := n1_; have GW116 := n2_; have GE116 := n3_; clear n0_ n1_ n2_ n3_; clear hb hbox hg) | (go_at_call 19; (with_reducible refine (spec_l08Labels.calls k _ _ l1 true _ ?side1 ?side2 A3.out).mono ?_); (case side1 => repeat (first | exact (Kd.C_below HR1.out HB.out) | (with_reducible refine Kd.C_alloc ?_ _) | (with_reducible refine Kd.C_drewN ?_ _) | (with_reducible refine Kd.C_drew ?_))); (case side2 => exact HC1.out); rintro e w8 ⟨rfl, hb⟩; have n0_ := Aside0.mk (blk_below (g := gb116) (o := .cells #[.int .i64 0, .int .i64 0] 25 (0, 0)) (by (with_reducible repeat (first | refine blk_drewN ?_ _ | refine blk_drew ?_ | refine blk_alloc ?_ _)); exact BK116.out) hb); have n1_ := Aside0.mk (below_step (by repeat (first | (with_reducible first | exact HB.out | apply below_alloc | apply pw_below_drewN | apply below_drew1 | refine below_set ?_ GE116.out) | exact HB.out)) hb); clear BK116; clear HB; have BK116 := n0_; have HB := n1_; clear n0_ n1_; (try clear hb); (try clear hb2); (try clear hk); (try clear hi)) | (go_at_call 20; (with_reducible refine (spec_l06Int.calls k a0 1000 t118 true _ A5.out).mono ?_); rintro e w' ⟨rfl, ⟨nd, rfl⟩⟩; (try first | exact ⟨rfl, _, World.drewN_drewN _ _ _⟩ | exact ⟨rfl, _, Eq.trans (World.drewN_drewN _ _ _) (congrArg (World.drewN _) (Nat.add_assoc _ _ _))⟩); have hcz9_0 : w8.cell? ⟨gb116, 0, none⟩ = some (.int .i64 0) := (blk_cell BK116.out 0).trans rfl; have hcz9_1 : w8.cell? ⟨gb116, 1, none⟩ = some (.int .i64 0) := (blk_cell BK116.out 1).trans rfl; have hfz9_0 := blk_frozen BK116.out 0; have hfz9_1 := blk_frozen BK116.out 1)))
   refine bodyPost_ret (results_ct rfl _ _ gb116 25 #[.int .i64 0, .int .i64 t118] (0, 0) _ rfl (by (with_reducible repeat (first | refine blk_drewN ?_ _ | refine blk_drew ?_ | refine blk_alloc ?_ _)); refine blk_put (cs := #[.int .i64 0, .int .i64 0]) ?_ 1 _ rfl; (with_reducible repeat (first | refine blk_drewN ?_ _ | refine blk_drew ?_ | refine blk_alloc ?_ _)); refine blk_put (cs := #[.int .i64 0, .int .i64 0]) ?_ 0 _ rfl; (with_reducible repeat (first | refine blk_drewN ?_ _ | refine blk_drew ?_ | refine blk_alloc ?_ _)); exact BK116.out) Tryd.underlying25 rfl (by kernel_rfl)) rfl ?_; exact ⟨by first | rfl | (simp [errW_none, errW_some] <;> rfl) | (simp [*, errW_none, errW_some] <;> rfl), by repeat (first | (with_reducible first | exact HB.out | apply below_alloc | apply pw_below_drewN | apply below_drew1 | refine below_set ?_ GE116.out) | exact HB.out)⟩
  ·
   replace c6 := Bool.eq_false_iff.mpr c6; subst c6; have H1 : (spec_SymRead.l0 k a0 l1 0) = some (r1, r2, r3) := by rw [if_neg (show ¬ (false = true) by decide)] at H; exact H
   clear H; have H := H1; clear H1; have H' := Aside0.mk H; clear H
   go_enter Tryd.func7, Tryd.ntmps7
   go_wp2_with (first | ((with_reducible refine gate_dst (N := 4) rfl ?_); refine box_event ?hg (N := 4) ?hd (cs := #[.int .i64 0, .int .i64 0]) (t := 25) ?hr ?_; (case hd => rfl); (case hg => rfl); (case hr => first | (go_simp; done) | (go_simp; rfl)); intro gb116 hg w10 hbox hb; have n0_ := Aside0.mk (below_step (by repeat (first | (with_reducible first | exact HB.out | apply below_alloc | apply pw_below_drewN | apply below_drew1) | exact HB.out)) hb); have n1_ := Aside0.mk (hbox); have n2_ := Aside0.mk ((by rw [hg]; exact (below_size (by repeat (first | (with_reducible first | exact HB.out | apply below_alloc | apply pw_below_drewN | apply below_drew1) | exact HB.out))) : w.heap.size ≤ gb116)); have n3_ := Aside0.mk ((by rw [hg]; exact (below_size (by repeat (first | (with_reducible first | exact HB.out | apply below_alloc | apply pw_below_drewN | apply below_drew1) | exact HB.out))) : w.heap.size ≤ gb116)); clear HB; have HB := n0_; have BK116 := n1_; have GW116 := n2_; have GE116 := n3_; clear n0_ n1_ n2_ n3_; clear hb hbox hg) | (go_at_call 19; (with_reducible refine (spec_l08Labels.calls k _ _ l1 true _ ?side1 ?side2 A3.out).mono ?_); (case side1 => repeat (first | exact (Kd.C_below HR1.out HB.out) | (with_reducible refine Kd.C_alloc ?_ _) | (with_reducible refine Kd.C_drewN ?_ _) | (with_reducible refine Kd.C_drew ?_))); (case side2 => exact HC1.out); rintro e w11 ⟨rfl, hb⟩; have n0_ := Aside0.mk (blk_below (g := gb116) (o := .cells #[.int .i64 0, .int .i64 0] 25 (0, 0)) (by (with_reducible repeat (first | refine blk_drewN ?_ _ | refine blk_drew ?_ | refine blk_alloc ?_ _)); exact BK116.out) hb); have n1_ := Aside0.mk (below_step (by repeat (first | (with_reducible first | exact HB.out | apply below_alloc | apply pw_below_drewN | apply below_drew1 | refine below_set ?_ GE116.out) | exact HB.out)) hb); clear BK116; clear HB; have BK116 := n0_; have HB := n1_; clear n0_ n1_; (try clear hb); (try clear hb2); (try clear hk); (try clear hi)) | (go_at_call 20; (with_reducible refine (spec_l06Int.calls k a0 1000 t118 false _ A5.out).mono ?_); rintro e w' ⟨rfl, ⟨nd, rfl⟩⟩; (try first | exact ⟨rfl, _, World.drewN_drewN _ _ _⟩ | exact ⟨rfl, _, Eq.trans (World.drewN_drewN _ _ _) (congrArg (World.drewN _) (Nat.add_assoc _ _ _))⟩)))
   repeat (go_quiet (first | ((with_reducible refine gate_dst (N := 4) rfl ?_); refine box_event ?hg (N := 4) ?hd (cs := #[.int .i64 0, .int .i64 0]) (t := 25) ?hr ?_; (case hd => rfl); (case hg => rfl); (case hr => first | (go_simp; done) | (go_simp; rfl)); intro gb116 hg w10 hbox hb; have n0_ := Aside0.mk (below_step (by repeat (first | (with_reducible first | exact HB.out | apply below_alloc | apply pw_below_drewN | apply below_drew1) | exact HB.out)) hb); have n1_ := Aside0.mk (hbox); have n2_ := Aside0.mk ((by rw [hg]; exact (below_size (by repeat (first | (with_reducible first | exact HB.out | apply below_alloc | apply pw_below_drewN | apply below_drew1) | exact HB.out))) : w.heap.size ≤ gb116)); have n3_ := Aside0.mk ((by rw [hg]; exact (below_size (by repeat (first | (with_reducible first | exact HB.out | apply below_alloc | apply pw_below_drewN | apply below_drew1) | exact HB.out))) : w.heap.size ≤ gb116)); clear HB; have HB := n0_; have BK116 := n1_; have GW116 := n2_; have GE116 := n3_; clear n0_ n1_ n2_ n3_; clear hb hbox hg) | (go_at_call 19; (with_reducible refine (spec_l08Labels.calls k _ _ l1 true _ ?side1 ?side2 A3.out).mono ?_); (case side1 => repeat (first | exact (Kd.C_below HR1.out HB.out) | (with_reducible refine Kd.C_alloc ?_ _) | (with_reducible refine Kd.C_drewN ?_ _) | (with_reducible refine Kd.C_drew ?_))); (case side2 => exact HC1.out); rintro e w11 ⟨rfl, hb⟩; have n0_ := Aside0.mk (blk_below (g := gb116) (o := .cells #[.int .i64 0, .int .i64 0] 25 (0, 0)) (by (with_reducible repeat (first | refine blk_drewN ?_ _ | refine blk_drew ?_ | refine blk_alloc ?_ _)); exact BK116.out) hb); have n1_ := Aside0.mk (below_step (by repeat (first | (with_reducible first | exact HB.out | apply below_alloc | apply pw_below_drewN | apply below_drew1 | refine below_set ?_ GE116.out) | exact HB.out)) hb); clear BK116; clear HB; have BK116 := n0_; have HB := n1_; clear n0_ n1_; (try clear hb); (try clear hb2); (try clear hk); (try clear hi)) | (go_at_call 20; (with_reducible refine (spec_l06Int.calls k a0 1000 t118 false _ A5.out).mono ?_); rintro e w' ⟨rfl, ⟨nd, rfl⟩⟩; (try first | exact ⟨rfl, _, World.drewN_drewN _ _ _⟩ | exact ⟨rfl, _, Eq.trans (World.drewN_drewN _ _ _) (congrArg (World.drewN _) (Nat.add_assoc _ _ _))⟩))); try go_wp2_with (first | ((with_reducible refine gate_dst (N := 4) rfl ?_); refine box_event ?hg (N := 4) ?hd (cs := #[.int .i64 0, .int .i64 0]) (t := 25) ?hr ?_; (case hd => rfl); (case hg => rfl); (case hr => first | (go_simp; done) | (go_simp; rfl)); intro gb116 hg w10 hbox hb; have n0_ := Aside0.mk (below_step (by repeat (first | (with_reducible first | exact HB.out | apply below_alloc | apply pw_below_drewN | apply below_drew1) | exact HB.out)) hb); have n1_ := Aside0.mk (hbox); have n2_ := Aside0.mk ((by rw [hg]; exact (below_size (by repeat (first | (with_reducible first | exact HB.out | apply below_alloc | apply pw_below_drewN | apply below_drew1) | exact HB.out))) : w.heap.size ≤ gb116)); have n3_ := Aside0.mk ((by rw [hg]; exact (below_size (by repeat (first | (with_reducible first | exact HB.out | apply below_alloc | apply pw_below_drewN | apply below_drew1) | exact HB.out))) : w.heap.size ≤ gb116)); clear HB; have HB := n0_; have BK116 := n1_; have GW116 := n2_; have GE116 := n3_; clear n0_ n1_ n2_ n3_; clear hb hbox hg) | (go_at_call 19; (with_reducible refine (spec_l08Labels.calls k _ _ l1 true _ ?side1 ?side2 A3.out).mono ?_); (case side1 => repeat (first | exact (Kd.C_below HR1.out HB.out) | (with_reducible refine Kd.C_alloc ?_ _) | (with_reducible refine Kd.C_drewN ?_ _) | (with_reducible refine Kd.C_drew ?_))); (case side2 => exact HC1.out); rintro e w11 ⟨rfl, hb⟩; have n0_ := Aside0.mk (blk_below (g := gb116) (o := .cells #[.int .i64 0, .int .i64 0] 25 (0, 0)) (by (with_reducible repeat (first | refine blk_drewN ?_ _ | refine blk_drew ?_ | refine blk_alloc ?_ _)); exact BK116.out) hb); have n1_ := Aside0.mk (below_step (by repeat (first | (with_reducible first | exact HB.out | apply below_alloc | apply pw_below_drewN | apply below_drew1 | refine below_set ?_ GE116.out) | exact HB.out)) hb); clear BK116; clear HB; have BK116 := n0_; have HB := n1_; clear n0_ n1_; (try clear hb); (try clear hb2); (try clear hk); (try clear hi)) | (go_at_call 20; (with_reducible refine (spec_l06Int.calls k a0 1000 t118 false _ A5.out).mono ?_); rintro e w' ⟨rfl, ⟨nd, rfl⟩⟩; (try first | exact ⟨rfl, _, World.drewN_drewN _ _ _⟩ | exact ⟨rfl, _, Eq.trans (World.drewN_drewN _ _ _) (congrArg (World.drewN _) (Nat.add_assoc _ _ _))⟩))))
   go_loopg [8] k (fun kq v8 w' => ∃ (x8_1 : Int) (x117000_1 : Int) (x117001_1 : Int), v8 = .int .i64 x8_1 ∧ Aside0 (spec_SymRead.l0 kq a0 l1 x8_1 = some (r1, r2, r3)) ∧ Aside0 (kq ≤ k) ∧ Aside0 (w'.heap[gb116]? = some (.cells #[.int .i64 x117000_1, .int .i64 x117001_1] 25 (0, 0))) ∧ Aside0 (Below w.heap.size w w'))
   case atStart => exact ⟨(0), (0), (0), (by first | rfl | (simp; done) | (simp [*]; done)), H', ⟨Nat.le_refl _⟩, ⟨by (with_reducible repeat (first | refine blk_drewN ?_ _ | refine blk_drew ?_ | refine blk_alloc ?_ _)); exact BK116.out⟩, ⟨by repeat (first | (with_reducible first | exact HB.out | apply below_alloc | apply pw_below_drewN | apply below_drew1 | refine below_set ?_ GE116.out) | exact HB.out)⟩⟩
   case round =>
    clear H'
    try clear c1
    try clear p2
    try clear c4
    try clear c6
    try clear c7
    try clear hcz9_0
    try clear hcz9_1
    try clear hfz9_0
    try clear hfz9_1
    obtain ⟨x8_1, x117000_1, x117001_1, rfl, HA, HK1, BK116, HB⟩ := hrel; cases gk with
    | zero => exact absurd HA.out (by simp [spec_SymRead.l0])
    | succ k1 =>
     have H := HA.out; clear HA; simp only [spec_SymRead.l0] at H
     by_cases c12 : x8_1 < (l1.length : Int)
     ·
      rw [if_pos c12] at H; have c12b0 : decide (x8_1 < (l1.length : Int)) = true := decide_eq_true c12; clear c12
      by_cases c13 : 0 ≤ x8_1
      ·
       rw [if_pos c13] at H; have c13b0 : decide (0 ≤ x8_1) = true := decide_eq_true c13; clear c13; have HC14 := Aside0.mk H; clear H; have p120 : 0 ≤ (x8_1 : Int) := of_decide_eq_true (by first | (with_reducible assumption) | assumption); have q120 : x8_1 < (l1.length : Int) := of_decide_eq_true (by first | (with_reducible assumption) | assumption); obtain ⟨ad120, e120, hx120_0⟩ := Kd.at_string HR1.out x8_1 p120 q120; cases e120; replace hx120_0 := (HB.out.cell (World.block_lt_of_cell? w _ hx120_0)).trans hx120_0; replace p120 := eq_true p120; replace q120 := eq_true q120
       go_upto_region 10 with (fail)
       repeat (go_quiet (fail); go_upto_region 10 with (fail))
       go_cut [49] (fun v49 wc => ∃ (kq : Nat) (x49_13 : Bool), v49 = .bool x49_13 ∧ Aside0 (spec_SymRead.j1 kq a0 l1 x8_1 ((rdOf ByteArray.empty l1 x8_1).size : Int) x49_13 = some (r1, r2, r3)) ∧ Aside0 (kq ≤ k1) ∧ Aside0 (wc.heap[gb116]? = some (.cells #[.int .i64 x117000_1, .int .i64 x117001_1] 25 (0, 0))) ∧ Aside0 (Below w.heap.size w wc))
       case first =>
        have H := HC14.out; clear HC14
        by_cases c15 : (a0.size : Int) < ((rdOf ByteArray.empty l1 x8_1).size : Int)
        ·
         rw [if_pos c15] at H; have c15b0 : decide ((a0.size : Int) < ((rdOf ByteArray.empty l1 x8_1).size : Int)) = true := decide_eq_true c15; have c15b1 : decide (a0.size < (rdOf ByteArray.empty l1 x8_1).size) = true := decide_eq_true (Int.ofNat_lt.mp c15); clear c15
         (first | rw [c15b0] | (simp only [i64_w, i32_w]; rw [c15b0]) | skip)
         have H' := Aside0.mk H; clear H
         go_wp2
         repeat (go_quiet (fail); try go_wp2)
         go_meet
         case rel => exact ⟨_, (true), (by first | rfl | (simp; done) | (simp [*]; done)), H', ⟨by have := HK1.out; first | omega | exact Nat.le_refl _⟩, ⟨by (with_reducible repeat (first | refine blk_drewN ?_ _ | refine blk_drew ?_ | refine blk_alloc ?_ _)); exact BK116.out⟩, ⟨by repeat (first | (with_reducible first | exact HB.out | apply below_alloc | apply pw_below_drewN | apply below_drew1 | refine below_set ?_ GE116.out) | exact HB.out)⟩⟩
        ·
         rw [if_neg c15] at H; have c15b0 : decide ((a0.size : Int) < ((rdOf ByteArray.empty l1 x8_1).size : Int)) = false := decide_eq_false c15; have c15b1 : decide (a0.size < (rdOf ByteArray.empty l1 x8_1).size) = false := decide_eq_false (fun h => c15 (Int.ofNat_lt.mpr h)); clear c15
         (first | rw [c15b0] | (simp only [i64_w, i32_w]; rw [c15b0]) | skip)
         by_cases c16 : 0 ≤ ((rdOf ByteArray.empty l1 x8_1).size : Int)
         ·
          rw [if_pos c16] at H; have c16b0 := eq_true c16; have c16b1 : decide (0 ≤ ((rdOf ByteArray.empty l1 x8_1).size : Int)) = true := decide_eq_true c16; clear c16
          by_cases c17 : ((rdOf ByteArray.empty l1 x8_1).size : Int) ≤ (a0.size : Int)
          ·
           rw [if_pos c17] at H; have c17b0 := eq_true c17; have c17b1 : decide (((rdOf ByteArray.empty l1 x8_1).size : Int) ≤ (a0.size : Int)) = true := decide_eq_true c17; clear c17; have H' := Aside0.mk H; clear H; have p121 : 0 ≤ (x8_1 : Int) := of_decide_eq_true (by first | (with_reducible assumption) | assumption); have q121 : x8_1 < (l1.length : Int) := of_decide_eq_true (by first | (with_reducible assumption) | assumption); obtain ⟨ad121, e121, hx121_0⟩ := Kd.at_string HR1.out x8_1 p121 q121; obtain rfl : ad120 = ad121 := (by injection e121); replace hx121_0 := (HB.out.cell (World.block_lt_of_cell? w _ hx121_0)).trans hx121_0; replace p121 := eq_true p121; replace q121 := eq_true q121
           go_wp2
           repeat (go_quiet (fail); try go_wp2)
           go_meet
           case rel => exact ⟨_, (((a0.extract 0 (rdOf ByteArray.empty l1 x8_1).size).toList != (rdOf ByteArray.empty l1 x8_1).toList)), (by first | rfl | (simp; done) | (simp [*]; done)), H', ⟨by have := HK1.out; first | omega | exact Nat.le_refl _⟩, ⟨by (with_reducible repeat (first | refine blk_drewN ?_ _ | refine blk_drew ?_ | refine blk_alloc ?_ _)); exact BK116.out⟩, ⟨by repeat (first | (with_reducible first | exact HB.out | apply below_alloc | apply pw_below_drewN | apply below_drew1 | refine below_set ?_ GE116.out) | exact HB.out)⟩⟩
          ·
           rw [if_neg c17] at H; exact absurd H (by simp)
         ·
          rw [if_neg c16] at H; exact absurd H (by simp)
       case rest =>
        clear HC14
        try clear c1
        try clear p1
        try clear q1
        try clear hx1
        try clear p2
        try clear c4
        try clear c6
        try clear c7
        try clear c12
        try clear c12b0
        try clear p12
        try clear q12
        try clear hx12
        try clear c13
        try clear c13b0
        try clear c15
        try clear c15b0
        try clear c15b1
        try clear c16
        try clear c16b0
        try clear c16b1
        try clear c17
        try clear c17b0
        try clear c17b1
        try clear hcz9_0
        try clear hcz9_1
        try clear hfz9_0
        try clear hfz9_1
        try clear hx120_0
        try clear hx121_0
        try clear p120
        try clear p121
        try clear p2
        try clear q120
        try clear q121
        obtain ⟨kq, x49_13, rfl, HA, HJ13, BK116, HB⟩ := hcut; cases kq with
        | zero => exact absurd HA.out (by simp [spec_SymRead.j1])
        | succ kj13 =>
         have H := HA.out; clear HA; simp only [spec_SymRead.j1] at H
         by_cases c18 : x49_13 = true
         ·
          subst c18; have H1 : (spec_SymRead.l0 kj13 a0 l1 (wrap64 (x8_1 + 1))) = some (r1, r2, r3) := by rw [if_pos rfl] at H; exact H
          clear H; have H := H1; clear H1; have H' := Aside0.mk H; clear H
          go_wp2
          repeat (go_quiet (fail); try go_wp2)
          go_roundg kj13
          case measure => have := HK1.out; have := HJ13.out; omega
          case rel => exact ⟨(wrap64 (x8_1 + 1)), (x117000_1), (x117001_1), (by first | rfl | (simp; done) | (simp [*]; done)), H', ⟨by have := HK1.out; have := HJ13.out; omega⟩, ⟨by (with_reducible repeat (first | refine blk_drewN ?_ _ | refine blk_drew ?_ | refine blk_alloc ?_ _)); exact BK116.out⟩, ⟨by repeat (first | (with_reducible first | exact HB.out | apply below_alloc | apply pw_below_drewN | apply below_drew1 | refine below_set ?_ GE116.out) | exact HB.out)⟩⟩
         ·
          replace c18 := Bool.eq_false_iff.mpr c18; subst c18; have H1 : (if 0 ≤ ((rdOf ByteArray.empty l1 x8_1).size : Int) then (if ((rdOf ByteArray.empty l1 x8_1).size : Int) ≤ (a0.size : Int) then (if (a0.extract (rdOf ByteArray.empty l1 x8_1).size a0.size).toList = ([] : List UInt8) then (some (wrap64 (x8_1 + 1), 0, true)) else (if ((a0.extract (rdOf ByteArray.empty l1 x8_1).size a0.size).size : Int) < 4 then (spec_SymRead.j2 kj13 a0 l1 x8_1 (a0.extract (rdOf ByteArray.empty l1 x8_1).size a0.size) true) else (if 0 < ((a0.extract (rdOf ByteArray.empty l1 x8_1).size a0.size).size : Int) then (if (bt (a0.extract (rdOf ByteArray.empty l1 x8_1).size a0.size) 0) = 32 then (if 1 < ((a0.extract (rdOf ByteArray.empty l1 x8_1).size a0.size).size : Int) then (if (bt (a0.extract (rdOf ByteArray.empty l1 x8_1).size a0.size) 1) = 43 then (if 2 < ((a0.extract (rdOf ByteArray.empty l1 x8_1).size a0.size).size : Int) then (if (bt (a0.extract (rdOf ByteArray.empty l1 x8_1).size a0.size) 2) = 32 then (if 3 < ((a0.extract (rdOf ByteArray.empty l1 x8_1).size a0.size).size : Int) then (spec_SymRead.j2 kj13 a0 l1 x8_1 (a0.extract (rdOf ByteArray.empty l1 x8_1).size a0.size) ((bt (a0.extract (rdOf ByteArray.empty l1 x8_1).size a0.size) 3) == 45)) else (none)) else (spec_SymRead.j2 kj13 a0 l1 x8_1 (a0.extract (rdOf ByteArray.empty l1 x8_1).size a0.size) true)) else (none)) else (if (bt (a0.extract (rdOf ByteArray.empty l1 x8_1).size a0.size) 1) = 45 then (if 2 < ((a0.extract (rdOf ByteArray.empty l1 x8_1).size a0.size).size : Int) then (if (bt (a0.extract (rdOf ByteArray.empty l1 x8_1).size a0.size) 2) = 32 then (if 3 < ((a0.extract (rdOf ByteArray.empty l1 x8_1).size a0.size).size : Int) then (spec_SymRead.j2 kj13 a0 l1 x8_1 (a0.extract (rdOf ByteArray.empty l1 x8_1).size a0.size) ((bt (a0.extract (rdOf ByteArray.empty l1 x8_1).size a0.size) 3) == 45)) else (none)) else (spec_SymRead.j2 kj13 a0 l1 x8_1 (a0.extract (rdOf ByteArray.empty l1 x8_1).size a0.size) true)) else (none)) else (spec_SymRead.j2 kj13 a0 l1 x8_1 (a0.extract (rdOf ByteArray.empty l1 x8_1).size a0.size) true))) else (none)) else (spec_SymRead.j2 kj13 a0 l1 x8_1 (a0.extract (rdOf ByteArray.empty l1 x8_1).size a0.size) true)) else (none)))) else (none)) else (none)) = some (r1, r2, r3) := by rw [if_neg (show ¬ (false = true) by decide)] at H; exact H
          clear H; have H := H1; clear H1
          by_cases c19 : 0 ≤ ((rdOf ByteArray.empty l1 x8_1).size : Int)
          ·
           rw [if_pos c19] at H; have c19b0 := eq_true c19; have c19b1 : decide (0 ≤ ((rdOf ByteArray.empty l1 x8_1).size : Int)) = true := decide_eq_true c19; clear c19
           by_cases c20 : ((rdOf ByteArray.empty l1 x8_1).size : Int) ≤ (a0.size : Int)
           ·
            rw [if_pos c20] at H; have c20b0 := eq_true c20; have c20b1 : decide (((rdOf ByteArray.empty l1 x8_1).size : Int) ≤ (a0.size : Int)) = true := decide_eq_true c20; clear c20
            go_upto_region 12 with (fail)
            generalize he_ : (a0.extract (rdOf ByteArray.empty l1 x8_1).size a0.size) = qe_ at H ⊢
            by_cases c21 : qe_.toList = ([] : List UInt8)
            ·
             rw [if_pos c21] at H; have c21b0 : (qe_.toList == ([] : List UInt8)) = true := beq_iff_eq.mpr c21; have c21b1 : (qe_.toList != ([] : List UInt8)) = false := bne_eq_false_iff_eq.mpr c21
             (try (have c21b2 : qe_.toList.isEmpty = true := by rw [c21]; rfl))
             clear c21; simp only [Option.some.injEq, Prod.mk.injEq] at H; obtain ⟨rfl, rfl, rfl⟩ := H; have hcz22_0 : wc.cell? ⟨gb116, 0, none⟩ = some (.int .i64 x117000_1) := (blk_cell BK116.out 0).trans rfl; have hcz22_1 : wc.cell? ⟨gb116, 1, none⟩ = some (.int .i64 x117001_1) := (blk_cell BK116.out 1).trans rfl; have hfz22_0 := blk_frozen BK116.out 0; have hfz22_1 := blk_frozen BK116.out 1
             go_wp2
             repeat (go_quiet (fail); try go_wp2)
             refine bodyPost_ret (results_ct rfl _ _ gb116 25 #[.int .i64 (wrap64 (x8_1 + 1)), .int .i64 0] (0, 0) _ rfl (by (with_reducible repeat (first | refine blk_drewN ?_ _ | refine blk_drew ?_ | refine blk_alloc ?_ _)); refine blk_put (cs := #[.int .i64 (wrap64 (x8_1 + 1)), .int .i64 x117001_1]) ?_ 1 _ rfl; (with_reducible repeat (first | refine blk_drewN ?_ _ | refine blk_drew ?_ | refine blk_alloc ?_ _)); refine blk_put (cs := #[.int .i64 x117000_1, .int .i64 x117001_1]) ?_ 0 _ rfl; (with_reducible repeat (first | refine blk_drewN ?_ _ | refine blk_drew ?_ | refine blk_alloc ?_ _)); exact BK116.out) Tryd.underlying25 rfl (by kernel_rfl)) rfl ?_; exact ⟨by first | rfl | (simp [errW_none, errW_some] <;> rfl) | (simp [*, errW_none, errW_some] <;> rfl), by repeat (first | (with_reducible first | exact HB.out | apply below_alloc | apply pw_below_drewN | apply below_drew1 | refine below_set ?_ GE116.out) | exact HB.out)⟩
            ·
             rw [if_neg c21] at H; have c21b0 : (qe_.toList == ([] : List UInt8)) = false := beq_eq_false_iff_ne.mpr c21; have c21b1 : (qe_.toList != ([] : List UInt8)) = true := bne_iff_ne.mpr c21
             (try (have c21b2 : qe_.toList.isEmpty = false := List.isEmpty_eq_false_iff.mpr c21))
             have HC23 := Aside0.mk H; clear H
             go_upto_region 14 with (fail)
             repeat (go_quiet (fail); go_upto_region 14 with (fail))
             go_cut [85] (fun v85 wc => ∃ (kq : Nat) (x85_22 : Bool), v85 = .bool x85_22 ∧ Aside0 (spec_SymRead.j2 kq a0 l1 x8_1 qe_ x85_22 = some (r1, r2, r3)) ∧ Aside0 (kq ≤ kj13) ∧ Aside0 (wc.heap[gb116]? = some (.cells #[.int .i64 x117000_1, .int .i64 x117001_1] 25 (0, 0))) ∧ Aside0 (Below w.heap.size w wc))
             case first =>
              have H := HC23.out; clear HC23
              by_cases c24 : (qe_.size : Int) < 4
              ·
               rw [if_pos c24] at H; have c24b0 : decide ((qe_.size : Int) < 4) = true := decide_eq_true c24; have c24b1 : decide (qe_.size < 4) = true := decide_eq_true (by omega); clear c24
               (first | rw [c24b0] | (simp only [i64_w, i32_w]; rw [c24b0]) | skip)
               have H' := Aside0.mk H; clear H
               go_wp2
               repeat (go_quiet (fail); try go_wp2)
               go_meet
               case rel => exact ⟨_, (true), (by first | rfl | (simp; done) | (simp [*]; done)), H', ⟨by have := HK1.out; have := HJ13.out; first | omega | exact Nat.le_refl _⟩, ⟨by (with_reducible repeat (first | refine blk_drewN ?_ _ | refine blk_drew ?_ | refine blk_alloc ?_ _)); exact BK116.out⟩, ⟨by repeat (first | (with_reducible first | exact HB.out | apply below_alloc | apply pw_below_drewN | apply below_drew1 | refine below_set ?_ GE116.out) | exact HB.out)⟩⟩
              ·
               rw [if_neg c24] at H; have c24b0 : decide ((qe_.size : Int) < 4) = false := decide_eq_false c24; have c24b1 : decide (qe_.size < 4) = false := decide_eq_false (by omega); clear c24
               (first | rw [c24b0] | (simp only [i64_w, i32_w]; rw [c24b0]) | skip)
               by_cases c25 : 0 < (qe_.size : Int)
               ·
                rw [if_pos c25] at H; have c25b0 : decide (0 < (qe_.size : Int)) = true := decide_eq_true c25; have c25b1 : decide (0 < qe_.size) = true := decide_eq_true (by omega); clear c25
                by_cases c27 : (bt qe_ 0) = 32
                ·
                 rw [if_pos c27] at H; have c27b0 : ((bt qe_ 0) == 32) = true := beq_iff_eq.mpr c27; have c27b1 : ((bt qe_ 0) != 32) = false := bne_eq_false_iff_eq.mpr c27; clear c27
                 by_cases c28 : 1 < (qe_.size : Int)
                 ·
                  rw [if_pos c28] at H; have c28b0 : decide (1 < (qe_.size : Int)) = true := decide_eq_true c28; have c28b1 : decide (1 < qe_.size) = true := decide_eq_true (by omega); clear c28
                  by_cases c30 : (bt qe_ 1) = 43
                  ·
                   rw [if_pos c30] at H; have c30b0 : ((bt qe_ 1) == 43) = true := beq_iff_eq.mpr c30; have c30b1 : ((bt qe_ 1) != 43) = false := bne_eq_false_iff_eq.mpr c30; clear c30
                   by_cases c31 : 2 < (qe_.size : Int)
                   ·
                    rw [if_pos c31] at H; have c31b0 : decide (2 < (qe_.size : Int)) = true := decide_eq_true c31; have c31b1 : decide (2 < qe_.size) = true := decide_eq_true (by omega); clear c31
                    by_cases c33 : (bt qe_ 2) = 32
                    ·
                     rw [if_pos c33] at H; have c33b0 : ((bt qe_ 2) == 32) = true := beq_iff_eq.mpr c33; have c33b1 : ((bt qe_ 2) != 32) = false := bne_eq_false_iff_eq.mpr c33; clear c33
                     by_cases c34 : 3 < (qe_.size : Int)
                     ·
                      rw [if_pos c34] at H; have c34b0 : decide (3 < (qe_.size : Int)) = true := decide_eq_true c34; have c34b1 : decide (3 < qe_.size) = true := decide_eq_true (by omega); clear c34; have H' := Aside0.mk H; clear H; have p26 : 0 ≤ (0 : Int) := (by omega); have q26 : 0 < qe_.size := (by have : (0 : Int) < (qe_.size : Int) := of_decide_eq_true (by first | (with_reducible assumption) | assumption); omega); have hx26 : ∀ h : 0 < qe_.size, ((qe_[0]'h).toNat : Int) = bt qe_ 0 := bt_at qe_ 0; clear p26; have qi26 : (0 < (qe_.size : Int)) = True := eq_true (of_decide_eq_true (by first | (with_reducible assumption) | assumption)); replace q26 := eq_true q26; have p29 : 0 ≤ (1 : Int) := (by omega); have q29 : 1 < qe_.size := (by have : (1 : Int) < (qe_.size : Int) := of_decide_eq_true (by first | (with_reducible assumption) | assumption); omega); have hx29 : ∀ h : 1 < qe_.size, ((qe_[1]'h).toNat : Int) = bt qe_ 1 := bt_at qe_ 1; clear p29; have qi29 : (1 < (qe_.size : Int)) = True := eq_true (of_decide_eq_true (by first | (with_reducible assumption) | assumption)); replace q29 := eq_true q29; have p32 : 0 ≤ (2 : Int) := (by omega); have q32 : 2 < qe_.size := (by have : (2 : Int) < (qe_.size : Int) := of_decide_eq_true (by first | (with_reducible assumption) | assumption); omega); have hx32 : ∀ h : 2 < qe_.size, ((qe_[2]'h).toNat : Int) = bt qe_ 2 := bt_at qe_ 2; clear p32; have qi32 : (2 < (qe_.size : Int)) = True := eq_true (of_decide_eq_true (by first | (with_reducible assumption) | assumption)); replace q32 := eq_true q32; have p35 : 0 ≤ (3 : Int) := (by omega); have q35 : 3 < qe_.size := (by have : (3 : Int) < (qe_.size : Int) := of_decide_eq_true (by first | (with_reducible assumption) | assumption); omega); have hx35 : ∀ h : 3 < qe_.size, ((qe_[3]'h).toNat : Int) = bt qe_ 3 := bt_at qe_ 3; clear p35; have qi35 : (3 < (qe_.size : Int)) = True := eq_true (of_decide_eq_true (by first | (with_reducible assumption) | assumption)); replace q35 := eq_true q35
                      go_wp2
                      repeat (go_quiet (fail); try go_wp2)
                      go_meet
                      case rel => exact ⟨_, (((bt qe_ 3) == 45)), (by first | rfl | (simp; done) | (simp [*]; done)), H', ⟨by have := HK1.out; have := HJ13.out; first | omega | exact Nat.le_refl _⟩, ⟨by (with_reducible repeat (first | refine blk_drewN ?_ _ | refine blk_drew ?_ | refine blk_alloc ?_ _)); exact BK116.out⟩, ⟨by repeat (first | (with_reducible first | exact HB.out | apply below_alloc | apply pw_below_drewN | apply below_drew1 | refine below_set ?_ GE116.out) | exact HB.out)⟩⟩
                     ·
                      rw [if_neg c34] at H; exact absurd H (by simp)
                    ·
                     rw [if_neg c33] at H; have c33b0 : ((bt qe_ 2) == 32) = false := beq_eq_false_iff_ne.mpr c33; have c33b1 : ((bt qe_ 2) != 32) = true := bne_iff_ne.mpr c33; have H' := Aside0.mk H; clear H; have p26 : 0 ≤ (0 : Int) := (by omega); have q26 : 0 < qe_.size := (by have : (0 : Int) < (qe_.size : Int) := of_decide_eq_true (by first | (with_reducible assumption) | assumption); omega); have hx26 : ∀ h : 0 < qe_.size, ((qe_[0]'h).toNat : Int) = bt qe_ 0 := bt_at qe_ 0; clear p26; have qi26 : (0 < (qe_.size : Int)) = True := eq_true (of_decide_eq_true (by first | (with_reducible assumption) | assumption)); replace q26 := eq_true q26; have p29 : 0 ≤ (1 : Int) := (by omega); have q29 : 1 < qe_.size := (by have : (1 : Int) < (qe_.size : Int) := of_decide_eq_true (by first | (with_reducible assumption) | assumption); omega); have hx29 : ∀ h : 1 < qe_.size, ((qe_[1]'h).toNat : Int) = bt qe_ 1 := bt_at qe_ 1; clear p29; have qi29 : (1 < (qe_.size : Int)) = True := eq_true (of_decide_eq_true (by first | (with_reducible assumption) | assumption)); replace q29 := eq_true q29; have p32 : 0 ≤ (2 : Int) := (by omega); have q32 : 2 < qe_.size := (by have : (2 : Int) < (qe_.size : Int) := of_decide_eq_true (by first | (with_reducible assumption) | assumption); omega); have hx32 : ∀ h : 2 < qe_.size, ((qe_[2]'h).toNat : Int) = bt qe_ 2 := bt_at qe_ 2; clear p32; have qi32 : (2 < (qe_.size : Int)) = True := eq_true (of_decide_eq_true (by first | (with_reducible assumption) | assumption)); replace q32 := eq_true q32
                     go_wp2
                     repeat (go_quiet (fail); try go_wp2)
                     go_meet
                     case rel => exact ⟨_, (true), (by first | rfl | (simp; done) | (simp [*]; done)), H', ⟨by have := HK1.out; have := HJ13.out; first | omega | exact Nat.le_refl _⟩, ⟨by (with_reducible repeat (first | refine blk_drewN ?_ _ | refine blk_drew ?_ | refine blk_alloc ?_ _)); exact BK116.out⟩, ⟨by repeat (first | (with_reducible first | exact HB.out | apply below_alloc | apply pw_below_drewN | apply below_drew1 | refine below_set ?_ GE116.out) | exact HB.out)⟩⟩
                   ·
                    rw [if_neg c31] at H; exact absurd H (by simp)
                  ·
                   rw [if_neg c30] at H; have c30b0 : ((bt qe_ 1) == 43) = false := beq_eq_false_iff_ne.mpr c30; have c30b1 : ((bt qe_ 1) != 43) = true := bne_iff_ne.mpr c30
                   by_cases c37 : (bt qe_ 1) = 45
                   ·
                    rw [if_pos c37] at H; have c37b0 : ((bt qe_ 1) == 45) = true := beq_iff_eq.mpr c37; have c37b1 : ((bt qe_ 1) != 45) = false := bne_eq_false_iff_eq.mpr c37; clear c37
                    by_cases c38 : 2 < (qe_.size : Int)
                    ·
                     rw [if_pos c38] at H; have c38b0 : decide (2 < (qe_.size : Int)) = true := decide_eq_true c38; have c38b1 : decide (2 < qe_.size) = true := decide_eq_true (by omega); clear c38
                     by_cases c40 : (bt qe_ 2) = 32
                     ·
                      rw [if_pos c40] at H; have c40b0 : ((bt qe_ 2) == 32) = true := beq_iff_eq.mpr c40; have c40b1 : ((bt qe_ 2) != 32) = false := bne_eq_false_iff_eq.mpr c40; clear c40
                      by_cases c41 : 3 < (qe_.size : Int)
                      ·
                       rw [if_pos c41] at H; have c41b0 : decide (3 < (qe_.size : Int)) = true := decide_eq_true c41; have c41b1 : decide (3 < qe_.size) = true := decide_eq_true (by omega); clear c41; have H' := Aside0.mk H; clear H; have p26 : 0 ≤ (0 : Int) := (by omega); have q26 : 0 < qe_.size := (by have : (0 : Int) < (qe_.size : Int) := of_decide_eq_true (by first | (with_reducible assumption) | assumption); omega); have hx26 : ∀ h : 0 < qe_.size, ((qe_[0]'h).toNat : Int) = bt qe_ 0 := bt_at qe_ 0; clear p26; have qi26 : (0 < (qe_.size : Int)) = True := eq_true (of_decide_eq_true (by first | (with_reducible assumption) | assumption)); replace q26 := eq_true q26; have p29 : 0 ≤ (1 : Int) := (by omega); have q29 : 1 < qe_.size := (by have : (1 : Int) < (qe_.size : Int) := of_decide_eq_true (by first | (with_reducible assumption) | assumption); omega); have hx29 : ∀ h : 1 < qe_.size, ((qe_[1]'h).toNat : Int) = bt qe_ 1 := bt_at qe_ 1; clear p29; have qi29 : (1 < (qe_.size : Int)) = True := eq_true (of_decide_eq_true (by first | (with_reducible assumption) | assumption)); replace q29 := eq_true q29; have p36 : 0 ≤ (1 : Int) := (by omega); have q36 : 1 < qe_.size := (by have : (1 : Int) < (qe_.size : Int) := of_decide_eq_true (by first | (with_reducible assumption) | assumption); omega); have hx36 : ∀ h : 1 < qe_.size, ((qe_[1]'h).toNat : Int) = bt qe_ 1 := bt_at qe_ 1; clear p36; have qi36 : (1 < (qe_.size : Int)) = True := eq_true (of_decide_eq_true (by first | (with_reducible assumption) | assumption)); replace q36 := eq_true q36; have p39 : 0 ≤ (2 : Int) := (by omega); have q39 : 2 < qe_.size := (by have : (2 : Int) < (qe_.size : Int) := of_decide_eq_true (by first | (with_reducible assumption) | assumption); omega); have hx39 : ∀ h : 2 < qe_.size, ((qe_[2]'h).toNat : Int) = bt qe_ 2 := bt_at qe_ 2; clear p39; have qi39 : (2 < (qe_.size : Int)) = True := eq_true (of_decide_eq_true (by first | (with_reducible assumption) | assumption)); replace q39 := eq_true q39; have p42 : 0 ≤ (3 : Int) := (by omega); have q42 : 3 < qe_.size := (by have : (3 : Int) < (qe_.size : Int) := of_decide_eq_true (by first | (with_reducible assumption) | assumption); omega); have hx42 : ∀ h : 3 < qe_.size, ((qe_[3]'h).toNat : Int) = bt qe_ 3 := bt_at qe_ 3; clear p42; have qi42 : (3 < (qe_.size : Int)) = True := eq_true (of_decide_eq_true (by first | (with_reducible assumption) | assumption)); replace q42 := eq_true q42
                       go_wp2
                       repeat (go_quiet (fail); try go_wp2)
                       go_meet
                       case rel => exact ⟨_, (((bt qe_ 3) == 45)), (by first | rfl | (simp; done) | (simp [*]; done)), H', ⟨by have := HK1.out; have := HJ13.out; first | omega | exact Nat.le_refl _⟩, ⟨by (with_reducible repeat (first | refine blk_drewN ?_ _ | refine blk_drew ?_ | refine blk_alloc ?_ _)); exact BK116.out⟩, ⟨by repeat (first | (with_reducible first | exact HB.out | apply below_alloc | apply pw_below_drewN | apply below_drew1 | refine below_set ?_ GE116.out) | exact HB.out)⟩⟩
                      ·
                       rw [if_neg c41] at H; exact absurd H (by simp)
                     ·
                      rw [if_neg c40] at H; have c40b0 : ((bt qe_ 2) == 32) = false := beq_eq_false_iff_ne.mpr c40; have c40b1 : ((bt qe_ 2) != 32) = true := bne_iff_ne.mpr c40; have H' := Aside0.mk H; clear H; have p26 : 0 ≤ (0 : Int) := (by omega); have q26 : 0 < qe_.size := (by have : (0 : Int) < (qe_.size : Int) := of_decide_eq_true (by first | (with_reducible assumption) | assumption); omega); have hx26 : ∀ h : 0 < qe_.size, ((qe_[0]'h).toNat : Int) = bt qe_ 0 := bt_at qe_ 0; clear p26; have qi26 : (0 < (qe_.size : Int)) = True := eq_true (of_decide_eq_true (by first | (with_reducible assumption) | assumption)); replace q26 := eq_true q26; have p29 : 0 ≤ (1 : Int) := (by omega); have q29 : 1 < qe_.size := (by have : (1 : Int) < (qe_.size : Int) := of_decide_eq_true (by first | (with_reducible assumption) | assumption); omega); have hx29 : ∀ h : 1 < qe_.size, ((qe_[1]'h).toNat : Int) = bt qe_ 1 := bt_at qe_ 1; clear p29; have qi29 : (1 < (qe_.size : Int)) = True := eq_true (of_decide_eq_true (by first | (with_reducible assumption) | assumption)); replace q29 := eq_true q29; have p36 : 0 ≤ (1 : Int) := (by omega); have q36 : 1 < qe_.size := (by have : (1 : Int) < (qe_.size : Int) := of_decide_eq_true (by first | (with_reducible assumption) | assumption); omega); have hx36 : ∀ h : 1 < qe_.size, ((qe_[1]'h).toNat : Int) = bt qe_ 1 := bt_at qe_ 1; clear p36; have qi36 : (1 < (qe_.size : Int)) = True := eq_true (of_decide_eq_true (by first | (with_reducible assumption) | assumption)); replace q36 := eq_true q36; have p39 : 0 ≤ (2 : Int) := (by omega); have q39 : 2 < qe_.size := (by have : (2 : Int) < (qe_.size : Int) := of_decide_eq_true (by first | (with_reducible assumption) | assumption); omega); have hx39 : ∀ h : 2 < qe_.size, ((qe_[2]'h).toNat : Int) = bt qe_ 2 := bt_at qe_ 2; clear p39; have qi39 : (2 < (qe_.size : Int)) = True := eq_true (of_decide_eq_true (by first | (with_reducible assumption) | assumption)); replace q39 := eq_true q39
                      go_wp2
                      repeat (go_quiet (fail); try go_wp2)
                      go_meet
                      case rel => exact ⟨_, (true), (by first | rfl | (simp; done) | (simp [*]; done)), H', ⟨by have := HK1.out; have := HJ13.out; first | omega | exact Nat.le_refl _⟩, ⟨by (with_reducible repeat (first | refine blk_drewN ?_ _ | refine blk_drew ?_ | refine blk_alloc ?_ _)); exact BK116.out⟩, ⟨by repeat (first | (with_reducible first | exact HB.out | apply below_alloc | apply pw_below_drewN | apply below_drew1 | refine below_set ?_ GE116.out) | exact HB.out)⟩⟩
                    ·
                     rw [if_neg c38] at H; exact absurd H (by simp)
                   ·
                    rw [if_neg c37] at H; have c37b0 : ((bt qe_ 1) == 45) = false := beq_eq_false_iff_ne.mpr c37; have c37b1 : ((bt qe_ 1) != 45) = true := bne_iff_ne.mpr c37; have H' := Aside0.mk H; clear H; have p26 : 0 ≤ (0 : Int) := (by omega); have q26 : 0 < qe_.size := (by have : (0 : Int) < (qe_.size : Int) := of_decide_eq_true (by first | (with_reducible assumption) | assumption); omega); have hx26 : ∀ h : 0 < qe_.size, ((qe_[0]'h).toNat : Int) = bt qe_ 0 := bt_at qe_ 0; clear p26; have qi26 : (0 < (qe_.size : Int)) = True := eq_true (of_decide_eq_true (by first | (with_reducible assumption) | assumption)); replace q26 := eq_true q26; have p29 : 0 ≤ (1 : Int) := (by omega); have q29 : 1 < qe_.size := (by have : (1 : Int) < (qe_.size : Int) := of_decide_eq_true (by first | (with_reducible assumption) | assumption); omega); have hx29 : ∀ h : 1 < qe_.size, ((qe_[1]'h).toNat : Int) = bt qe_ 1 := bt_at qe_ 1; clear p29; have qi29 : (1 < (qe_.size : Int)) = True := eq_true (of_decide_eq_true (by first | (with_reducible assumption) | assumption)); replace q29 := eq_true q29; have p36 : 0 ≤ (1 : Int) := (by omega); have q36 : 1 < qe_.size := (by have : (1 : Int) < (qe_.size : Int) := of_decide_eq_true (by first | (with_reducible assumption) | assumption); omega); have hx36 : ∀ h : 1 < qe_.size, ((qe_[1]'h).toNat : Int) = bt qe_ 1 := bt_at qe_ 1; clear p36; have qi36 : (1 < (qe_.size : Int)) = True := eq_true (of_decide_eq_true (by first | (with_reducible assumption) | assumption)); replace q36 := eq_true q36
                    go_wp2
                    repeat (go_quiet (fail); try go_wp2)
                    go_meet
                    case rel => exact ⟨_, (true), (by first | rfl | (simp; done) | (simp [*]; done)), H', ⟨by have := HK1.out; have := HJ13.out; first | omega | exact Nat.le_refl _⟩, ⟨by (with_reducible repeat (first | refine blk_drewN ?_ _ | refine blk_drew ?_ | refine blk_alloc ?_ _)); exact BK116.out⟩, ⟨by repeat (first | (with_reducible first | exact HB.out | apply below_alloc | apply pw_below_drewN | apply below_drew1 | refine below_set ?_ GE116.out) | exact HB.out)⟩⟩
                 ·
                  rw [if_neg c28] at H; exact absurd H (by simp)
                ·
                 rw [if_neg c27] at H; have c27b0 : ((bt qe_ 0) == 32) = false := beq_eq_false_iff_ne.mpr c27; have c27b1 : ((bt qe_ 0) != 32) = true := bne_iff_ne.mpr c27; have H' := Aside0.mk H; clear H; have p26 : 0 ≤ (0 : Int) := (by omega); have q26 : 0 < qe_.size := (by have : (0 : Int) < (qe_.size : Int) := of_decide_eq_true (by first | (with_reducible assumption) | assumption); omega); have hx26 : ∀ h : 0 < qe_.size, ((qe_[0]'h).toNat : Int) = bt qe_ 0 := bt_at qe_ 0; clear p26; have qi26 : (0 < (qe_.size : Int)) = True := eq_true (of_decide_eq_true (by first | (with_reducible assumption) | assumption)); replace q26 := eq_true q26
                 go_wp2
                 repeat (go_quiet (fail); try go_wp2)
                 go_meet
                 case rel => exact ⟨_, (true), (by first | rfl | (simp; done) | (simp [*]; done)), H', ⟨by have := HK1.out; have := HJ13.out; first | omega | exact Nat.le_refl _⟩, ⟨by (with_reducible repeat (first | refine blk_drewN ?_ _ | refine blk_drew ?_ | refine blk_alloc ?_ _)); exact BK116.out⟩, ⟨by repeat (first | (with_reducible first | exact HB.out | apply below_alloc | apply pw_below_drewN | apply below_drew1 | refine below_set ?_ GE116.out) | exact HB.out)⟩⟩
               ·
                rw [if_neg c25] at H; exact absurd H (by simp)
             case rest =>
              clear HC23
              try clear c1
              try clear p1
              try clear q1
              try clear hx1
              try clear c2
              try clear p2
              try clear q2
              try clear hx2
              try clear qi2
              try clear c3
              try clear p3
              try clear q3
              try clear hx3
              try clear qi3
              try clear c4
              try clear p4
              try clear q4
              try clear hx4
              try clear qi4
              try clear c6
              try clear p6
              try clear c7
              try clear c12
              try clear c12b0
              try clear p12
              try clear q12
              try clear hx12
              try clear c13
              try clear c13b0
              try clear c15
              try clear c15b0
              try clear c15b1
              try clear c16
              try clear c16b0
              try clear c16b1
              try clear c17
              try clear c17b0
              try clear c17b1
              try clear c18
              try clear c19
              try clear c19b0
              try clear c19b1
              try clear c20
              try clear c20b0
              try clear c20b1
              try clear c21
              try clear c21b0
              try clear c21b1
              try clear c21b2
              try clear c24
              try clear c24b0
              try clear c24b1
              try clear c25
              try clear c25b0
              try clear c25b1
              try clear p26
              try clear q26
              try clear hx26
              try clear qi26
              try clear c27
              try clear c27b0
              try clear c27b1
              try clear c28
              try clear c28b0
              try clear c28b1
              try clear p29
              try clear q29
              try clear hx29
              try clear qi29
              try clear c30
              try clear c30b0
              try clear c30b1
              try clear c31
              try clear c31b0
              try clear c31b1
              try clear p32
              try clear q32
              try clear hx32
              try clear qi32
              try clear c33
              try clear c33b0
              try clear c33b1
              try clear c34
              try clear c34b0
              try clear c34b1
              try clear p35
              try clear q35
              try clear hx35
              try clear qi35
              try clear p36
              try clear q36
              try clear hx36
              try clear qi36
              try clear c37
              try clear c37b0
              try clear c37b1
              try clear c38
              try clear c38b0
              try clear c38b1
              try clear p39
              try clear q39
              try clear hx39
              try clear qi39
              try clear c40
              try clear c40b0
              try clear c40b1
              try clear c41
              try clear c41b0
              try clear c41b1
              try clear p42
              try clear q42
              try clear hx42
              try clear qi42
              try clear hcz22_0
              try clear hcz22_1
              try clear hcz9_0
              try clear hcz9_1
              try clear hfz22_0
              try clear hfz22_1
              try clear hfz9_0
              try clear hfz9_1
              try clear hx120_0
              try clear hx121_0
              try clear p1
              try clear p12
              try clear p120
              try clear p121
              try clear p2
              try clear p26
              try clear p29
              try clear p32
              try clear p35
              try clear p36
              try clear p39
              try clear p42
              try clear q1
              try clear q12
              try clear q120
              try clear q121
              try clear q26
              try clear q29
              try clear q32
              try clear q35
              try clear q36
              try clear q39
              try clear q42
              obtain ⟨kq, x85_22, rfl, HA, HJ22, BK116, HB⟩ := hcut; cases kq with
              | zero => exact absurd HA.out (by simp [spec_SymRead.j2])
              | succ kj22 =>
               have H := HA.out; clear HA; simp only [spec_SymRead.j2] at H
               by_cases c43 : x85_22 = true
               ·
                subst c43; have H1 : (spec_SymRead.l0 kj22 a0 l1 (wrap64 (x8_1 + 1))) = some (r1, r2, r3) := by rw [if_pos rfl] at H; exact H
                clear H; have H := H1; clear H1; have H' := Aside0.mk H; clear H
                go_wp2
                repeat (go_quiet (fail); try go_wp2)
                go_roundg kj22
                case measure => have := HK1.out; have := HJ13.out; have := HJ22.out; omega
                case rel => exact ⟨(wrap64 (x8_1 + 1)), (x117000_1), (x117001_1), (by first | rfl | (simp; done) | (simp [*]; done)), H', ⟨by have := HK1.out; have := HJ13.out; have := HJ22.out; omega⟩, ⟨by (with_reducible repeat (first | refine blk_drewN ?_ _ | refine blk_drew ?_ | refine blk_alloc ?_ _)); exact BK116.out⟩, ⟨by repeat (first | (with_reducible first | exact HB.out | apply below_alloc | apply pw_below_drewN | apply below_drew1 | refine below_set ?_ GE116.out) | exact HB.out)⟩⟩
               ·
                replace c43 := Bool.eq_false_iff.mpr c43; subst c43; have H1 : (if 3 ≤ (qe_.size : Int) then ((spec_l06Int.f kj22 (qe_.extract 3 qe_.size) 1000).bind fun bt122 => (if bt122.2 = true then (spec_SymRead.j3 kj22 a0 l1 x8_1 qe_ bt122.1 (decide (bt122.1 > 0))) else (spec_SymRead.j3 kj22 a0 l1 x8_1 qe_ bt122.1 false))) else (none)) = some (r1, r2, r3) := by rw [if_neg (show ¬ (false = true) by decide)] at H; exact H
                clear H; have H := H1; clear H1
                by_cases c44 : 3 ≤ (qe_.size : Int)
                ·
                 rw [if_pos c44] at H; have c44b0 := eq_true c44; have c44b1 : decide (3 ≤ (qe_.size : Int)) = true := decide_eq_true c44; clear c44; replace H := Option.bind_eq_some_iff.mp H; obtain ⟨⟨t122, t123⟩, A450, H⟩ := H; replace H : (if t123 = true then (spec_SymRead.j3 kj22 a0 l1 x8_1 qe_ t122 (decide (t122 > 0))) else (spec_SymRead.j3 kj22 a0 l1 x8_1 qe_ t122 false)) = some (r1, r2, r3) := H; have A45 := Aside0.mk A450; clear A450; have HC46 := Aside0.mk H; clear H
                 go_upto_region 16 with (first | (go_at_call 20; (with_reducible refine (spec_l06Int.calls kj22 (qe_.extract 3 qe_.size) 1000 t122 t123 _ A45.out).mono ?_); rintro e w' ⟨rfl, ⟨nd, rfl⟩⟩; (try first | exact ⟨rfl, _, World.drewN_drewN _ _ _⟩ | exact ⟨rfl, _, Eq.trans (World.drewN_drewN _ _ _) (congrArg (World.drewN _) (Nat.add_assoc _ _ _))⟩)))
                 repeat (go_quiet (first | (go_at_call 20; (with_reducible refine (spec_l06Int.calls kj22 (qe_.extract 3 qe_.size) 1000 t122 t123 _ A45.out).mono ?_); rintro e w' ⟨rfl, ⟨nd, rfl⟩⟩; (try first | exact ⟨rfl, _, World.drewN_drewN _ _ _⟩ | exact ⟨rfl, _, Eq.trans (World.drewN_drewN _ _ _) (congrArg (World.drewN _) (Nat.add_assoc _ _ _))⟩))); go_upto_region 16 with (first | (go_at_call 20; (with_reducible refine (spec_l06Int.calls kj22 (qe_.extract 3 qe_.size) 1000 t122 t123 _ A45.out).mono ?_); rintro e w' ⟨rfl, ⟨nd, rfl⟩⟩; (try first | exact ⟨rfl, _, World.drewN_drewN _ _ _⟩ | exact ⟨rfl, _, Eq.trans (World.drewN_drewN _ _ _) (congrArg (World.drewN _) (Nat.add_assoc _ _ _))⟩))))
                 (try simp only [Act.put, List.setIfInBounds_toArray, List.set_cons_zero, List.set_cons_succ])
                 go_cut [96] (fun v96 wc => ∃ (kq : Nat) (x96_45 : Bool), v96 = .bool x96_45 ∧ Aside0 (spec_SymRead.j3 kq a0 l1 x8_1 qe_ t122 x96_45 = some (r1, r2, r3)) ∧ Aside0 (kq ≤ kj22) ∧ Aside0 (wc.heap[gb116]? = some (.cells #[.int .i64 x117000_1, .int .i64 x117001_1] 25 (0, 0))) ∧ Aside0 (Below w.heap.size w wc))
                 case first =>
                  have H := HC46.out; clear HC46
                  by_cases c47 : t123 = true
                  ·
                   subst c47; have H1 : (spec_SymRead.j3 kj22 a0 l1 x8_1 qe_ t122 (decide (t122 > 0))) = some (r1, r2, r3) := by rw [if_pos rfl] at H; exact H
                   clear H; have H := H1; clear H1; have H' := Aside0.mk H; clear H
                   go_wp2
                   repeat (go_quiet (fail); try go_wp2)
                   go_meet
                   case rel => exact ⟨_, (decide (t122 > 0)), (by first | rfl | (simp; done) | (simp [*]; done)), H', ⟨by have := HK1.out; have := HJ13.out; have := HJ22.out; first | omega | exact Nat.le_refl _⟩, ⟨by (with_reducible repeat (first | refine blk_drewN ?_ _ | refine blk_drew ?_ | refine blk_alloc ?_ _)); exact BK116.out⟩, ⟨by repeat (first | (with_reducible first | exact HB.out | apply below_alloc | apply pw_below_drewN | apply below_drew1 | refine below_set ?_ GE116.out) | exact HB.out)⟩⟩
                  ·
                   replace c47 := Bool.eq_false_iff.mpr c47; subst c47; have H1 : (spec_SymRead.j3 kj22 a0 l1 x8_1 qe_ t122 false) = some (r1, r2, r3) := by rw [if_neg (show ¬ (false = true) by decide)] at H; exact H
                   clear H; have H := H1; clear H1; have H' := Aside0.mk H; clear H
                   go_wp2
                   repeat (go_quiet (fail); try go_wp2)
                   go_meet
                   case rel => exact ⟨_, (false), (by first | rfl | (simp; done) | (simp [*]; done)), H', ⟨by have := HK1.out; have := HJ13.out; have := HJ22.out; first | omega | exact Nat.le_refl _⟩, ⟨by (with_reducible repeat (first | refine blk_drewN ?_ _ | refine blk_drew ?_ | refine blk_alloc ?_ _)); exact BK116.out⟩, ⟨by repeat (first | (with_reducible first | exact HB.out | apply below_alloc | apply pw_below_drewN | apply below_drew1 | refine below_set ?_ GE116.out) | exact HB.out)⟩⟩
                 case rest =>
                  clear HC46
                  try clear c1
                  try clear p1
                  try clear q1
                  try clear hx1
                  try clear c2
                  try clear p2
                  try clear q2
                  try clear hx2
                  try clear qi2
                  try clear c3
                  try clear p3
                  try clear q3
                  try clear hx3
                  try clear qi3
                  try clear c4
                  try clear p4
                  try clear q4
                  try clear hx4
                  try clear qi4
                  try clear c6
                  try clear p6
                  try clear c7
                  try clear c12
                  try clear c12b0
                  try clear p12
                  try clear q12
                  try clear hx12
                  try clear c13
                  try clear c13b0
                  try clear c15
                  try clear c15b0
                  try clear c15b1
                  try clear c16
                  try clear c16b0
                  try clear c16b1
                  try clear c17
                  try clear c17b0
                  try clear c17b1
                  try clear c18
                  try clear c19
                  try clear c19b0
                  try clear c19b1
                  try clear c20
                  try clear c20b0
                  try clear c20b1
                  try clear c21
                  try clear c21b0
                  try clear c21b1
                  try clear c21b2
                  try clear c24
                  try clear c24b0
                  try clear c24b1
                  try clear c25
                  try clear c25b0
                  try clear c25b1
                  try clear p26
                  try clear q26
                  try clear hx26
                  try clear qi26
                  try clear c27
                  try clear c27b0
                  try clear c27b1
                  try clear c28
                  try clear c28b0
                  try clear c28b1
                  try clear p29
                  try clear q29
                  try clear hx29
                  try clear qi29
                  try clear c30
                  try clear c30b0
                  try clear c30b1
                  try clear c31
                  try clear c31b0
                  try clear c31b1
                  try clear p32
                  try clear q32
                  try clear hx32
                  try clear qi32
                  try clear c33
                  try clear c33b0
                  try clear c33b1
                  try clear c34
                  try clear c34b0
                  try clear c34b1
                  try clear p35
                  try clear q35
                  try clear hx35
                  try clear qi35
                  try clear p36
                  try clear q36
                  try clear hx36
                  try clear qi36
                  try clear c37
                  try clear c37b0
                  try clear c37b1
                  try clear c38
                  try clear c38b0
                  try clear c38b1
                  try clear p39
                  try clear q39
                  try clear hx39
                  try clear qi39
                  try clear c40
                  try clear c40b0
                  try clear c40b1
                  try clear c41
                  try clear c41b0
                  try clear c41b1
                  try clear p42
                  try clear q42
                  try clear hx42
                  try clear qi42
                  try clear c43
                  try clear c44
                  try clear c44b0
                  try clear c44b1
                  try clear c47
                  try clear hcz22_0
                  try clear hcz22_1
                  try clear hcz9_0
                  try clear hcz9_1
                  try clear hfz22_0
                  try clear hfz22_1
                  try clear hfz9_0
                  try clear hfz9_1
                  try clear hx120_0
                  try clear hx121_0
                  try clear p1
                  try clear p12
                  try clear p120
                  try clear p121
                  try clear p2
                  try clear p26
                  try clear p29
                  try clear p3
                  try clear p32
                  try clear p35
                  try clear p36
                  try clear p39
                  try clear p4
                  try clear p42
                  try clear p6
                  try clear q1
                  try clear q12
                  try clear q120
                  try clear q121
                  try clear q2
                  try clear q26
                  try clear q29
                  try clear q3
                  try clear q32
                  try clear q35
                  try clear q36
                  try clear q39
                  try clear q4
                  try clear q42
                  obtain ⟨kq, x96_45, rfl, HA, HJ45, BK116, HB⟩ := hcut; cases kq with
                  | zero => exact absurd HA.out (by simp [spec_SymRead.j3])
                  | succ kj45 =>
                   have H := HA.out; clear HA; simp only [spec_SymRead.j3] at H
                   by_cases c48 : x96_45 = true
                   ·
                    subst c48; have H1 : (if 1 < (qe_.size : Int) then (if (bt qe_ 1) = 45 then (some (wrap64 (x8_1 + 1), wrap64 (-t122), true)) else (some (wrap64 (x8_1 + 1), t122, true))) else (none)) = some (r1, r2, r3) := by rw [if_pos rfl] at H; exact H
                    clear H; have H := H1; clear H1
                    by_cases c49 : 1 < (qe_.size : Int)
                    ·
                     rw [if_pos c49] at H; have c49b0 : decide (1 < (qe_.size : Int)) = true := decide_eq_true c49; have c49b1 : decide (1 < qe_.size) = true := decide_eq_true (by omega); clear c49
                     by_cases c51 : (bt qe_ 1) = 45
                     ·
                      rw [if_pos c51] at H; have c51b0 : ((bt qe_ 1) == 45) = true := beq_iff_eq.mpr c51; have c51b1 : ((bt qe_ 1) != 45) = false := bne_eq_false_iff_eq.mpr c51; clear c51; simp only [Option.some.injEq, Prod.mk.injEq] at H; obtain ⟨rfl, rfl, rfl⟩ := H; have p50 : 0 ≤ (1 : Int) := (by omega); have q50 : 1 < qe_.size := (by have : (1 : Int) < (qe_.size : Int) := of_decide_eq_true (by first | (with_reducible assumption) | assumption); omega); have hx50 : ∀ h : 1 < qe_.size, ((qe_[1]'h).toNat : Int) = bt qe_ 1 := bt_at qe_ 1; clear p50; have qi50 : (1 < (qe_.size : Int)) = True := eq_true (of_decide_eq_true (by first | (with_reducible assumption) | assumption)); replace q50 := eq_true q50; have hcz52_0 : wc.cell? ⟨gb116, 0, none⟩ = some (.int .i64 x117000_1) := (blk_cell BK116.out 0).trans rfl; have hcz52_1 : wc.cell? ⟨gb116, 1, none⟩ = some (.int .i64 x117001_1) := (blk_cell BK116.out 1).trans rfl; have hfz52_0 := blk_frozen BK116.out 0; have hfz52_1 := blk_frozen BK116.out 1
                      go_wp2
                      repeat (go_quiet (fail); try go_wp2)
                      refine bodyPost_ret (results_ct rfl _ _ gb116 25 #[.int .i64 (wrap64 (x8_1 + 1)), .int .i64 (wrap64 (-t122))] (0, 0) _ rfl (by (with_reducible repeat (first | refine blk_drewN ?_ _ | refine blk_drew ?_ | refine blk_alloc ?_ _)); refine blk_put (cs := #[.int .i64 (wrap64 (x8_1 + 1)), .int .i64 x117001_1]) ?_ 1 _ rfl; (with_reducible repeat (first | refine blk_drewN ?_ _ | refine blk_drew ?_ | refine blk_alloc ?_ _)); refine blk_put (cs := #[.int .i64 x117000_1, .int .i64 x117001_1]) ?_ 0 _ rfl; (with_reducible repeat (first | refine blk_drewN ?_ _ | refine blk_drew ?_ | refine blk_alloc ?_ _)); exact BK116.out) Tryd.underlying25 rfl (by kernel_rfl)) rfl ?_; exact ⟨by first | rfl | (simp [errW_none, errW_some] <;> rfl) | (simp [*, errW_none, errW_some] <;> rfl), by repeat (first | (with_reducible first | exact HB.out | apply below_alloc | apply pw_below_drewN | apply below_drew1 | refine below_set ?_ GE116.out) | exact HB.out)⟩
                     ·
                      rw [if_neg c51] at H; have c51b0 : ((bt qe_ 1) == 45) = false := beq_eq_false_iff_ne.mpr c51; have c51b1 : ((bt qe_ 1) != 45) = true := bne_iff_ne.mpr c51; simp only [Option.some.injEq, Prod.mk.injEq] at H; obtain ⟨rfl, rfl, rfl⟩ := H; have p50 : 0 ≤ (1 : Int) := (by omega); have q50 : 1 < qe_.size := (by have : (1 : Int) < (qe_.size : Int) := of_decide_eq_true (by first | (with_reducible assumption) | assumption); omega); have hx50 : ∀ h : 1 < qe_.size, ((qe_[1]'h).toNat : Int) = bt qe_ 1 := bt_at qe_ 1; clear p50; have qi50 : (1 < (qe_.size : Int)) = True := eq_true (of_decide_eq_true (by first | (with_reducible assumption) | assumption)); replace q50 := eq_true q50; have hcz53_0 : wc.cell? ⟨gb116, 0, none⟩ = some (.int .i64 x117000_1) := (blk_cell BK116.out 0).trans rfl; have hcz53_1 : wc.cell? ⟨gb116, 1, none⟩ = some (.int .i64 x117001_1) := (blk_cell BK116.out 1).trans rfl; have hfz53_0 := blk_frozen BK116.out 0; have hfz53_1 := blk_frozen BK116.out 1
                      go_wp2
                      repeat (go_quiet (fail); try go_wp2)
                      refine bodyPost_ret (results_ct rfl _ _ gb116 25 #[.int .i64 (wrap64 (x8_1 + 1)), .int .i64 t122] (0, 0) _ rfl (by (with_reducible repeat (first | refine blk_drewN ?_ _ | refine blk_drew ?_ | refine blk_alloc ?_ _)); refine blk_put (cs := #[.int .i64 (wrap64 (x8_1 + 1)), .int .i64 x117001_1]) ?_ 1 _ rfl; (with_reducible repeat (first | refine blk_drewN ?_ _ | refine blk_drew ?_ | refine blk_alloc ?_ _)); refine blk_put (cs := #[.int .i64 x117000_1, .int .i64 x117001_1]) ?_ 0 _ rfl; (with_reducible repeat (first | refine blk_drewN ?_ _ | refine blk_drew ?_ | refine blk_alloc ?_ _)); exact BK116.out) Tryd.underlying25 rfl (by kernel_rfl)) rfl ?_; exact ⟨by first | rfl | (simp [errW_none, errW_some] <;> rfl) | (simp [*, errW_none, errW_some] <;> rfl), by repeat (first | (with_reducible first | exact HB.out | apply below_alloc | apply pw_below_drewN | apply below_drew1 | refine below_set ?_ GE116.out) | exact HB.out)⟩
                    ·
                     rw [if_neg c49] at H; exact absurd H (by simp)
                   ·
                    replace c48 := Bool.eq_false_iff.mpr c48; subst c48; have H1 : (spec_SymRead.l0 kj45 a0 l1 (wrap64 (x8_1 + 1))) = some (r1, r2, r3) := by rw [if_neg (show ¬ (false = true) by decide)] at H; exact H
                    clear H; have H := H1; clear H1; have H' := Aside0.mk H; clear H
                    go_wp2
                    repeat (go_quiet (fail); try go_wp2)
                    go_roundg kj45
                    case measure => have := HK1.out; have := HJ13.out; have := HJ22.out; have := HJ45.out; omega
                    case rel => exact ⟨(wrap64 (x8_1 + 1)), (x117000_1), (x117001_1), (by first | rfl | (simp; done) | (simp [*]; done)), H', ⟨by have := HK1.out; have := HJ13.out; have := HJ22.out; have := HJ45.out; omega⟩, ⟨by (with_reducible repeat (first | refine blk_drewN ?_ _ | refine blk_drew ?_ | refine blk_alloc ?_ _)); exact BK116.out⟩, ⟨by repeat (first | (with_reducible first | exact HB.out | apply below_alloc | apply pw_below_drewN | apply below_drew1 | refine below_set ?_ GE116.out) | exact HB.out)⟩⟩
                ·
                 rw [if_neg c44] at H; exact absurd H (by simp)
           ·
            rw [if_neg c20] at H; exact absurd H (by simp)
          ·
           rw [if_neg c19] at H; exact absurd H (by simp)
      ·
       rw [if_neg c13] at H; exact absurd H (by simp)
     ·
      rw [if_neg c12] at H; have c12b0 : decide (x8_1 < (l1.length : Int)) = false := decide_eq_false c12; clear c12; simp only [Option.some.injEq, Prod.mk.injEq] at H; obtain ⟨rfl, rfl, rfl⟩ := H; have hcz54_0 : wr.cell? ⟨gb116, 0, none⟩ = some (.int .i64 x117000_1) := (blk_cell BK116.out 0).trans rfl; have hcz54_1 : wr.cell? ⟨gb116, 1, none⟩ = some (.int .i64 x117001_1) := (blk_cell BK116.out 1).trans rfl; have hfz54_0 := blk_frozen BK116.out 0; have hfz54_1 := blk_frozen BK116.out 1
      go_wp2
      repeat (go_quiet (fail); try go_wp2)
      refine bodyPost_ret (results_ct rfl _ _ gb116 25 #[.int .i64 0, .int .i64 0] (0, 0) _ rfl (by (with_reducible repeat (first | refine blk_drewN ?_ _ | refine blk_drew ?_ | refine blk_alloc ?_ _)); refine blk_put (cs := #[.int .i64 0, .int .i64 x117001_1]) ?_ 1 _ rfl; (with_reducible repeat (first | refine blk_drewN ?_ _ | refine blk_drew ?_ | refine blk_alloc ?_ _)); refine blk_put (cs := #[.int .i64 x117000_1, .int .i64 x117001_1]) ?_ 0 _ rfl; (with_reducible repeat (first | refine blk_drewN ?_ _ | refine blk_drew ?_ | refine blk_alloc ?_ _)); exact BK116.out) Tryd.underlying25 rfl (by kernel_rfl)) rfl ?_; exact ⟨by first | rfl | (simp [errW_none, errW_some] <;> rfl) | (simp [*, errW_none, errW_some] <;> rfl), by repeat (first | (with_reducible first | exact HB.out | apply below_alloc | apply pw_below_drewN | apply below_drew1 | refine below_set ?_ GE116.out) | exact HB.out)⟩
 ·
  replace c4 := Bool.eq_false_iff.mpr c4; subst c4; have H1 : (some (0, 0, false)) = some (r1, r2, r3) := by rw [if_neg (show ¬ (false = true) by decide)] at H; exact H
  clear H; have H := H1; clear H1; simp only [Option.some.injEq, Prod.mk.injEq] at H; obtain ⟨rfl, rfl, rfl⟩ := H
  go_enter Tryd.func7, Tryd.ntmps7
  go_wp2_with (first | ((with_reducible refine gate_dst (N := 4) rfl ?_); refine box_event ?hg (N := 4) ?hd (cs := #[.int .i64 0, .int .i64 0]) (t := 25) ?hr ?_; (case hd => rfl); (case hg => rfl); (case hr => first | (go_simp; done) | (go_simp; rfl)); intro gb116 hg w55 hbox hb; have n0_ := Aside0.mk (below_step (by repeat (first | (with_reducible first | exact HB.out | apply below_alloc | apply pw_below_drewN | apply below_drew1) | exact HB.out)) hb); have n1_ := Aside0.mk (hbox); have n2_ := Aside0.mk ((by rw [hg]; exact (below_size (by repeat (first | (with_reducible first | exact HB.out | apply below_alloc | apply pw_below_drewN | apply below_drew1) | exact HB.out))) : w.heap.size ≤ gb116)); have n3_ := Aside0.mk ((by rw [hg]; exact (below_size (by repeat (first | (with_reducible first | exact HB.out | apply below_alloc | apply pw_below_drewN | apply below_drew1) | exact HB.out))) : w.heap.size ≤ gb116)); clear HB; have HB := n0_; have BK116 := n1_; have GW116 := n2_; have GE116 := n3_; clear n0_ n1_ n2_ n3_; clear hb hbox hg) | (go_at_call 19; (with_reducible refine (spec_l08Labels.calls k _ _ l1 false _ ?side1 ?side2 A3.out).mono ?_); (case side1 => repeat (first | exact (Kd.C_below HR1.out HB.out) | (with_reducible refine Kd.C_alloc ?_ _) | (with_reducible refine Kd.C_drewN ?_ _) | (with_reducible refine Kd.C_drew ?_))); (case side2 => exact HC1.out); rintro e w56 ⟨rfl, hb⟩; have n0_ := Aside0.mk (blk_below (g := gb116) (o := .cells #[.int .i64 0, .int .i64 0] 25 (0, 0)) (by (with_reducible repeat (first | refine blk_drewN ?_ _ | refine blk_drew ?_ | refine blk_alloc ?_ _)); exact BK116.out) hb); have n1_ := Aside0.mk (below_step (by repeat (first | (with_reducible first | exact HB.out | apply below_alloc | apply pw_below_drewN | apply below_drew1 | refine below_set ?_ GE116.out) | exact HB.out)) hb); clear BK116; clear HB; have BK116 := n0_; have HB := n1_; clear n0_ n1_; (try clear hb); (try clear hb2); (try clear hk); (try clear hi); have hcz57_0 : w56.cell? ⟨gb116, 0, none⟩ = some (.int .i64 0) := (blk_cell BK116.out 0).trans rfl; have hcz57_1 : w56.cell? ⟨gb116, 1, none⟩ = some (.int .i64 0) := (blk_cell BK116.out 1).trans rfl; have hfz57_0 := blk_frozen BK116.out 0; have hfz57_1 := blk_frozen BK116.out 1))
  repeat (go_quiet (first | ((with_reducible refine gate_dst (N := 4) rfl ?_); refine box_event ?hg (N := 4) ?hd (cs := #[.int .i64 0, .int .i64 0]) (t := 25) ?hr ?_; (case hd => rfl); (case hg => rfl); (case hr => first | (go_simp; done) | (go_simp; rfl)); intro gb116 hg w55 hbox hb; have n0_ := Aside0.mk (below_step (by repeat (first | (with_reducible first | exact HB.out | apply below_alloc | apply pw_below_drewN | apply below_drew1) | exact HB.out)) hb); have n1_ := Aside0.mk (hbox); have n2_ := Aside0.mk ((by rw [hg]; exact (below_size (by repeat (first | (with_reducible first | exact HB.out | apply below_alloc | apply pw_below_drewN | apply below_drew1) | exact HB.out))) : w.heap.size ≤ gb116)); have n3_ := Aside0.mk ((by rw [hg]; exact (below_size (by repeat (first | (with_reducible first | exact HB.out | apply below_alloc | apply pw_below_drewN | apply below_drew1) | exact HB.out))) : w.heap.size ≤ gb116)); clear HB; have HB := n0_; have BK116 := n1_; have GW116 := n2_; have GE116 := n3_; clear n0_ n1_ n2_ n3_; clear hb hbox hg) | (go_at_call 19; (with_reducible refine (spec_l08Labels.calls k _ _ l1 false _ ?side1 ?side2 A3.out).mono ?_); (case side1 => repeat (first | exact (Kd.C_below HR1.out HB.out) | (with_reducible refine Kd.C_alloc ?_ _) | (with_reducible refine Kd.C_drewN ?_ _) | (with_reducible refine Kd.C_drew ?_))); (case side2 => exact HC1.out); rintro e w56 ⟨rfl, hb⟩; have n0_ := Aside0.mk (blk_below (g := gb116) (o := .cells #[.int .i64 0, .int .i64 0] 25 (0, 0)) (by (with_reducible repeat (first | refine blk_drewN ?_ _ | refine blk_drew ?_ | refine blk_alloc ?_ _)); exact BK116.out) hb); have n1_ := Aside0.mk (below_step (by repeat (first | (with_reducible first | exact HB.out | apply below_alloc | apply pw_below_drewN | apply below_drew1 | refine below_set ?_ GE116.out) | exact HB.out)) hb); clear BK116; clear HB; have BK116 := n0_; have HB := n1_; clear n0_ n1_; (try clear hb); (try clear hb2); (try clear hk); (try clear hi); have hcz57_0 : w56.cell? ⟨gb116, 0, none⟩ = some (.int .i64 0) := (blk_cell BK116.out 0).trans rfl; have hcz57_1 : w56.cell? ⟨gb116, 1, none⟩ = some (.int .i64 0) := (blk_cell BK116.out 1).trans rfl; have hfz57_0 := blk_frozen BK116.out 0; have hfz57_1 := blk_frozen BK116.out 1)); try go_wp2_with (first | ((with_reducible refine gate_dst (N := 4) rfl ?_); refine box_event ?hg (N := 4) ?hd (cs := #[.int .i64 0, .int .i64 0]) (t := 25) ?hr ?_; (case hd => rfl); (case hg => rfl); (case hr => first | (go_simp; done) | (go_simp; rfl)); intro gb116 hg w55 hbox hb; have n0_ := Aside0.mk (below_step (by repeat (first | (with_reducible first | exact HB.out | apply below_alloc | apply pw_below_drewN | apply below_drew1) | exact HB.out)) hb); have n1_ := Aside0.mk (hbox); have n2_ := Aside0.mk ((by rw [hg]; exact (below_size (by repeat (first | (with_reducible first | exact HB.out | apply below_alloc | apply pw_below_drewN | apply below_drew1) | exact HB.out))) : w.heap.size ≤ gb116)); have n3_ := Aside0.mk ((by rw [hg]; exact (below_size (by repeat (first | (with_reducible first | exact HB.out | apply below_alloc | apply pw_below_drewN | apply below_drew1) | exact HB.out))) : w.heap.size ≤ gb116)); clear HB; have HB := n0_; have BK116 := n1_; have GW116 := n2_; have GE116 := n3_; clear n0_ n1_ n2_ n3_; clear hb hbox hg) | (go_at_call 19; (with_reducible refine (spec_l08Labels.calls k _ _ l1 false _ ?side1 ?side2 A3.out).mono ?_); (case side1 => repeat (first | exact (Kd.C_below HR1.out HB.out) | (with_reducible refine Kd.C_alloc ?_ _) | (with_reducible refine Kd.C_drewN ?_ _) | (with_reducible refine Kd.C_drew ?_))); (case side2 => exact HC1.out); rintro e w56 ⟨rfl, hb⟩; have n0_ := Aside0.mk (blk_below (g := gb116) (o := .cells #[.int .i64 0, .int .i64 0] 25 (0, 0)) (by (with_reducible repeat (first | refine blk_drewN ?_ _ | refine blk_drew ?_ | refine blk_alloc ?_ _)); exact BK116.out) hb); have n1_ := Aside0.mk (below_step (by repeat (first | (with_reducible first | exact HB.out | apply below_alloc | apply pw_below_drewN | apply below_drew1 | refine below_set ?_ GE116.out) | exact HB.out)) hb); clear BK116; clear HB; have BK116 := n0_; have HB := n1_; clear n0_ n1_; (try clear hb); (try clear hb2); (try clear hk); (try clear hi); have hcz57_0 : w56.cell? ⟨gb116, 0, none⟩ = some (.int .i64 0) := (blk_cell BK116.out 0).trans rfl; have hcz57_1 : w56.cell? ⟨gb116, 1, none⟩ = some (.int .i64 0) := (blk_cell BK116.out 1).trans rfl; have hfz57_0 := blk_frozen BK116.out 0; have hfz57_1 := blk_frozen BK116.out 1)))
  refine bodyPost_ret (results_ct rfl _ _ gb116 25 #[.int .i64 0, .int .i64 0] (0, 0) _ rfl (by (with_reducible repeat (first | refine blk_drewN ?_ _ | refine blk_drew ?_ | refine blk_alloc ?_ _)); refine blk_put (cs := #[.int .i64 0, .int .i64 0]) ?_ 1 _ rfl; (with_reducible repeat (first | refine blk_drewN ?_ _ | refine blk_drew ?_ | refine blk_alloc ?_ _)); refine blk_put (cs := #[.int .i64 0, .int .i64 0]) ?_ 0 _ rfl; (with_reducible repeat (first | refine blk_drewN ?_ _ | refine blk_drew ?_ | refine blk_alloc ?_ _)); exact BK116.out) Tryd.underlying25 rfl (by kernel_rfl)) rfl ?_; exact ⟨by first | rfl | (simp [errW_none, errW_some] <;> rfl) | (simp [*, errW_none, errW_some] <;> rfl), by repeat (first | (with_reducible first | exact HB.out | apply below_alloc | apply pw_below_drewN | apply below_drew1 | refine below_set ?_ GE116.out) | exact HB.out)⟩

end Go.Proofs.YtmkppdeoepfpoaaDoor.Q
