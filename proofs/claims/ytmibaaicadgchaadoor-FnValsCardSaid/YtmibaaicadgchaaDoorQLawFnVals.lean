/- The law FnVals holds as it is given (Rows, Cards): for every input the call returns true and each argument reads afterwards as before. No conditions. -/
import Derived.Test.YtmibaaicadgchaaDoorRows
import Derived.Test.YtmibaaicadgchaaDoorCards
import Derived.Test.YtmibaaicadgchaaDoorTie
import Derived.Test.YtmibaaicadgchaaDoorQPureFnVals
import Derived.Test.YtmibaaicadgchaaDoorQYoursFnVals
import Derived.WalkKit
import Derived.ProofKit
import Derived.OpenShut
import Derived.ShutString
import Derived.ChangeOld
import Derived.Below
import Derived.SizedLaws
import Derived.OpenVars
import Derived.LaidMore
import Derived.Stop.Joined
import Derived.SevenTiedAt
namespace Go.Proofs.YtmibaaicadgchaaDoor.fnVals
open Go.ChangeShapes Go.WideShapes Go.ChangeAt Go.RowKit
open Go.ChangeMaps (open_string shut_string)
open Go.Proofs.YtmibaaicadgchaaDoor.Open Go.Proofs.YtmibaaicadgchaaDoor.Q
open Go.Proofs.YtmibaaicadgchaaDoorW.PrintWords Go.Proofs.YtmibaaicadgchaaDoorW.PrintLast Go.Proofs.YtmibaaicadgchaaDoorW.PrintMore
set_option linter.unusedVariables false
theorem own : ownKnob Tryd.prog.godebug = none := by kernel_rfl
theorem laidOut : laidOutB Tryd.prog = true := by kernel_rfl
theorem gl0_of {W : World} (h : laidMetH Tryd.prog Rows.fnValsRow.laid W) (_hs : W.ShapedOpen Tryd.prog) : GL0 W := by
  rw [MakeChecks.laidMetH_plain _ _ _ (by kernel_rfl)] at h
  obtain ⟨ps, hv, _⟩ := h
  obtain ⟨g0, t0, cs0, fu0, p0, e0, ty0, v0, tr0⟩ := laidVars_at hv 5 _ _ rfl
  obtain rfl := Option.some.inj ((show Tryd.prog.globalNamed "loop.example/g00093/impl.none" = some 0 by kernel_rfl).symm.trans e0)
  obtain rfl := Option.some.inj ((show (Tryd.prog.globals[0]?).map (·.type) = some 25 by kernel_rfl).symm.trans ty0)
  have q0 := two_ints Tryd.underlying25 rfl rfl Tryd.underlying3 Tryd.underlying3 rfl rfl (by kernel_rfl) (by kernel_rfl) (by kernel_rfl) tr0
  have hc := fun j => World.var?_cell e0 v0 j
  exact ⟨(by rw [hc 0, ← Array.getElem?_toList, q0]; rfl), (by rw [hc 1, ← Array.getElem?_toList, q0]; rfl)⟩
theorem gl1_of {W : World} (h : laidMetH Tryd.prog Rows.fnValsRow.laid W) (_hs : W.ShapedOpen Tryd.prog) : GL1 W := by
  rw [MakeChecks.laidMetH_plain _ _ _ (by kernel_rfl)] at h
  obtain ⟨ps, hv, _⟩ := h
  obtain ⟨g0, t0, cs0, fu0, p0, e0, ty0, v0, tr0⟩ := laidVars_at hv 6 _ _ rfl
  obtain rfl := Option.some.inj ((show Tryd.prog.globalNamed "loop.example/g00093/impl.noCell" = some 1 by kernel_rfl).symm.trans e0)
  obtain rfl := Option.some.inj ((show (Tryd.prog.globals[1]?).map (·.type) = some 44 by kernel_rfl).symm.trans ty0)
  have q0 := two_and_bool Tryd.underlying44 rfl rfl Tryd.underlying25 rfl rfl Tryd.underlying3 Tryd.underlying4 rfl rfl rfl rfl (by kernel_rfl) (by kernel_rfl) (by kernel_rfl) (by kernel_rfl) tr0
  have hc := fun j => World.var?_cell e0 v0 j
  exact ⟨(by rw [hc 0, ← Array.getElem?_toList, q0]; rfl), (by rw [hc 1, ← Array.getElem?_toList, q0]; rfl), (by rw [hc 2, ← Array.getElem?_toList, q0]; rfl)⟩
theorem gl2_of {W : World} (_h : laidMetH Tryd.prog Rows.fnValsRow.laid W) (hs : W.ShapedOpen Tryd.prog) : GL2 W :=
  cell_of_shapedOpen_int (zero := #[.int .i64 0]) (t := 3) hs (of_decide_eq_true (by kernel_rfl)) (by kernel_rfl) rfl (by kernel_rfl) (by kernel_rfl) Tryd.underlying3
theorem gl3_of {W : World} (h : laidMetH Tryd.prog Rows.fnValsRow.laid W) (_hs : W.ShapedOpen Tryd.prog) : GL3 W := by
  rw [MakeChecks.laidMetH_plain _ _ _ (by kernel_rfl)] at h
  obtain ⟨ps, hv, _⟩ := h
  obtain ⟨g0, t0, cs0, fu0, p0, e0, ty0, v0, tr0⟩ := laidVars_at hv 4 _ _ rfl
  obtain rfl := Option.some.inj ((show Tryd.prog.globalNamed "strconv.ErrSyntax" = some 3 by kernel_rfl).symm.trans e0)
  obtain rfl := Option.some.inj ((show (Tryd.prog.globals[3]?).map (·.type) = some 90 by kernel_rfl).symm.trans ty0)
  obtain ⟨_, u, v, q0, _⟩ := iface_of_trod Tryd.underlying90 tr0
  exact ⟨u, v, by rw [World.var?_cell e0 v0 0, ← Array.getElem?_toList, q0]; rfl⟩
theorem gl4_of {W : World} (h : laidMetH Tryd.prog Rows.fnValsRow.laid W) (_hs : W.ShapedOpen Tryd.prog) : GL4 W := by
  rw [MakeChecks.laidMetH_plain _ _ _ (by kernel_rfl)] at h
  obtain ⟨ps, hv, _⟩ := h
  obtain ⟨g0, t0, cs0, fu0, p0, e0, ty0, v0, tr0⟩ := laidVars_at hv 3 _ _ rfl
  obtain rfl := Option.some.inj ((show Tryd.prog.globalNamed "strconv.ErrRange" = some 4 by kernel_rfl).symm.trans e0)
  obtain rfl := Option.some.inj ((show (Tryd.prog.globals[4]?).map (·.type) = some 90 by kernel_rfl).symm.trans ty0)
  obtain ⟨_, u, v, q0, _⟩ := iface_of_trod Tryd.underlying90 tr0
  exact ⟨u, v, by rw [World.var?_cell e0 v0 0, ← Array.getElem?_toList, q0]; rfl⟩
theorem gl5_of {W : World} (h : laidMetH Tryd.prog Rows.fnValsRow.laid W) (_hs : W.ShapedOpen Tryd.prog) : GL5 W := by
  rw [MakeChecks.laidMetH_plain _ _ _ (by kernel_rfl)] at h
  obtain ⟨ps, hv, _⟩ := h
  obtain ⟨g0, t0, cs0, fu0, p0, e0, ty0, v0, tr0⟩ := laidVars_at hv 2 _ _ rfl
  obtain rfl := Option.some.inj ((show Tryd.prog.globalNamed "internal/strconv.uint64pow10" = some 5 by kernel_rfl).symm.trans e0)
  obtain rfl := Option.some.inj ((show (Tryd.prog.globals[5]?).map (·.type) = some 122 by kernel_rfl).symm.trans ty0)
  have hc := Lib.cells_of_tab (k := .u64) (zs := Lib.pow10Tab) Tryd.underlying122 Tryd.underlying107 (by kernel_rfl) (by kernel_rfl) tr0
  unfold GL5 Lib.TabIs
  rw [v0, ← hc]
set_option maxRecDepth 100000 in
theorem contract (H : Type) (enc : TypeId × Value → H) (W : World) (base : Nat) (args : Array Value) (ds gs : List (DataW H)) (before : List MemPlace)
    (hval : ∀ (j : Nat) t v, Tryd.f5.params[j]? = some t → args[j]? = some v → Value.okWide Tryd.prog W .any base t v)
    (hW : DataW.Whole enc Tryd.prog Tryd.f5.params.toList Rows.fnValsSpec.vars false W args.toList ds gs before) (hL : laidMetH Tryd.prog Rows.fnValsRow.laid W) (hSh : W.ShapedOpen Tryd.prog) :
    Calls Tryd.prog 5 args W fun e W' => ∃ v, e = .returned v ∧ Rows.fnValsSpec.post enc Tryd.prog Tryd.f5 false true false false W args v W' := by
  have hW' := hW
  obtain ⟨p, q, hA0, hV, rfl, hfz, hnd⟩ := hW
  have hA : DataW.TrodAll enc Tryd.prog W 0 (fun _ => true) true Tryd.f5.params.toList args.toList ds p := hA0
  rw [Tryd.params5] at hA hval
  obtain ⟨v0, vs0, d0, ds0, p0, q0, hargs, rfl, rfl, h0, tr0⟩ := trodAll_cons hA
  obtain ⟨v1, vs1, d1, ds1, p1, q1, rfl, rfl, rfl, h1, tr1⟩ := trodAll_cons tr0
  obtain ⟨rfl, rfl, rfl⟩ := trodAll_nil tr1
  obtain rfl : args = #[v0, v1] := by cases args; simp_all
  have hgl := vars_length hV
  obtain ⟨g1, g2, rfl⟩ : ∃ g1 g2, gs = [g1, g2] := by
    match gs, hgl with
    | [g1, g2], _ => exact ⟨g1, g2, rfl⟩
  have k0 := h0
  have lt0 : ∀ x ∈ p0, x.block < W.heap.size := by obtain ⟨m, hm⟩ := k0; exact DataW.trod_lt m _ _ _ hm
  obtain ⟨a0, len0, cap0, rfl⟩ := okWide_slice Tryd.underlying22 (hval 0 22 v0 rfl rfl)
  obtain ⟨m0, t0⟩ := h0
  obtain ⟨y0, K0, F0⟩ := (fun n => (op_slice Tryd.underlying22 (by kernel_rfl) ((op_int Tryd.underlying5) n)).weak (Nat.le_succ n)) m0 H enc W 0 (fun _ => true) true m0 [.slice a0 len0 cap0] _ (Nat.le_refl _) t0
  obtain ⟨A0, C0, e0, l0, r0⟩ := K0
  simp only [List.cons.injEq, Value.slice.injEq, and_true] at e0
  obtain ⟨rfl, rfl, rfl⟩ := e0
  have k1 := h1
  have lt1 : ∀ x ∈ p1, x.block < W.heap.size := by obtain ⟨m, hm⟩ := k1; exact DataW.trod_lt m _ _ _ hm
  obtain ⟨a1, len1, cap1, rfl⟩ := okWide_slice Tryd.underlying22 (hval 1 22 v1 rfl rfl)
  obtain ⟨m1, t1⟩ := h1
  obtain ⟨y1, K1, F1⟩ := (fun n => (op_slice Tryd.underlying22 (by kernel_rfl) ((op_int Tryd.underlying5) n)).weak (Nat.le_succ n)) m1 H enc W 0 (fun _ => true) true m1 [.slice a1 len1 cap1] _ (Nat.le_refl _) t1
  obtain ⟨A1, C1, e1, l1, r1⟩ := K1
  simp only [List.cons.injEq, Value.slice.injEq, and_true] at e1
  obtain ⟨rfl, rfl, rfl⟩ := e1
  obtain ⟨k, h⟩ := yoursFnVals y0 y1 F0 F1
  refine (laws_FnVals.calls k _ _ y0 _ _ y1 true W (gl0_of hL hSh) (gl1_of hL hSh) (gl2_of hL hSh) (gl3_of hL hSh) (gl4_of hL hSh) (gl5_of hL hSh) r0 l0 r1 l1 h rfl).mono ?_
  rintro e W' ⟨rfl, hd⟩
  have bel : Below W.heap.size W W' := hd
  exact ⟨_, rfl, _, _, _, [], _, q, hW', trodAll_mk1 (shut_bool Tryd.underlying4 _), (trodAll_cons_mk (Below.trod laidOut (by kernel_rfl) (of_decide_eq_true (by kernel_rfl)) k0 bel lt0) (trodAll_cons_mk (Below.trod laidOut (by kernel_rfl) (of_decide_eq_true (by kernel_rfl)) k1 bel lt1) trodAll_mk0)), Below.trodVars laidOut bel (by kernel_rfl) hV, bel.frame _, fun h => by cases h⟩
/-- The listed variables hold what is listed in the heap that the door's own run leaves. -/
theorem door_met (os : Os) (args : Array Value) : laidMetH Tryd.prog Rows.fnValsRow.laid ((World.doorLaid Tryd.prog 400 os).forCall (fun _ _ => 0) ⟨#[], args, []⟩).memory :=
  laidMetH_of_parts3 (fuel := 8) (laidMet_of_run' 8 (by kernel_rfl) (by kernel_rfl)) (by kernel_rfl) (by kernel_rfl)
set_option maxRecDepth 100000 in
theorem lifted (os : Os) (started : os.Started) (H : Type) (enc : TypeId × Value → H) :
    ReturnsInHanded {} Tryd.checked os 5 .any (fun w args => (Rows.fnValsSpec.pre enc Tryd.prog Tryd.f5 [] false w args ∧ laidMetH Tryd.prog Rows.fnValsRow.laid w) ∧ sizedMet enc Tryd.prog Tryd.f5 (OpenSpec.ofChange Rows.fnValsSpec) false w args)
      (Rows.fnValsSpec.post enc Tryd.prog Tryd.f5 false true false false) := by
  refine returnsInHanded_of_laid_shaped (C := Tryd.checked) (X := fun w _ => laidMetH Tryd.prog Rows.fnValsRow.laid w) (fun _ _ _ hh h => h.of_heap hh) own started (by kernel_rfl) Tryd.func5
    (ChangeSpec.witness_shaped (enc := enc) (C := Tryd.checked) (os := os) (X := fun w _ => laidMetH Tryd.prog Rows.fnValsRow.laid w) false (World.doorLaid Tryd.prog 400 os) #[.slice none 0 0, .slice none 0 0] 8 rfl (World.shaped_of_RefB (by kernel_rfl) (by kernel_rfl)) (by kernel_rfl) (by kernel_rfl) (by kernel_rfl) (door_met os _)) ?_
  intro W base args ds gs before hval hW _ _ hL hSh _
  exact contract H enc W base args ds gs before hval hW hL hSh
theorem said : Rows.FnValsSaid :=
  OpenClaim.holds_of_wide 5 Tryd.f5 rfl rfl rfl rfl rfl rfl rfl ⟨rfl, rfl, rfl, rfl, rfl⟩ rfl rfl rfl rfl rfl (by kernel_rfl) Tryd.func5 (by kernel_rfl)
    (of_decide_eq_true (by kernel_rfl)) (by unfold Func.isWrapper; first | (rw [if_pos (by decide +kernel)]; kernel_rfl) | (rw [if_neg (by decide +kernel)]; exact ⟨rfl, rfl⟩))
    (fun os started H enc _ => lifted os started H enc)
theorem plain (f : FuncId) (fn : Func) (hf : Tryd.pinned.checked.prog.funcNamed "loop.example/g00093/laws.FnVals" = some f) (hfn : Tryd.pinned.checked.prog.funcs[f]? = some fn) :
    true = Tryd.pinned.checked.prog.looks [] ∧ ∀ (j : Nat) t, fn.params[j]? = some t → Tryd.pinned.checked.prog.wantsStandIn t = false := by
  obtain rfl : f = 5 := Option.some.inj ((show Tryd.prog.funcNamed "loop.example/g00093/laws.FnVals" = some 5 by kernel_rfl).symm.trans hf) |>.symm
  obtain rfl : fn = Tryd.f5 := (Option.some.inj (Tryd.func5.symm.trans hfn)).symm
  refine ⟨by kernel_rfl, fun j t ht => ?_⟩
  rw [Tryd.params5] at ht
  have hm : t ∈ [22, 22] := by simpa using Array.mem_of_getElem? ht
  have hall : ([22, 22].all fun u => !Tryd.prog.wantsStandIn u) = true := by kernel_rfl
  exact (show Tryd.prog.wantsStandIn t = false by simpa using List.all_eq_true.1 hall t hm)
theorem card : Rows.FnValsCardSaid :=
  Claim7.holds_tied_plain_at .later [] _ _ _ _ said (fun _ h => by cases h) (by kernel_rfl) (fun _ h => by cases h) fnVals_row_tie rfl ⟨rfl, rfl⟩ (by kernel_rfl) rfl plain (by kernel_rfl)
#print axioms card
end Go.Proofs.YtmibaaicadgchaaDoor.fnVals
namespace Go.Proofs.YtmibaaicadgchaaDoor
theorem fnVals_card : Rows.FnValsCardSaid := fnVals.card
end Go.Proofs.YtmibaaicadgchaaDoor
