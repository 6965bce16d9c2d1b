/- The law FnExactCondOk holds as it is given (Rows, Cards): for every input the call returns true and each argument reads afterwards as before. No conditions. -/
import Derived.Test.YtmkppdeoepfpoaaDoorRows
import Derived.Test.YtmkppdeoepfpoaaDoorCards
import Derived.Test.YtmkppdeoepfpoaaDoorTie
import Derived.Test.YtmkppdeoepfpoaaDoorQPureFnExactCondOk
import Derived.Test.YtmkppdeoepfpoaaDoorQYoursFnExactCondOk
import Derived.WalkKit
import Derived.ProofKit
import Derived.OpenShut
import Derived.ShutString
import Derived.ChangeOld
import Derived.Below
import Derived.SizedLaws
import Derived.OpenVars
import Derived.LaidMore
import Derived.Stop.Joined
import Derived.SevenTiedAt
namespace Go.Proofs.YtmkppdeoepfpoaaDoor.fnExactCondOk
open Go.ChangeShapes Go.WideShapes Go.ChangeAt Go.RowKit
open Go.ChangeMaps (open_string shut_string)
open Go.Proofs.YtmkppdeoepfpoaaDoor.Open Go.Proofs.YtmkppdeoepfpoaaDoor.Q
open Go.Proofs.YtmkppdeoepfpoaaDoorW.PrintWords Go.Proofs.YtmkppdeoepfpoaaDoorW.PrintLast Go.Proofs.YtmkppdeoepfpoaaDoorW.PrintMore
set_option linter.unusedVariables false
theorem own : ownKnob Tryd.prog.godebug = none := by kernel_rfl
theorem laidOut : laidOutB Tryd.prog = true := by kernel_rfl
theorem gl0_of {W : World} (h : laidMetH Tryd.prog Rows.fnExactCondOkRow.laid W) (_hs : W.ShapedOpen Tryd.prog) : GL0 W := by
  rw [MakeChecks.laidMetH_plain _ _ _ (by kernel_rfl)] at h
  obtain ⟨ps, hv, _⟩ := h
  obtain ⟨g0, t0, cs0, fu0, p0, e0, ty0, v0, tr0⟩ := laidVars_at hv 4 _ _ rfl
  obtain rfl := Option.some.inj ((show Tryd.prog.globalNamed "strconv.ErrSyntax" = some 0 by kernel_rfl).symm.trans e0)
  obtain rfl := Option.some.inj ((show (Tryd.prog.globals[0]?).map (·.type) = some 57 by kernel_rfl).symm.trans ty0)
  obtain ⟨_, u, v, q0, _⟩ := iface_of_trod Tryd.underlying57 tr0
  exact ⟨u, v, by rw [World.var?_cell e0 v0 0, ← Array.getElem?_toList, q0]; rfl⟩
theorem gl1_of {W : World} (h : laidMetH Tryd.prog Rows.fnExactCondOkRow.laid W) (_hs : W.ShapedOpen Tryd.prog) : GL1 W := by
  rw [MakeChecks.laidMetH_plain _ _ _ (by kernel_rfl)] at h
  obtain ⟨ps, hv, _⟩ := h
  obtain ⟨g0, t0, cs0, fu0, p0, e0, ty0, v0, tr0⟩ := laidVars_at hv 3 _ _ rfl
  obtain rfl := Option.some.inj ((show Tryd.prog.globalNamed "strconv.ErrRange" = some 1 by kernel_rfl).symm.trans e0)
  obtain rfl := Option.some.inj ((show (Tryd.prog.globals[1]?).map (·.type) = some 57 by kernel_rfl).symm.trans ty0)
  obtain ⟨_, u, v, q0, _⟩ := iface_of_trod Tryd.underlying57 tr0
  exact ⟨u, v, by rw [World.var?_cell e0 v0 0, ← Array.getElem?_toList, q0]; rfl⟩
theorem gl2_of {W : World} (h : laidMetH Tryd.prog Rows.fnExactCondOkRow.laid W) (_hs : W.ShapedOpen Tryd.prog) : GL2 W := by
  rw [MakeChecks.laidMetH_plain _ _ _ (by kernel_rfl)] at h
  obtain ⟨ps, hv, _⟩ := h
  obtain ⟨g0, t0, cs0, fu0, p0, e0, ty0, v0, tr0⟩ := laidVars_at hv 2 _ _ rfl
  obtain rfl := Option.some.inj ((show Tryd.prog.globalNamed "internal/strconv.uint64pow10" = some 2 by kernel_rfl).symm.trans e0)
  obtain rfl := Option.some.inj ((show (Tryd.prog.globals[2]?).map (·.type) = some 109 by kernel_rfl).symm.trans ty0)
  have hc := Lib.cells_of_tab (k := .u64) (zs := Lib.pow10Tab) Tryd.underlying109 Tryd.underlying87 (by kernel_rfl) (by kernel_rfl) tr0
  unfold GL2 Lib.TabIs
  rw [v0, ← hc]
theorem gl3_of {W : World} (_h : laidMetH Tryd.prog Rows.fnExactCondOkRow.laid W) (hs : W.ShapedOpen Tryd.prog) : GL3 W :=
  cell_of_shapedOpen_int (zero := #[.int .i64 0]) (t := 3) hs (of_decide_eq_true (by kernel_rfl)) (by kernel_rfl) rfl (by kernel_rfl) (by kernel_rfl) Tryd.underlying3
set_option maxRecDepth 100000 in
theorem contract (H : Type) (enc : TypeId × Value → H) (W : World) (base : Nat) (args : Array Value) (ds gs : List (DataW H)) (before : List MemPlace)
    (hval : ∀ (j : Nat) t v, Tryd.f5.params[j]? = some t → args[j]? = some v → Value.okWide Tryd.prog W .any base t v)
    (hW : DataW.Whole enc Tryd.prog Tryd.f5.params.toList Rows.fnExactCondOkSpec.vars false W args.toList ds gs before) (hL : laidMetH Tryd.prog Rows.fnExactCondOkRow.laid W) (hSh : W.ShapedOpen Tryd.prog) :
    Calls Tryd.prog 5 args W fun e W' => ∃ v, e = .returned v ∧ Rows.fnExactCondOkSpec.post enc Tryd.prog Tryd.f5 false true false false W args v W' := by
  have hW' := hW
  obtain ⟨p, q, hA0, hV, rfl, hfz, hnd⟩ := hW
  have hA : DataW.TrodAll enc Tryd.prog W 0 (fun _ => true) true Tryd.f5.params.toList args.toList ds p := hA0
  rw [Tryd.params5] at hA hval
  obtain ⟨v0, vs0, d0, ds0, p0, q0, hargs, rfl, rfl, h0, tr0⟩ := trodAll_cons hA
  obtain ⟨rfl, rfl, rfl⟩ := trodAll_nil tr0
  obtain rfl : args = #[v0] := by cases args; simp_all
  obtain ⟨rfl, rfl⟩ := trodVars_none hV
  have k0 := h0
  have lt0 : ∀ x ∈ p0, x.block < W.heap.size := by obtain ⟨m, hm⟩ := k0; exact DataW.trod_lt m _ _ _ hm
  obtain ⟨c0, rfl, z0⟩ := okWide_struct Tryd.underlying34 (hval 0 34 v0 rfl rfl)
  obtain ⟨m0, t0⟩ := h0
  obtain ⟨y0, K0, F0⟩ := op34 m0 H enc W 0 (fun _ => true) true m0 c0.toList _ (Nat.le_refl _) t0
  obtain ⟨A0_3, C0_3, o0, l0_3, r0_3⟩ := k34_open K0
  obtain rfl : c0 = #[.int .i64 y0.f0, .string y0.f1, .int .i64 y0.f2, .slice A0_3 y0.f3.length C0_3] := by rw [← Array.toArray_toList (xs := c0), o0]
  obtain ⟨k, h⟩ := yoursFnExactCondOk y0.f0 y0.f1 y0.f2 y0.f3 ((F0).mk_.1) ((F0).mk_.2.1) ((F0).mk_.2.2.1) ((F0).mk_.2.2.2)
  refine (laws_FnExactCondOk.calls k y0.f0 y0.f1 y0.f2 _ _ y0.f3 true W (gl0_of hL hSh) (gl1_of hL hSh) (gl2_of hL hSh) (gl3_of hL hSh) r0_3 l0_3 h).mono ?_
  rintro e W' ⟨rfl, hd⟩
  have bel : Below W.heap.size W W' := hd
  exact ⟨_, rfl, _, _, _, [], _, [], hW', trodAll_mk1 (shut_bool Tryd.underlying4 _), (trodAll_cons_mk (Below.trod laidOut (by kernel_rfl) (of_decide_eq_true (by kernel_rfl)) k0 bel lt0) trodAll_mk0), rfl, bel.frame _, fun h => by cases h⟩
/-- The listed variables hold what is listed in the heap that the door's own run leaves. -/
theorem door_met (os : Os) (args : Array Value) : laidMetH Tryd.prog Rows.fnExactCondOkRow.laid ((World.doorLaid Tryd.prog 400 os).forCall (fun _ _ => 0) ⟨#[], args, []⟩).memory :=
  laidMetH_of_parts3 (fuel := 8) (laidMet_of_run' 8 (by kernel_rfl) (by kernel_rfl)) (by kernel_rfl) (by kernel_rfl)
set_option maxRecDepth 100000 in
theorem lifted (os : Os) (started : os.Started) (H : Type) (enc : TypeId × Value → H) :
    ReturnsInHanded {} Tryd.checked os 5 .any (fun w args => (Rows.fnExactCondOkSpec.pre enc Tryd.prog Tryd.f5 [] false w args ∧ laidMetH Tryd.prog Rows.fnExactCondOkRow.laid w) ∧ sizedMet enc Tryd.prog Tryd.f5 (OpenSpec.ofChange Rows.fnExactCondOkSpec) false w args)
      (Rows.fnExactCondOkSpec.post enc Tryd.prog Tryd.f5 false true false false) := by
  refine returnsInHanded_of_laid_shaped (C := Tryd.checked) (X := fun w _ => laidMetH Tryd.prog Rows.fnExactCondOkRow.laid w) (fun _ _ _ hh h => h.of_heap hh) own started (by kernel_rfl) Tryd.func5
    (ChangeSpec.witness_shaped (enc := enc) (C := Tryd.checked) (os := os) (X := fun w _ => laidMetH Tryd.prog Rows.fnExactCondOkRow.laid w) false (World.doorLaid Tryd.prog 400 os) #[.agg #[.int .i64 0, .string ByteArray.empty, .int .i64 0, .slice none 0 0]] 8 rfl (World.shaped_of_RefB (by kernel_rfl) (by kernel_rfl)) (by kernel_rfl) (by kernel_rfl) (by kernel_rfl) (door_met os _)) ?_
  intro W base args ds gs before hval hW _ _ hL hSh _
  exact contract H enc W base args ds gs before hval hW hL hSh
theorem said : Rows.FnExactCondOkSaid :=
  OpenClaim.holds_of_wide 5 Tryd.f5 rfl rfl rfl rfl rfl rfl rfl ⟨rfl, rfl, rfl, rfl, rfl⟩ rfl rfl rfl rfl rfl (by kernel_rfl) Tryd.func5 (by kernel_rfl)
    (of_decide_eq_true (by kernel_rfl)) (by unfold Func.isWrapper; first | (rw [if_pos (by decide +kernel)]; kernel_rfl) | (rw [if_neg (by decide +kernel)]; exact ⟨rfl, rfl⟩))
    (fun os started H enc _ => lifted os started H enc)
theorem plain (f : FuncId) (fn : Func) (hf : Tryd.pinned.checked.prog.funcNamed "loop.example/g00093/laws.FnExactCondOk" = some f) (hfn : Tryd.pinned.checked.prog.funcs[f]? = some fn) :
    true = Tryd.pinned.checked.prog.looks [] ∧ ∀ (j : Nat) t, fn.params[j]? = some t → Tryd.pinned.checked.prog.wantsStandIn t = false := by
  obtain rfl : f = 5 := Option.some.inj ((show Tryd.prog.funcNamed "loop.example/g00093/laws.FnExactCondOk" = some 5 by kernel_rfl).symm.trans hf) |>.symm
  obtain rfl : fn = Tryd.f5 := (Option.some.inj (Tryd.func5.symm.trans hfn)).symm
  refine ⟨by kernel_rfl, fun j t ht => ?_⟩
  rw [Tryd.params5] at ht
  have hm : t ∈ [34] := by simpa using Array.mem_of_getElem? ht
  have hall : ([34].all fun u => !Tryd.prog.wantsStandIn u) = true := by kernel_rfl
  exact (show Tryd.prog.wantsStandIn t = false by simpa using List.all_eq_true.1 hall t hm)
theorem card : Rows.FnExactCondOkCardSaid :=
  Claim7.holds_tied_plain_at .later [] _ _ _ _ said (fun _ h => by cases h) (by kernel_rfl) (fun _ h => by cases h) fnExactCondOk_row_tie rfl ⟨rfl, rfl⟩ (by kernel_rfl) rfl plain (by kernel_rfl)
#print axioms card
end Go.Proofs.YtmkppdeoepfpoaaDoor.fnExactCondOk
namespace Go.Proofs.YtmkppdeoepfpoaaDoor
theorem fnExactCondOk_card : Rows.FnExactCondOkCardSaid := fnExactCondOk.card
end Go.Proofs.YtmkppdeoepfpoaaDoor
