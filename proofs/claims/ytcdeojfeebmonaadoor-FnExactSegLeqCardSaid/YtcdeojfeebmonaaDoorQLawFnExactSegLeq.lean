/- The law FnExactSegLeq holds as it is given (Rows, Cards): for every input the call returns true and each argument reads afterwards as before. No conditions. -/
import Derived.Test.YtcdeojfeebmonaaDoorRows
import Derived.Test.YtcdeojfeebmonaaDoorCards
import Derived.Test.YtcdeojfeebmonaaDoorTie
import Derived.Test.YtcdeojfeebmonaaDoorQPureFnExactSegLeq
import Derived.Test.YtcdeojfeebmonaaDoorQYoursFnExactSegLeq
import Derived.WalkKit
import Derived.ProofKit
import Derived.OpenShut
import Derived.ShutString
import Derived.ChangeOld
import Derived.Below
import Derived.SizedLaws
import Derived.OpenVars
import Derived.LaidMore
import Derived.Stop.Joined
import Derived.SevenTiedAt
namespace Go.Proofs.YtcdeojfeebmonaaDoor.fnExactSegLeq
open Go.ChangeShapes Go.WideShapes Go.ChangeAt Go.RowKit
open Go.ChangeMaps (open_string shut_string)
open Go.Proofs.YtcdeojfeebmonaaDoor.Open Go.Proofs.YtcdeojfeebmonaaDoor.Q
open Go.Proofs.YtcdeojfeebmonaaDoorW.PrintWords Go.Proofs.YtcdeojfeebmonaaDoorW.PrintLast Go.Proofs.YtcdeojfeebmonaaDoorW.PrintMore
set_option linter.unusedVariables false
theorem own:ownKnob Tryd.prog.godebug=none:=by kernel_rfl
theorem laidOut:laidOutB Tryd.prog=true:=by kernel_rfl
theorem gl0_of{W:World}(h:laidMetH Tryd.prog Rows.fnExactSegLeqRow.laid W)(_hs:W.ShapedOpen Tryd.prog):GL0 W:=by
  rw [MakeChecks.laidMetH_plain _ _ _ (by kernel_rfl)]at h
  obtain⟨ps,hv,_⟩:=h
  obtain⟨g0,t0,cs0,fu0,p0,e0,ty0,v0,tr0⟩:=laidVars_at hv 1 _ _ rfl
  obtain rfl := Option.some.inj ((show Tryd.prog.globalNamed "loop.example/g00093/impl.noCell" = some 0 by kernel_rfl).symm.trans e0)
  obtain rfl:=Option.some.inj ((show(Tryd.prog.globals[0]?).map (·.type)=some 60 by kernel_rfl).symm.trans ty0)
  have q0:=two_and_bool Tryd.underlying60 rfl rfl Tryd.underlying58 rfl rfl Tryd.underlying3 Tryd.underlying4 rfl rfl rfl rfl (by kernel_rfl) (by kernel_rfl) (by kernel_rfl) (by kernel_rfl) tr0
  have hc:=fun j=>World.var?_cell e0 v0 j
  exact⟨(by rw [hc 0,← Array.getElem?_toList,q0];rfl),(by rw [hc 1,← Array.getElem?_toList,q0];rfl),(by rw [hc 2,← Array.getElem?_toList,q0];rfl)⟩
theorem gl1_of{W:World}(h:laidMetH Tryd.prog Rows.fnExactSegLeqRow.laid W)(_hs:W.ShapedOpen Tryd.prog):GL1 W:=by
  rw [MakeChecks.laidMetH_plain _ _ _ (by kernel_rfl)]at h
  obtain⟨ps,hv,_⟩:=h
  obtain⟨g0,t0,cs0,fu0,p0,e0,ty0,v0,tr0⟩:=laidVars_at hv 0 _ _ rfl
  obtain rfl := Option.some.inj ((show Tryd.prog.globalNamed "loop.example/g00093/impl.none" = some 1 by kernel_rfl).symm.trans e0)
  obtain rfl:=Option.some.inj ((show(Tryd.prog.globals[1]?).map (·.type)=some 58 by kernel_rfl).symm.trans ty0)
  have q0:=two_ints Tryd.underlying58 rfl rfl Tryd.underlying3 Tryd.underlying3 rfl rfl (by kernel_rfl) (by kernel_rfl) (by kernel_rfl) tr0
  have hc:=fun j=>World.var?_cell e0 v0 j
  exact⟨(by rw [hc 0,← Array.getElem?_toList,q0];rfl),(by rw [hc 1,← Array.getElem?_toList,q0];rfl)⟩
set_option maxRecDepth 100000 in
theorem contract(H:Type)(enc:TypeId×Value→H)(W:World)(base:Nat)(args:Array Value)(ds gs:List (DataW H))(before:List MemPlace)
    (hval:∀ (j:Nat) t v,Tryd.f3.params[j]?=some t→args[j]?=some v→Value.okWide Tryd.prog W .any base t v)
    (hW:DataW.Whole enc Tryd.prog Tryd.f3.params.toList Rows.fnExactSegLeqSpec.vars false W args.toList ds gs before) (hL:laidMetH Tryd.prog Rows.fnExactSegLeqRow.laid W) (hSh:W.ShapedOpen Tryd.prog) :
    Calls Tryd.prog 3 args W fun e W'=>∃ v,e=.returned v∧Rows.fnExactSegLeqSpec.post enc Tryd.prog Tryd.f3 false true false false W args v W':=by
  have hW':=hW
  obtain⟨p,q,hA0,hV,rfl,hfz,hnd⟩:=hW
  have hA:DataW.TrodAll enc Tryd.prog W 0 (fun _=>true) true Tryd.f3.params.toList args.toList ds p:=hA0
  rw [Tryd.params3]at hA hval
  obtain⟨v0,vs0,d0,ds0,p0,q0,hargs,rfl,rfl,h0,tr0⟩:=trodAll_cons hA
  obtain⟨v1,vs1,d1,ds1,p1,q1,rfl,rfl,rfl,h1,tr1⟩:=trodAll_cons tr0
  obtain⟨v2,vs2,d2,ds2,p2,q2,rfl,rfl,rfl,h2,tr2⟩:=trodAll_cons tr1
  obtain⟨v3,vs3,d3,ds3,p3,q3,rfl,rfl,rfl,h3,tr3⟩:=trodAll_cons tr2
  obtain⟨rfl,rfl,rfl⟩:=trodAll_nil tr3
  obtain rfl:args=#[v0,v1,v2,v3]:=by cases args;simp_all
  have hgl:=vars_length hV
  obtain⟨g1,g2,rfl⟩:∃ g1 g2,gs=[g1,g2]:=by
    match gs,hgl with
    | [g1,g2],_=>exact⟨g1,g2,rfl⟩
  have k0:=h0
  have lt0:∀ x∈p0,x.block<W.heap.size:=by obtain⟨m,hm⟩:=k0;exact DataW.trod_lt m _ _ _ hm
  obtain⟨a0,rfl,rfl,rfl,w0⟩:=open_int Tryd.underlying3 (hval 0 3 v0 rfl rfl) h0
  have k1:=h1
  have lt1:∀ x∈p1,x.block<W.heap.size:=by obtain⟨m,hm⟩:=k1;exact DataW.trod_lt m _ _ _ hm
  obtain⟨a1,rfl,rfl,rfl,w1⟩:=open_int Tryd.underlying3 (hval 1 3 v1 rfl rfl) h1
  have k2:=h2
  have lt2:∀ x∈p2,x.block<W.heap.size:=by obtain⟨m,hm⟩:=k2;exact DataW.trod_lt m _ _ _ hm
  obtain⟨c2,rfl,z2⟩:=okWide_struct Tryd.underlying26 (hval 2 26 v2 rfl rfl)
  obtain⟨m2,t2⟩:=h2
  obtain⟨y2,K2,F2⟩:=op26 m2 H enc W 0 (fun _=>true) true m2 c2.toList _ (Nat.le_refl _) t2
  obtain⟨A2_0,C2_0,A2_1,C2_1,A2_2,C2_2,o2,l2_0,r2_0,l2_1,r2_1,l2_2,r2_2⟩:=k26_open K2
  obtain rfl:c2=#[.slice A2_0 y2.f0.length C2_0,.slice A2_1 y2.f1.length C2_1,.slice A2_2 y2.f2.length C2_2]:=by rw [← Array.toArray_toList (xs:=c2),o2]
  have k3:=h3
  have lt3:∀ x∈p3,x.block<W.heap.size:=by obtain⟨m,hm⟩:=k3;exact DataW.trod_lt m _ _ _ hm
  obtain⟨c3,rfl,z3⟩:=okWide_struct Tryd.underlying26 (hval 3 26 v3 rfl rfl)
  obtain⟨m3,t3⟩:=h3
  obtain⟨y3,K3,F3⟩:=op26 m3 H enc W 0 (fun _=>true) true m3 c3.toList _ (Nat.le_refl _) t3
  obtain⟨A3_0,C3_0,A3_1,C3_1,A3_2,C3_2,o3,l3_0,r3_0,l3_1,r3_1,l3_2,r3_2⟩:=k26_open K3
  obtain rfl:c3=#[.slice A3_0 y3.f0.length C3_0,.slice A3_1 y3.f1.length C3_1,.slice A3_2 y3.f2.length C3_2]:=by rw [← Array.toArray_toList (xs:=c3),o3]
  obtain⟨k,h⟩:=yoursFnExactSegLeq a0 a1 y2.f0 y2.f1 y2.f2 y3.f0 y3.f1 y3.f2 w0 w1 ((F2).mk_.1) ((F2).mk_.2.1) ((F2).mk_.2.2) ((F3).mk_.1) ((F3).mk_.2.1) ((F3).mk_.2.2)
  refine(laws_FnExactSegLeq.calls k a0 a1 _ _ y2.f0 _ _ y2.f1 _ _ y2.f2 _ _ y3.f0 _ _ y3.f1 _ _ y3.f2 true W (gl0_of hL hSh) (gl1_of hL hSh) r2_0 l2_0 r2_1 l2_1 r2_2 l2_2 r3_0 l3_0 r3_1 l3_1 r3_2 l3_2 h rfl).mono ?_
  rintro e W' ⟨rfl,hd⟩
  have bel:Below W.heap.size W W':=hd
  exact⟨_,rfl,_,_,_,[],_,q,hW',trodAll_mk1 (shut_bool Tryd.underlying4 _),(trodAll_cons_mk (Below.trod laidOut (by kernel_rfl) (of_decide_eq_true (by kernel_rfl)) k0 bel lt0) (trodAll_cons_mk (Below.trod laidOut (by kernel_rfl) (of_decide_eq_true (by kernel_rfl)) k1 bel lt1) (trodAll_cons_mk (Below.trod laidOut (by kernel_rfl) (of_decide_eq_true (by kernel_rfl)) k2 bel lt2) (trodAll_cons_mk (Below.trod laidOut (by kernel_rfl) (of_decide_eq_true (by kernel_rfl)) k3 bel lt3) trodAll_mk0)))),Below.trodVars laidOut bel (by kernel_rfl) hV,bel.frame _,fun h=>by cases h⟩
/-- The listed variables hold what is listed in the heap that the door's own run leaves. -/
theorem door_met(os:Os)(args:Array Value):laidMetH Tryd.prog Rows.fnExactSegLeqRow.laid ((World.doorLaid Tryd.prog 400 os).forCall (fun _ _=>0) ⟨#[],args,[]⟩).memory :=
  laidMetH_of_parts3 (fuel:=8) (laidMet_of_run' 8 (by kernel_rfl) (by kernel_rfl)) (by kernel_rfl) (by kernel_rfl)
set_option maxRecDepth 100000 in
theorem lifted(os:Os)(started:os.Started)(H:Type)(enc:TypeId×Value→H) :
    ReturnsInHanded {} Tryd.checked os 3 .any (fun w args=>(Rows.fnExactSegLeqSpec.pre enc Tryd.prog Tryd.f3 [] false w args∧laidMetH Tryd.prog Rows.fnExactSegLeqRow.laid w)∧sizedMet enc Tryd.prog Tryd.f3 (OpenSpec.ofChange Rows.fnExactSegLeqSpec) false w args)
      (Rows.fnExactSegLeqSpec.post enc Tryd.prog Tryd.f3 false true false false):=by
  refine returnsInHanded_of_laid_shaped (C:=Tryd.checked) (X:=fun w _=>laidMetH Tryd.prog Rows.fnExactSegLeqRow.laid w) (fun _ _ _ hh h=>h.of_heap hh) own started (by kernel_rfl) Tryd.func3
    (ChangeSpec.witness_shaped (enc:=enc) (C:=Tryd.checked) (os:=os) (X:=fun w _=>laidMetH Tryd.prog Rows.fnExactSegLeqRow.laid w) false (World.doorLaid Tryd.prog 400 os) #[.int .i64 0,.int .i64 0,.agg #[.slice none 0 0,.slice none 0 0,.slice none 0 0],.agg #[.slice none 0 0,.slice none 0 0,.slice none 0 0]] 8 rfl (World.shaped_of_RefB (by kernel_rfl) (by kernel_rfl)) (by kernel_rfl) (by kernel_rfl) (by kernel_rfl) (door_met os _)) ?_
  intro W base args ds gs before hval hW _ _ hL hSh _
  exact contract H enc W base args ds gs before hval hW hL hSh
theorem said:Rows.FnExactSegLeqSaid :=
  OpenClaim.holds_of_wide 3 Tryd.f3 rfl rfl rfl rfl rfl rfl rfl ⟨rfl,rfl,rfl,rfl,rfl⟩ rfl rfl rfl rfl rfl (by kernel_rfl) Tryd.func3 (by kernel_rfl)
    (of_decide_eq_true (by kernel_rfl)) (by unfold Func.isWrapper;first|(rw [if_pos (by decide +kernel)];kernel_rfl)|(rw [if_neg (by decide +kernel)];exact⟨rfl,rfl⟩))
    (fun os started H enc _=>lifted os started H enc)
theorem plain (f : FuncId) (fn : Func) (hf : Tryd.pinned.checked.prog.funcNamed "loop.example/g00093/laws.FnExactSegLeq" = some f) (hfn : Tryd.pinned.checked.prog.funcs[f]? = some fn) :
    false=Tryd.pinned.checked.prog.looks []∧∀ (j:Nat) t,fn.params[j]?=some t→Tryd.pinned.checked.prog.wantsStandIn t=false:=by
  obtain rfl : f = 3 := Option.some.inj ((show Tryd.prog.funcNamed "loop.example/g00093/laws.FnExactSegLeq" = some 3 by kernel_rfl).symm.trans hf) |>.symm
  obtain rfl:fn=Tryd.f3:=(Option.some.inj (Tryd.func3.symm.trans hfn)).symm
  refine⟨by kernel_rfl,fun j t ht=>?_⟩
  rw [Tryd.params3]at ht
  have hm:t∈[3,3,26,26]:=by simpa using Array.mem_of_getElem? ht
  have hall:([3,3,26,26].all fun u=>!Tryd.prog.wantsStandIn u)=true:=by kernel_rfl
  exact(show Tryd.prog.wantsStandIn t=false by simpa using List.all_eq_true.1 hall t hm)
theorem card:Rows.FnExactSegLeqCardSaid :=
  Claim7.holds_tied_plain_at .later [] _ _ _ _ said (fun _ h=>by cases h) (by kernel_rfl) (fun _ h=>by cases h) fnExactSegLeq_row_tie rfl ⟨rfl,rfl⟩ (by kernel_rfl) rfl plain (by kernel_rfl)
#print axioms card
end Go.Proofs.YtcdeojfeebmonaaDoor.fnExactSegLeq
namespace Go.Proofs.YtcdeojfeebmonaaDoor
theorem fnExactSegLeq_card:Rows.FnExactSegLeqCardSaid:=fnExactSegLeq.card
end Go.Proofs.YtcdeojfeebmonaaDoor
