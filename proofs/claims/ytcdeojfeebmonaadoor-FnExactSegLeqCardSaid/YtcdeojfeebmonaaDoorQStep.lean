/- Steps of the printed proofs whose side goals are proved by default; out of the seat, by this claim's own program squeeze2.py. -/
import Derived.Test.YtcdeojfeebmonaaDoorProg
import Derived.Below
import Derived.Deep.Draws
import Derived.Deep.AppendLies
import Derived.Maps.AppendAt
import Derived.OwnWalk
import Derived.Laws.BytesArg
import Derived.Laws.MakeOwn
import Derived.Laws.OwnMore
import Derived.Deep.OwnRows
import Derived.Tactics
import Derived.Lib.ConvBytes
import Derived.Laws.Slices
import Derived.WalkKit
import Derived.KernelRfl
import Derived.RowKit3
import Derived.Deep.LoopGhost
import Derived.Deep.QuietTactic
import Derived.BigQuiet
import Derived.WideLaws
import Derived.Deep.DeepCutAuto
import Derived.Deep.CutBlock
import Derived.Deep.RegionHeld3
import Derived.Laws.Rows
import Derived.Lib.AppendStr
import Derived.ArgAppend
import Derived.Laws.IdiomCopy
import Derived.OrdersHeld
import Derived.Laws.BitsLemmas
import Derived.RowKit
import Derived.Test.YtcdeojfeebmonaaDoorQShelf
import Derived.Lib.LaidTab
import Derived.Lib.AppendIntMem
import Derived.Lib.AtoiErrMem
import Derived.Lib.SliceRun
import Derived.BigCall
import Derived.WalkSmall
import Derived.Laws.CopyOwn
import Derived.Deep.RegionLaw
import Derived.Test.YtcdeojfeebmonaaDoorQOpq
import Derived.Test.YtcdeojfeebmonaaDoorWWords
import Derived.Test.YtcdeojfeebmonaaDoorWLast
import Derived.Test.YtcdeojfeebmonaaDoorWQPut
import Derived.Test.YtcdeojfeebmonaaDoorWApart
import Derived.Test.YtcdeojfeebmonaaDoorWArr
import Derived.Test.YtcdeojfeebmonaaDoorWZeros
import Derived.Test.YtcdeojfeebmonaaDoorWFoot
import Derived.Test.YtcdeojfeebmonaaDoorWKept
import Derived.Test.YtcdeojfeebmonaaDoorWShare
import Derived.Test.YtcdeojfeebmonaaDoorWN
import Derived.Test.YtcdeojfeebmonaaDoorWRepsOne
import Derived.Test.YtcdeojfeebmonaaDoorWNEv
import Derived.Test.YtcdeojfeebmonaaDoorWMore
import Derived.Test.YtcdeojfeebmonaaDoorWTab
namespace Go.Proofs.YtcdeojfeebmonaaDoor.Q
open Go.RowKit Go.Proofs.YtcdeojfeebmonaaDoorW.PrintWords Go.Proofs.YtcdeojfeebmonaaDoorW.PrintLast Go.Proofs.YtcdeojfeebmonaaDoorW.PrintMore
set_option linter.unusedVariables false
set_option linter.unusedSimpArgs false
section
theorem sq_blk{P Q:Prop}(h:P)(f:P→Q:=by(intro h;(with_reducible repeat(first|refine blk_drewN ?_ _|refine blk_drew ?_|refine blk_alloc ?_ _));exact h)):Q:=f h
theorem sq_row{P Q:Prop}(h:P)(f:P→Q:=by(intro h;(with_reducible repeat(first|apply Kd.R_alloc|apply Kd.R_drewN|apply Kd.R_drew));exact h)):Q:=f h
theorem sq_below{P Q:Prop}(h:P)(f:P→Q:=by(intro h;repeat(first|(with_reducible first|exact h|apply below_alloc|apply pw_below_drewN|apply below_drew1)|exact h))):Q:=f h
theorem sq_below1{P Q A:Prop}(h:P)(a:A)(f:P→A→Q:=by(intro h a;repeat(first|(with_reducible first|exact h|apply below_alloc|apply pw_below_drewN|apply below_drew1|refine below_set ?_ a)|exact h))):Q:=f h a
theorem sq_below2{P Q A B:Prop}(h:P)(a:A)(b:B)(f:P→A→B→Q:=by(intro h a b;repeat(first|(with_reducible first|exact h|apply below_alloc|apply pw_below_drewN|apply below_drew1|refine below_set ?_ a|refine below_set ?_ b)|exact h))):Q:=f h a b
theorem sq_below3{P Q A B C:Prop}(h:P)(a:A)(b:B)(c:C)(f:P→A→B→C→Q:=by(intro h a b c;repeat(first|(with_reducible first|exact h|apply below_alloc|apply pw_below_drewN|apply below_drew1|refine below_set ?_ a|refine below_set ?_ b|refine below_set ?_ c)|exact h))):Q:=f h a b c
theorem sq_dec{p:Prop}[Decidable p](h:decide p=true:=by first|(with_reducible assumption)|assumption):p:=of_decide_eq_true h
variable {P:Program} {ops:Array Oper} {Q:Exit→Act→World→Prop} {md:Region.Mode} {S:World→Prop} {ds:List Nat}
end
theorem bfar_{w:World}{g g2 i:Nat}{t:TypeId}{cs:Array Value}{u:Value}(hp:g≠g2)(h:w.heap[g]?=some (.cells cs t (0,0))):(w.setCell ⟨g2,i,none⟩ u).heap[g]?=some (.cells cs t (0,0)):=blk_far h hp u
theorem sq_below4{P Q A B C D:Prop}(h:P)(a_:A)(b_:B)(c_:C)(d_:D)(f:P→A→B→C→D→Q:=by(intro h a_ b_ c_ d_;repeat(first|(with_reducible first|exact h|apply below_alloc|apply pw_below_drewN|apply below_drew1|refine below_set ?_ a_|refine below_set ?_ b_|refine below_set ?_ c_|refine below_set ?_ d_)|exact h))):Q:=f h a_ b_ c_ d_
theorem hb_{w W0 W w2:World}(x:Aside0 (Below w.heap.size w W0))(hb:Below W.heap.size W w2)(f:Below w.heap.size w W0→Below w.heap.size w W:=by(intro h;repeat(first|(with_reducible first|exact h|apply below_alloc|apply pw_below_drewN|apply below_drew1)|exact h))):Aside0 (Below w.heap.size w w2):=⟨below_step (f x.out) hb⟩
theorem hb1_{w W0 W w2:World}{A:Prop}(x:Aside0 (Below w.heap.size w W0))(hb:Below W.heap.size W w2)(a_:Aside0 A)(f:Below w.heap.size w W0→A→Below w.heap.size w W:=by(intro h a_;repeat(first|(with_reducible first|exact h|apply below_alloc|apply pw_below_drewN|apply below_drew1|refine below_set ?_ a_)|exact h))):Aside0 (Below w.heap.size w w2):=⟨below_step (f x.out a_.out) hb⟩
theorem hb2_{w W0 W w2:World}{A B:Prop}(x:Aside0 (Below w.heap.size w W0))(hb:Below W.heap.size W w2)(a_:Aside0 A)(b_:Aside0 B)(f:Below w.heap.size w W0→A→B→Below w.heap.size w W:=by(intro h a_ b_;repeat(first|(with_reducible first|exact h|apply below_alloc|apply pw_below_drewN|apply below_drew1|refine below_set ?_ a_|refine below_set ?_ b_)|exact h))):Aside0 (Below w.heap.size w w2):=⟨below_step (f x.out a_.out b_.out) hb⟩
theorem hb3_{w W0 W w2:World}{A B C:Prop}(x:Aside0 (Below w.heap.size w W0))(hb:Below W.heap.size W w2)(a_:Aside0 A)(b_:Aside0 B)(c_:Aside0 C)(f:Below w.heap.size w W0→A→B→C→Below w.heap.size w W:=by(intro h a_ b_ c_;repeat(first|(with_reducible first|exact h|apply below_alloc|apply pw_below_drewN|apply below_drew1|refine below_set ?_ a_|refine below_set ?_ b_|refine below_set ?_ c_)|exact h))):Aside0 (Below w.heap.size w w2):=⟨below_step (f x.out a_.out b_.out c_.out) hb⟩
theorem hb4_{w W0 W w2:World}{A B C D:Prop}(x:Aside0 (Below w.heap.size w W0))(hb:Below W.heap.size W w2)(a_:Aside0 A)(b_:Aside0 B)(c_:Aside0 C)(d_:Aside0 D)(f:Below w.heap.size w W0→A→B→C→D→Below w.heap.size w W:=by(intro h a_ b_ c_ d_;repeat(first|(with_reducible first|exact h|apply below_alloc|apply pw_below_drewN|apply below_drew1|refine below_set ?_ a_|refine below_set ?_ b_|refine below_set ?_ c_|refine below_set ?_ d_)|exact h))):Aside0 (Below w.heap.size w w2):=⟨below_step (f x.out a_.out b_.out c_.out d_.out) hb⟩
theorem hq_{w W0 W w2:World}(hq:W=w2)(x:Aside0 (Below w.heap.size w W0))(f:Below w.heap.size w W0→Below w.heap.size w W:=by(intro h;repeat(first|(with_reducible first|exact h|apply below_alloc|apply pw_below_drewN|apply below_drew1)|exact h))):Aside0 (Below w.heap.size w w2):=⟨hq▸(f x.out)⟩
theorem hq1_{w W0 W w2:World}{A:Prop}(hq:W=w2)(x:Aside0 (Below w.heap.size w W0))(a_:Aside0 A)(f:Below w.heap.size w W0→A→Below w.heap.size w W:=by(intro h a_;repeat(first|(with_reducible first|exact h|apply below_alloc|apply pw_below_drewN|apply below_drew1|refine below_set ?_ a_)|exact h))):Aside0 (Below w.heap.size w w2):=⟨hq▸(f x.out a_.out)⟩
theorem bp_{P Q:Prop}(x:Aside0 P)(f:P→Q:=by(intro h;(with_reducible repeat' (first|exact h|refine blk_drewN ?_ _|refine blk_drew ?_|refine blk_alloc ?_ _|apply blk_put));all_goals rfl)):Q:=f x.out
theorem bp1_{P Q A:Prop}(x:Aside0 P)(a_:Aside0 A)(f:P→A→Q:=by(intro h a_;(with_reducible repeat' (first|exact h|refine blk_drewN ?_ _|refine blk_drew ?_|refine blk_alloc ?_ _|apply blk_put|apply bfar_ a_));all_goals rfl)):Q:=f x.out a_.out
theorem bb_{w W w1:World}{g:Nat}{o:Obj}(x:Aside0 (w.heap[g]?=some o))(hb:Below W.heap.size W w1)(f:w.heap[g]?=some o→W.heap[g]?=some o:=by(intro h;(with_reducible repeat(first|refine blk_drewN ?_ _|refine blk_drew ?_|refine blk_alloc ?_ _));exact h)):Aside0 (w1.heap[g]?=some o):=⟨blk_below (f x.out) hb⟩
theorem bq_{w W w2:World}{g:Nat}{o:Obj}(hq:W=w2)(x:Aside0 (w.heap[g]?=some o))(f:w.heap[g]?=some o→W.heap[g]?=some o:=by(intro h;(with_reducible repeat(first|refine blk_drewN ?_ _|refine blk_drew ?_|refine blk_alloc ?_ _));exact h)):Aside0 (w2.heap[g]?=some o):=⟨hq▸(f x.out)⟩
theorem bd_{w:World}{g:Nat}{o:Obj}(x:Aside0 (w.heap[g]?=some o)):Aside0 (w.drew.heap[g]?=some o):=⟨blk_drew x.out⟩
theorem hd_{base:Nat}{w W:World}(x:Aside0 (Below base w W)):Aside0 (Below base w W.drew):=⟨below_drew1 x.out⟩
theorem bk_{P Q:Prop}(x:Aside0 P)(f:P→Q:=by(intro h;(with_reducible repeat(first|refine blk_drewN ?_ _|refine blk_drew ?_|refine blk_alloc ?_ _));exact h)):Aside0 Q:=⟨f x.out⟩
theorem bf_{P Q R:Prop}(x:Aside0 P)(n:Aside0 R)(f:P→R→Q:=by(intro h n;(with_reducible repeat(first|refine blk_drewN ?_ _|refine blk_drew ?_|refine blk_alloc ?_ _|refine blk_far ?_ n _));exact h)):Aside0 Q:=⟨f x.out n.out⟩
theorem cl_{w:World}{g:Nat}{t:TypeId}{cs:Array Value}{v:Value}(x:Aside0 (w.heap[g]?=some (.cells cs t (0,0))))(i:Nat)(e:cs[i]?=some v:=by rfl):w.cell? ⟨g,i,none⟩=some v:=(blk_cell x.out i).trans e
theorem sq_c{P Q:Prop}(h:P)(f:P→Q:=by(intro h;repeat(first|exact h|(with_reducible refine Kd.C_alloc ?_ _)|(with_reducible refine Kd.C_drewN ?_ _)|(with_reducible refine Kd.C_drew ?_)))):Q:=f h
theorem no_{a:Option Bool}{r:Bool}(H:(if false=true then a else some false)=some r)(hr:r=true):False:=by subst hr;simp at H
theorem nb_{w W:World}{g g':Nat}{o:Obj}(hg:g'=W.heap.size)(x:Aside0 (w.heap[g]?=some o))(f:w.heap[g]?=some o→W.heap[g]?=some o:=by(intro h;(with_reducible repeat(first|refine blk_drewN ?_ _|refine blk_drew ?_|refine blk_alloc ?_ _));exact h)):Aside0 (g≠g'):=⟨hg▸Nat.ne_of_lt (blk_lt (f x.out))⟩
theorem ifn_{α:Type}{a b c:α}{d:Decidable (false=true)}(H:(@ite α (false=true) d a b)=c):b=c:=by rw [if_neg Bool.false_ne_true]at H;exact H
theorem ifp_{α:Type}{a b c:α}{d:Decidable (true=true)}(H:(@ite α (true=true) d a b)=c):a=c:=by rw [if_pos rfl]at H;exact H
section
variable {P:Program} {ops:Array Oper} {Q:Exit→Act→World→Prop}
theorem box_y{rest:List Oper}{o:Oper}{a:Act}{W:World}(N:Tmp)(cs:Array Value)(t:TypeId)(hd:o.dst=some N:=by exact rfl)(hgd:o.guard=none:=by exact rfl)
    (hr:(execOp a.eval o).run P W=.ok (.value (.pointer (some ⟨W.heap.size,0,none⟩))) (W.alloc (.cells cs t (0,0))):=by first|(go_simp;done)|(go_simp;rfl))
    (h:∀ g,g=W.heap.size→∀ w1,w1.heap[g]?=some (.cells cs t (0,0))→Below W.heap.size W w1→wpList P ops Q rest (a.put o.dst (.pointer (some ⟨g,0,none⟩))) w1):wpList P ops Q (o :: rest) a W:=box_event hgd hd hr h
theorem norm_y{md:Region.Mode}{S:World→Prop}{ds:List Nat}{fuel:Nat}{l:Array Bool}{a a0 a':Act}{v:Value}{w:World}(n:Nat)(e:a=Act.put a0 (some n) v:=by exact rfl)(ha:Act.put a0 (some n) v=a':=by(simp only [Act.put,List.setIfInBounds_toArray,List.set_cons_zero,List.set_cons_succ,i64_w,i32_w];rfl))(h:wpAnyLast P md ops Q S ds fuel l a' w):wpAnyLast P md ops Q S ds fuel l a w:=norm_ (e.trans ha) h
theorem gl_ {rest : List Oper} {oi : Oper} {a : Act} {w : World} (n : Nat) {f : FuncId} {fn : Func} {zs : Array Operand} {ts : Array TypeId} (hf : P.funcs[f]? = some fn) (args : Array Value) (hd : oi.dst = some n := by exact rfl) (hg : oi.guard = none := by exact rfl) (hname : (fn.name == "runtime.NumGoroutine") = false := by kernel_rfl) (hb : fn.body.isSome = true := by exact rfl)
    (hop:oi.op=.call { callee:=.value (.func f),args:=zs,argTypes:=ts }:=by exact rfl) (hargs:zs.map a.eval=args:=by(try simp only [List.map_toArray,List.map_cons,List.map_nil]);first|done|rfl|(simp only [List.length_drop,List.length_take];rfl))
    (h:Calls P f args w fun e w'=>∃ v,e=.returned v∧wpList P ops Q rest (a.put (some n) v) w'):wpList P ops Q (oi :: rest) a w:=goesL_ (some n) hd hg hf hname hb args hop hargs h
theorem gs_ {oi : Oper} {N : Option Tmp} {a : Act} {w : World} {K : Act → World → Prop} {f : FuncId} {fn : Func} {zs : Array Operand} {ts : Array TypeId} (hf : P.funcs[f]? = some fn) (args : Array Value) (hname : (fn.name == "runtime.NumGoroutine") = false := by kernel_rfl) (hb : fn.body.isSome = true := by exact rfl)
    (hw:Region.wanted oi (yielded ops a.tmps)=true:=by rfl) (hN:oi.dst=N:=by exact rfl) (hop:oi.op=.call { callee:=.value (.func f),args:=zs,argTypes:=ts }:=by exact rfl) (hargs:zs.map a.eval=args:=by(try simp only [List.map_toArray,List.map_cons,List.map_nil]);first|done|rfl|(simp only [List.length_drop,List.length_take];rfl))
    (h:Calls P f args w fun e w'=>∃ v,e=.returned v∧K (a.put N v) w'):if Region.wanted oi (yielded ops a.tmps)=true then Oper.wp P oi a w K Q else K (a.put N undef) w:=goes_ hf hname hb args hw hN hop hargs h
end
end Go.Proofs.YtcdeojfeebmonaaDoor.Q
