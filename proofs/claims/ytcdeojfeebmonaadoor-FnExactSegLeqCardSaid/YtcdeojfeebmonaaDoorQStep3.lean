/- Words for what the printed proofs say often; out of the seat, by this claim's own program squeeze3.py. -/
import Derived.Test.YtcdeojfeebmonaaDoorQStep
import Derived.Test.YtcdeojfeebmonaaDoorProg
import Derived.Below
import Derived.Deep.Draws
import Derived.Deep.AppendLies
import Derived.Maps.AppendAt
import Derived.OwnWalk
import Derived.Laws.BytesArg
import Derived.Laws.MakeOwn
import Derived.Laws.OwnMore
import Derived.Deep.OwnRows
import Derived.Tactics
import Derived.Lib.ConvBytes
import Derived.Laws.Slices
import Derived.WalkKit
import Derived.KernelRfl
import Derived.RowKit3
import Derived.Deep.LoopGhost
import Derived.Deep.QuietTactic
import Derived.BigQuiet
import Derived.WideLaws
import Derived.Deep.DeepCutAuto
import Derived.Deep.CutBlock
import Derived.Deep.RegionHeld3
import Derived.Laws.Rows
import Derived.Lib.AppendStr
import Derived.ArgAppend
import Derived.Laws.IdiomCopy
import Derived.OrdersHeld
import Derived.Laws.BitsLemmas
import Derived.RowKit
import Derived.Test.YtcdeojfeebmonaaDoorQShelf
import Derived.Lib.LaidTab
import Derived.Lib.AppendIntMem
import Derived.Lib.AtoiErrMem
import Derived.Lib.SliceRun
import Derived.BigCall
import Derived.WalkSmall
import Derived.Laws.CopyOwn
import Derived.Deep.RegionLaw
import Derived.Test.YtcdeojfeebmonaaDoorQOpq
import Derived.Test.YtcdeojfeebmonaaDoorWWords
import Derived.Test.YtcdeojfeebmonaaDoorWLast
import Derived.Test.YtcdeojfeebmonaaDoorWQPut
import Derived.Test.YtcdeojfeebmonaaDoorWApart
import Derived.Test.YtcdeojfeebmonaaDoorWArr
import Derived.Test.YtcdeojfeebmonaaDoorWZeros
import Derived.Test.YtcdeojfeebmonaaDoorWFoot
import Derived.Test.YtcdeojfeebmonaaDoorWKept
import Derived.Test.YtcdeojfeebmonaaDoorWShare
import Derived.Test.YtcdeojfeebmonaaDoorWN
import Derived.Test.YtcdeojfeebmonaaDoorWRepsOne
import Derived.Test.YtcdeojfeebmonaaDoorWNEv
import Derived.Test.YtcdeojfeebmonaaDoorWMore
import Derived.Test.YtcdeojfeebmonaaDoorWTab
namespace Go.Proofs.YtcdeojfeebmonaaDoor.Q
open Go.RowKit Go.Proofs.YtcdeojfeebmonaaDoorW.PrintWords Go.Proofs.YtcdeojfeebmonaaDoorW.PrintLast Go.Proofs.YtcdeojfeebmonaaDoorW.PrintMore
set_option linter.unusedVariables false
theorem am_{p:Prop}(h:p):Aside0 p:=⟨h⟩
theorem ns_{a b:Nat}(h:Aside0 (a≠b)):Aside0 (b≠a):=⟨Ne.symm h.out⟩
theorem cb_{w W:World}{p:Addr}{v:Value}(x:Aside0 (Below w.heap.size w W))(h:w.cell? p=some v):W.cell? p=some v:=(x.out.cell (World.block_lt_of_cell? w _ h)).trans h
theorem cc_{w:World}{g:Nat}{t:TypeId}{cs:Array Value}{v:Value}(x:w.heap[g]?=some (.cells cs t (0,0)))(i:Nat)(e:cs[i]?=some v:=by rfl):w.cell? ⟨g,i,none⟩=some v:=(blk_cell x i).trans e
theorem lf_{e e':Ending}(h:e=e':=by first|rfl|(simp [errW_none,errW_some]<;>rfl)|(simp [*,errW_none,errW_some]<;>rfl)):e=e':=h
theorem sr_{P:Prop}(h:P:=by first|rfl|(simp;done)|(simp [*];done)):P:=h
theorem be_{α β:Type}{a:Option α}{f:α→Option β}{r:β}(h:a.bind f=some r):∃ t,Aside0 (a=some t)∧f t=some r:=by
  obtain⟨t,h1,h2⟩:=Option.bind_eq_some_iff.mp h
  exact⟨t,⟨h1⟩,h2⟩
theorem nl_{P:Prop}(h:P:=by first|exact Kd.R_nil _ _ _ _ _|exact Kd.N_nil _ _ _ _ _|exact Kd.V_nil _ _ _ _ _|exact Kd.Q_nil _ _ _ _ _|exact Kd.S_nil _ _ _ _ _):Aside0 P:=⟨h⟩
theorem om_{P:Prop}(h:P:=by first|omega|exact Nat.le_refl _):Aside0 P:=⟨h⟩
theorem rd_{α:Type}{d:Kd α}{e base:Nat}{w:World}{p:Nat→Prop}{v:Value}{xs:List α}(x:Aside0 (d.R e w base p v xs)):Aside0 (d.R e w.drew base p v xs):=⟨Kd.R_drew x.out⟩
theorem rb_{α:Type}{d:Kd α}{e base:Nat}{w W w1:World}{p:Nat→Prop}{v:Value}{xs:List α}(x:Aside0 (d.R e w base p v xs))(hb:Below W.heap.size W w1)(f:d.R e w base p v xs→d.R e W base p v xs:=by(intro h;(with_reducible repeat(first|apply Kd.R_alloc|apply Kd.R_drewN|apply Kd.R_drew));exact h)):Aside0 (d.R e w1 base p v xs):=⟨Kd.R_below (f x.out) hb⟩
theorem ro_{α β:Type}{d:Kd α}{d':Kd β}{e e' base base':Nat}{w w' W w1:World}{p p':Nat→Prop}{u v:Value}{xs:List α}{ys:List β}(x:Aside0 (d.R e w base p u xs))(y:Aside0 (d'.R e' w' base' p' v ys))(hg:W.grownBy w1 v.ownBlock)(f:d.R e w base p u xs→d.R e W base p u xs:=by(intro h;(with_reducible repeat(first|apply Kd.R_alloc|apply Kd.R_drewN|apply Kd.R_drew));exact h))(f':d'.R e' w' base' p' v ys→d'.R e' W base' p' v ys:=by(intro h;(with_reducible repeat(first|apply Kd.R_alloc|apply Kd.R_drewN|apply Kd.R_drew));exact h))(ht:∀ q,q∈e :: d.E→q≠e':=by decide):Aside0 (d.R e w1 base p u xs):=⟨Kd.R_over' (f x.out) (Kd.R_typed (f' y.out)) ht hg⟩
theorem bg_{α:Type}{d:Kd α}{e base g:Nat}{t:TypeId}{cs:Array Value}{w W w1:World}{p:Nat→Prop}{v:Value}{xs:List α}(x:Aside0 (w.heap[g]?=some (.cells cs t (0,0))))(y:Aside0 (d.R e w base p v xs))(hg:W.grownBy w1 v.ownBlock)(f:w.heap[g]?=some (.cells cs t (0,0))→W.heap[g]?=some (.cells cs t (0,0)):=by(intro h;(with_reducible repeat(first|refine blk_drewN ?_ _|refine blk_drew ?_|refine blk_alloc ?_ _));exact h))(ht:e≠t:=by decide):Aside0 (w1.heap[g]?=some (.cells cs t (0,0))):=⟨blk_grown (f x.out) hg (Kd.R_ne y.out x.out ht)⟩
theorem bgS_{α:Type}{d:Kd α}{e base g:Nat}{t:TypeId}{cs:Array Value}{w W w1:World}{p:Nat→Prop}{v:Value}{xs:List α}(x:Aside0 (w.heap[g]?=some (.cells cs t (0,0))))(y:Aside0 (Kd.S d e w base p v xs))(hg:W.grownBy w1 v.ownBlock)(f:w.heap[g]?=some (.cells cs t (0,0))→W.heap[g]?=some (.cells cs t (0,0)):=by(intro h;(with_reducible repeat(first|refine blk_drewN ?_ _|refine blk_drew ?_|refine blk_alloc ?_ _));exact h))(ht:e≠t:=by decide):Aside0 (w1.heap[g]?=some (.cells cs t (0,0))):=⟨blk_grown (f x.out) hg (Kd.S_ne y.out x.out ht)⟩
theorem gz_{w W0 W:World}{g:Nat}(hg:g=W.heap.size)(x:Aside0 (Below w.heap.size w W0))(f:Below w.heap.size w W0→Below w.heap.size w W:=by(intro h;repeat(first|(with_reducible first|exact h|apply below_alloc|apply pw_below_drewN|apply below_drew1)|exact h))):Aside0 (w.heap.size≤g):=⟨hg▸below_size (f x.out)⟩
theorem gz1_{w W0 W:World}{g:Nat}{A:Prop}(hg:g=W.heap.size)(x:Aside0 (Below w.heap.size w W0))(a_:Aside0 A)(f:Below w.heap.size w W0→A→Below w.heap.size w W:=by(intro h a_;repeat(first|(with_reducible first|exact h|apply below_alloc|apply pw_below_drewN|apply below_drew1|refine below_set ?_ a_)|exact h))):Aside0 (w.heap.size≤g):=⟨hg▸below_size (f x.out a_.out)⟩
theorem gz2_{w W0 W:World}{g:Nat}{A B:Prop}(hg:g=W.heap.size)(x:Aside0 (Below w.heap.size w W0))(a_:Aside0 A)(b_:Aside0 B)(f:Below w.heap.size w W0→A→B→Below w.heap.size w W:=by(intro h a_ b_;repeat(first|(with_reducible first|exact h|apply below_alloc|apply pw_below_drewN|apply below_drew1|refine below_set ?_ a_|refine below_set ?_ b_)|exact h))):Aside0 (w.heap.size≤g):=⟨hg▸below_size (f x.out a_.out b_.out)⟩
theorem gz3_{w W0 W:World}{g:Nat}{A B C:Prop}(hg:g=W.heap.size)(x:Aside0 (Below w.heap.size w W0))(a_:Aside0 A)(b_:Aside0 B)(c_:Aside0 C)(f:Below w.heap.size w W0→A→B→C→Below w.heap.size w W:=by(intro h a_ b_ c_;repeat(first|(with_reducible first|exact h|apply below_alloc|apply pw_below_drewN|apply below_drew1|refine below_set ?_ a_|refine below_set ?_ b_|refine below_set ?_ c_)|exact h))):Aside0 (w.heap.size≤g):=⟨hg▸below_size (f x.out a_.out b_.out c_.out)⟩
theorem cz2_{w:World}{g:Nat}{t:TypeId}{v0 v1:Value}(x:Aside0 (w.heap[g]?=some (.cells #[v0,v1] t (0,0)))):w.cell? ⟨g,0,none⟩=some v0∧w.cell? ⟨g,1,none⟩=some v1∧w.frozen? ⟨g,0,none⟩=false∧w.frozen? ⟨g,1,none⟩=false:=⟨cl_ x 0,cl_ x 1,blk_frozen x.out 0,blk_frozen x.out 1⟩
theorem cz3_{w:World}{g:Nat}{t:TypeId}{v0 v1 v2:Value}(x:Aside0 (w.heap[g]?=some (.cells #[v0,v1,v2] t (0,0)))):w.cell? ⟨g,0,none⟩=some v0∧w.cell? ⟨g,1,none⟩=some v1∧w.cell? ⟨g,2,none⟩=some v2∧w.frozen? ⟨g,0,none⟩=false∧w.frozen? ⟨g,1,none⟩=false∧w.frozen? ⟨g,2,none⟩=false:=⟨cl_ x 0,cl_ x 1,cl_ x 2,blk_frozen x.out 0,blk_frozen x.out 1,blk_frozen x.out 2⟩
section
variable {P:Program} {ops:Array Oper} {Q:Exit→Act→World→Prop} {md:Region.Mode} {S:World→Prop} {ds:List Nat}
theorem py_{fuel:Nat}{l l':Array Bool}{a a':Act}{w:World}{oi:Oper}{v:Value}{T:Bool×List (List Nat×List Nat)}(HT:Aside0 (rtab md ops=T))(i n:Nat)(h:wpAnyLast P md ops Q S ds fuel l' a' w)(hl:l.setIfInBounds i true=l':=by(simp only [List.setIfInBounds_toArray,List.set_cons_zero,List.set_cons_succ];rfl))(hc:anyT T l.toList l'.toList i=true:=by kernel_rfl)(hi:ops[i]?=some oi:=by exact rfl)(hN:oi.dst=some n:=by exact rfl)
    (hQ:∀ c a w,Q (.panic c) (a.put oi.dst v) w→Q (.panic c) a w:=by exact fun _ _ _ h=>h) (hy:Yields P ops oi v a:=by(refine Or.inl ⟨by rfl,?_⟩;intro w';go_simp;with_reducible rfl))
    (ha:a.put (some n) v=a':=by(simp only [Act.put,List.setIfInBounds_toArray,List.set_cons_zero,List.set_cons_succ,i64_w,i32_w];rfl)):wpAnyLast P md ops Q S ds (fuel+1) l a w:=pure_ l' hi hN (any_of HT.out hc) hQ hy ha h
theorem pn_{fuel:Nat}{l l':Array Bool}{a a':Act}{w:World}{oi:Oper}{T:Bool×List (List Nat×List Nat)}(HT:Aside0 (rtab md ops=T))(i n:Nat)(h:wpAnyLast P md ops Q S ds fuel l' a' w)(hl:l.setIfInBounds i true=l':=by(simp only [List.setIfInBounds_toArray,List.set_cons_zero,List.set_cons_succ];rfl))(hc:anyT T l.toList l'.toList i=true:=by kernel_rfl)(hi:ops[i]?=some oi:=by exact rfl)(hN:oi.dst=some n:=by exact rfl)
    (hQ:∀ c a w,Q (.panic c) (a.put oi.dst undef) w→Q (.panic c) a w:=by exact fun _ _ _ h=>h) (hy:Yields P ops oi undef a:=by exact Or.inr ⟨by rfl,rfl⟩)
    (ha:a.put (some n) undef=a':=by(simp only [Act.put,List.setIfInBounds_toArray,List.set_cons_zero,List.set_cons_succ,i64_w,i32_w];rfl)):wpAnyLast P md ops Q S ds (fuel+1) l a w:=pure_ l' hi hN (any_of HT.out hc) hQ hy ha h
theorem ty_{fuel:Nat}{l l':Array Bool}{a a':Act}{w:World}{oi:Oper}{v:Value}{T:Bool×List (List Nat×List Nat)}{B:List Nat}(HT:Aside0 (rtab md ops=T))(HW:Aside0 (waitsOk T.2 B=true))(i n:Nat)(hi:ops[i]?=some oi)(hS:S w)(hv:∀ w',S w'→(execOp a.eval oi).run P w'=.ok (.value v) w')(h:wpAnyLast P md ops Q S ds fuel l' a' w)(hl:l.setIfInBounds i true=l':=by(simp only [List.setIfInBounds_toArray,List.set_cons_zero,List.set_cons_succ];rfl))(hc:takeW T B ds l.toList l'.toList i=true:=by kernel_rfl)(hN:oi.dst=some n:=by exact rfl)
    (hQ:∀ c a w,Q (.panic c) (a.put oi.dst v) w→Q (.panic c) a w:=by exact fun _ _ _ h=>h) (hy:Region.wanted oi (yielded ops a.tmps)=true:=by rfl)
    (ha:a.put (some n) v=a':=by(simp only [Act.put,List.setIfInBounds_toArray,List.set_cons_zero,List.set_cons_succ,i64_w,i32_w];rfl)):wpAnyLast P md ops Q S ds (fuel+1) l a w:=take_ l' hi hN (take_ofW HT.out HW.out hc) hQ (Or.inl ⟨hy,hv⟩) hS ha h
theorem oy_{fuel:Nat}{l l':Array Bool}{a:Act}{w:World}{oi:Oper}{T:Bool×List (List Nat×List Nat)}(HT:Aside0 (rtab md ops=T))(i:Nat)(N:Option Tmp)
    (h:∀ K:Act→World→Prop,Shut (∀ a' w',S w'→(S w'→wpAnyLast P md ops Q S ds fuel l' a' w')→K a' w')→if Region.wanted oi (yielded ops a.tmps)=true then Oper.wp P oi a w K Q else K (a.put N undef) w)
    (hl:l.setIfInBounds i true=l':=by(simp only [List.setIfInBounds_toArray,List.set_cons_zero,List.set_cons_succ];rfl)) (hc:(readyT T.2 l.toList == [i]&&l.toList.set i true == l'.toList)=true:=by kernel_rfl) (hi:ops[i]?=some oi:=by exact rfl) (hN:oi.dst=N:=by exact rfl) (hd:i ∉ ds:=by decide):wpAnyLast P md ops Q S ds (fuel+1) l a w:=one_ l' hi hN (one_of HT.out hc) hd h
theorem ly_{fuel:Nat}{l l':Array Bool}{a:Act}{w:World}{oi:Oper}{T:Bool×List (List Nat×List Nat)}(HT:Aside0 (rtab md ops=T))(i:Nat)(N:Option Tmp)
    (h:∀ K:Act→World→Prop,Shut (∀ a' w',wpAnyLast P md ops Q S ds fuel l' a' w'→K a' w')→if Region.wanted oi (yielded ops a.tmps)=true then Oper.wp P oi a w K Q else K (a.put N undef) w)
    (hl:l.setIfInBounds i true=l':=by(simp only [List.setIfInBounds_toArray,List.set_cons_zero,List.set_cons_succ];rfl)) (hc:(readyT T.2 l.toList == [i]&&l.toList.set i true == l'.toList)=true:=by kernel_rfl) (hi:ops[i]?=some oi:=by exact rfl) (hN:oi.dst=N:=by exact rfl) (hd:i∈ds:=by decide):wpAnyLast P md ops Q S ds (fuel+1) l a w:=last_ l' hi hN (one_of HT.out hc) hd h
end
end Go.Proofs.YtcdeojfeebmonaaDoor.Q
