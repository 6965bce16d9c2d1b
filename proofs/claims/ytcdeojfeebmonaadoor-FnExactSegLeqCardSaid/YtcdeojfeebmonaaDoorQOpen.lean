/- What reads as data of a type is of the printed kind: for whatever program; used by the rows of laws whose arguments are structs or slices. -/
import Derived.ChangeArms
import Derived.OpenVars
import Derived.LaidHandle
import Derived.Deep.Slices
import Derived.Handed
import Derived.Shelf.Vars
import Derived.Test.YtcdeojfeebmonaaDoorWWords
namespace Go.Proofs.YtcdeojfeebmonaaDoor.Open
open Go.RowKit Go.Proofs.YtcdeojfeebmonaaDoorW.PrintWords
section
variable {P:Program} {α β:Type} {n m:Nat} {t e:TypeId}
def Opn(P:Program)(n:Nat)(t:TypeId){α:Type}(d:Kd α)(F:α→Prop):Prop :=
  ∀ (H:Type) (enc:TypeId×Value→H) (w:World) (base:Nat) (spare:Nat→Bool) (held:Bool) (m:Nat) (cs:List Value) (x:DataW H×List MemPlace),
    m≤n→DataW.trod enc P w base spare held m t cs=some x→∃ y,d.K w y cs∧F y
theorem Opn.weak{d:Kd α}{F:α→Prop}(h:Opn P n t d F)(hm:m≤n):Opn P m t d F :=
  fun H enc w base spare held k cs x hk hx=>h H enc w base spare held k cs x (Nat.le_trans hk hm) hx
theorem Opn.imp{d:Kd α}{F F':α→Prop}(h:Opn P n t d F)(hF:∀ y,F y→F' y):Opn P n t d F' :=
  fun H enc w base spare held k cs x hk hx=>by
    obtain⟨y,hy,hf⟩:=h H enc w base spare held k cs x hk hx
    exact⟨y,hy,hF y hf⟩
theorem op_int{k:IntKind}(ht:P.underlying t=some (.int k))(n:Nat):Opn P n t (Kd.int k) (fun x=>(Lit.int k x).wf=true) :=
  fun H enc w base spare held m cs x _ hx=>by
    obtain⟨v,rfl,_,hw⟩:=DataW.trod_int ht hx
    exact⟨v,rfl,hw⟩
theorem op_bool(ht:P.underlying t=some .bool)(n:Nat):Opn P n t Kd.bool (fun _=>True) :=
  fun H enc w base spare held m cs x _ hx=>by
    obtain⟨v,rfl,_⟩:=DataW.trod_bool ht hx
    exact⟨v,rfl,trivial⟩
theorem op_string(ht:P.underlying t=some .string)(n:Nat):Opn P n t Kd.string (fun s=>s.size≤maxLen) :=
  fun H enc w base spare held m cs x _ hx=>by
    obtain⟨v,rfl,_,hw⟩:=DataW.trod_string ht hx
    exact⟨v,rfl,hw⟩
def FitL{α:Type}(F:α→Prop)(l:List α):Prop:=l.length≤maxLen∧∀ x∈l,F x
theorem list_of{α:Type}(Q:Nat→α→Prop):∀ n,(∀ i,i<n→∃ y,Q i y)→∃ l:List α,l.length=n∧∀ i y,l[i]?=some y→Q i y
  |0,_=>⟨[],rfl,fun i y h=>by simp at h⟩
  |n+1,h=>by
    obtain⟨l,hl,hq⟩:=list_of Q n (fun i hi=>h i (by omega))
    obtain⟨y,hy⟩:=h n (by omega)
    refine⟨l++[y],by simp [hl],fun i z hz=>?_⟩
    by_cases hi:i<n
    · rw [List.getElem?_append_left (by omega)]at hz
      exact hq i z hz
    · rw [List.getElem?_append_right (by omega)]at hz
      have:i-l.length=0:=by
        cases hh:i-l.length with
        |zero=>rfl
        |succ j=>rw [hh]at hz;simp at hz
      rw [this]at hz
      simp at hz
      subst hz
      have:i=n:=by omega
      subst this
      exact hy
theorem op_slice{d:Kd α}{F:α→Prop}(ht:P.underlying t=some (.slice e))(hsz:P.cellsOf e=d.sz)(h:Opn P n e d F):Opn P (n+1) t (Kd.slice e d) (FitL F) :=
  fun H enc w base spare held m cs x hm hx=>by
    rcases DataW.trod_slice ht hx with⟨rfl,_⟩|⟨a,len,cap,elems,rest,k,rfl,rfl,_,_,hl,hc,hlen,hel,_,_⟩
    · exact⟨[],⟨none,0,rfl,Nat.le_refl _,Kd.C_nil d w⟩,Nat.zero_le _,fun x hx=>by simp at hx⟩
    · have each:∀ i,i<len→∃ y:α,F y∧∃ c:List Value,c.length=d.sz∧d.K w y c∧∀ j u,c[j]?=some u→w.cell? (a.add (i*d.sz+j))=some u:=by
        intro i hi
        have hx:=hel i hi
        rw [List.getElem?_eq_getElem (by omega)]at hx
        obtain⟨c,hc1,hc2⟩:=Option.bind_eq_some_iff.1 hx
        obtain⟨y,hy,hf⟩:=h H enc w base spare held k c _ (by omega) hc2
        obtain⟨_,hcl,hat⟩:=World.cells?_some hc1
        refine⟨y,hf,c,by rw [hcl,hsz],hy,fun j u hj=>?_⟩
        have hjl:j<c.length:=(List.getElem?_eq_some_iff.1 hj).1
        rw [← Go.Deep.add_add,← hsz,hat j (by omega),hj]
      obtain⟨l,hl1,hl2⟩:=list_of _ len each
      refine⟨l,⟨some a,cap,by rw [hl1],by omega,⟨by omega,?_,fun _=>⟨a,rfl,fun j p hp=>?_⟩⟩⟩,by omega,fun x hx=>?_⟩
      · unfold maxLen at hc;omega
      · obtain⟨_,c,h1,h2,h3⟩:=hl2 j p hp
        exact⟨c,h1,h2,h3⟩
      · obtain⟨i,hi⟩:=List.mem_iff_getElem?.1 hx
        exact(hl2 i x hi).1
def TrodF{H:Type}(enc:TypeId×Value→H)(P:Program)(w:World)(base:Nat)(spare:Nat→Bool)(held:Bool)(m:Nat):List TypeId→List Value→Prop
  | [],cs=>cs=[]
  |t :: ts,cs=>(∃ x,DataW.trod enc P w base spare held m t (cs.take (P.cellsOf t))=some x)∧TrodF enc P w base spare held m ts (cs.drop (P.cellsOf t))
def OpF(P:Program)(n:Nat)(ts:List TypeId){α:Type}(d:Kd α)(F:α→Prop):Prop :=
  ∀ (H:Type) (enc:TypeId×Value→H) (w:World) (base:Nat) (spare:Nat→Bool) (held:Bool) (m:Nat) (cs:List Value),
    m≤n→TrodF enc P w base spare held m ts cs→∃ y,d.K w y cs∧F y
theorem opF_one{d:Kd α}{F:α→Prop}(h:Opn P n t d F):OpF P n [t] d F :=
  fun H enc w base spare held m cs hm ⟨⟨x,hx⟩,hd⟩=>by
    have:cs.take (P.cellsOf t)=cs:=by
      have:=List.take_append_drop (P.cellsOf t) cs
      rw [show cs.drop (P.cellsOf t)=[] from hd,List.append_nil]at this
      exact this
    rw [this]at hx
    exact h H enc w base spare held m cs x hm hx
theorem opF_cons{a:Kd α}{b:Kd β}{F:α→Prop}{G:β→Prop}{ts:List TypeId}(h:Opn P n t a F)(g:OpF P n ts b G):OpF P n (t :: ts) (Kd.pair a b) (fun y=>F y.1∧G y.2) :=
  fun H enc w base spare held m cs hm ⟨⟨x,hx⟩,hd⟩=>by
    obtain⟨y,hy,hf⟩:=h H enc w base spare held m _ x hm hx
    obtain⟨z,hz,hg⟩:=g H enc w base spare held m _ hm hd
    exact⟨(y,z),⟨_,_,(List.take_append_drop _ _).symm,hy,hz⟩,hf,hg⟩
def lineB(P:Program):List Field→Nat→Nat→Bool
  | [],o,s=>o == s
  |f :: fs,o,s=>f.offset == o&&lineB P fs (o+P.cellsOf f.type) s
theorem trodF_of{H:Type}{enc:TypeId×Value→H}{w:World}{base:Nat}{spare:Nat→Bool}{held:Bool}{m:Nat}{cs:List Value}:∀ (fs:List Field) (o:Nat),lineB P fs o cs.length=true →
    (∀ f∈fs,∃ x,DataW.trod enc P w base spare held m f.type ((cs.drop f.offset).take (P.cellsOf f.type))=some x)→TrodF enc P w base spare held m (fs.map (·.type)) (cs.drop o)
  | [],o,h,_=>by
    simp [lineB]at h
    subst h
    simp [TrodF]
  |f :: fs,o,h,hx=>by
    simp only [lineB,Bool.and_eq_true,beq_iff_eq]at h
    obtain⟨rfl,h⟩:=h
    refine⟨hx f (by simp),?_⟩
    rw [List.drop_drop]
    exact trodF_of fs _ h (fun g hg=>hx g (by simp [hg]))
theorem op_struct{d:Kd α}{F:α→Prop}{fs:Array Field}{ts:List TypeId}(ht:P.underlying t=some (.struct fs))(hl:lineB P fs.toList 0 (P.cellsOf t)=true)(hts:fs.toList.map (·.type)=ts)(h:OpF P n ts d F)(f:β→α)(mk:α→β)(hmk:∀ y,f (mk y)=y) :
    Opn P (n+1) t (Kd.iso d f) (fun z=>F (f z)) :=
  fun H enc w base spare held m cs x hm hx=>by
    obtain⟨xs,k,rfl,_,hlen,hxl,hf⟩:=DataW.trod_struct ht hx
    have hT:TrodF enc P w base spare held k ts cs:=by
      have:=trodF_of (P:=P) (enc:=enc) (w:=w) (base:=base) (spare:=spare) (held:=held) (m:=k) (cs:=cs) fs.toList 0 (by rw [hlen];exact hl) (fun g hg=>by
        obtain⟨i,hi⟩:=List.mem_iff_getElem?.1 hg
        have hi':fs[i]?=some g:=by simpa using hi
        have hlt:i<fs.size:=(Array.getElem?_eq_some_iff.1 hi').1
        exact⟨xs[i]'(by omega),by rw [hf i g hi'];exact List.getElem?_eq_getElem (by omega)⟩)
      rw [hts]at this
      simpa using this
    obtain⟨y,hy,hg⟩:=h H enc w base spare held k cs (by omega) hT
    refine⟨mk y,?_,?_⟩
    · show d.K w (f (mk y)) cs
      rw [hmk];exact hy
    · show F (f (mk y))
      rw [hmk];exact hg
theorem vars_length{H:Type}{enc:TypeId×Value→H}{P:Program}{w:World}{spare:Nat→Bool}:∀ {ns:List String} {gs:List (DataW H)} {ps:List MemPlace},DataW.TrodVars enc P w spare ns gs ps→gs.length=ns.length
  | [],[],_,_=>rfl
  | [],_ :: _,_,h=>h.elim
  |_ :: _,[],_,h=>h.elim
  |_ :: _,_ :: _,_,⟨_,_,_,_,_,_,_,_,_,_,hs,_⟩=>by rw [List.length_cons,List.length_cons,vars_length hs]
theorem laidVars_at{P:Program}{w:World}:∀ {l:List (String×DataW Unit)} {ps:List MemPlace},DataW.LaidVars P w l ps→∀ (i:Nat) (nm:String) (d:DataW Unit),l[i]?=some (nm,d) →
    ∃ g t cs fuel p,P.globalNamed nm=some g∧(P.globals[g]?).map (·.type)=some t∧w.var? P nm=some cs∧DataW.trod (fun _=>()) P w 0 (fun _=>true) false fuel t cs.toList=some (d,p)
  | [],_,_,i,nm,d,hn=>by simp at hn
  |(n,d0) :: r,_,⟨g,t,cs,fuel,p,q,h1,h2,h3,h4,hs,_⟩,i,nm,d,hn=>by
    cases i with
    |zero =>
      simp at hn
      obtain⟨rfl,rfl⟩:=hn
      exact⟨g,t,cs,fuel,p,h1,h2,h3,h4⟩
    |succ i=>exact laidVars_at hs i nm d (by simpa using hn)
theorem two_ints{P:Program}{w:World}{t e0 e1:TypeId}{f0 f1:Field}{fuel:Nat}{cs:List Value}{a b:Int}{k0 k1:IntKind}{p:List MemPlace}{base:Nat}{spare:Nat→Bool}{held:Bool}
    (ht:P.underlying t=some (.struct #[f0,f1])) (h0:f0.type=e0) (h1:f1.type=e1) (u0:P.underlying e0=some (.int k0)) (u1:P.underlying e1=some (.int k1))
    (o0:f0.offset=0) (o1:f1.offset=1) (c0:P.cellsOf e0=1) (c1:P.cellsOf e1=1) (ct:P.cellsOf t=2)
    (h:DataW.trod (fun _=>()) P w base spare held fuel t cs=some (.agg [.lit (.int k0 a),.lit (.int k1 b)],p)):cs=[.int k0 a,.int k1 b]:=by
  obtain⟨xs,n,rfl,hx,hlen,hxl,hf⟩:=DataW.trod_struct ht h
  have g0:=hf 0 f0 rfl
  have g1:=hf 1 f1 rfl
  rw [h0,o0,c0]at g0
  rw [h1,o1,c1]at g1
  rw [ct]at hlen
  match cs,hlen with
  | [v0,v1],_ =>
    match xs,hxl with
    | [y0,y1],_ =>
      simp only [Prod.mk.injEq,DataW.agg.injEq,List.map_cons,List.map_nil,List.cons.injEq,and_true]at hx
      obtain⟨⟨e0',e1'⟩,_⟩:=hx
      obtain⟨n0,q0,r0,_⟩:=DataW.trod_int u0 g0
      obtain⟨n1,q1,r1,_⟩:=DataW.trod_int u1 g1
      simp at q0 q1
      rw [r0]at e0'
      rw [r1]at e1'
      simp at e0' e1'
      rw [q0,q1,e0',e1']
theorem two_and_bool{P:Program}{w:World}{t e0 e1 ei:TypeId}{f0 f1 g0 g1:Field}{fuel:Nat}{cs:List Value}{a b:Int}{c:Bool}{k:IntKind}{p:List MemPlace}{base:Nat}{spare:Nat→Bool}{held:Bool}
    (ht:P.underlying t=some (.struct #[f0,f1])) (h0:f0.type=e0) (h1:f1.type=e1) (hr:P.underlying e0=some (.struct #[g0,g1])) (i0:g0.type=ei) (i1:g1.type=ei)
    (u0:P.underlying ei=some (.int k)) (u1:P.underlying e1=some .bool) (o0:f0.offset=0) (o1:f1.offset=2) (q0:g0.offset=0) (q1:g1.offset=1)
    (ci:P.cellsOf ei=1) (c0:P.cellsOf e0=2) (c1:P.cellsOf e1=1) (ct:P.cellsOf t=3)
    (h:DataW.trod (fun _=>()) P w base spare held fuel t cs=some (.agg [.agg [.lit (.int k a),.lit (.int k b)],.lit (.bool c)],p)):cs=[.int k a,.int k b,.bool c]:=by
  obtain⟨xs,n,rfl,hx,hlen,hxl,hf⟩:=DataW.trod_struct ht h
  have z0:=hf 0 f0 rfl
  have z1:=hf 1 f1 rfl
  rw [h0,o0,c0]at z0
  rw [h1,o1,c1]at z1
  rw [ct]at hlen
  match cs,hlen with
  | [v0,v1,v2],_ =>
    match xs,hxl with
    | [(y0,p0),(y1,p1)],_ =>
      simp only [Prod.mk.injEq,DataW.agg.injEq,List.map_cons,List.map_nil,List.cons.injEq,and_true]at hx
      obtain⟨⟨e0',e1'⟩,_⟩:=hx
      obtain⟨n1,q1',r1⟩:=DataW.trod_bool u1 z1
      simp only [← e0']at z0
      have s0:=two_ints hr i0 i1 u0 u0 q0 q1 ci ci c0 z0
      simp at q1' s0
      simp at r1
      rw [r1.1]at e1'
      simp at e1'
      rw [s0.1,s0.2,q1',e1']
end
section
variable {H:Type} {enc:TypeId×Value→H}
theorem returnsInHanded_of_laid_shaped{a:Assume}{C:Checked}{os:Os}{f:FuncId}{fn:Func}{s:ChangeSpec}{conds:List PathCond}{apart fresh handsOn again:Bool}{X:World→Array Value→Prop}
    (hX:∀ (w w':World) (args:Array Value),w.heap=w'.heap→X w args→X w' args)
    (own:ownKnob C.prog.godebug=none) (started:os.Started) (noInit:C.prog.inits.idxOf? f=none) (hfn:C.prog.funcs[f]?=some fn)
    (witness:∃ (w:World) (tape:Tape) (i:Input),w.os=os∧(w.forCall tape i).Shaped C.prog∧i.vars=[]∧Input.okWide C.prog (w.forCall tape i) .any w.heap.size f i ∧
      ((s.pre enc C.prog fn conds apart (w.forCall tape i).memory i.args∧X (w.forCall tape i).memory i.args)∧sizedMet enc C.prog fn (OpenSpec.ofChange s) apart (w.forCall tape i).memory i.args)∧a.holds C.prog (lone (Frame.enter C.prog f i.args .normal) [] (w.forCall tape i)))
    (contract:∀ (W:World) (base:Nat) (args:Array Value) (ds gs:List (DataW H)) (before:List MemPlace),
      (∀ (j:Nat) t v,fn.params[j]?=some t→args[j]?=some v→Value.okWide C.prog W .any base t v) →
      DataW.Whole enc C.prog fn.params.toList s.vars apart W args.toList ds gs before →
      conds.all (PathCond.test C.prog ⟨fn.params.toList,ds,s.plain.varTypes C.prog,gs⟩)=true →
      (DataW.weightsEach C.prog (fn.params.toList++s.plain.varTypes C.prog) (ds++gs)).all (·≤reachBytes)=true→X W args→W.ShapedOpen C.prog →
      a.holds C.prog (lone (Frame.enter C.prog f args .normal) [] W) →
      Calls C.prog f args W fun e W'=>∃ v,e=.returned v∧s.post enc C.prog fn apart fresh handsOn again W args v W') :
    ReturnsInHanded a C os f .any (fun w args=>(s.pre enc C.prog fn conds apart w args∧X w args)∧sizedMet enc C.prog fn (OpenSpec.ofChange s) apart w args) (s.post enc C.prog fn apart fresh handsOn again):=by
  refine returnsInHanded_of_calls own started noInit witness ?_
  intro w tape i _ hsh _ hok hpre hholds
  obtain⟨_,_,_,fn',hfn',_,_,_,_,hval⟩:=hok
  obtain rfl:fn'=fn:=Option.some.inj (hfn'.symm.trans hfn)
  obtain⟨⟨⟨ds,gs,before,hw,hc⟩,hx⟩,hz⟩:=hpre
  have hw':=DataW.Whole.of_heap (w':=w.forCall tape i) (by rfl) hw
  refine(contract (w.forCall tape i) w.heap.size i.args ds gs before hval hw' hc (hz.weights hw) (hX _ _ _ (by rfl) hx) hsh hholds).mono fun e W' ⟨v,he,hp⟩=>?_
  subst he
  exact ChangeSpec.post_blind hp
end
end Go.Proofs.YtcdeojfeebmonaaDoor.Open
