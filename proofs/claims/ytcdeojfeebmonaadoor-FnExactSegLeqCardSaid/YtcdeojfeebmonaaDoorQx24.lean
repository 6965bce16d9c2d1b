/- Functions of the translation as Lean functions, each with a proof that a call answers so; out of the seat, by this claim's own program prt.py. -/
import Derived.Test.YtcdeojfeebmonaaDoorWRepsOne
import Derived.Test.YtcdeojfeebmonaaDoorWGuard
import Derived.Test.YtcdeojfeebmonaaDoorQx0
import Derived.Test.YtcdeojfeebmonaaDoorQx18
import Derived.Test.YtcdeojfeebmonaaDoorQx20
import Derived.Test.YtcdeojfeebmonaaDoorQx21
import Derived.Test.YtcdeojfeebmonaaDoorQx23
import Derived.Test.YtcdeojfeebmonaaDoorQStep3
namespace Go.Proofs.YtcdeojfeebmonaaDoor.Q
open Go.RowKit Go.Proofs.YtcdeojfeebmonaaDoorW.PrintWords Go.Proofs.YtcdeojfeebmonaaDoorW.PrintLast Go.Proofs.YtcdeojfeebmonaaDoorW.PrintMore
attribute [local go_sem] max2_int min2_int max_two min_two max_three min_three max_four min_four
set_option linter.unusedVariables false
set_option maxHeartbeats 8000000
set_option maxRecDepth 100000
set_option linter.unusedSimpArgs false
def df_Sy(w:World)(b N n:Nat)(c:Nat→S53):Prop:=∃ cur:Array Value,w.heap[b]?=some (.cells cur 53 (0,0))∧cur.size=N∧∀ j,j<n→cur[j*2]?=some (.int .i64 (c j).f0)∧cur[j*2+1]?=some (.int .i64 (c j).f1)
theorem df_Sy.move{w w':World}{b N n:Nat}{c:Nat→S53}(h:df_Sy w b N n c)(e:w'.heap[b]?=w.heap[b]?):df_Sy w' b N n c:=by
 obtain⟨cur,h1,h2⟩:=h;exact⟨cur,e.trans h1,h2⟩
theorem df_Sy.lt{w:World}{b N n:Nat}{c:Nat→S53}(h:df_Sy w b N n c):b<w.heap.size:=by
 obtain⟨cur,h1,h2⟩:=h;exact blk_lt h1
theorem df_Sy.below{w w':World}{b N n:Nat}{c:Nat→S53}(h:df_Sy w b N n c)(hb:Below w.heap.size w w'):df_Sy w' b N n c:=h.move (hb.block _ h.lt)
theorem df_Sy.cells{w:World}{b N n:Nat}{c:Nat→S53}(h:df_Sy w b N n c)(j:Nat)(hj:j<n):(w.cell? ⟨b,j*2,none⟩=some (.int .i64 (c j).f0)∧w.cell? ⟨b,j*2+1,none⟩=some (.int .i64 (c j).f1))∧(w.frozen? ⟨b,j*2,none⟩=false∧w.frozen? ⟨b,j*2+1,none⟩=false):=by
 obtain⟨cur,h1,h2,h3⟩:=h;exact⟨⟨(blk_cell h1 _).trans (h3 j hj).1,(blk_cell h1 _).trans (h3 j hj).2⟩,blk_frozen h1 _,blk_frozen h1 _⟩
theorem df_Sy.set{w:World}{b N n:Nat}{c:Nat→S53}(h:df_Sy w b N n c)(i:Nat)(hi:i<n)(x:S53):df_Sy ((w.setCell ⟨b,i*2,none⟩ (.int .i64 x.f0)).setCell ⟨b,i*2+1,none⟩ (.int .i64 x.f1)) b N n (fun j=>if j=i then x else c j):=by
 obtain⟨cur,h1,h2,h3⟩:=h;refine⟨_,blk_set (blk_set h1 (i*2) _) (i*2+1) _,by simpa using h2,fun j hj=>?_⟩;have hs:∀ m,m<n→m*2+1<cur.size:=fun m hm=>(Array.getElem?_eq_some_iff.1 (h3 m hm).2).1
 by_cases hji:j=i
 ·
  subst hji;have:=hs j hj;simp only [if_pos]
  constructor
  ·
   rw [Array.getElem?_setIfInBounds_ne (by omega),Array.getElem?_setIfInBounds_self_of_lt (by omega)]
  ·
   rw [Array.getElem?_setIfInBounds_self_of_lt (by simp;omega)]
 ·
  simp only [if_neg hji]
  constructor
  ·
   rw [Array.getElem?_setIfInBounds_ne (by omega),Array.getElem?_setIfInBounds_ne (by omega)];exact(h3 j hj).1
  ·
   rw [Array.getElem?_setIfInBounds_ne (by omega),Array.getElem?_setIfInBounds_ne (by omega)];exact(h3 j hj).2
def df_idxF(q:S53→Bool)(c:Nat→S53)(i:Nat):Nat→Int
 |0=>-1
 |t+1=>if q (c i)=true then(i:Int)else df_idxF q c (i+1) t
theorem df_wS(m:Nat)(h:m≤2000000000):wrap64 ((m:Int)+1)=((m+1:Nat):Int):=by unfold wrap64;omega
theorem df_idx_walk(g:Nat)(lb:Array Value)(eg:∀ args w,(callFunc g args).run Tryd.prog w=.ok (.enter g args) w)(q:S53→Bool)(w:World)(b N n cap:Nat)(c:Nat→S53)(hS:df_Sy w b N n c)(hn:n≤1000000)
  (hp:∀ W,Below w.heap.size w W→∀ x:S53,Calls Tryd.prog g (#[.agg #[.int .i64 x.f0,.int .i64 x.f1]]++lb) W fun e w'=>e=.returned (.bool (q x))∧Below W.heap.size W w') :
  Calls Tryd.prog 78 #[.slice (some ⟨b,0,none⟩) n cap,.func (.func g) #[] lb] w fun e w'=>e=.returned (.int .i64 (df_idxF q c 0 n))∧Below w.heap.size w w':=by
 have HS:=am_ hS;have HP:=am_ hp;clear hS hp
 go_enter Tryd.func78,Tryd.ntmps78
 go_wp2
 go_loopg [5,8] n (fun gg _ s8 wr=>∃ x:Nat,x≤n∧n-x≤gg∧s8=.int .i64 (x:Int)∧Aside0 (df_idxF q c 0 n=df_idxF q c x (n-x))∧Aside0 (Below w.heap.size w wr))
 case atStart=>exact⟨0,Nat.zero_le _,by omega,rfl,⟨rfl⟩,⟨Below.refl _ _⟩⟩
 case round =>
  obtain⟨x,hx,hgg,rfl,HI,HB⟩:=hrel
  by_cases hlt:x<n
  ·
   have hxi:(x:Int)<(n:Int):=by omega
   have hx0:(0:Int)≤(x:Int):=by omega
   obtain⟨⟨c0,c1⟩,f0,f1⟩:=(HS.out.below HB.out).cells x hlt;have hI:=HI.out;rw [show n-x=(n-x-1)+1 by omega,df_idxF]at hI;cases hq:q (c x)with
   |true =>
    rw [if_pos hq]at hI;have hc:=HP.out wr HB.out (c x);rw [hq]at hc;have HC:=am_ hc;have HI2:=am_ hI;clear hc hI HI hq
    go_wp2_with (go_at_fn g;refine HC.out.mono ?_;rintro e w1 ⟨rfl,hb1⟩)
    go_ret
    exact⟨by rw [HI2.out];rfl,below_step HB.out hb1⟩
   |false =>
    rw [if_neg (by rw [hq];decide)]at hI;have hc:=HP.out wr HB.out (c x);rw [hq]at hc;have HC:=am_ hc;have HI2:=am_ hI;clear hc hI HI hq
    go_wp2_with (go_at_fn g;refine HC.out.mono ?_;rintro e w1 ⟨rfl,hb1⟩)
    go_roundg (n-(x+1))
    case measure=>omega
    case rel=>exact⟨x+1,by omega,by omega,by first|rfl|(congr 1;omega)|(rw [df_wS x (by omega)]),⟨by rw [HI2.out];congr 1⟩,⟨below_step HB.out hb1⟩⟩
  ·
   have hI:=HI.out;rw [show n-x=0 by omega,df_idxF]at hI;have HI2:=am_ hI;clear hI HI;obtain rfl:x=n:=by omega
   go_wp2
   go_ret
   exact⟨by rw [HI2.out];rfl,HB.out⟩
theorem df_idxF_none(q:S53→Bool)(c:Nat→S53):∀ t i,df_idxF q c i t=-1→∀ j,j<t→q (c (i+j))=false
 |0,_,_,_,h=>absurd h (Nat.not_lt_zero _)
 |t+1,i,h,j,hj=>by
  rw [df_idxF]at h;cases hq:q (c i)with
  |true=>rw [hq,if_pos rfl]at h;omega
  |false =>
   rw [hq,if_neg (by decide)]at h
   rcases Nat.eq_zero_or_pos j with rfl|h0
   ·
    exact hq
   ·
    have:=df_idxF_none q c t (i+1) h (j-1) (by omega)
    rwa [show i+1+(j-1)=i+j by omega]at this
theorem df_idxF_some(q:S53→Bool)(c:Nat→S53):∀ t i,df_idxF q c i t≠-1→∃ k,k<t∧df_idxF q c i t=((i+k:Nat):Int)∧q (c (i+k))=true∧∀ j,j<k→q (c (i+j))=false
 |0,_,h=>absurd rfl h
 |t+1,i,h=>by
  cases hq:q (c i)with
  |true=>exact⟨0,Nat.succ_pos _,by rw [df_idxF,hq,if_pos rfl];rfl,hq,fun j hj=>absurd hj (Nat.not_lt_zero _)⟩
  |false =>
   have e:df_idxF q c i (t+1)=df_idxF q c (i+1) t:=by rw [df_idxF,hq,if_neg (by decide)]
   rw [e]at h;obtain⟨k,h1,h2,h3,h4⟩:=df_idxF_some q c t (i+1) h;refine⟨k+1,by omega,by rw [e,h2];congr 1;omega,by rwa [show i+(k+1)=i+1+k by omega],fun j hj=>?_⟩
   rcases Nat.eq_zero_or_pos j with rfl|h0
   ·
    exact hq
   ·
    have:=h4 (j-1) (by omega)
    rwa [show i+1+(j-1)=i+j by omega]at this
def df_kl(q:S53→Bool)(c:Nat→S53)(j:Nat):List S53:=((List.range j).map c).filter fun x=>!q x
theorem df_kl_succ(q:S53→Bool)(c:Nat→S53)(j:Nat):df_kl q c (j+1)=df_kl q c j++(if q (c j)=true then []else [c j]):=by
 unfold df_kl;rw [List.range_succ,List.map_append,List.filter_append];cases hq:q (c j)<;>simp [hq]
theorem df_kl_le(q:S53→Bool)(c:Nat→S53)(j:Nat):(df_kl q c j).length≤j:=by
 have:=List.length_filter_le (fun x=>!q x) ((List.range j).map c)
 simpa [df_kl]using this
theorem df_kl_all(q:S53→Bool)(c:Nat→S53):∀ j,(∀ m,m<j→q (c m)=false)→df_kl q c j=(List.range j).map c
 |0,_=>rfl
 |j+1,h=>by
  rw [df_kl_succ,df_kl_all q c j (fun m hm=>h m (by omega)),if_neg (by rw [h j (by omega)];decide),List.range_succ,List.map_append];rfl
def df_KI(q:S53→Bool)(c d:Nat→S53)(i j n:Nat):Prop:=i=(df_kl q c j).length∧i<j∧(∀ m,m<i→(df_kl q c j)[m]?=some (d m))∧∀ m,j≤m→m<n→d m=c m
theorem df_KI.start{q:S53→Bool}{c:Nat→S53}{k n:Nat}(h1:q (c k)=true)(h2:∀ j,j<k→q (c j)=false):df_KI q c c k (k+1) n:=by
 have e:df_kl q c (k+1)=(List.range k).map c:=by rw [df_kl_succ,if_pos h1,df_kl_all q c k h2,List.append_nil]
 refine⟨by rw [e];simp,by omega,fun m hm=>?_,fun _ _ _=>rfl⟩;rw [e];simp [hm]
theorem df_KI.skip{q:S53→Bool}{c d:Nat→S53}{i j n:Nat}(h:df_KI q c d i j n)(hq:q (c j)=true):df_KI q c d i (j+1) n:=by
 obtain⟨a,b,e,f⟩:=h;have g:df_kl q c (j+1)=df_kl q c j:=by rw [df_kl_succ,if_pos hq,List.append_nil]
 exact⟨by rw [g];exact a,by omega,by rw [g];exact e,fun m hm=>f m (by omega)⟩
theorem df_KI.keep{q:S53→Bool}{c d:Nat→S53}{i j n:Nat}(h:df_KI q c d i j n)(hq:q (c j)=false):df_KI q c (fun m=>if m=i then c j else d m) (i+1) (j+1) n:=by
 obtain⟨a,b,e,f⟩:=h;have g:df_kl q c (j+1)=df_kl q c j++[c j]:=by rw [df_kl_succ,if_neg (by rw [hq];decide)]
 refine⟨by rw [g,List.length_append,← a];rfl,by omega,fun m hm=>?_,fun m hm h2=>?_⟩
 ·
  rw [g]
  by_cases hmi:m=i
  ·
   subst hmi;show _=some (if m=m then _ else _);rw [if_pos rfl,List.getElem?_append_right (by omega),← a,Nat.sub_self];rfl
  ·
   show _=some (if m=i then _ else _);rw [if_neg hmi,List.getElem?_append_left (by omega)];exact e m (by omega)
 ·
  show(if m=i then _ else _)=_;rw [if_neg (by omega)];exact f m (by omega) h2
theorem df_zc2(n:Nat):(Builtin.zeroCells (Value.agg #[.int .i64 0,.int .i64 0]).cells n).toList=List.replicate (n*2) (.int .i64 0):=by
 have:(Value.agg #[.int .i64 0,.int .i64 0]).cells=#[.int .i64 0,.int .i64 0]:=by rfl
 rw [this];simp only [Builtin.zeroCells]
 apply List.ext_getElem
 ·
  simp
 ·
  intro i h1 h2;simp only [Array.toList_map,List.getElem_map,List.getElem_replicate];have:i % 2=0∨i % 2=1:=by omega
  have e:∀ m,m % 2=0∨m % 2=1→(#[Value.int .i64 0,Value.int .i64 0]:Array Value)[m % 2]! = .int .i64 0:=by
   rintro m (h|h)<;>rw [h]<;>rfl
  exact e _ (by omega)
theorem df_clear_run(wr:World)(ty:TypeId)(b N n i cap:Nat)(d:Nat→S53)(hS:df_Sy wr b N n d)(hi:i<n) :
  (Builtin.clear_ #[50] ty #[.slice (some ⟨b,i*2,none⟩) (n-i) (cap-i)]).run Tryd.prog wr=.ok (.tuple #[]) (wr.setCells b (i*2) (List.replicate ((n-i)*2) (.int .i64 0))):=by
 obtain⟨cur,h1,h2,h3⟩:=hS;have hsz:n*2≤cur.size:=by have:=(Array.getElem?_eq_some_iff.1 (h3 (n-1) (by omega)).2).1;omega
 have hv:∀ w,(zeroValue 53).run Tryd.prog w=.ok (.agg #[.int .i64 0,.int .i64 0]) w:=fun w=>by rfl
 have hst:=run_storeCells_cells (P:=Tryd.prog) b (i*2) (List.replicate ((n-i)*2) (.int .i64 0)) 0 wr (fun j hj=>by
   rw [List.length_replicate]at hj;rw [blk_cell h1];simp;omega) (fun j hj=>blk_frozen h1 _) (by intro v hv';rw [List.eq_of_mem_replicate hv'];rfl)
 simp only [Nat.add_zero]at hst;obtain⟨m,hm⟩:∃ m,n-i=m+1:=⟨n-i-1,by omega⟩;rw [hm]at hst ⊢
 simp [Builtin.clear_,run_underlying Tryd.underlying50,hv,df_zc2,hst]
theorem df_Sy.cut{w:World}{b N n:Nat}{c:Nat→S53}(h:df_Sy w b N n c){i:Nat}(vs:List Value)(hi:i<n)(hv:vs.length=(n-i)*2):df_Sy (w.setCells b (i*2) vs) b N i c:=by
 obtain⟨cur,h1,h2,h3⟩:=h;have hsz:n*2≤cur.size:=by have:=(Array.getElem?_eq_some_iff.1 (h3 (n-1) (by omega)).2).1;omega
 obtain⟨cur',g1,g2,g3⟩:=setCells_row vs (i*2) w cur h1 (by omega);refine⟨cur',g1,g2.trans h2,fun j hj=>?_⟩
 have e:∀ m,m<i*2→cur'[m]?=cur[m]?:=fun m hm=>by
  rw [← Array.getElem?_toList,g3,List.append_assoc,List.getElem?_append_left (by simp;omega),List.getElem?_take,if_pos hm,Array.getElem?_toList]
 exact⟨(e _ (by omega)).trans (h3 j (by omega)).1,(e _ (by omega)).trans (h3 j (by omega)).2⟩
theorem df_kept_cells{w W:World}{b:Nat}(h:Kept w W (·=b))(o:Nat)(vs:List Value):Kept w (W.setCells b o vs) (·=b) :=
 ⟨by rw [(setCells_same b vs o W).2.2.2];exact h.1,fun i hi hn=>(setCells_far vs o i hn).trans (h.2 i hi hn)⟩
theorem df_below_cells{w W:World}{b:Nat}(h:Below b w W)(o:Nat)(vs:List Value):Below b w (W.setCells b o vs):=by
 obtain⟨a1,a2,a3,a4⟩:=setCells_same b vs o W;exact⟨a1.trans h.os,a2.trans h.tape,a3.trans h.output,by rw [a4];exact h.size,fun k hk=>(setCells_far vs o k (by omega)).trans (h.block k hk)⟩
theorem df_kept_b{w W:World}{b:Nat}(h:Kept w W (·=b)){W':World}(hb:Below W.heap.size W W'):Kept w W' (·=b):=h.below hb
theorem df_del_walk(g:Nat)(lb:Array Value)(eg:∀ args w,(callFunc g args).run Tryd.prog w=.ok (.enter g args) w)(q:S53→Bool)(w:World)(b N n cap:Nat)(c:Nat→S53)(hS:df_Sy w b N n c)(hn:n≤1000000)(hcap:n≤cap)(hc64:cap≤9223372036854775807)
  (hp:∀ W,Below b w W→Kept w W (·=b)→∀ x:S53,Calls Tryd.prog g (#[.agg #[.int .i64 x.f0,.int .i64 x.f1]]++lb) W fun e w'=>e=.returned (.bool (q x))∧Below W.heap.size W w') :
  Calls Tryd.prog 72 #[.slice (some ⟨b,0,none⟩) n cap,.func (.func g) #[] lb] w fun e w'=>∃ d,e=.returned (.slice (some ⟨b,0,none⟩) (df_kl q c n).length cap)∧df_Sy w' b N (df_kl q c n).length d∧(∀ m,m<(df_kl q c n).length→(df_kl q c n)[m]?=some (d m))∧Kept w w' (·=b)∧Below b w w':=by
 have hI:=df_idx_walk g lb eg q w b N n cap c hS hn (fun W hW x=>hp W (hW.mono (Nat.le_of_lt hS.lt)) (Kept.of_below hW _) x);have hbs:=hS.lt
 by_cases h1:df_idxF q c 0 n=-1
 ·
  rw [h1]at hI;have hall:=df_idxF_none q c n 0 h1;simp only [Nat.zero_add]at hall;have HI:=am_ hI;have HS:=am_ hS;have HA:=am_ (df_kl_all q c n hall);clear hI hS h1 hall hp
  go_enter Tryd.func72,Tryd.ntmps72
  go_wp2_with (go_at_call 78;refine HI.out.mono ?_;rintro e w1 ⟨rfl,hb1⟩)
  go_ret
  rw [HA.out];refine⟨c,by simp,?_,fun m hm=>by simp at hm;simp [hm],Kept.of_below hb1 _,hb1.mono (by omega)⟩;rw [List.length_map,List.length_range];exact HS.out.below hb1
 ·
  obtain⟨k,hk,e,hq1,hq2⟩:=df_idxF_some q c n 0 h1;simp only [Nat.zero_add]at e hq1 hq2;rw [e]at hI;have hne1:((k:Int) == -1)=false:=beq_eq_false_iff_ne.2 (by omega);have HI:=am_ hI;have HS:=am_ hS;have HK0:=am_ (df_KI.start (n:=n) hq1 hq2);have HP:=am_ hp;clear hI hS h1 hq1 hq2 hp e
  go_enter Tryd.func72,Tryd.ntmps72
  go_wp2_with (go_at_call 78;refine HI.out.mono ?_;rintro e w1 ⟨rfl,hb1⟩)
  go_loopg [5,6,7] n (fun gg s5 s6 _ wr=>∃ (i j:Nat) (d:Nat→S53),s5=.int .i64 (i:Int)∧s6=.int .i64 (j:Int)∧j≤n∧n-j≤gg∧Aside0 (df_KI q c d i j n)∧Aside0 (df_Sy wr b N n d)∧Aside0 (Kept w wr (·=b))∧Aside0 (Below b w wr))
  case atStart=>exact⟨k,k+1,c,rfl,by first|rfl|(rw [df_wS k (by omega)]),by omega,by omega,HK0,⟨HS.out.below hb1⟩,⟨Kept.of_below hb1 _⟩,⟨hb1.mono (by omega)⟩⟩
  case round =>
   obtain⟨i,j,d,rfl,rfl,hj,hgg,HK,HY,HKe,HB⟩:=hrel
   by_cases hlt:j<n
   ·
    have hxj:(j:Int)<(n:Int):=by omega
    have hj0:(0:Int)≤(j:Int):=by omega
    have hi0:(0:Int)≤(i:Int):=by omega
    have hij:=HK.out.2.1;have hin:(i:Int)<(n:Int):=by omega
    have hbr:=HY.out.lt;obtain⟨⟨c0,c1⟩,f0,f1⟩:=HY.out.cells j hlt;have hd:=HK.out.2.2.2 j (Nat.le_refl _) hlt;rw [hd]at c0 c1
    go_upto_region 8 with fail
    have hal:Below wr.heap.size wr (wr.alloc (.cells #[.int .i64 (c j).f0,.int .i64 (c j).f1] 53 (0,0))):=(Below.refl wr.heap.size wr).alloc (Nat.le_refl _) _;have P0:=blk_new wr (.cells #[.int .i64 (c j).f0,.int .i64 (c j).f1] 53 (0,0));have HY2:=am_ (HY.out.below hal);have HKe2:=am_ (HKe.out.below hal);have HB2:=am_ (show Below b w _ from HB.out.trans (hal.mono (by omega)));have hcall:=HP.out _ HB2.out HKe2.out (c j);have p0:=(blk_cell P0 0).trans (show _=some (Value.int .i64 (c j).f0) from rfl);have p1:=(blk_cell P0 1).trans (show _=some (Value.int .i64 (c j).f1) from rfl);have HP0:=am_ P0;generalize hW:wr.alloc (.cells #[.int .i64 (c j).f0,.int .i64 (c j).f1] 53 (0,0))=W2 at *;clear hal P0 c0 c1 f0 f1 hW HY HKe HB;have hne:wr.heap.size≠b:=by omega
    generalize wr.heap.size=gb at *;cases hq:q (c j)with
    |true =>
     rw [hq]at hcall;have HC:=am_ hcall;have HQ:=am_ hq;clear hcall hq
     go_wp2_with (go_at_fn g;refine HC.out.mono ?_;rintro e w3 ⟨rfl,hb3⟩)
     go_roundg (n-(j+1))
     case measure=>omega
     case rel=>exact⟨i,j+1,d,rfl,by first|rfl|(rw [df_wS j (by omega)]),by omega,by omega,⟨HK.out.skip HQ.out⟩,⟨HY2.out.below hb3⟩,⟨HKe2.out.below hb3⟩,⟨HB2.out.trans (hb3.mono (Nat.le_of_lt HY2.out.lt))⟩⟩
    |false =>
     rw [hq]at hcall;have HC:=am_ hcall;have HQ:=am_ hq;clear hcall hq
     go_upto_region 9 with(go_at_fn g;refine HC.out.mono ?_;rintro e w3 ⟨rfl,hb3⟩)
     have HY3:=am_ (HY2.out.below hb3);have HKe3:=am_ (HKe2.out.below hb3);have HB3:=am_ (show Below b w w3 from HB2.out.trans (hb3.mono (Nat.le_of_lt HY2.out.lt)));have P3:=blk_below HP0.out hb3;have p0:=(blk_cell P3 0).trans (show _=some (Value.int .i64 (c j).f0) from rfl);have p1:=(blk_cell P3 1).trans (show _=some (Value.int .i64 (c j).f1) from rfl);obtain⟨⟨c0,c1⟩,f0,f1⟩:=HY3.out.cells i (by omega);clear hb3 P3 HP0
     go_wp2
     go_roundg (n-(j+1))
     case measure=>omega
     case rel=>exact⟨i+1,j+1,_,by first|rfl|(rw [df_wS i (by omega)]),by first|rfl|(rw [df_wS j (by omega)]),by omega,by omega,⟨HK.out.keep HQ.out⟩,⟨HY3.out.set i (by omega) (c j)⟩,⟨(HKe3.out.setCell (.inl rfl) _).setCell (.inl rfl) _⟩,⟨(HB3.out.setCell (Nat.le_refl _) _).setCell (Nat.le_refl _) _⟩⟩
   ·
    obtain rfl:j=n:=by omega
    have hij:=HK.out.2.1;have hcl:∀ ty,_:=fun ty=>df_clear_run wr ty b N j i cap d HY.out hij;have hi0:(0:Int)≤(i:Int):=by omega
    have hij':(i:Int)≤(j:Int):=by omega
    go_wp2
    go_ret
    have hK:=HK.out;refine⟨d,by rw [← hK.1];rfl,?_,?_,?_,?_⟩
    ·
     rw [← hK.1];exact HY.out.cut _ hij (by simp)
    ·
     rw [← hK.1];exact hK.2.2.1
    ·
     exact df_kept_cells HKe.out _ _
    ·
     exact df_below_cells HB.out _ _
theorem df_sy_of{w:World}{base:Nat}{ok:Nat→Prop}{v:Value}{xs:List S53}(h:k53.R 53 w base ok v xs)(hp:0<xs.length):∃ g cap,v=.slice (some ⟨g,0,none⟩) xs.length cap∧base≤g∧xs.length≤cap∧cap≤maxLen∧df_Sy w g (cap*2) xs.length (fun j=>xs.getD j z53):=by
 obtain⟨_,inner,⟨hlen,hcase⟩,hreps⟩:=h
 rcases hcase with⟨_,h0⟩|⟨g,cap,cur,rfl,hg,hheap,hncap,hcap,hsz,htake⟩
 ·
  omega
 ·
  refine⟨g,cap,rfl,hg,hncap,hcap,cur,hheap,hsz,fun j hj=>?_⟩;have hx:=List.getElem?_eq_getElem hj;have hM:=k53_openM (hreps.2 j xs[j] hx);have e:xs.getD j z53=xs[j]:=by simp [List.getD,hx]
  show cur[j*2]?=some (.int .i64 (xs.getD j z53).f0)∧cur[j*2+1]?=some (.int .i64 (xs.getD j z53).f1);rw [e];have hM':(inner.drop (j*2)).take 2=[.int .i64 xs[j].f0,.int .i64 xs[j].f1]:=hM
  have q:∀ t,t<2→cur[j*2+t]?=((inner.drop (j*2)).take 2)[t]?:=fun t ht=>by
   rw [List.getElem?_take,if_pos ht,List.getElem?_drop,← htake,List.getElem?_take,if_pos (by show j*2+t<xs.length*2;omega),Array.getElem?_toList]
  exact⟨by have:=q 0 (by omega);rw [hM']at this;exact this,by have:=q 1 (by omega);rw [hM']at this;exact this⟩
theorem df_R_of{w:World}{base:Nat}{ok:Nat→Prop}{g cap:Nat}{ys:List S53}{d:Nat→S53}(h:df_Sy w g (cap*2) ys.length d)(hy:∀ m,m<ys.length→ys[m]?=some (d m))(hb:base≤g)(hl:ys.length≤cap)(hc:cap≤maxLen)(hok:ok g):k53.R 53 w base ok (.slice (some ⟨g,0,none⟩) ys.length cap) ys:=by
 obtain⟨cur,h1,h2,h3⟩:=h
 have hL:(cur.toList.take (ys.length*2)).length=ys.length*2:=by
  have:cur.toList.length=cap*2:=h2;rw [List.length_take,this];omega
 refine⟨fun k hk=>?_,cur.toList.take (ys.length*2),⟨hL,.inr ⟨g,cap,cur,rfl,hb,h1,hl,hc,h2,rfl⟩⟩,hL,fun j p hj=>?_⟩
 ·
  have:g=k:=by simpa [Value.ownBlock]using hk
  subst this;exact hok
 ·
  have hjl:j<ys.length:=(List.getElem?_eq_some_iff.1 hj).1;have e:=hy j hjl;rw [hj]at e;obtain rfl:=Option.some.inj e
  have q:((cur.toList.take (ys.length*2)).drop (j*2)).take 2=[.int .i64 (d j).f0,.int .i64 (d j).f1]:=by
   apply List.ext_getElem?
   intro t;rw [List.getElem?_take]
   by_cases ht:t<2
   ·
    rw [if_pos ht,List.getElem?_drop,List.getElem?_take,if_pos (by omega),Array.getElem?_toList]
    rcases (show t=0∨t=1 by omega)with rfl|rfl
    ·
     exact(h3 j hjl).1
    ·
     exact(h3 j hjl).2
   ·
    rw [if_neg ht]
    simp;omega
  show k53.M w base _ (d j) (((cur.toList.take (ys.length*2)).drop (j*2)).take 2);rw [q];exact k53_mkM _ _ _ _
theorem df_kl_eq(q:S53→Bool)(xs:List S53):df_kl q (fun j=>xs.getD j z53) xs.length=xs.filter fun x=>!q x:=by
 unfold df_kl
 congr 1
 apply List.ext_getElem
 ·
  simp
 ·
  intro i h1 h2;simp only [List.getElem_map,List.getElem_range,List.getD,List.getElem?_eq_getElem h2,Option.getD_some]
theorem df_del{w:World}{base:Nat}{ok:Nat→Prop}{v:Value}{xs:List S53}(g:Nat)(lb:Array Value)(eg:∀ args w,(callFunc g args).run Tryd.prog w=.ok (.enter g args) w)(q:S53→Bool)(hR:k53.R 53 w base ok v xs)(hpos:0<xs.length)(hn:xs.length≤1000000)
  (hp:∀ W,Below base w W→∀ x:S53,Calls Tryd.prog g (#[.agg #[.int .i64 x.f0,.int .i64 x.f1]]++lb) W fun e w'=>e=.returned (.bool (q x))∧Below W.heap.size W w') :
  Calls Tryd.prog 72 #[v,.func (.func g) #[] lb] w fun e w'=>∃ v',e=.returned v'∧v'.ownBlock=v.ownBlock∧(∃ A c,v'=.slice A (xs.filter fun x=>!q x).length c)∧k53.R 53 w' base ok v' (xs.filter fun x=>!q x)∧Kept w w' (fun k=>some k=v.ownBlock)∧Below base w w':=by
 obtain⟨b,cap,rfl,hb,hnc,hcm,hS⟩:=df_sy_of hR hpos;refine(df_del_walk g lb eg q w b (cap*2) xs.length cap _ hS hn hnc (by unfold maxLen at hcm;omega) (fun W hW _ x=>hp W (hW.mono hb) x)).mono ?_;rintro e w' ⟨d,rfl,hS',hd,hK,hB⟩;rw [df_kl_eq]at hS' hd;rw [df_kl_eq];refine⟨_,rfl,rfl,⟨_,_,rfl⟩,df_R_of hS' hd hb (Nat.le_trans (List.length_filter_le _ _) hnc) hcm (hR.1 b rfl),hK.mono (fun k hk=>by subst hk;rfl),hB.mono hb⟩
section
variable {P:Program} {ops:Array Oper} {Q:Exit→Act→World→Prop} {md:Region.Mode} {S:World→Prop} {ds:List Nat}
theorem rp_{fuel:Nat}{l l':Array Bool}{a a':Act}{w:World}{oi:Oper}{v:Value}(i n:Nat)(h:wpAnyLast P md ops Q S ds fuel l' a' w)(hl:l.setIfInBounds i true=l':=by(simp only [List.setIfInBounds_toArray,List.set_cons_zero,List.set_cons_succ];rfl))(hc:anyB md ops l l' i=true:=by kernel_rfl)(hi:ops[i]?=some oi:=by exact rfl)(hN:oi.dst=some n:=by exact rfl)
  (hQ:∀ c a w,Q (.panic c) (a.put oi.dst v) w→Q (.panic c) a w:=by exact fun _ _ _ h=>h) (hy:Yields P ops oi v a:=by(refine Or.inl ⟨by rfl,?_⟩;intro w';go_simp;with_reducible rfl))
  (ha:a.put (some n) v=a':=by(simp only [Act.put,List.setIfInBounds_toArray,List.set_cons_zero,List.set_cons_succ,i64_w,i32_w];rfl)):wpAnyLast P md ops Q S ds (fuel+1) l a w:=pure_ l' hi hN hc hQ hy ha h
theorem rn_{fuel:Nat}{l l':Array Bool}{a a':Act}{w:World}{oi:Oper}(i n:Nat)(h:wpAnyLast P md ops Q S ds fuel l' a' w)(hl:l.setIfInBounds i true=l':=by(simp only [List.setIfInBounds_toArray,List.set_cons_zero,List.set_cons_succ];rfl))(hc:anyB md ops l l' i=true:=by kernel_rfl)(hi:ops[i]?=some oi:=by exact rfl)(hN:oi.dst=some n:=by exact rfl)
  (hQ:∀ c a w,Q (.panic c) (a.put oi.dst undef) w→Q (.panic c) a w:=by exact fun _ _ _ h=>h) (hy:Yields P ops oi undef a:=by exact Or.inr ⟨by rfl,rfl⟩)
  (ha:a.put (some n) undef=a':=by(simp only [Act.put,List.setIfInBounds_toArray,List.set_cons_zero,List.set_cons_succ,i64_w,i32_w];rfl)):wpAnyLast P md ops Q S ds (fuel+1) l a w:=pure_ l' hi hN hc hQ hy ha h
theorem rt_{fuel:Nat}{l l':Array Bool}{a a':Act}{w:World}{oi:Oper}{v:Value}(i n:Nat)(hi:ops[i]?=some oi)(hS:S w)(hv:∀ w',S w'→(execOp a.eval oi).run P w'=.ok (.value v) w')(h:wpAnyLast P md ops Q S ds fuel l' a' w)(hl:l.setIfInBounds i true=l':=by(simp only [List.setIfInBounds_toArray,List.set_cons_zero,List.set_cons_succ];rfl))(hc:takeB md ops ds l l' i=true:=by kernel_rfl)(hN:oi.dst=some n:=by exact rfl)
  (hQ:∀ c a w,Q (.panic c) (a.put oi.dst v) w→Q (.panic c) a w:=by exact fun _ _ _ h=>h) (hy:Region.wanted oi (yielded ops a.tmps)=true:=by rfl)
  (ha:a.put (some n) v=a':=by(simp only [Act.put,List.setIfInBounds_toArray,List.set_cons_zero,List.set_cons_succ,i64_w,i32_w];rfl)):wpAnyLast P md ops Q S ds (fuel+1) l a w:=take_ l' hi hN hc hQ (Or.inl ⟨hy,hv⟩) hS ha h
theorem ro1_{fuel:Nat}{l l':Array Bool}{a:Act}{w:World}{oi:Oper}(i:Nat)(N:Option Tmp)
  (h:∀ K:Act→World→Prop,Shut (∀ a' w',S w'→(S w'→wpAnyLast P md ops Q S ds fuel l' a' w')→K a' w')→if Region.wanted oi (yielded ops a.tmps)=true then Oper.wp P oi a w K Q else K (a.put N undef) w)
  (hl:l.setIfInBounds i true=l':=by(simp only [List.setIfInBounds_toArray,List.set_cons_zero,List.set_cons_succ];rfl)) (hc:readyB md ops l l' i=true:=by kernel_rfl) (hi:ops[i]?=some oi:=by exact rfl) (hN:oi.dst=N:=by exact rfl) (hd:i ∉ ds:=by decide):wpAnyLast P md ops Q S ds (fuel+1) l a w:=one_ l' hi hN hc hd h
theorem rl1_{fuel:Nat}{l l':Array Bool}{a:Act}{w:World}{oi:Oper}(i:Nat)(N:Option Tmp)
  (h:∀ K:Act→World→Prop,Shut (∀ a' w',wpAnyLast P md ops Q S ds fuel l' a' w'→K a' w')→if Region.wanted oi (yielded ops a.tmps)=true then Oper.wp P oi a w K Q else K (a.put N undef) w)
  (hl:l.setIfInBounds i true=l':=by(simp only [List.setIfInBounds_toArray,List.set_cons_zero,List.set_cons_succ];rfl)) (hc:readyB md ops l l' i=true:=by kernel_rfl) (hi:ops[i]?=some oi:=by exact rfl) (hN:oi.dst=N:=by exact rfl) (hd:i∈ds:=by decide):wpAnyLast P md ops Q S ds (fuel+1) l a w:=last_ l' hi hN hc hd h
end
def sq_ag(A0 A1 A2:Option Addr)(n0 c0 n1 c1 n2 c2:Nat):Value:=.agg #[.slice A0 n0 c0,.slice A1 n1 c1,.slice A2 n2 c2]
theorem sq_lit(k:Nat)(size l:Int)(g1 g2:Nat)(A0 A1 A2:Option Addr)(c0 c1 c2:Nat)(b:List (List S53))(v:List S60)(m:List Bool)(r:Bool)(w:World)(hG0:GL1 w)(h1:w.heap[g1]?=some (.cells #[.int .i64 size] 3 (0,0)))(h2:w.heap[g2]?=some (.cells #[.int .i64 l] 3 (0,0)))
  (hr0:Kd.C (Kd.slice 53 k53) w A0 b.length b) (hc0:b.length≤c0) (hr1:Kd.C k60 w A1 v.length v) (hc1:v.length≤c1) (hr2:Kd.C Kd.bool w A2 m.length m) (hc2:m.length≤c2) (hok:impl_SegOk.f k size l b v m=some r) :
  Calls Tryd.prog 33 (#[.agg #[.slice A0 b.length c0,.slice A1 v.length c1,.slice A2 m.length c2]]++#[.pointer (some ⟨g1,0,none⟩),.pointer (some ⟨g2,0,none⟩)]) w fun e w'=>e=.returned (.bool (!r))∧Below w.heap.size w w':=by
 show Calls Tryd.prog 33 #[.agg #[.slice A0 b.length c0,.slice A1 v.length c1,.slice A2 m.length c2],.pointer (some ⟨g1,0,none⟩),.pointer (some ⟨g2,0,none⟩)] w _;have HAL:Below w.heap.size w (w.alloc (.cells #[.slice A0 b.length c0,.slice A1 v.length c1,.slice A2 m.length c2] 32 (0,0))):=(Below.refl w.heap.size w).alloc (Nat.le_refl _) _;have HS:=impl_SegOk.calls k size l A0 c0 b A1 c1 v A2 c2 m r _ (GL1.below hG0 HAL) (Kd.C_below hr0 HAL) hc0 (Kd.C_below hr1 HAL) hc1 (Kd.C_below hr2 HAL) hc2 hok;have hz:=blk_new w (.cells #[.slice A0 b.length c0,.slice A1 v.length c1,.slice A2 m.length c2] 32 (0,0));have q1:=blk_below h1 HAL;have q2:=blk_below h2 HAL;have z0:=cc_ (v:=.slice A0 b.length c0) hz 0;have z1:=cc_ (v:=.slice A1 v.length c1) hz 1;have z2:=cc_ (v:=.slice A2 m.length c2) hz 2;have e1:=(blk_cell q1 0).trans (show _=some (Value.int .i64 size) from rfl);have e2:=(blk_cell q2 0).trans (show _=some (Value.int .i64 l) from rfl);have HS:=am_ HS;have HAL:=am_ HAL;clear hz q1 q2 hG0 h1 h2 hr0 hc0 hr1 hc1 hr2 hc2 hok
 go_enter Tryd.func33,Tryd.ntmps33
 go_wp2_with (go_at_call 34;refine HS.out.mono ?_;rintro e w1 ⟨rfl,hb1⟩)
 go_ret
 exact⟨rfl,below_step HAL.out hb1⟩
theorem sq_idx(g:Nat)(lb:Array Value)(eg:∀ args w,(callFunc g args).run Tryd.prog w=.ok (.enter g args) w)(gb:Nat)(x0 x1 x2 z0 z1 z2:Sl)(p q:Bool)(w:World)(hb:w.heap[gb]?=some (.cells #[encSl x0,encSl x1,encSl x2,encSl z0,encSl z1,encSl z2] 32 (0,0)))
  (h0:∀ W,Below w.heap.size w W→Calls Tryd.prog g (#[.agg #[encSl x0,encSl x1,encSl x2]]++lb) W fun e w'=>e=.returned (.bool p)∧Below W.heap.size W w') (h1:∀ W,Below w.heap.size w W→Calls Tryd.prog g (#[.agg #[encSl z0,encSl z1,encSl z2]]++lb) W fun e w'=>e=.returned (.bool q)∧Below W.heap.size W w') :
  Calls Tryd.prog 48 #[.slice (some ⟨gb,0,none⟩) 2 2,.func (.func g) #[] lb] w fun e w'=>e=.returned (.int .i64 (if p=true then 0 else if q=true then 1 else -1))∧Below w.heap.size w w':=by
 have HB:=am_ hb;have H0:=am_ h0;have H1:=am_ h1;clear hb h0 h1
 go_enter Tryd.func48,Tryd.ntmps48
 go_wp2
 go_loopg [5,8] 2 (fun gg _ s8 wr=>(s8=.int .i64 0∧gg=2∧Aside0 (Below w.heap.size w wr))∨(s8=.int .i64 1∧gg=1∧Aside0 (p=false)∧Aside0 (Below w.heap.size w wr))∨(s8=.int .i64 2∧Aside0 (p=false)∧Aside0 (q=false)∧Aside0 (Below w.heap.size w wr)))
 case atStart=>exact .inl ⟨rfl,rfl,⟨Below.refl _ _⟩⟩
 case round =>
  rcases hrel with⟨rfl,rfl,HW⟩|⟨rfl,rfl,HP,HW⟩|⟨rfl,HP,HQ,HW⟩
  ·
   have R:=blk_below HB.out HW.out;have r0:=cc_ (v:=.slice x0.1 x0.2.1 x0.2.2) R 0;have r1:=cc_ (v:=.slice x1.1 x1.2.1 x1.2.2) R 1;have r2:=cc_ (v:=.slice x2.1 x2.2.1 x2.2.2) R 2;have HC:=H0.out wr HW.out;clear R;cases p with
   |true =>
    have HC:=am_ HC
    go_wp2_with (go_at_fn g;refine HC.out.mono ?_;rintro e w1 ⟨rfl,hb1⟩)
    go_ret
    exact⟨rfl,below_step HW.out hb1⟩
   |false =>
    have HC:=am_ HC
    go_wp2_with (go_at_fn g;refine HC.out.mono ?_;rintro e w1 ⟨rfl,hb1⟩)
    go_roundg 1
    case measure=>omega
    case rel=>exact .inr (.inl ⟨rfl,rfl,by first|exact⟨rfl⟩|exact⟨trivial⟩,⟨below_step HW.out hb1⟩⟩)
  ·
   have R:=blk_below HB.out HW.out;have r0:=cc_ (v:=.slice z0.1 z0.2.1 z0.2.2) R 3;have r1:=cc_ (v:=.slice z1.1 z1.2.1 z1.2.2) R 4;have r2:=cc_ (v:=.slice z2.1 z2.2.1 z2.2.2) R 5;have HC:=H1.out wr HW.out;clear R;have hp:=HP.out;subst hp;cases q with
   |true =>
    have HC:=am_ HC
    go_wp2_with (go_at_fn g;refine HC.out.mono ?_;rintro e w1 ⟨rfl,hb1⟩)
    go_ret
    exact⟨rfl,below_step HW.out hb1⟩
   |false =>
    have HC:=am_ HC
    go_wp2_with (go_at_fn g;refine HC.out.mono ?_;rintro e w1 ⟨rfl,hb1⟩)
    go_roundg 0
    case measure=>omega
    case rel=>exact .inr (.inr ⟨rfl,by first|exact⟨rfl⟩|exact⟨trivial⟩,by first|exact⟨rfl⟩|exact⟨trivial⟩,⟨below_step HW.out hb1⟩⟩)
  ·
   have hp:=HP.out;subst hp;have hq:=HQ.out;subst hq
   go_wp2
   go_ret
   exact⟨rfl,HW.out⟩
set_option maxRecDepth 100000 in
theorem sq_cont(g:Nat)(lb:Array Value)(eg:∀ args w,(callFunc g args).run Tryd.prog w=.ok (.enter g args) w)(gb:Nat)(x0 x1 x2 z0 z1 z2:Sl)(p q:Bool)(w:World)(hb:w.heap[gb]?=some (.cells #[encSl x0,encSl x1,encSl x2,encSl z0,encSl z1,encSl z2] 32 (0,0)))
  (h0:∀ W,Below w.heap.size w W→Calls Tryd.prog g (#[.agg #[encSl x0,encSl x1,encSl x2]]++lb) W fun e w'=>e=.returned (.bool p)∧Below W.heap.size W w') (h1:∀ W,Below w.heap.size w W→Calls Tryd.prog g (#[.agg #[encSl z0,encSl z1,encSl z2]]++lb) W fun e w'=>e=.returned (.bool q)∧Below W.heap.size W w') :
  Calls Tryd.prog 32 #[.slice (some ⟨gb,0,none⟩) 2 2,.func (.func g) #[] lb] w fun e w'=>e=.returned (.bool (p||q))∧Below w.heap.size w w':=by
 have HI:=am_ (sq_idx g lb eg gb x0 x1 x2 z0 z1 z2 p q w hb h0 h1);clear hb h0 h1 eg;cases p with
 |true =>
  go_enter Tryd.func32,Tryd.ntmps32
  go_wp2_with (go_at_call 48;refine HI.out.mono ?_;rintro e w1 ⟨rfl,hb1⟩)
  go_ret
  exact⟨rfl,hb1⟩
 |false =>
  cases q with
  |true =>
   go_enter Tryd.func32,Tryd.ntmps32
   go_wp2_with (go_at_call 48;refine HI.out.mono ?_;rintro e w1 ⟨rfl,hb1⟩)
   go_ret
   exact⟨rfl,hb1⟩
  |false =>
   go_enter Tryd.func32,Tryd.ntmps32
   go_wp2_with (go_at_call 48;refine HI.out.mono ?_;rintro e w1 ⟨rfl,hb1⟩)
   go_ret
   exact⟨rfl,hb1⟩
theorem sq_are(k:Nat)(size l:Int)(gb:Nat)(A0 A1 A2 B0 B1 B2:Option Addr)(c0 c1 c2 d0 d1 d2:Nat)(b b':List (List S53))(v v':List S60)(m m':List Bool)(r r':Bool)(w:World)(hG0:GL1 w)
  (hb:w.heap[gb]?=some (.cells #[.slice A0 b.length c0,.slice A1 v.length c1,.slice A2 m.length c2,.slice B0 b'.length d0,.slice B1 v'.length d1,.slice B2 m'.length d2] 32 (0,0)))
  (hr0:Kd.C (Kd.slice 53 k53) w A0 b.length b) (hc0:b.length≤c0) (hr1:Kd.C k60 w A1 v.length v) (hc1:v.length≤c1) (hr2:Kd.C Kd.bool w A2 m.length m) (hc2:m.length≤c2) (hok:impl_SegOk.f k size l b v m=some r)
  (hs0:Kd.C (Kd.slice 53 k53) w B0 b'.length b') (hd0:b'.length≤d0) (hs1:Kd.C k60 w B1 v'.length v') (hd1:v'.length≤d1) (hs2:Kd.C Kd.bool w B2 m'.length m') (hd2:m'.length≤d2) (hok':impl_SegOk.f k size l b' v' m'=some r') :
  Calls Tryd.prog 17 #[.int .i64 size,.int .i64 l,.slice (some ⟨gb,0,none⟩) 2 2] w fun e w'=>e=.returned (.bool (r&&r'))∧Below w.heap.size w w':=by
 have Z1:(w.alloc (.cells #[.int .i64 size] 3 (0,0))).heap.size=w.heap.size+1:=Array.size_push ..;have HAL:Below w.heap.size w ((w.alloc (.cells #[.int .i64 size] 3 (0,0))).alloc (.cells #[.int .i64 l] 3 (0,0))):=((Below.refl w.heap.size w).alloc (Nat.le_refl _) _).alloc (by rw [Z1];omega) _;have P1:=blk_alloc (blk_new w (.cells #[.int .i64 size] 3 (0,0))) (.cells #[.int .i64 l] 3 (0,0));have P2:=blk_new (w.alloc (.cells #[.int .i64 size] 3 (0,0))) (.cells #[.int .i64 l] 3 (0,0));rw [Z1]at P2
 have HC:=sq_cont 33 #[.pointer (some ⟨w.heap.size,0,none⟩),.pointer (some ⟨w.heap.size+1,0,none⟩)] (enters_of Tryd.func33 (by kernel_rfl) rfl) gb (A0,b.length,c0) (A1,v.length,c1) (A2,m.length,c2) (B0,b'.length,d0) (B1,v'.length,d1) (B2,m'.length,d2) (!r) (!r') _ (blk_below hb HAL)
  (fun W hW=>sq_lit k size l _ _ A0 A1 A2 c0 c1 c2 b v m r W (GL1.below hG0 (below_step HAL hW)) (blk_below P1 hW) (blk_below P2 hW) (Kd.C_below hr0 (below_step HAL hW)) hc0 (Kd.C_below hr1 (below_step HAL hW)) hc1 (Kd.C_below hr2 (below_step HAL hW)) hc2 hok)
  (fun W hW=>sq_lit k size l _ _ B0 B1 B2 d0 d1 d2 b' v' m' r' W (GL1.below hG0 (below_step HAL hW)) (blk_below P1 hW) (blk_below P2 hW) (Kd.C_below hs0 (below_step HAL hW)) hd0 (Kd.C_below hs1 (below_step HAL hW)) hd1 (Kd.C_below hs2 (below_step HAL hW)) hd2 hok')
 have HC:=am_ HC;have HAL:=am_ HAL;clear hG0 hb hr0 hc0 hr1 hc1 hr2 hc2 hok hs0 hd0 hs1 hd1 hs2 hd2 hok' P1 P2 Z1
 go_enter Tryd.func17,Tryd.ntmps17
 go_wp2_with (go_at_call 32;refine HC.out.mono ?_;rintro e w1 ⟨rfl,hb1⟩)
 go_ret
 exact⟨by cases r<;>cases r'<;>rfl,below_step HAL.out hb1⟩
def st_go(v:List S60)(m:List Bool):Nat→Nat→S60×Bool→Option (S60×Bool)
 |0,_,p=>some p
 |n+1,i,p=>(impl_ValJoin.f 2 p.1.f0.f0 p.1.f0.f1 p.1.f1 (rd_T60 v (i:Int)).f0.f0 (rd_T60 v (i:Int)).f0.f1 (rd_T60 v (i:Int)).f1).bind fun x=>st_go v m n (i+1) (⟨⟨x.1,x.2.1⟩,x.2.2⟩,p.2&&rdOf false m (i:Int))
theorem st_wS(m:Nat)(h:m≤2000000000):wrap64 ((m:Int)+1)=((m+1:Nat):Int):=by unfold wrap64;omega
def st_cl(p:S60):Array Value:=#[.int .i64 p.f0.f0,.int .i64 p.f0.f1,.bool p.f1]
theorem st_put{W:World}{g:Nat}{cs:Array Value}(h:W.heap[g]?=some (.cells cs 60 (0,0)))(hc:cs.size=3)(u0 u1 u2:Value):(((W.setCell ⟨g,0,none⟩ u0).setCell ⟨g,1,none⟩ u1).setCell ⟨g,2,none⟩ u2).heap[g]?=some (.cells #[u0,u1,u2] 60 (0,0)):=by
 have h3:=blk_set (blk_set (blk_set h 0 u0) 1 u1) 2 u2;rw [h3];obtain⟨l⟩:=cs
 match l,hc with
 | [a,b,c],_=>rfl
theorem st_far{W:World}{g k t:Nat}{cs:Array Value}(h:W.heap[k]?=some (.cells cs t (0,0)))(hk:k≠g)(u0 u1 u2:Value):(((W.setCell ⟨g,0,none⟩ u0).setCell ⟨g,1,none⟩ u1).setCell ⟨g,2,none⟩ u2).heap[k]?=some (.cells cs t (0,0)):=blk_far (blk_far (blk_far h hk u0) hk u1) hk u2
theorem st_cf{W:World}{g:Nat}{a:Addr}{v:Option Value}(h:W.cell? a=v)(hk:a.block≠g)(u0 u1 u2:Value):(((W.setCell ⟨g,0,none⟩ u0).setCell ⟨g,1,none⟩ u1).setCell ⟨g,2,none⟩ u2).cell? a=v :=
 (cell_far (p:=⟨g,2,none⟩) hk _).trans ((cell_far (p:=⟨g,1,none⟩) hk _).trans ((cell_far (p:=⟨g,0,none⟩) hk _).trans h))
theorem st_walk(i j:Nat)(x0:Sl)(A1 A2:Option Addr)(c1 c2:Nat)(v:List S60)(m:List Bool)(R:S60×Bool)(w:World)(hG0:GL1 w)(hG1:GL0 w)
  (hr1:Kd.C k60 w A1 v.length v) (hr2:Kd.C Kd.bool w A2 m.length m) (hij:i≤j) (hjv:j≤v.length) (hjm:j≤m.length) (hv:v.length≤1000000) (hm:m.length≤1000000) (hc1:v.length≤c1) (hc2:m.length≤c2) (hf:st_go v m (j-i) i (⟨⟨1,0⟩,true⟩,true)=some R) :
  Calls Tryd.prog 60 #[.agg #[encSl x0,.slice A1 v.length c1,.slice A2 m.length c2],.int .i64 (i:Int),.int .i64 (j:Int)] w fun e w'=>e=.returned (.tuple #[.agg #[.int .i64 R.1.f0.f0,.int .i64 R.1.f0.f1,.bool R.1.f1],.bool R.2])∧Below w.heap.size w w':=by
 have hu60:=Tryd.underlying60;have hu58:=Tryd.underlying58;have Z1:(w.alloc (.cells #[encSl x0,.slice A1 v.length c1,.slice A2 m.length c2] 32 (0,0))).heap.size=w.heap.size+1:=Array.size_push ..;have HBA:Below w.heap.size w ((w.alloc (.cells #[encSl x0,.slice A1 v.length c1,.slice A2 m.length c2] 32 (0,0))).alloc (.cells #[.int .i64 0,.int .i64 0,.bool false] 60 (0,0))):=((Below.refl w.heap.size w).alloc (Nat.le_refl _) _).alloc (by rw [Z1];omega) _;have PA:=blk_alloc (blk_new w (.cells #[encSl x0,.slice A1 v.length c1,.slice A2 m.length c2] 32 (0,0))) (.cells #[.int .i64 0,.int .i64 0,.bool false] 60 (0,0));have PB:=blk_new (w.alloc (.cells #[encSl x0,.slice A1 v.length c1,.slice A2 m.length c2] 32 (0,0))) (.cells #[.int .i64 0,.int .i64 0,.bool false] 60 (0,0));rw [Z1]at PB;have HL:=am_ (And.intro hij (And.intro hjv (And.intro hjm (And.intro hv (And.intro hm (And.intro hc1 hc2))))));have HG0:=am_ hG0;have HG1:=am_ hG1;have ai:=am_ hr1;have ae:=am_ hr2;have HF:=am_ hf;clear hG0 hG1 hr1 hr2 hf hij hjv hjm hv hm hc1 hc2
 go_enter Tryd.func60,Tryd.ntmps60
 go_upto_region 1 with fail
 generalize hWA:((w.alloc (.cells #[encSl x0,.slice A1 v.length c1,.slice A2 m.length c2] 32 (0,0))).alloc (.cells #[.int .i64 0,.int .i64 0,.bool false] 60 (0,0)))=wA at HBA PA PB ⊢;clear hWA Z1;have hG1':=GL0.below HG1.out HBA;have g0:=hG1'.c0;have g1:=hG1'.c1;have g2:=hG1'.c2;clear hG1';have HPA:=am_ PA;have HPB:=am_ PB;have HBA':=am_ HBA;clear PA PB HBA
 go_upto_region 2 with((with_reducible refine gate_dst (N:=8) rfl ?_);refine box_y 8 #[.int .i64 0,.int .i64 0,.bool false] 60 (h:=?_);intro g8 hg8 w9 hbox hb9;have N0:w.heap.size≠g8:=(by have:=blk_lt HPA.out;omega);have N1:w.heap.size+1≠g8:=(by have:=blk_lt HPB.out;omega);have NL:w.heap.size≤g8:=(by have:=blk_lt HPA.out;omega);clear hg8;have b0:=(blk_cell hbox 0).trans (show _=some (Value.int .i64 0) from rfl);have b1:=(blk_cell hbox 1).trans (show _=some (Value.int .i64 0) from rfl);have b2:=(blk_cell hbox 2).trans (show _=some (Value.bool false) from rfl);have f0:=blk_frozen hbox 0;have f1:=blk_frozen hbox 1;have f2:=blk_frozen hbox 2)
 have PA:=st_far (blk_below HPA.out hb9) N0 (.int .i64 1) (.int .i64 0) (.bool true);have PB:=st_far (blk_below HPB.out hb9) N1 (.int .i64 1) (.int .i64 0) (.bool true);have P8:=st_put hbox rfl (.int .i64 1) (.int .i64 0) (.bool true);have HB:=(((below_step HBA'.out hb9).setCell (p:=⟨g8,0,none⟩) NL (.int .i64 1)).setCell (p:=⟨g8,1,none⟩) NL (.int .i64 0)).setCell (p:=⟨g8,2,none⟩) NL (.bool true);generalize hWB:(((w9.setCell ⟨g8,0,none⟩ (.int .i64 1)).setCell ⟨g8,1,none⟩ (.int .i64 0)).setCell ⟨g8,2,none⟩ (.bool true))=wB at PA PB P8 HB ⊢;replace PA:=am_ PA;replace PB:=am_ PB;replace P8:=am_ P8;replace HB:=am_ HB;have NN:=am_ (And.intro N0 (And.intro N1 NL));clear hWB hb9 hbox b0 b1 b2 f0 f1 f2 g0 g1 g2 HPA HPB HBA' N0 N1 NL
 go_wp2
 go_loopg [9,10] (j-i) (fun gg s9 s10 wr=>∃ (x:Nat) (p:S60×Bool),i≤x∧x≤j∧j-x≤gg∧s10=.int .i64 (x:Int)∧s9=.bool p.2∧Aside0 (st_go v m (j-x) x p=some R)∧Aside0 (wr.heap[w.heap.size]?=some (.cells #[encSl x0,.slice A1 v.length c1,.slice A2 m.length c2] 32 (0,0)))∧Aside0 (wr.heap[w.heap.size+1]?=some (.cells #[.int .i64 0,.int .i64 0,.bool false] 60 (0,0)))∧Aside0 (wr.heap[g8]?=some (.cells (st_cl p.1) 60 (0,0)))∧Aside0 (Below w.heap.size w wr))
 case atStart=>exact⟨i,(⟨⟨1,0⟩,true⟩,true),Nat.le_refl _,HL.out.1,by omega,rfl,rfl,HF,PA,PB,P8,HB⟩
 case round =>
  clear HF PA PB P8 HB;obtain⟨x,p,hix,hxj,hgg,rfl,rfl,HF,PA,PB,P8,HB⟩:=hrel
  by_cases hlt:x<j
  ·
   have hi1:(x:Int)<(j:Int):=by omega
   have hi2:(x:Int)<(v.length:Int):=by have:=HL.out;omega
   have hi3:(x:Int)<(m.length:Int):=by have:=HL.out;omega
   have hx0:(0:Int)≤(x:Int):=by omega
   obtain⟨aa,e1,k0,k1,k2⟩:=at_T60 (Kd.C_below ai.out HB.out) (x:Int) hx0 hi2;obtain⟨ac,e2,k3⟩:=Kd.at_bool (Kd.C_below ae.out HB.out) (x:Int) hx0 hi3;rw [Int.toNat_natCast]at k0 k1 k2 k3;obtain⟨ad1',e1',k0',-,-⟩:=at_T60 ai.out (x:Int) hx0 hi2;obtain⟨ad2',e2',k3'⟩:=Kd.at_bool ae.out (x:Int) hx0 hi3;rw [e1]at e1'
   injection e1' with e1'
   rw [e2]at e2'
   injection e2' with e2'
   rw [Int.toNat_natCast,← e1']at k0';rw [Int.toNat_natCast,← e2']at k3';have NV:=am_ (show(aa.add (x*3)).block≠g8 from fun he=>by have h0:=World.block_lt_of_cell? w _ k0';have h2:=NN.out.2.2;omega);have NM:=am_ (show(ac.add x).block≠g8 from fun he=>by have h0:=World.block_lt_of_cell? w _ k3';have h2:=NN.out.2.2;omega);clear e1' e2' k0' k3';subst e1;subst e2;obtain⟨d,hd⟩:∃ d,j-x=d+1:=⟨j-x-1,by omega⟩;have hF:=HF.out;rw [hd,st_go]at hF;obtain⟨u,hu,hF⟩:=Option.bind_eq_some_iff.1 hF;have HU:=am_ hu;have HF':=am_ hF;have HD:=am_ (And.intro hd (And.intro hix (And.intro hxj (And.intro hgg hlt))));have r1:=(blk_cell PA.out 1).trans (show _=some (Value.slice (some aa) v.length c1) from rfl);have r2:=(blk_cell PA.out 2).trans (show _=some (Value.slice (some ac) m.length c2) from rfl);have K0:=am_ (And.intro k0 (And.intro k1 (And.intro k2 (And.intro k3 (And.intro r1 r2)))));clear hu hF HF hd hix hxj hgg hlt k0 k1 k2 k3 r1 r2;cases hpb:p.2 with
   |true =>
    go_wp2
    refine start_ (n:=17) (S:=fun w'=>w'.cell? (aa.add (x*3))=some (Value.int IntKind.i64 (rd_T60 v x).f0.f0)∧w'.cell? ⟨(aa.add (x*3)).block,(aa.add (x*3)).off+1,none⟩=some (Value.int IntKind.i64 (rd_T60 v x).f0.f1)∧w'.cell? ⟨(aa.add (x*3)).block,(aa.add (x*3)).off+2,none⟩=some (Value.bool (rd_T60 v x).f1)∧w'.cell? (ac.add x)=some (Value.bool (rdOf false m x))∧w'.cell? ⟨w.heap.size,1,none⟩=some (.slice (some aa) v.length c1)∧w'.cell? ⟨w.heap.size,2,none⟩=some (.slice (some ac) m.length c2)) (ds:=[]) #[false,false,false,false,false,false,false,false,false,false,false,false,false,false,false,false,false] (by kernel_rfl) rfl rfl K0.out (fun hHeld=>?_);replace PA:=bd_ PA;replace PB:=bd_ PB;replace P8:=bd_ P8;replace HB:=hd_ HB;generalize wr.drew=w1 at PA PB P8 HB hHeld ⊢;refine rp_ 1 19 ?_;refine rp_ 3 21 ?_;refine rp_ 7 25 ?_;refine rt_ 2 20 rfl hHeld (by rintro w' ⟨s0,s1,s2,s3,s4,s5⟩;go_simp;with_reducible rfl) ?_;refine rp_ 4 22 ?_;refine rt_ 5 23 rfl hHeld (by rintro w' ⟨s0,s1,s2,s3,s4,s5⟩;go_simp;with_reducible rfl) ?_;refine ro1_ 0 (some 18) (fun K hK=>?_);have t0:=(blk_cell P8.out 0).trans (show _=some (Value.int .i64 p.1.f0.f0) from rfl);have t1:=(blk_cell P8.out 1).trans (show _=some (Value.int .i64 p.1.f0.f1) from rfl);have t2:=(blk_cell P8.out 2).trans (show _=some (Value.bool p.1.f1) from rfl);refine value_ (w1:=w1) (v:=.agg #[.int .i64 p.1.f0.f0,.int .i64 p.1.f0.f1,.bool p.1.f1]) (by rfl) rfl (by go_simp) ?_;clear t0 t1 t2;refine hK.out _ _ hHeld (fun _=>?_);clear hK K;refine norm_y 18 (h:=?_);refine ro1_ 6 (some 24) (fun K hK=>?_);refine gs_ Tryd.func74 #[.agg #[.int .i64 p.1.f0.f0,.int .i64 p.1.f0.f1,.bool p.1.f1],.agg #[.int .i64 (rd_T60 v x).f0.f0,.int .i64 (rd_T60 v x).f0.f1,.bool (rd_T60 v x).f1]] (h:=?_);refine(impl_ValJoin.calls 2 _ _ _ _ _ _ u.1 u.2.1 u.2.2 _ (GL0.below HG1.out HB.out) (GL1.below HG0.out HB.out) HU.out).mono ?_;rintro e w2 ⟨rfl,hb⟩;refine⟨_,rfl,?_⟩;replace PA:=bb_ PA hb;replace PB:=bb_ PB hb;replace P8:=bb_ P8 hb;replace HB:=hb_ HB hb;refine hK.out _ _ ⟨(hb.cell (World.block_lt_of_cell? _ _ hHeld.1)).trans hHeld.1,(hb.cell (World.block_lt_of_cell? _ _ hHeld.2.1)).trans hHeld.2.1,(hb.cell (World.block_lt_of_cell? _ _ hHeld.2.2.1)).trans hHeld.2.2.1,(hb.cell (World.block_lt_of_cell? _ _ hHeld.2.2.2.1)).trans hHeld.2.2.2.1,cl_ PA 1,cl_ PA 2⟩ (fun hHeld=>?_);clear hK K hb;refine norm_y 24 (h:=?_);refine rp_ 8 26 ?_;refine rp_ 9 27 ?_;refine rp_ 11 29 ?_;refine rt_ 10 28 rfl hHeld (by rintro w' ⟨s0,s1,s2,s3,s4,s5⟩;go_simp;with_reducible rfl) ?_;refine rp_ 12 30 ?_;refine rt_ 13 31 rfl hHeld (by rintro w' ⟨s0,s1,s2,s3,s4,s5⟩;go_simp;with_reducible rfl) ?_;refine rp_ 14 32 ?_;refine ro1_ 15 none (fun K hK=>?_);have t0:=(blk_cell P8.out 0).trans (show _=some (Value.int .i64 p.1.f0.f0) from rfl);have t1:=(blk_cell P8.out 1).trans (show _=some (Value.int .i64 p.1.f0.f1) from rfl);have t2:=(blk_cell P8.out 2).trans (show _=some (Value.bool p.1.f1) from rfl);have f0:=blk_frozen P8.out 0;have f1:=blk_frozen P8.out 1;have f2:=blk_frozen P8.out 2;refine skip_ (w1:=((w2.setCell ⟨g8,0,none⟩ (.int .i64 u.1)).setCell ⟨g8,1,none⟩ (.int .i64 u.2.1)).setCell ⟨g8,2,none⟩ (.bool u.2.2)) (by rfl) rfl (by go_simp) ?_;clear t0 t1 t2 f0 f1 f2;refine hK.out _ _ ⟨st_cf hHeld.1 NV.out _ _ _,st_cf hHeld.2.1 NV.out _ _ _,st_cf hHeld.2.2.1 NV.out _ _ _,st_cf hHeld.2.2.2.1 NM.out _ _ _,st_cf hHeld.2.2.2.2.1 NN.out.1 _ _ _,st_cf hHeld.2.2.2.2.2 NN.out.1 _ _ _⟩ (fun hHeld=>?_);clear hK K;refine rp_ 16 9 ?_;refine done_ (by kernel_rfl) ?_
    go_wp2
    go_roundg d
    case measure=>have:=HD.out;omega
    case rel=>exact⟨x+1,(⟨⟨u.1,u.2.1⟩,u.2.2⟩,p.2&&rdOf false m (x:Int)),by have:=HD.out;omega,by have:=HD.out;omega,by have:=HD.out;omega,by rw [st_wS x (by have:=HL.out;have:=HD.out;omega)],by rw [hpb];rfl,⟨by rw [show j-(x+1)=d by have:=HD.out;omega];exact HF'.out⟩,⟨st_far PA.out NN.out.1 _ _ _⟩,⟨st_far PB.out NN.out.2.1 _ _ _⟩,⟨st_put P8.out rfl _ _ _⟩,⟨((HB.out.setCell (p:=⟨g8,0,none⟩) NN.out.2.2 _).setCell (p:=⟨g8,1,none⟩) NN.out.2.2 _).setCell (p:=⟨g8,2,none⟩) NN.out.2.2 _⟩⟩
   |false =>
    go_wp2
    refine start_ (n:=17) (S:=fun w'=>w'.cell? (aa.add (x*3))=some (Value.int IntKind.i64 (rd_T60 v x).f0.f0)∧w'.cell? ⟨(aa.add (x*3)).block,(aa.add (x*3)).off+1,none⟩=some (Value.int IntKind.i64 (rd_T60 v x).f0.f1)∧w'.cell? ⟨(aa.add (x*3)).block,(aa.add (x*3)).off+2,none⟩=some (Value.bool (rd_T60 v x).f1)∧w'.cell? (ac.add x)=some (Value.bool (rdOf false m x))∧w'.cell? ⟨w.heap.size,1,none⟩=some (.slice (some aa) v.length c1)∧w'.cell? ⟨w.heap.size,2,none⟩=some (.slice (some ac) m.length c2)) (ds:=[]) #[false,false,false,false,false,false,false,false,false,false,false,false,false,false,false,false,false] (by kernel_rfl) rfl rfl K0.out (fun hHeld=>?_);replace PA:=bd_ PA;replace PB:=bd_ PB;replace P8:=bd_ P8;replace HB:=hd_ HB;generalize wr.drew=w1 at PA PB P8 HB hHeld ⊢;refine rp_ 1 19 ?_;refine rp_ 3 21 ?_;refine rp_ 7 25 ?_;refine rt_ 2 20 rfl hHeld (by rintro w' ⟨s0,s1,s2,s3,s4,s5⟩;go_simp;with_reducible rfl) ?_;refine rp_ 4 22 ?_;refine rt_ 5 23 rfl hHeld (by rintro w' ⟨s0,s1,s2,s3,s4,s5⟩;go_simp;with_reducible rfl) ?_;refine ro1_ 0 (some 18) (fun K hK=>?_);have t0:=(blk_cell P8.out 0).trans (show _=some (Value.int .i64 p.1.f0.f0) from rfl);have t1:=(blk_cell P8.out 1).trans (show _=some (Value.int .i64 p.1.f0.f1) from rfl);have t2:=(blk_cell P8.out 2).trans (show _=some (Value.bool p.1.f1) from rfl);refine value_ (w1:=w1) (v:=.agg #[.int .i64 p.1.f0.f0,.int .i64 p.1.f0.f1,.bool p.1.f1]) (by rfl) rfl (by go_simp) ?_;clear t0 t1 t2;refine hK.out _ _ hHeld (fun _=>?_);clear hK K;refine norm_y 18 (h:=?_);refine ro1_ 6 (some 24) (fun K hK=>?_);refine gs_ Tryd.func74 #[.agg #[.int .i64 p.1.f0.f0,.int .i64 p.1.f0.f1,.bool p.1.f1],.agg #[.int .i64 (rd_T60 v x).f0.f0,.int .i64 (rd_T60 v x).f0.f1,.bool (rd_T60 v x).f1]] (h:=?_);refine(impl_ValJoin.calls 2 _ _ _ _ _ _ u.1 u.2.1 u.2.2 _ (GL0.below HG1.out HB.out) (GL1.below HG0.out HB.out) HU.out).mono ?_;rintro e w2 ⟨rfl,hb⟩;refine⟨_,rfl,?_⟩;replace PA:=bb_ PA hb;replace PB:=bb_ PB hb;replace P8:=bb_ P8 hb;replace HB:=hb_ HB hb;refine hK.out _ _ ⟨(hb.cell (World.block_lt_of_cell? _ _ hHeld.1)).trans hHeld.1,(hb.cell (World.block_lt_of_cell? _ _ hHeld.2.1)).trans hHeld.2.1,(hb.cell (World.block_lt_of_cell? _ _ hHeld.2.2.1)).trans hHeld.2.2.1,(hb.cell (World.block_lt_of_cell? _ _ hHeld.2.2.2.1)).trans hHeld.2.2.2.1,cl_ PA 1,cl_ PA 2⟩ (fun hHeld=>?_);clear hK K hb;refine norm_y 24 (h:=?_);refine rp_ 8 26 ?_;refine rn_ 9 27 ?_;refine rn_ 10 28 ?_;refine rn_ 11 29 ?_;refine rn_ 12 30 ?_;refine rn_ 13 31 ?_;refine rp_ 14 32 ?_;refine ro1_ 15 none (fun K hK=>?_);have t0:=(blk_cell P8.out 0).trans (show _=some (Value.int .i64 p.1.f0.f0) from rfl);have t1:=(blk_cell P8.out 1).trans (show _=some (Value.int .i64 p.1.f0.f1) from rfl);have t2:=(blk_cell P8.out 2).trans (show _=some (Value.bool p.1.f1) from rfl);have f0:=blk_frozen P8.out 0;have f1:=blk_frozen P8.out 1;have f2:=blk_frozen P8.out 2;refine skip_ (w1:=((w2.setCell ⟨g8,0,none⟩ (.int .i64 u.1)).setCell ⟨g8,1,none⟩ (.int .i64 u.2.1)).setCell ⟨g8,2,none⟩ (.bool u.2.2)) (by rfl) rfl (by go_simp) ?_;clear t0 t1 t2 f0 f1 f2;refine hK.out _ _ ⟨st_cf hHeld.1 NV.out _ _ _,st_cf hHeld.2.1 NV.out _ _ _,st_cf hHeld.2.2.1 NV.out _ _ _,st_cf hHeld.2.2.2.1 NM.out _ _ _,st_cf hHeld.2.2.2.2.1 NN.out.1 _ _ _,st_cf hHeld.2.2.2.2.2 NN.out.1 _ _ _⟩ (fun hHeld=>?_);clear hK K;refine rp_ 16 9 ?_;refine done_ (by kernel_rfl) ?_
    go_wp2
    go_roundg d
    case measure=>have:=HD.out;omega
    case rel=>exact⟨x+1,(⟨⟨u.1,u.2.1⟩,u.2.2⟩,p.2&&rdOf false m (x:Int)),by have:=HD.out;omega,by have:=HD.out;omega,by have:=HD.out;omega,by rw [st_wS x (by have:=HL.out;have:=HD.out;omega)],by rw [hpb];rfl,⟨by rw [show j-(x+1)=d by have:=HD.out;omega];exact HF'.out⟩,⟨st_far PA.out NN.out.1 _ _ _⟩,⟨st_far PB.out NN.out.2.1 _ _ _⟩,⟨st_put P8.out rfl _ _ _⟩,⟨((HB.out.setCell (p:=⟨g8,0,none⟩) NN.out.2.2 _).setCell (p:=⟨g8,1,none⟩) NN.out.2.2 _).setCell (p:=⟨g8,2,none⟩) NN.out.2.2 _⟩⟩
  ·
   obtain rfl:x=j:=by omega
   have hF:=HF.out;rw [Nat.sub_self,st_go]at hF
   injection hF with hF
   subst hF;have t0:=(blk_cell P8.out 0).trans (show _=some (Value.int .i64 p.1.f0.f0) from rfl);have t1:=(blk_cell P8.out 1).trans (show _=some (Value.int .i64 p.1.f0.f1) from rfl);have t2:=(blk_cell P8.out 2).trans (show _=some (Value.bool p.1.f1) from rfl);have s0:=(blk_cell PB.out 0).trans (show _=some (Value.int .i64 0) from rfl);have s1:=(blk_cell PB.out 1).trans (show _=some (Value.int .i64 0) from rfl);have s2:=(blk_cell PB.out 2).trans (show _=some (Value.bool false) from rfl);have f0:=blk_frozen PB.out 0;have f1:=blk_frozen PB.out 1;have f2:=blk_frozen PB.out 2
   go_wp2
   refine bodyPost_ret (results_ct rfl _ _ (w.heap.size+1) 60 #[.int .i64 p.1.f0.f0,.int .i64 p.1.f0.f1,.bool p.1.f1] (0,0) _ rfl (st_put PB.out rfl _ _ _) hu60 rfl (by kernel_rfl)) rfl ?_;exact⟨rfl,((HB.out.setCell (p:=⟨w.heap.size+1,0,none⟩) (Nat.le_succ _) _).setCell (p:=⟨w.heap.size+1,1,none⟩) (Nat.le_succ _) _).setCell (p:=⟨w.heap.size+1,2,none⟩) (Nat.le_succ _) _⟩
def cr_mem(two:List S53)(x:S53):Bool:=two.any fun y=>x.f0 == y.f0&&(x.f1 == y.f1)
theorem cr_idx(l:List S53)(hl:l.length≤1000000)(x:S53):∀ (t:List S53) (i k:Nat),l.drop i=t→t.length<k→∃ r,impl_Sym_69.l0 k l (l.length:Int) (i:Int) x.f0 x.f1=some r∧decide (r≥0)=t.any fun y=>x.f0 == y.f0&&(x.f1 == y.f1)
 | [],i,k,hd,hk=>by
  have hi:l.length≤i:=by simpa using hd
  obtain⟨k,rfl⟩:∃ n,k=n+1:=⟨k-1,by omega⟩;exact⟨-1,by rw [impl_Sym_69.l0,if_neg (by omega)],rfl⟩
 |y :: t,i,k,hd,hk=>by
  have hi:i<l.length:=by
   rcases Nat.lt_or_ge i l.length with h|h
   ·
    exact h
   ·
    rw [List.drop_of_length_le h]at hd;cases hd
  rw [List.drop_eq_getElem_cons hi]at hd
  injection hd with h1 h2
  obtain⟨k,rfl⟩:∃ n,k=n+1:=⟨k-1,by rw [List.length_cons]at hk;omega⟩;rw [List.length_cons]at hk;have hy:rd_T53 l (i:Int)=y:=by unfold rd_T53;simp [List.getD,hi,h1]
  obtain⟨r,e1,e2⟩:=cr_idx l hl x t (i+1) k h2 (by omega);rw [impl_Sym_69.l0,if_pos (by omega),if_pos (by omega),if_pos (by omega),hy,st_wS i (by omega)];cases hq:(x.f0 == y.f0&&(x.f1 == y.f1))with
  |true=>exact⟨i,by rw [if_pos rfl],by rw [List.any_cons,hq,Bool.true_or];exact decide_eq_true (by omega)⟩
  |false=>exact⟨r,by rw [if_neg (by decide)];exact e1,by rw [List.any_cons,hq,Bool.false_or];exact e2⟩
theorem cr_has(l:List S53)(hl:l.length≤1000000)(x:S53):impl_Sym_53.f (l.length+1) l x.f0 x.f1=some (cr_mem l x):=by
 obtain⟨r,e1,e2⟩:=cr_idx l hl x l 0 (l.length+1) rfl (Nat.lt_succ_self _);rw [impl_Sym_53.f,impl_Sym_69.f];rw [show((0:Nat):Int)=0 from rfl]at e1;rw [e1,Option.bind_some,e2];rfl
theorem sq_infoC:(Tryd.prog.info? 92).map (fun i=>(i.zero,i.size,i.bytes))=some (some (.agg #[(.int .i64 0),(.int .i64 0),(.slice none 0 0)]),3,40):=by kernel_rfl
def cr_t(one two:List S53):List S53:=one.filter fun x=>!(!cr_mem two x)
def cr_step(i j:Int)(one two:List S53)(out:List S92):List S92 :=
 if 0<(cr_t one two).length then(if out.length=0 then out++[⟨i,j,cr_t one two⟩]else if(rd_T92 out ((out.length:Int)-1)).f1≤j then out++[⟨i,j,cr_t one two⟩]else out)else out
def cr_row(i:Int)(one:List S53):List (List S53)→Nat→List S92→List S92
 | [],_,out=>out
 |two :: r,j,out=>cr_row i one r (j+1) (cr_step i (j:Int) one two out)
def cr_all(bs:List (List S53)):List (List S53)→Nat→List S92→List S92
 | [],_,out=>out
 |one :: r,i,out=>cr_all bs r (i+1) (cr_row (i:Int) one bs 0 out)
def cr_cut(out:List S92):List S92:=if 16<out.length then out.take 15++[rd_T92 out ((out.length:Int)-1)]else out
theorem cr_step_len(i j:Int)(one two:List S53)(out:List S92):(cr_step i j one two out).length≤out.length+1:=by
 unfold cr_step
 split
 ·
  split
  ·
   simp
  ·
   split
   ·
    simp
   ·
    omega
 ·
  omega
theorem cr_row_len(i:Int)(one:List S53):∀ (bs:List (List S53)) (j:Nat) (out:List S92),(cr_row i one bs j out).length≤out.length+bs.length
 | [],_,_=>by simp [cr_row]
 |two :: r,j,out=>by
  have h1:=cr_row_len i one r (j+1) (cr_step i (j:Int) one two out);have h2:=cr_step_len i (j:Int) one two out;rw [cr_row,List.length_cons]
  omega
theorem cr_lit(two:List S53)(hn:two.length≤1000000)(A:Option Addr)(c:Nat)(gt:Nat)(W:World)(hb:W.heap[gt]?=some (.cells #[.slice A two.length c] 50 (0,0)))(hr:Kd.C k53 W A two.length two)(hc:two.length≤c)(x:S53) :
  Calls Tryd.prog 73 #[.agg #[.int .i64 x.f0,.int .i64 x.f1],.pointer (some ⟨gt,0,none⟩)] W fun e w'=>e=.returned (.bool (!cr_mem two x))∧Below W.heap.size W w':=by
 have hal:Below W.heap.size W (W.alloc (.cells #[.int .i64 x.f0,.int .i64 x.f1] 53 (0,0))):=(Below.refl W.heap.size W).alloc (Nat.le_refl _) _;have HH:=am_ (impl_Sym_53.calls _ A c two x.f0 x.f1 (cr_mem two x) _ (Kd.C_below hr hal) hc (cr_has two hn x));have hz:=blk_new W (.cells #[.int .i64 x.f0,.int .i64 x.f1] 53 (0,0));have h1':=blk_below hb hal;have z0:=(blk_cell hz 0).trans (show _=some (Value.int .i64 x.f0) from rfl);have z1:=(blk_cell hz 1).trans (show _=some (Value.int .i64 x.f1) from rfl);have a0:=(blk_cell h1' 0).trans (show _=some (Value.slice A two.length c) from rfl);have HAL:=am_ hal;clear hz h1' hal hr
 go_enter Tryd.func73,Tryd.ntmps73
 go_upto_region 1 with fail
 go_wp2_with (go_at_call 53;refine HH.out.mono ?_;rintro e w1 ⟨rfl,hb1⟩)
 go_ret
 exact⟨rfl,below_step HAL.out hb1⟩
theorem cr_walk(A0 B0:Option Addr)(c0 d0:Nat)(x1 x2 y1 y2:Sl)(al bs:List (List S53))(w:World)
  (hr0:Kd.C (Kd.slice 53 k53) w A0 al.length al) (hc0:al.length≤c0) (hs0:Kd.C (Kd.slice 53 k53) w B0 bs.length bs) (hd0:bs.length≤d0) (ha:al.length≤1000) (hb:bs.length≤1000) (hra:∀ r∈al,0<r.length∧r.length≤1000000) (hrb:∀ r∈bs,r.length≤1000000) :
  Calls Tryd.prog 58 #[.agg #[.slice A0 al.length c0,encSl x1,encSl x2],.agg #[.slice B0 bs.length d0,encSl y1,encSl y2]] w fun e w'=>∃ v,e=.returned v∧Kd.N k92 92 w' w.heap.size (fun k=>w.heap.size≤k) v (cr_cut (cr_all bs al 0 []))∧Below w.heap.size w w':=by
 have Z1:(w.alloc (.cells #[.slice A0 al.length c0,encSl x1,encSl x2] 32 (0,0))).heap.size=w.heap.size+1:=Array.size_push ..;have HBA:Below w.heap.size w ((w.alloc (.cells #[.slice A0 al.length c0,encSl x1,encSl x2] 32 (0,0))).alloc (.cells #[.slice B0 bs.length d0,encSl y1,encSl y2] 32 (0,0))):=((Below.refl w.heap.size w).alloc (Nat.le_refl _) _).alloc (by rw [Z1];omega) _;have PA:=blk_alloc (blk_new w (.cells #[.slice A0 al.length c0,encSl x1,encSl x2] 32 (0,0))) (.cells #[.slice B0 bs.length d0,encSl y1,encSl y2] 32 (0,0));have PB:=blk_new (w.alloc (.cells #[.slice A0 al.length c0,encSl x1,encSl x2] 32 (0,0))) (.cells #[.slice B0 bs.length d0,encSl y1,encSl y2] 32 (0,0));rw [Z1]at PB;have HR:=am_ (And.intro hr0 (And.intro hc0 (And.intro hs0 (And.intro hd0 (And.intro ha (And.intro hb (And.intro hra hrb)))))));clear hr0 hc0 hs0 hd0 ha hb hra hrb
 go_enter Tryd.func58,Tryd.ntmps58
 go_upto_region 1 with fail
 generalize hWA:((w.alloc (.cells #[.slice A0 al.length c0,encSl x1,encSl x2] 32 (0,0))).alloc (.cells #[.slice B0 bs.length d0,encSl y1,encSl y2] 32 (0,0)))=wA at HBA PA PB ⊢;clear hWA Z1;have HBA:=am_ HBA;have PB':=am_ PB;have a0:=cc_ (v:=.slice A0 al.length c0) PA 0;have PA':=am_ PA;clear PA PB
 go_upto_region 2 with((with_reducible refine gate_dst (N:=12) rfl ?_);refine Kd.N_lit k92 _ 92 ?hg (N':=12) ?hd (xs:=([]:List S92)) (inner:=[]) (ok:=fun k=>w.heap.size≤k) (okp:=fun k=>w.heap.size≤k) ?hr ?hp (fun _ hk=>hk) HBA.out.size (Below.refl _ _) (Nat.le_refl _) (by simp) ?_;(case hd=>rfl);(case hg=>rfl);(case hr=>first|(go_simp;done)|(go_simp;rfl));(case hp=>exact Reps.none _ _);intro v5 w5 ho5 hb5 hg5 hn5)
 have HN5:=am_ (Kd.N_lower ho5 HBA.out.size);have HB5:=am_ (below_step HBA.out hb5);have PB5:=am_ (blk_below PB'.out hb5);have a5:=cc_ (v:=.slice A0 al.length c0) (blk_below PA'.out hb5) 0;clear a0 ho5 hb5 hg5 hn5 HBA PB' PA'
 go_wp2
 go_loopg [5,16] al.length (fun gg s5 s16 wr=>∃ (x:Nat) (out:List S92),x≤al.length∧al.length-x≤gg∧s16=.int .i64 (x:Int)∧out.length≤x*1000∧Aside0 (cr_all bs (al.drop x) x out=cr_all bs al 0 [])∧Aside0 (Kd.N k92 92 wr w.heap.size (fun k=>w.heap.size≤k) s5 out)∧Aside0 (Below w.heap.size w wr)∧Aside0 (wr.heap[w.heap.size+1]?=some (.cells #[.slice B0 bs.length d0,encSl y1,encSl y2] 32 (0,0))))
 case atStart=>exact⟨0,[],Nat.zero_le _,by omega,rfl,Nat.zero_le _,⟨rfl⟩,HN5,HB5,PB5⟩
 case round =>
  clear HN5 HB5 PB5 a5;obtain⟨x,out,hx,hgg,rfl,hol,HI,HN,HB,PB⟩:=hrel
  by_cases hlt:x<al.length
  ·
   have hxi:(x:Int)<(al.length:Int):=by omega
   have hx0:(0:Int)≤(x:Int):=by omega
   obtain⟨ad,A1,c1,e1,hcell0,hl1,hi1⟩:=at_L7 HR.out.1 (x:Int) hx0 hxi;have hone:rd_L7 al (x:Int)=al[x]:=by unfold rd_L7;simp [List.getD,hlt]
   rw [hone]at hcell0 hl1 hi1;have hcell:=(HB.out.cell (World.block_lt_of_cell? _ _ hcell0)).trans hcell0;have hI:=HI.out;rw [List.drop_eq_getElem_cons hlt,cr_all]at hI;have hm1:=HR.out.2.2.2.2.2.2.1 al[x] (List.getElem_mem hlt);generalize al[x]=one at hcell hl1 hi1 hI hm1;have b0:=cc_ (v:=.slice B0 bs.length d0) PB.out 0;have ah:=am_ (And.intro hl1 hi1);have HM1:=am_ hm1;have HI2:=am_ hI;rw [Int.toNat_natCast]at hcell;subst e1;clear hl1 hi1 hI HI hone hm1 hcell0
   go_wp2
   go_loopg [5,24] bs.length (fun gq s5 s24 wq=>∃ (j:Nat) (out':List S92),j≤bs.length∧bs.length-j≤gq∧s24=.int .i64 (j:Int)∧out'.length≤out.length+j∧Aside0 (cr_row (x:Int) one (bs.drop j) j out'=cr_row (x:Int) one bs 0 out)∧Aside0 (Kd.N k92 92 wq w.heap.size (fun k=>w.heap.size≤k) s5 out')∧Aside0 (Below w.heap.size w wq)∧Aside0 (wq.heap[w.heap.size+1]?=some (.cells #[.slice B0 bs.length d0,encSl y1,encSl y2] 32 (0,0))))
   case atStart=>exact⟨0,out,Nat.zero_le _,by omega,rfl,by omega,⟨rfl⟩,HN,HB,PB⟩
   case round =>
    clear HN HB PB hcell b0;obtain⟨j,out',hj,hgq,rfl,hol',HI,HN,HB,PB⟩:=hrel;obtain⟨Ao,co,rfl⟩:=Kd.N_slice HN.out
    by_cases hlj:j<bs.length
    ·
     have hji:(j:Int)<(bs.length:Int):=by omega
     have hj0:(0:Int)≤(j:Int):=by omega
     obtain⟨bd,A2,c2,e2,hcell0,hl2,hi2⟩:=at_L7 HR.out.2.2.1 (j:Int) hj0 hji;have htwo:rd_L7 bs (j:Int)=bs[j]:=by unfold rd_L7;simp [List.getD,hlj]
     rw [htwo]at hcell0 hl2 hi2;have hcell:=(HB.out.cell (World.block_lt_of_cell? _ _ hcell0)).trans hcell0;have hI:=HI.out;rw [List.drop_eq_getElem_cons hlj,cr_row]at hI;have hm2:=HR.out.2.2.2.2.2.2.2 bs[j] (List.getElem_mem hlj);generalize bs[j]=two at hcell hl2 hi2 hI hm2;have af:=am_ (And.intro hl2 (And.intro hi2 hm2));have HI:=am_ hI;rw [Int.toNat_natCast]at hcell;subst e2;clear hl2 hi2 hI htwo hm2 hcell0
     go_upto_region 8 with((with_reducible refine gate_dst (N:=9) rfl ?_);refine box_y 9 #[.slice none 0 0] 50 (h:=?_);intro g9 hg9 w9 hbox hb9;have N0:=am_ hg9;clear hg9;have b0:=cc_ (v:=.slice none 0 0) hbox 0;have f0:=blk_frozen hbox 0)
     have HN9:=am_ (Kd.N_mono (Kd.N_far (p:=⟨g9,0,none⟩) (Kd.N_old HN.out hb9) (fun k hk=>by have:=hk.2;have:=N0.out;show k≠g9;omega) (.slice A2 two.length c2)) (fun k hk=>hk.1));have hgle:w.heap.size≤g9:=by rw [N0.out];exact HB.out.size
     have hgne:w.heap.size+1≠g9:=by have:=blk_lt PB.out;have:=N0.out;omega
     have HB9:=am_ ((below_step HB.out hb9).setCell (p:=⟨g9,0,none⟩) hgle (.slice A2 two.length c2));have PB9:=am_ (blk_far (blk_below PB.out hb9) hgne (p:=⟨g9,0,none⟩) (.slice A2 two.length c2));have P9:=am_ ((blk_set hbox 0 (.slice A2 two.length c2)).trans (show _=some (Obj.cells #[.slice A2 two.length c2] 50 (0,0)) from rfl));generalize hWC:w9.setCell ⟨g9,0,none⟩ (.slice A2 two.length c2)=wC at HN9 HB9 PB9 P9 ⊢;clear hWC hbox hb9 b0 f0 hcell HN HB PB hgle hgne N0;have HCl:=am_ (impl_Sym_59.calls A1 c1 one one wC (Kd.C_below ah.out.2 HB9.out) ah.out.1 (if_pos HM1.out.2))
     go_upto_region 9 with(first
      |(go_at_call 59;refine HCl.out.mono ?_;rintro e wD ⟨vD,rfl,hrD,hbD⟩)
      |(go_at_call 72;refine(df_del 73 #[.pointer (some ⟨g9,0,none⟩)] (enters_of Tryd.func73 (by kernel_rfl) rfl) (fun x=>!cr_mem two x) hrD HM1.out.1 HM1.out.2 (fun W hW x=>cr_lit two af.out.2.2 A2 c2 g9 W ((hW.block g9 (blk_lt P9.out)).trans (blk_below P9.out hbD)) (Kd.C_below af.out.2.1 (below_step HB9.out (hbD.trans hW))) af.out.1 x)).mono ?_;rintro e wE ⟨vE,rfl,hoE,⟨AE,cE,hvE⟩,hrE,hkE,hbE⟩;have hrE:k53.R 53 wE wC.heap.size (fun _=>True) vE (cr_t one two):=hrE;have hvE:vE=.slice AE (cr_t one two).length cE:=hvE;subst hvE))
     have hCE:=hbD.trans hbE;have HNE:=am_ (Kd.N_below HN9.out hCE);have HBE:=am_ (below_step HB9.out hCE);have PBE:=am_ (blk_below PB9.out hCE);have HRE:=am_ (Kd.R_mono (ok':=fun k=>w.heap.size≤k) (Kd.R_bound hrE) (fun k hk=>Nat.le_trans HB9.out.size hk.2.1));clear hCE hrE hbD hbE hkE hoE hrD P9 HN9 HB9 PB9 HCl;generalize hterms:cr_t one two=terms at HRE ⊢;have HT:=am_ hterms;clear hterms;have HL:=am_ (show out'.length≤2000000 by have:=HR.out.2.2.2.2.1;have:=HR.out.2.2.2.2.2.1;have:=Nat.mul_le_mul_right 1000 hx;omega);have hjb:bs.length≤1000:=HR.out.2.2.2.2.2.1
     by_cases h1:0<terms.length
     ·
      have c1a:decide (0<(terms.length:Int))=true:=decide_eq_true (by omega);have c1b:decide (0<terms.length)=true:=decide_eq_true h1
      by_cases h2:out'.length=0
      ·
       have c2a:((out'.length:Int) == 0)=true:=beq_iff_eq.mpr (by omega);have hst:cr_step (x:Int) (j:Int) one two out'=out'++[⟨x,j,terms⟩]:=by unfold cr_step;rw [HT.out,if_pos h1,if_pos h2]
       go_wp2_with ((with_reducible refine gate_builtin (b:=.append) (xs:=#[.tmp 52,.tmp 57]) rfl ?_);at_builtin;refine Kd.N_append k92 (w0:=w) w.heap.size rfl (.tmp 52) (.tmp 57) 89 92 (.agg #[(.int .i64 0),(.int .i64 0),(.slice none 0 0)]) 40 rfl Tryd.underlying89 sq_infoC rfl (by decide) (by omega) (.slice Ao out'.length co) out' (⟨x,j,terms⟩:S92) [.int .i64 (x:Int),.int .i64 (j:Int),.slice AE terms.length cE] (fun k=>w.heap.size≤k) (fun k=>w.heap.size≤k∧some k≠(Value.slice Ao out'.length co).ownBlock) rfl rfl ?aP (fun _ hk=>hk) ?aF ?aO ?aB ?aS ?aL ?_;(case aP=>exact k92_mkF _ _ (⟨x,j,terms⟩:S92) (Kd.R_reads' HRE.out).2.1 (Kd.R_F (Kd.R_apart' HRE.out (Kd.N_typed HNE.out) (by decide))));(case aF=>exact fun k hk=>Nat.le_trans HBE.out.size hk);(case aO=>exact HNE.out);(case aB=>exact HBE.out);(case aS=>exact HBE.out.size);(case aL=>have:=HL.out;omega);intro vF wF hoF hbF hgF hatF)
       have HNF:=am_ hoF;have HBF:=am_ hbF;have PBF:=am_ (blk_grown PBE.out hgF (Kd.N_ne HNE.out PBE.out (by decide)));clear hoF hbF hgF hatF
       go_roundg (bs.length-(j+1))
       case measure=>omega
       case rel=>exact⟨j+1,out'++[⟨x,j,terms⟩],by omega,Nat.le_refl _,by first|rfl|rw [st_wS j (by omega)],by rw [List.length_append];show out'.length+1≤_;omega,⟨by rw [← hst];exact HI.out⟩,HNF,HBF,PBF⟩
      ·
       have c2a:((out'.length:Int) == 0)=false:=beq_eq_false_iff_ne.mpr (by omega);obtain⟨ji,hji'⟩:∃ ji:Int,ji=(out'.length:Int)-1:=⟨_,rfl⟩;have hjiw:IntKind.i64.wrap ((out'.length:Int)-1)=ji:=by rw [i64_w];have:=HL.out;unfold wrap64;omega
       have p1:0≤ji:=by omega
       have q1:ji<(out'.length:Int):=by omega
       obtain⟨oad,A9,c9,e9,k0,k1,-⟩:=at_T92 (Kd.N_reads' HNE.out).2.2 ji p1 q1;subst e9;have Hji:=am_ hji';clear hji';have p2:=eq_true p1;have q2:=eq_true q1
       by_cases h3:(rd_T92 out' ji).f1≤(j:Int)
       ·
        have c3a:decide ((rd_T92 out' ji).f1≤(j:Int))=true:=decide_eq_true h3;have hst:cr_step (x:Int) (j:Int) one two out'=out'++[⟨x,j,terms⟩]:=by unfold cr_step;rw [HT.out,if_pos h1,if_neg h2,← Hji.out,if_pos h3]
        go_wp2_with ((with_reducible refine gate_builtin (b:=.append) (xs:=#[.tmp 52,.tmp 57]) rfl ?_);at_builtin;refine Kd.N_append k92 (w0:=w) w.heap.size rfl (.tmp 52) (.tmp 57) 89 92 (.agg #[(.int .i64 0),(.int .i64 0),(.slice none 0 0)]) 40 rfl Tryd.underlying89 sq_infoC rfl (by decide) (by omega) (.slice (some oad) out'.length co) out' (⟨x,j,terms⟩:S92) [.int .i64 (x:Int),.int .i64 (j:Int),.slice AE terms.length cE] (fun k=>w.heap.size≤k) (fun k=>w.heap.size≤k∧some k≠(Value.slice (some oad) out'.length co).ownBlock) rfl rfl ?aP (fun _ hk=>hk) ?aF ?aO ?aB ?aS ?aL ?_;(case aP=>exact k92_mkF _ _ (⟨x,j,terms⟩:S92) (Kd.R_reads' HRE.out).2.1 (Kd.R_F (Kd.R_apart' HRE.out (Kd.N_typed HNE.out) (by decide))));(case aF=>exact fun k hk=>Nat.le_trans HBE.out.size hk);(case aO=>exact HNE.out);(case aB=>exact HBE.out);(case aS=>exact HBE.out.size);(case aL=>have:=HL.out;omega);intro vF wF hoF hbF hgF hatF)
        have HNF:=am_ hoF;have HBF:=am_ hbF;have PBF:=am_ (blk_grown PBE.out hgF (Kd.N_ne HNE.out PBE.out (by decide)));clear hoF hbF hgF hatF
        go_roundg (bs.length-(j+1))
        case measure=>omega
        case rel=>exact⟨j+1,out'++[⟨x,j,terms⟩],by omega,Nat.le_refl _,by first|rfl|rw [st_wS j (by omega)],by rw [List.length_append];show out'.length+1≤_;omega,⟨by rw [← hst];exact HI.out⟩,HNF,HBF,PBF⟩
       ·
        have c3a:decide ((rd_T92 out' ji).f1≤(j:Int))=false:=decide_eq_false h3;have hst:cr_step (x:Int) (j:Int) one two out'=out':=by unfold cr_step;rw [HT.out,if_pos h1,if_neg h2,← Hji.out,if_neg h3]
        go_wp2
        go_roundg (bs.length-(j+1))
        case measure=>omega
        case rel=>exact⟨j+1,out',by omega,Nat.le_refl _,by first|rfl|rw [st_wS j (by omega)],by omega,⟨by rw [← hst];exact HI.out⟩,HNE,HBE,PBE⟩
     ·
      have c1a:decide (0<(terms.length:Int))=false:=decide_eq_false (by omega);have c1b:decide (0<terms.length)=false:=decide_eq_false h1;have hst:cr_step (x:Int) (j:Int) one two out'=out':=by unfold cr_step;rw [HT.out,if_neg h1]
      go_wp2
      go_roundg (bs.length-(j+1))
      case measure=>omega
      case rel=>exact⟨j+1,out',by omega,Nat.le_refl _,by first|rfl|rw [st_wS j (by omega)],by omega,⟨by rw [← hst];exact HI.out⟩,HNE,HBE,PBE⟩
    ·
     obtain rfl:j=bs.length:=by omega
     have hI:=HI.out;rw [List.drop_length,cr_row]at hI
     go_wp2
     go_roundg (al.length-(x+1))
     case measure=>omega
     case rel=>exact⟨x+1,out',by omega,Nat.le_refl _,by first|rfl|rw [st_wS x (by have:=HR.out.2.2.2.2.1;omega)],by have:=HR.out.2.2.2.2.2.1;omega,⟨by rw [hI];exact HI2.out⟩,HN,HB,PB⟩
  ·
   obtain rfl:x=al.length:=by omega
   have hI:=HI.out;rw [List.drop_length,cr_all]at hI;have HI:=am_ hI;obtain⟨Ao,co,rfl⟩:=Kd.N_slice HN.out;have ho:out.length≤1000000:=by have:=HR.out.2.2.2.2.1;have:=Nat.mul_le_mul_right 1000 this;omega
   clear hI hol hgg hx hlt PB
   by_cases h16:16<out.length
   ·
    have c16:decide (16<(out.length:Int))=true:=decide_eq_true (by omega);have hcut:cr_cut out=out.take 15++[rd_T92 out ((out.length:Int)-1)]:=by unfold cr_cut;rw [if_pos h16]
    obtain⟨ji,hji'⟩:∃ ji:Int,ji=(out.length:Int)-1:=⟨_,rfl⟩;have hjiw:IntKind.i64.wrap ((out.length:Int)-1)=ji:=by rw [i64_w];unfold wrap64;omega
    have p1:0≤ji:=by omega
    have q1:ji<(out.length:Int):=by omega
    have hcut':cr_cut (cr_all bs al 0 [])=out.take 15++[rd_T92 out ji]:=by rw [← HI.out,hji'];exact hcut
    obtain⟨oad,e9⟩:∃ oad,Ao=some oad:=by obtain⟨oad,_,_,e9,_⟩:=at_T92 (Kd.N_reads' HN.out).2.2 ji p1 q1;exact⟨oad,e9⟩
    subst e9;obtain⟨ce,hcl,hFK,hcc0⟩:=Kd.N_get HN.out z92 ji p1 q1;have hcc:∀ j u,ce[j]?=some u→wr.cell? (oad.add (ji.toNat*3+j))=some u:=hcc0;obtain⟨A2,c2,rfl,l2,gF⟩:=k92_openF hFK;have k0:=hcc 0 _ rfl;have k1:=hcc 1 _ rfl;have k2:=hcc 2 _ rfl;rw [add_field _ _ 1 (by omega)]at k1;rw [add_field _ _ 2 (by omega)]at k2;have hla:rd_T92 out ji=out.getD ji.toNat z92:=rfl;rw [hla]at hcut';generalize out.getD ji.toNat z92=la at k0 k1 k2 hFK l2 gF hcut';have HCUT:=am_ hcut';have HFK:=am_ hFK;obtain⟨i0,hi0,_,hsz,_⟩:=info_parts sq_infoC;have hct:=cut_to (P:=Tryd.prog) 89 92 .i64 Tryd.underlying89 hi0 (some oad) out.length co 15 (by omega) (by omega) (Kd.N_reads' HN.out).2.1;have hct:∀ W:World,Sem.run Tryd.prog (Instr.slice 89 (Value.slice (some oad) out.length co) none (some (Value.int IntKind.i64 15)) none) W=Result.ok (Value.slice (some oad) 15 co) W:=hct;have HT:=am_ (Kd.N_drew (Kd.N_take (m:=15) HN.out (by omega)));have p2:=eq_true p1;have q2:=eq_true q1;clear hcc0 hcc hcl hi0 hsz hji' hla hcut hcut' hFK l2 gF;rw [Nat.add_zero]at k0
    go_wp2
    refine start_ (n:=10) (S:=fun _=>True) (ds:=[]) #[false,false,false,false,false,false,false,false,false,false] (by kernel_rfl) rfl rfl trivial (fun hHeld=>?_);replace HB:=hd_ HB;have k0:wr.drew.cell? _=_:=k0;have k1:wr.drew.cell? _=_:=k1;have k2:wr.drew.cell? _=_:=k2;have HFK:Aside0 (Kd.FK k92 wr.drew (fun k=>w.heap.size≤k∧some k≠(Value.slice (some oad) 15 co).ownBlock) la [.int .i64 la.f0,.int .i64 la.f1,.slice A2 la.f2.length c2]):=⟨HFK.out⟩;generalize wr.drew=w1 at HB HT HFK k0 k1 k2 ⊢;refine rp_ 0 65 ?_;refine rp_ 1 66 ?_;refine rp_ 2 67 ?_;refine rp_ 3 68 ?_;refine rp_ 4 69 ?_;refine rp_ 5 70 ?_;refine ro1_ 6 (some 71) (fun K hK=>?_);refine value_ (w1:=w1) (v:=.agg #[.int .i64 la.f0,.int .i64 la.f1,.slice A2 la.f2.length c2]) (by rfl) rfl (by go_simp) ?_;refine hK.out _ _ trivial (fun _=>?_);clear hK K k0 k1 k2;refine norm_y 71 (h:=?_);refine ro1_ 7 (some 72) (fun K hK=>?_);refine value_ (w1:=w1.alloc (.cells #[.int .i64 la.f0,.int .i64 la.f1,.slice A2 la.f2.length c2] 92 (0,0))) (v:=.slice (some ⟨w1.heap.size,0,none⟩) 1 1) (by rfl) rfl (by first|(go_simp;done)|(go_simp;rfl)) ?_;refine hK.out _ _ trivial (fun _=>?_);clear hK K;refine norm_y 72 (h:=?_);refine ro1_ 8 (some 73) (fun K hK=>?_);refine Kd.N_append_step k92 (w0:=w) w.heap.size (by rfl) (.tmp 66) (.tmp 72) 89 92 (.agg #[(.int .i64 0),(.int .i64 0),(.slice none 0 0)]) 40 rfl Tryd.underlying89 sq_infoC rfl (by decide) (by omega) (.slice (some oad) 15 co) (out.take 15) la [.int .i64 la.f0,.int .i64 la.f1,.slice A2 la.f2.length c2] (fun k=>w.heap.size≤k) (fun k=>w.heap.size≤k∧some k≠(Value.slice (some oad) 15 co).ownBlock) rfl rfl HFK.out (fun _ hk=>hk) (fun k hk=>Nat.le_trans HB.out.size hk) HT.out HB.out HB.out.size (by rw [List.length_take];omega) ?_;intro vF wF hoF hbF hgF hatF;have HNF:=am_ hoF;have HBF:=am_ hbF;clear hoF hbF hgF hatF HT HFK HB HN;refine hK.out _ _ trivial (fun _=>?_);clear hK K;refine norm_y 73 (h:=?_);refine rp_ 9 5 ?_;refine done_ (by kernel_rfl) ?_
    go_wp2
    go_ret
    exact⟨_,rfl,by rw [HCUT.out];exact HNF.out,HBF.out⟩
   ·
    have c16:decide (16<(out.length:Int))=false:=decide_eq_false (by omega);have hcut:cr_cut out=out:=by unfold cr_cut;rw [if_neg h16]
    have HCUT:=am_ hcut;clear hcut
    go_wp2
    go_ret
    exact⟨_,rfl,by rw [← HI.out,HCUT.out];exact HN.out,HB.out⟩
structure al_R (n1 gx:Nat) (W:World) (u1 v1 m1 u2 v2 m2:Value) (sl:List Sl) (bl:List (List S53)) (vl1 vl2:List S60) (ml1 ml2:List Bool):Prop where
 U1:kOpq.R 50 W n1 (fun _=>True) u1 sl
 U2:(Kd.slice 53 k53).R 50 W n1 (fun k=>some k≠u1.ownBlock) u2 bl
 V1:k60.R 60 W n1 (fun _=>True) v1 vl1
 V2:k60.R 60 W n1 (fun _=>True) v2 vl2
 M1:Kd.bool.R 4 W n1 (fun _=>True) m1 ml1
 M2:Kd.bool.R 4 W n1 (fun _=>True) m2 ml2
 dv:∀ k,v1.ownBlock=some k→v2.ownBlock≠some k
 dm:∀ k,m1.ownBlock=some k→m2.ownBlock≠some k
 x1:v1.ownBlock≠some gx
 x2:v2.ownBlock≠some gx
theorem al_e0{α:Type}{d:Kd α}{e n1:Nat}{W W':World}{v:Value}{xs:List α}(hE:d.E=[])(h:d.R e W n1 (fun _=>True) v xs)(hm:∀ k,v.ownBlock=some k→W'.heap[k]?=W.heap[k]?):d.R e W' n1 (fun _=>True) v xs :=
 Kd.R_mono (Kd.R_step (Kd.R_tight hE h) (fun k hk _=>hm k hk.symm)) (fun _ _=>trivial)
theorem al_u2{W W':World}{n1:Nat}{ok:Nat→Prop}{v:Value}{xs:List (List S53)}(h:(Kd.slice 53 k53).R 50 W n1 ok v xs)(hm:∀ k cs t,ok k→W.heap[k]?=some (.cells cs t (0,0))→(t=50∨t=53)→W'.heap[k]?=W.heap[k]?):(Kd.slice 53 k53).R 50 W' n1 ok v xs:=by
 refine Kd.R_mono (Kd.R_move (Kd.R_bound h) (fun k hk=>?_)) (fun k hk=>hk.1);obtain⟨ho,_,_,q,hq,cells,hc⟩:=hk;have hq':q∈[50,53]:=hq;simp only [List.mem_cons,List.not_mem_nil,or_false]at hq';exact hm k cells q ho hc hq'
theorem al_R.stay{n1 gx:Nat}{W W':World}{u1 v1 m1 u2 v2 m2:Value}{sl:List Sl}{bl:List (List S53)}{vl1 vl2:List S60}{ml1 ml2:List Bool}(h:al_R n1 gx W u1 v1 m1 u2 v2 m2 sl bl vl1 vl2 ml1 ml2)
  (hm:∀ k cs t,W.heap[k]?=some (.cells cs t (0,0))→(t=50∨t=53∨t=4∨(t=60∧k≠gx))→W'.heap[k]?=W.heap[k]?):al_R n1 gx W' u1 v1 m1 u2 v2 m2 sl bl vl1 vl2 ml1 ml2 where
 U1:=al_e0 rfl h.U1 (fun k hk=>by obtain⟨cells,hc⟩:=Kd.R_typed h.U1 k hk;exact hm k cells _ hc (.inl rfl))
 U2:=al_u2 h.U2 (fun k cs t _ hc ht=>hm k cs t hc (by rcases ht with ht|ht;exact .inl ht;exact .inr (.inl ht)))
 V1:=al_e0 rfl h.V1 (fun k hk=>by obtain⟨cells,hc⟩:=Kd.R_typed h.V1 k hk;exact hm k cells _ hc (.inr (.inr (.inr ⟨rfl,fun he=>h.x1 (he▸hk)⟩))))
 V2:=al_e0 rfl h.V2 (fun k hk=>by obtain⟨cells,hc⟩:=Kd.R_typed h.V2 k hk;exact hm k cells _ hc (.inr (.inr (.inr ⟨rfl,fun he=>h.x2 (he▸hk)⟩))))
 M1:=al_e0 rfl h.M1 (fun k hk=>by obtain⟨cells,hc⟩:=Kd.R_typed h.M1 k hk;exact hm k cells _ hc (.inr (.inr (.inl rfl))))
 M2:=al_e0 rfl h.M2 (fun k hk=>by obtain⟨cells,hc⟩:=Kd.R_typed h.M2 k hk;exact hm k cells _ hc (.inr (.inr (.inl rfl))))
 dv:=h.dv
 dm:=h.dm
 x1:=h.x1
 x2:=h.x2
section
variable {n1 gx:Nat} {W W':World} {u1 v1 m1 u2 v2 m2:Value} {sl:List Sl} {bl:List (List S53)} {vl1 vl2:List S60} {ml1 ml2:List Bool}
theorem al_R.below(h:al_R n1 gx W u1 v1 m1 u2 v2 m2 sl bl vl1 vl2 ml1 ml2)(hb:Below W.heap.size W W'):al_R n1 gx W' u1 v1 m1 u2 v2 m2 sl bl vl1 vl2 ml1 ml2:=h.stay (fun k _ _ hc _=>hb.block k (blk_lt hc))
theorem al_R.far(h:al_R n1 gx W u1 v1 m1 u2 v2 m2 sl bl vl1 vl2 ml1 ml2){g t:Nat}{cells:Array Value}(hg:W.heap[g]?=some (.cells cells t (0,0)))(ht:g=gx∧t=60∨t=32∨t=92)(o:Nat)(u:Value):al_R n1 gx (W.setCell ⟨g,o,none⟩ u) u1 v1 m1 u2 v2 m2 sl bl vl1 vl2 ml1 ml2:=h.stay (fun k cs t' hc ht'=>Below.heap_setCell W _ u k (fun he=>by
  have he:k=g:=he;subst he;rw [hg]at hc
  injection hc with hc
  injection hc with _ hc
  subst hc
  rcases ht with⟨h1,h2⟩|h2|h2<;>rcases ht' with h3|h3|h3|⟨h3,h4⟩<;>first|exact h4 h1|(rw [h2]at h3;exact absurd h3 (by decide))))
theorem al_R.box(h:al_R n1 gx W u1 v1 m1 u2 v2 m2 sl bl vl1 vl2 ml1 ml2){g:Nat}(hg:W.heap.size≤g):al_R n1 g W u1 v1 m1 u2 v2 m2 sl bl vl1 vl2 ml1 ml2 :=
 { h with x1:=fun he=>by have:=Kd.R_lt h.V1 g he;omega,x2:=fun he=>by have:=Kd.R_lt h.V2 g he;omega }
theorem al_R.unbox(h:al_R n1 gx W u1 v1 m1 u2 v2 m2 sl bl vl1 vl2 ml1 ml2)(hn:0<n1):al_R n1 0 W u1 v1 m1 u2 v2 m2 sl bl vl1 vl2 ml1 ml2 :=
 { h with x1:=fun he=>by have:=Kd.R_base h.V1 0 he;omega,x2:=fun he=>by have:=Kd.R_base h.V2 0 he;omega }
theorem al_own{α:Type}{d:Kd α}{e n1 t:Nat}{v row:Value}{xs:List α}(h:d.R e W n1 (fun _=>True) v xs)(hr:∀ k,row.ownBlock=some k→∃ cells,W.heap[k]?=some (.cells cells t (0,0)))(ht:e≠t):∀ k,v.ownBlock=some k→some k≠row.ownBlock:=fun k hk he=>by
 obtain⟨c1,h1⟩:=Kd.R_typed h k hk;obtain⟨c2,h2⟩:=hr k he.symm;rw [h1]at h2
 injection h2 with h2
 injection h2 with _ h2
 exact ht h2
theorem al_gr{α:Type}{d:Kd α}{e n1:Nat}{v:Value}{row:Option Nat}{xs:List α}(hE:d.E=[])(h:d.R e W n1 (fun _=>True) v xs)(hg:W.grownBy W' row)(hn:∀ k,v.ownBlock=some k→some k≠row):d.R e W' n1 (fun _=>True) v xs:=al_e0 hE h (fun k hk=>hg.block k (Kd.R_lt h k hk) (hn k hk))
theorem al_gru{n1 t:Nat}{ok:Nat→Prop}{v row:Value}{xs:List (List S53)}(h:(Kd.slice 53 k53).R 50 W n1 ok v xs)(hg:W.grownBy W' row.ownBlock)(hr:∀ k,row.ownBlock=some k→∃ cells,W.heap[k]?=some (.cells cells t (0,0)))(h1:t≠50)(h2:t≠53):(Kd.slice 53 k53).R 50 W' n1 ok v xs :=
 al_u2 h (fun k cs t' _ hc ht=>hg.block k (blk_lt hc) (fun he=>by
  obtain⟨c2,hc2⟩:=hr k he.symm;rw [hc]at hc2
  injection hc2 with hc2
  injection hc2 with _ hc2
  subst hc2
  rcases ht with ht|ht
  ·
   exact h1 ht
  ·
   exact h2 ht))
theorem al_ne{u v v':Value}(h:∀ k,v.ownBlock=some k→u.ownBlock≠some k)(hat:v'.ownBlock=v.ownBlock∨∃ b,v'.ownBlock=some b∧W.heap.size≤b)(hl:∀ k,u.ownBlock=some k→k<W.heap.size):∀ k,v'.ownBlock=some k→u.ownBlock≠some k:=fun k hk he=>by
 rcases hat with hat|⟨b,hb,hs⟩
 ·
  rw [hat]at hk;exact h k hk he
 ·
  rw [hk]at hb
  injection hb with hb
  have:=hl k he
  omega
theorem al_nx{g:Nat}{v v':Value}(h:v.ownBlock≠some g)(hat:v'.ownBlock=v.ownBlock∨∃ b,v'.ownBlock=some b∧W.heap.size≤b)(hg:g<W.heap.size):v'.ownBlock≠some g:=fun hk=>by
 rcases hat with hat|⟨b,hb,hs⟩
 ·
  rw [hat]at hk;exact h hk
 ·
  rw [hk]at hb
  injection hb with hb
  omega
theorem al_sy{u v:Value}(h:∀ k,v.ownBlock=some k→u.ownBlock≠some k):∀ k,u.ownBlock=some k→v.ownBlock≠some k:=fun k hk he=>h k he hk
theorem al_R.appU1(h:al_R n1 gx W u1 v1 m1 u2 v2 m2 sl bl vl1 vl2 ml1 ml2){u1':Value}{sl':List Sl}(hr:kOpq.R 50 W' n1 (fun _=>True) u1' sl')(hg:W.grownBy W' u1.ownBlock)(hat:u1'.ownBlock=u1.ownBlock∨∃ b,u1'.ownBlock=some b∧W.heap.size≤b):al_R n1 gx W' u1' v1 m1 u2 v2 m2 sl' bl vl1 vl2 ml1 ml2 :=
 { h with
  U1:=hr
  U2:=Kd.R_mono (Kd.R_step (Kd.R_bound h.U2) (fun k hk hl=>hg.block k hl hk.1)) (fun k hk=>fun he=>by
   rcases hat with hat|⟨b,hb,hs⟩
   ·
    rw [hat]at he;exact hk.1 he
   ·
    rw [← he]at hb
    injection hb with hb
    have:=hk.2.2.1
    omega)
  V1:=al_gr rfl h.V1 hg (al_own h.V1 (Kd.R_typed h.U1) (by decide))
  V2:=al_gr rfl h.V2 hg (al_own h.V2 (Kd.R_typed h.U1) (by decide))
  M1:=al_gr rfl h.M1 hg (al_own h.M1 (Kd.R_typed h.U1) (by decide))
  M2:=al_gr rfl h.M2 hg (al_own h.M2 (Kd.R_typed h.U1) (by decide)) }
theorem al_R.appU2(h:al_R n1 gx W u1 v1 m1 u2 v2 m2 sl bl vl1 vl2 ml1 ml2){u2':Value}{bl':List (List S53)}(hr:(Kd.slice 53 k53).R 50 W' n1 (fun k=>some k≠u1.ownBlock) u2' bl')(hg:W.grownBy W' u2.ownBlock):al_R n1 gx W' u1 v1 m1 u2' v2 m2 sl bl' vl1 vl2 ml1 ml2 :=
 { h with
  U1:=al_gr rfl h.U1 hg (fun k hk he=>h.U2.1 k he.symm hk.symm)
  U2:=hr
  V1:=al_gr rfl h.V1 hg (al_own h.V1 (Kd.R_typed h.U2) (by decide))
  V2:=al_gr rfl h.V2 hg (al_own h.V2 (Kd.R_typed h.U2) (by decide))
  M1:=al_gr rfl h.M1 hg (al_own h.M1 (Kd.R_typed h.U2) (by decide))
  M2:=al_gr rfl h.M2 hg (al_own h.M2 (Kd.R_typed h.U2) (by decide)) }
theorem al_R.appV1(h:al_R n1 gx W u1 v1 m1 u2 v2 m2 sl bl vl1 vl2 ml1 ml2)(hx:gx<W.heap.size){v1':Value}{vl':List S60}(hr:k60.R 60 W' n1 (fun _=>True) v1' vl')(hg:W.grownBy W' v1.ownBlock)(hat:v1'.ownBlock=v1.ownBlock∨∃ b,v1'.ownBlock=some b∧W.heap.size≤b):al_R n1 gx W' u1 v1' m1 u2 v2 m2 sl bl vl' vl2 ml1 ml2 :=
 { h with
  U1:=al_gr rfl h.U1 hg (al_own h.U1 (Kd.R_typed h.V1) (by decide))
  U2:=al_gru h.U2 hg (Kd.R_typed h.V1) (by decide) (by decide)
  V1:=hr
  V2:=al_gr rfl h.V2 hg (fun k hk he=>h.dv k he.symm hk)
  M1:=al_gr rfl h.M1 hg (al_own h.M1 (Kd.R_typed h.V1) (by decide))
  M2:=al_gr rfl h.M2 hg (al_own h.M2 (Kd.R_typed h.V1) (by decide))
  dv:=al_ne h.dv hat (Kd.R_lt h.V2)
  x1:=al_nx h.x1 hat hx }
theorem al_R.appV2(h:al_R n1 gx W u1 v1 m1 u2 v2 m2 sl bl vl1 vl2 ml1 ml2)(hx:gx<W.heap.size){v2':Value}{vl':List S60}(hr:k60.R 60 W' n1 (fun _=>True) v2' vl')(hg:W.grownBy W' v2.ownBlock)(hat:v2'.ownBlock=v2.ownBlock∨∃ b,v2'.ownBlock=some b∧W.heap.size≤b):al_R n1 gx W' u1 v1 m1 u2 v2' m2 sl bl vl1 vl' ml1 ml2 :=
 { h with
  U1:=al_gr rfl h.U1 hg (al_own h.U1 (Kd.R_typed h.V2) (by decide))
  U2:=al_gru h.U2 hg (Kd.R_typed h.V2) (by decide) (by decide)
  V1:=al_gr rfl h.V1 hg (fun k hk he=>h.dv k hk he.symm)
  V2:=hr
  M1:=al_gr rfl h.M1 hg (al_own h.M1 (Kd.R_typed h.V2) (by decide))
  M2:=al_gr rfl h.M2 hg (al_own h.M2 (Kd.R_typed h.V2) (by decide))
  dv:=al_sy (al_ne (al_sy h.dv) hat (Kd.R_lt h.V1))
  x2:=al_nx h.x2 hat hx }
theorem al_R.appM1(h:al_R n1 gx W u1 v1 m1 u2 v2 m2 sl bl vl1 vl2 ml1 ml2){m1':Value}{ml':List Bool}(hr:Kd.bool.R 4 W' n1 (fun _=>True) m1' ml')(hg:W.grownBy W' m1.ownBlock)(hat:m1'.ownBlock=m1.ownBlock∨∃ b,m1'.ownBlock=some b∧W.heap.size≤b):al_R n1 gx W' u1 v1 m1' u2 v2 m2 sl bl vl1 vl2 ml' ml2 :=
 { h with
  U1:=al_gr rfl h.U1 hg (al_own h.U1 (Kd.R_typed h.M1) (by decide))
  U2:=al_gru h.U2 hg (Kd.R_typed h.M1) (by decide) (by decide)
  V1:=al_gr rfl h.V1 hg (al_own h.V1 (Kd.R_typed h.M1) (by decide))
  V2:=al_gr rfl h.V2 hg (al_own h.V2 (Kd.R_typed h.M1) (by decide))
  M1:=hr
  M2:=al_gr rfl h.M2 hg (fun k hk he=>h.dm k he.symm hk)
  dm:=al_ne h.dm hat (Kd.R_lt h.M2) }
theorem al_R.appM2(h:al_R n1 gx W u1 v1 m1 u2 v2 m2 sl bl vl1 vl2 ml1 ml2){m2':Value}{ml':List Bool}(hr:Kd.bool.R 4 W' n1 (fun _=>True) m2' ml')(hg:W.grownBy W' m2.ownBlock)(hat:m2'.ownBlock=m2.ownBlock∨∃ b,m2'.ownBlock=some b∧W.heap.size≤b):al_R n1 gx W' u1 v1 m1 u2 v2 m2' sl bl vl1 vl2 ml1 ml' :=
 { h with
  U1:=al_gr rfl h.U1 hg (al_own h.U1 (Kd.R_typed h.M2) (by decide))
  U2:=al_gru h.U2 hg (Kd.R_typed h.M2) (by decide) (by decide)
  V1:=al_gr rfl h.V1 hg (al_own h.V1 (Kd.R_typed h.M2) (by decide))
  V2:=al_gr rfl h.V2 hg (al_own h.V2 (Kd.R_typed h.M2) (by decide))
  M1:=al_gr rfl h.M1 hg (fun k hk he=>h.dm k hk he.symm)
  M2:=hr
  dm:=al_sy (al_ne (al_sy h.dm) hat (Kd.R_lt h.M1)) }
end
structure al_W (wL:World) (g6 g7 gx:Nat) (W:World) (c6 c7:Array Value) (u1 v1 m1 u2 v2 m2:Value) (sl:List Sl) (bl:List (List S53)) (vl1 vl2:List S60) (ml1 ml2:List Bool):Prop where
 L:Below wL.heap.size wL W
 p6:W.heap[g6]?=some (.cells c6 32 (0,0))
 p7:W.heap[g7]?=some (.cells c7 32 (0,0))
 R:al_R wL.heap.size gx W u1 v1 m1 u2 v2 m2 sl bl vl1 vl2 ml1 ml2
theorem al_one{α:Type}{W:World}{g t sz:Nat}{cs:List Value}{p:α}(hb:W.heap[g]?=some (.cells cs.toArray t (0,0)))(hl:cs.length=sz):ReadsRow (fun x c=>x=p∧c=cs) sz W (some ⟨g,0,none⟩) 1 [p]:=by
 refine⟨rfl,by decide,fun _=>⟨_,rfl,fun j q hj=>⟨cs,hl,?_,fun i u hu=>?_⟩⟩⟩
 ·
  rcases j with _|j
  ·
   simp only [List.getElem?_cons_zero,Option.some.injEq]at hj;exact⟨hj.symm,rfl⟩
  ·
   simp at hj
 ·
  rcases j with _|j
  ·
   rw [add_at,Nat.zero_mul,Nat.zero_add,Nat.zero_add,blk_cell hb i,List.getElem?_toArray];exact hu
  ·
   simp at hj
section
variable {wL:World} {g6 g7 gx:Nat} {W W':World} {c6 c7:Array Value} {u1 v1 m1 u2 v2 m2:Value} {sl:List Sl} {bl:List (List S53)} {vl1 vl2:List S60} {ml1 ml2:List Bool}
theorem al_W.below(h:al_W wL g6 g7 gx W c6 c7 u1 v1 m1 u2 v2 m2 sl bl vl1 vl2 ml1 ml2)(hb:Below W.heap.size W W'):al_W wL g6 g7 gx W' c6 c7 u1 v1 m1 u2 v2 m2 sl bl vl1 vl2 ml1 ml2 :=
 ⟨h.L.trans (hb.mono h.L.size),blk_below h.p6 hb,blk_below h.p7 hb,h.R.below hb⟩
theorem al_W.far(h:al_W wL g6 g7 gx W c6 c7 u1 v1 m1 u2 v2 m2 sl bl vl1 vl2 ml1 ml2){g t:Nat}{cells:Array Value}(hg:W.heap[g]?=some (.cells cells t (0,0)))(ht:g=gx∧t=60∨t=92)(hn:wL.heap.size≤g)(o:Nat)(u:Value):al_W wL g6 g7 gx (W.setCell ⟨g,o,none⟩ u) c6 c7 u1 v1 m1 u2 v2 m2 sl bl vl1 vl2 ml1 ml2:=by
 have ne:∀ {k:Nat} {c:Array Value},W.heap[k]?=some (.cells c 32 (0,0))→k≠g:=fun hk he=>by
  subst he;rw [hg]at hk
  injection hk with hk
  injection hk with _ hk
  rcases ht with⟨_,h2⟩|h2<;>(rw [h2]at hk;exact absurd hk (by decide))
 exact⟨h.L.setCell hn u,blk_far h.p6 (ne h.p6) u,blk_far h.p7 (ne h.p7) u,h.R.far hg (by rcases ht with h2|h2;exact .inl h2;exact .inr (.inr h2)) o u⟩
theorem al_W.set6(h:al_W wL g6 g7 gx W c6 c7 u1 v1 m1 u2 v2 m2 sl bl vl1 vl2 ml1 ml2)(hn:wL.heap.size≤g6)(h67:g7≠g6)(o:Nat)(u:Value):al_W wL g6 g7 gx (W.setCell ⟨g6,o,none⟩ u) (c6.setIfInBounds o u) c7 u1 v1 m1 u2 v2 m2 sl bl vl1 vl2 ml1 ml2 :=
 ⟨h.L.setCell hn u,blk_set h.p6 o u,blk_far h.p7 h67 u,h.R.far h.p6 (.inr (.inl rfl)) o u⟩
theorem al_W.set7(h:al_W wL g6 g7 gx W c6 c7 u1 v1 m1 u2 v2 m2 sl bl vl1 vl2 ml1 ml2)(hn:wL.heap.size≤g7)(h67:g6≠g7)(o:Nat)(u:Value):al_W wL g6 g7 gx (W.setCell ⟨g7,o,none⟩ u) c6 (c7.setIfInBounds o u) u1 v1 m1 u2 v2 m2 sl bl vl1 vl2 ml1 ml2 :=
 ⟨h.L.setCell hn u,blk_far h.p6 h67 u,blk_set h.p7 o u,h.R.far h.p7 (.inr (.inl rfl)) o u⟩
theorem al_typed{k t:Nat}{row:Value}{c:Array Value}(hk:W.heap[k]?=some (.cells c t (0,0))){e:Nat}(hr:∀ k,row.ownBlock=some k→∃ cells,W.heap[k]?=some (.cells cells e (0,0)))(ht:t≠e):some k≠row.ownBlock:=fun he=>by
 obtain⟨c2,h2⟩:=hr k he.symm;rw [hk]at h2
 injection h2 with h2
 injection h2 with _ h2
 exact ht h2
theorem al_W.appU1(h:al_W wL g6 g7 gx W c6 c7 u1 v1 m1 u2 v2 m2 sl bl vl1 vl2 ml1 ml2){u1':Value}{sl':List Sl}(hb:Below wL.heap.size wL W')(hr:kOpq.R 50 W' wL.heap.size (fun _=>True) u1' sl')(hg:W.grownBy W' u1.ownBlock)(hat:u1'.ownBlock=u1.ownBlock∨∃ b,u1'.ownBlock=some b∧W.heap.size≤b):al_W wL g6 g7 gx W' c6 c7 u1' v1 m1 u2 v2 m2 sl' bl vl1 vl2 ml1 ml2 :=
 ⟨hb,blk_grown h.p6 hg (al_typed h.p6 (Kd.R_typed h.R.U1) (by decide)),blk_grown h.p7 hg (al_typed h.p7 (Kd.R_typed h.R.U1) (by decide)),h.R.appU1 hr hg hat⟩
theorem al_W.appU2(h:al_W wL g6 g7 gx W c6 c7 u1 v1 m1 u2 v2 m2 sl bl vl1 vl2 ml1 ml2){u2':Value}{bl':List (List S53)}(hb:Below wL.heap.size wL W')(hr:(Kd.slice 53 k53).R 50 W' wL.heap.size (fun k=>some k≠u1.ownBlock) u2' bl')(hg:W.grownBy W' u2.ownBlock):al_W wL g6 g7 gx W' c6 c7 u1 v1 m1 u2' v2 m2 sl bl' vl1 vl2 ml1 ml2 :=
 ⟨hb,blk_grown h.p6 hg (al_typed h.p6 (Kd.R_typed h.R.U2) (by decide)),blk_grown h.p7 hg (al_typed h.p7 (Kd.R_typed h.R.U2) (by decide)),h.R.appU2 hr hg⟩
theorem al_W.appV1(h:al_W wL g6 g7 gx W c6 c7 u1 v1 m1 u2 v2 m2 sl bl vl1 vl2 ml1 ml2)(hx:gx<W.heap.size){v1':Value}{vl':List S60}(hb:Below wL.heap.size wL W')(hr:k60.R 60 W' wL.heap.size (fun _=>True) v1' vl')(hg:W.grownBy W' v1.ownBlock)(hat:v1'.ownBlock=v1.ownBlock∨∃ b,v1'.ownBlock=some b∧W.heap.size≤b):al_W wL g6 g7 gx W' c6 c7 u1 v1' m1 u2 v2 m2 sl bl vl' vl2 ml1 ml2 :=
 ⟨hb,blk_grown h.p6 hg (al_typed h.p6 (Kd.R_typed h.R.V1) (by decide)),blk_grown h.p7 hg (al_typed h.p7 (Kd.R_typed h.R.V1) (by decide)),h.R.appV1 hx hr hg hat⟩
theorem al_W.appV2(h:al_W wL g6 g7 gx W c6 c7 u1 v1 m1 u2 v2 m2 sl bl vl1 vl2 ml1 ml2)(hx:gx<W.heap.size){v2':Value}{vl':List S60}(hb:Below wL.heap.size wL W')(hr:k60.R 60 W' wL.heap.size (fun _=>True) v2' vl')(hg:W.grownBy W' v2.ownBlock)(hat:v2'.ownBlock=v2.ownBlock∨∃ b,v2'.ownBlock=some b∧W.heap.size≤b):al_W wL g6 g7 gx W' c6 c7 u1 v1 m1 u2 v2' m2 sl bl vl1 vl' ml1 ml2 :=
 ⟨hb,blk_grown h.p6 hg (al_typed h.p6 (Kd.R_typed h.R.V2) (by decide)),blk_grown h.p7 hg (al_typed h.p7 (Kd.R_typed h.R.V2) (by decide)),h.R.appV2 hx hr hg hat⟩
theorem al_W.appM1(h:al_W wL g6 g7 gx W c6 c7 u1 v1 m1 u2 v2 m2 sl bl vl1 vl2 ml1 ml2){m1':Value}{ml':List Bool}(hb:Below wL.heap.size wL W')(hr:Kd.bool.R 4 W' wL.heap.size (fun _=>True) m1' ml')(hg:W.grownBy W' m1.ownBlock)(hat:m1'.ownBlock=m1.ownBlock∨∃ b,m1'.ownBlock=some b∧W.heap.size≤b):al_W wL g6 g7 gx W' c6 c7 u1 v1 m1' u2 v2 m2 sl bl vl1 vl2 ml' ml2 :=
 ⟨hb,blk_grown h.p6 hg (al_typed h.p6 (Kd.R_typed h.R.M1) (by decide)),blk_grown h.p7 hg (al_typed h.p7 (Kd.R_typed h.R.M1) (by decide)),h.R.appM1 hr hg hat⟩
theorem al_W.appM2(h:al_W wL g6 g7 gx W c6 c7 u1 v1 m1 u2 v2 m2 sl bl vl1 vl2 ml1 ml2){m2':Value}{ml':List Bool}(hb:Below wL.heap.size wL W')(hr:Kd.bool.R 4 W' wL.heap.size (fun _=>True) m2' ml')(hg:W.grownBy W' m2.ownBlock)(hat:m2'.ownBlock=m2.ownBlock∨∃ b,m2'.ownBlock=some b∧W.heap.size≤b):al_W wL g6 g7 gx W' c6 c7 u1 v1 m1 u2 v2 m2' sl bl vl1 vl2 ml1 ml' :=
 ⟨hb,blk_grown h.p6 hg (al_typed h.p6 (Kd.R_typed h.R.M2) (by decide)),blk_grown h.p7 hg (al_typed h.p7 (Kd.R_typed h.R.M2) (by decide)),h.R.appM2 hr hg hat⟩
end
theorem al_list{w:World}{base:Nat}{ok:Nat→Prop}{A:Option Addr}{cL:Nat}{xs:List S92}(h:Kd.N k92 92 w base ok (.slice A xs.length cL) xs):∃ SL:Nat→Sl,∀ q,q<xs.length→∃ ad,A=some ad∧(SL q).2.1=(rd_T92 xs (q:Int)).f2.length∧(SL q).2.1≤(SL q).2.2∧Kd.F k53 w ok (SL q).1 (rd_T92 xs (q:Int)).f2.length (rd_T92 xs (q:Int)).f2 ∧
  w.cell? (ad.add (q*3))=some (.int .i64 (rd_T92 xs (q:Int)).f0)∧w.cell? ⟨(ad.add (q*3)).block,(ad.add (q*3)).off+1,none⟩=some (.int .i64 (rd_T92 xs (q:Int)).f1)∧w.cell? ⟨(ad.add (q*3)).block,(ad.add (q*3)).off+2,none⟩=some (encSl (SL q)):=by
 refine Classical.axiomOfChoice (r:=fun(q:Nat) (s:Sl)=>q<xs.length→∃ ad,A=some ad∧s.2.1=(rd_T92 xs (q:Int)).f2.length∧s.2.1≤s.2.2∧Kd.F k53 w ok s.1 (rd_T92 xs (q:Int)).f2.length (rd_T92 xs (q:Int)).f2∧w.cell? (ad.add (q*3))=some (.int .i64 (rd_T92 xs (q:Int)).f0)∧w.cell? ⟨(ad.add (q*3)).block,(ad.add (q*3)).off+1,none⟩=some (.int .i64 (rd_T92 xs (q:Int)).f1)∧w.cell? ⟨(ad.add (q*3)).block,(ad.add (q*3)).off+2,none⟩=some (encSl s)) (fun q=>?_)
 by_cases hq:q<xs.length
 ·
  obtain⟨ad,_,_,e,_⟩:=at_T92 (Kd.N_reads' h).2.2 (q:Int) (by omega) (by omega);subst e;obtain⟨ce,hcl,hFK,hcc0⟩:=Kd.N_get h z92 (q:Int) (by omega) (by omega);have hcc:∀ j u,ce[j]?=some u→w.cell? (ad.add ((q:Int).toNat*3+j))=some u:=hcc0;obtain⟨A2,c2,rfl,l2,gF⟩:=k92_openF hFK;have k0:=hcc 0 _ rfl;have k1:=hcc 1 _ rfl;have k2:=hcc 2 _ rfl;rw [add_field _ _ 1 (by omega)]at k1;rw [add_field _ _ 2 (by omega)]at k2;rw [Nat.add_zero]at k0;rw [Int.toNat_natCast]at k0 k1 k2;exact⟨(A2,_,c2),fun _=>⟨ad,rfl,rfl,l2,Kd.F_mono gF (fun _ hk=>hk.1),k0,k1,k2⟩⟩
 ·
  exact⟨zSl,fun h=>absurd h hq⟩
theorem al_rows{W:World}{A:Option Addr}{n:Nat}{SL:Nat→Sl}{T:Nat→List S53}(h:kOpq.C W A n ((List.range n).map SL))(hq:∀ q,q<n→(SL q).2.1=(T q).length∧(SL q).2.1≤(SL q).2.2∧Kd.C k53 W (SL q).1 (T q).length (T q)):(Kd.slice 53 k53).C W A n ((List.range n).map T):=by
 obtain⟨hl,hm,hn⟩:=h;refine⟨by simp,hm,fun hp=>?_⟩;obtain⟨ad,e,hc⟩:=hn hp;refine⟨ad,e,fun j p hj=>?_⟩;rw [List.getElem?_map]at hj;obtain⟨i,hi,rfl⟩:=Option.map_eq_some_iff.1 hj;obtain⟨hjn,hji⟩:=List.getElem?_eq_some_iff.1 hi;rw [List.getElem_range]at hji;subst hji;rw [List.length_range]at hjn;obtain⟨c,hcl,hK,hcc⟩:=hc j (SL j) (by rw [List.getElem?_map,hi];rfl);obtain⟨h1,h2,h3⟩:=hq j hjn;have hK:c=[encSl (SL j)]:=hK;refine⟨c,hcl,⟨(SL j).1,(SL j).2.2,?_,by rw [← h1];exact h2,h3⟩,hcc⟩;rw [hK,← h1]
theorem al_neq{W:World}{k g t t':Nat}{c c':Array Value}(hk:W.heap[k]?=some (.cells c t (0,0)))(hg:W.heap[g]?=some (.cells c' t' (0,0)))(ht:t≠t'):k≠g:=fun he=>by
 subst he;rw [hk]at hg
 injection hg with hg
 injection hg with _ hg
 exact ht hg
section
variable {wL:World} {g6 g7 gx:Nat} {W W':World} {c6 c7:Array Value} {u1 v1 m1 u2 v2 m2:Value} {sl:List Sl} {bl:List (List S53)} {vl1 vl2:List S60} {ml1 ml2:List Bool}
theorem al_W.box(h:al_W wL g6 g7 gx W c6 c7 u1 v1 m1 u2 v2 m2 sl bl vl1 vl2 ml1 ml2){g:Nat}(hg:W.heap.size≤g):al_W wL g6 g7 g W c6 c7 u1 v1 m1 u2 v2 m2 sl bl vl1 vl2 ml1 ml2:=⟨h.L,h.p6,h.p7,h.R.box hg⟩
theorem al_W.unbox(h:al_W wL g6 g7 gx W c6 c7 u1 v1 m1 u2 v2 m2 sl bl vl1 vl2 ml1 ml2)(hn:0<wL.heap.size):al_W wL g6 g7 0 W c6 c7 u1 v1 m1 u2 v2 m2 sl bl vl1 vl2 ml1 ml2:=⟨h.L,h.p6,h.p7,h.R.unbox hn⟩
theorem al_W.val(h:al_W wL g6 g7 gx W c6 c7 u1 v1 m1 u2 v2 m2 sl bl vl1 vl2 ml1 ml2){cells:Array Value}(hg:W.heap[gx]?=some (.cells cells 60 (0,0)))(hn:wL.heap.size≤gx)(a b c:Value):al_W wL g6 g7 gx (((W.setCell ⟨gx,0,none⟩ a).setCell ⟨gx,1,none⟩ b).setCell ⟨gx,2,none⟩ c) c6 c7 u1 v1 m1 u2 v2 m2 sl bl vl1 vl2 ml1 ml2 :=
 ((h.far hg (.inl ⟨rfl,rfl⟩) hn 0 a).far (blk_set hg 0 a) (.inl ⟨rfl,rfl⟩) hn 1 b).far (blk_set (blk_set hg 0 a) 1 b) (.inl ⟨rfl,rfl⟩) hn 2 c
end
theorem al_put{W:World}{g t:Nat}{cs:Array Value}(h:W.heap[g]?=some (.cells cs t (0,0)))(hc:cs.size=3)(u0 u1 u2:Value):(((W.setCell ⟨g,0,none⟩ u0).setCell ⟨g,1,none⟩ u1).setCell ⟨g,2,none⟩ u2).heap[g]?=some (.cells #[u0,u1,u2] t (0,0)):=by
 have h3:=blk_set (blk_set (blk_set h 0 u0) 1 u1) 2 u2;rw [h3];obtain⟨l⟩:=cs
 match l,hc with
 | [a,b,c],_=>rfl
theorem al_pfar{W:World}{g k t:Nat}{cs:Array Value}(h:W.heap[k]?=some (.cells cs t (0,0)))(hk:k≠g)(u0 u1 u2:Value):(((W.setCell ⟨g,0,none⟩ u0).setCell ⟨g,1,none⟩ u1).setCell ⟨g,2,none⟩ u2).heap[k]?=some (.cells cs t (0,0)):=blk_far (blk_far (blk_far h hk u0) hk u1) hk u2
theorem al_hp(W:World){g k:Nat}(hk:k≠g)(u0 u1 u2:Value):(((W.setCell ⟨g,0,none⟩ u0).setCell ⟨g,1,none⟩ u1).setCell ⟨g,2,none⟩ u2).heap[k]?=W.heap[k]?:=(Below.heap_setCell _ _ _ k hk).trans ((Below.heap_setCell _ _ _ k hk).trans (Below.heap_setCell _ _ _ k hk))
theorem al_pcf{W:World}{g:Nat}{a:Addr}{v:Option Value}(h:W.cell? a=v)(hk:a.block≠g)(u0 u1 u2:Value):(((W.setCell ⟨g,0,none⟩ u0).setCell ⟨g,1,none⟩ u1).setCell ⟨g,2,none⟩ u2).cell? a=v :=
 (cell_far (p:=⟨g,2,none⟩) hk _).trans ((cell_far (p:=⟨g,1,none⟩) hk _).trans ((cell_far (p:=⟨g,0,none⟩) hk _).trans h))
theorem al_R.seg{n1 gx:Nat}{W:World}{u1 v1 m1 u2 v2 m2:Value}{sl:List Sl}{bl:List (List S53)}{vl1 vl2:List S60}{ml1 ml2:List Bool}(h:al_R n1 gx W u1 v1 m1 u2 v2 m2 sl bl vl1 vl2 ml1 ml2){g:Nat}{cells:Array Value}(hg:W.heap[g]?=some (.cells cells 32 (0,0)))(a b c:Value):al_R n1 gx (((W.setCell ⟨g,0,none⟩ a).setCell ⟨g,1,none⟩ b).setCell ⟨g,2,none⟩ c) u1 v1 m1 u2 v2 m2 sl bl vl1 vl2 ml1 ml2 :=
 ((h.far hg (.inr (.inl rfl)) 0 a).far (blk_set hg 0 a) (.inr (.inl rfl)) 1 b).far (blk_set (blk_set hg 0 a) 1 b) (.inr (.inl rfl)) 2 c
def al_bl(list:List S92)(k:Nat):List (List S53):=(List.range k).map fun(q:Nat)=>(rd_T92 list (q:Int)).f2
def al_vl(R:Nat→S60×Bool)(k:Nat):List S60:=(List.range k).map fun q=>(R q).1
def al_ml(R:Nat→S60×Bool)(k:Nat):List Bool:=(List.range k).map fun q=>(R q).2
theorem al_range{α:Type}(f:Nat→α)(k:Nat):(List.range k).map f++[f k]=(List.range (k+1)).map f:=by rw [List.range_succ,List.map_append,List.map_cons,List.map_nil]
theorem al_walk(A0 A1 A2 B0 B1 B2:Option Addr)(c0 c1 c2 d0 d1 d2:Nat)(al bs:List (List S53))(va vb:List S60)(ma mb:List Bool)(list:List S92)(I J:Nat→Nat)(R1 R2:Nat→S60×Bool)(w:World)(hG0:GL1 w)(hG1:GL0 w)
  (hr0:Kd.C (Kd.slice 53 k53) w A0 al.length al) (hc0:al.length≤c0) (hs0:Kd.C (Kd.slice 53 k53) w B0 bs.length bs) (hd0:bs.length≤d0) (ha:al.length≤1000) (hb:bs.length≤1000) (hra:∀ r∈al,0<r.length∧r.length≤1000000) (hrb:∀ r∈bs,r.length≤1000000)
  (hr1:Kd.C k60 w A1 va.length va) (hr2:Kd.C Kd.bool w A2 ma.length ma) (hc1:va.length≤c1) (hc2:ma.length≤c2) (hs1:Kd.C k60 w B1 vb.length vb) (hs2:Kd.C Kd.bool w B2 mb.length mb) (hd1:vb.length≤d1) (hd2:mb.length≤d2) (hz:va.length≤1000000∧ma.length≤1000000∧vb.length≤1000000∧mb.length≤1000000)
  (hl:list=cr_cut (cr_all bs al 0 [])) (hn:list.length≤16) (hI:∀ q,q<list.length→(rd_T92 list (q:Int)).f0=(I q:Int)∧(rd_T92 list (q:Int)).f1=(J q:Int)∧(rd_T92 list (q:Int)).f2.length≤1000000)
  (hm1:∀ q,q+1<list.length→I q≤I (q+1)∧I (q+1)≤va.length∧I (q+1)≤ma.length) (hm2:∀ q,q+1<list.length→J q≤J (q+1)∧J (q+1)≤vb.length∧J (q+1)≤mb.length)
  (ht1:∀ q,q+1<list.length→st_go va ma (I (q+1)-I q) (I q) (⟨⟨1,0⟩,true⟩,true)=some (R1 q)) (ht2:∀ q,q+1<list.length→st_go vb mb (J (q+1)-J q) (J q) (⟨⟨1,0⟩,true⟩,true)=some (R2 q)) :
  Calls Tryd.prog 35 #[.agg #[.slice A0 al.length c0,.slice A1 va.length c1,.slice A2 ma.length c2],.agg #[.slice B0 bs.length d0,.slice B1 vb.length d1,.slice B2 mb.length d2]] w fun e w'=>∃ x0 x1 x2 y0 y1 y2:Sl,e=.returned (.tuple #[.agg #[encSl x0,encSl x1,encSl x2],.agg #[encSl y0,encSl y1,encSl y2]]) ∧
   (x0.2.1=list.length∧x0.2.1≤x0.2.2∧Kd.C (Kd.slice 53 k53) w' x0.1 list.length (al_bl list list.length))∧(x1.2.1=list.length-1∧x1.2.1≤x1.2.2∧Kd.C k60 w' x1.1 (list.length-1) (al_vl R1 (list.length-1)))∧(x2.2.1=list.length-1∧x2.2.1≤x2.2.2∧Kd.C Kd.bool w' x2.1 (list.length-1) (al_ml R1 (list.length-1))) ∧
   (y0.2.1=list.length∧y0.2.1≤y0.2.2∧Kd.C (Kd.slice 53 k53) w' y0.1 list.length (al_bl list list.length))∧(y1.2.1=list.length-1∧y1.2.1≤y1.2.2∧Kd.C k60 w' y1.1 (list.length-1) (al_vl R2 (list.length-1)))∧(y2.2.1=list.length-1∧y2.2.1≤y2.2.2∧Kd.C Kd.bool w' y2.1 (list.length-1) (al_ml R2 (list.length-1)))∧Below w.heap.size w w':=by
 have hu60:=Tryd.underlying60;have hu58:=Tryd.underlying58;have hu32:=Tryd.underlying32;have HM:=am_ (And.intro hn (And.intro hI (And.intro hm1 (And.intro hm2 (And.intro ht1 ht2)))));have HZ:=am_ (And.intro hz (And.intro hc0 (And.intro hc1 (And.intro hc2 (And.intro hd0 (And.intro hd1 hd2))))));have HG0:=am_ hG0;have HG1:=am_ hG1;have HRA:=am_ (And.intro hr0 (And.intro hr1 hr2));have HRB:=am_ (And.intro hs0 (And.intro hs1 hs2));have HCR:=am_ (fun(W:World) (hB:Below w.heap.size w W)=>cr_walk A0 B0 c0 d0 (A1,va.length,c1) (A2,ma.length,c2) (B1,vb.length,d1) (B2,mb.length,d2) al bs W (Kd.C_below hr0 hB) hc0 (Kd.C_below hs0 hB) hd0 ha hb hra hrb);rw [← hl]at HCR;clear hn hI hm1 hm2 ht1 ht2 hz hc0 hc1 hc2 hd0 hd1 hd2 hG0 hG1 hr0 hr1 hr2 hs0 hs1 hs2 ha hb hra hrb hl
 go_enter Tryd.func35,Tryd.ntmps35
 go_upto_region 1 with(first
  |((with_reducible refine gate_dst (N:=2) rfl ?_);refine box_y 2 #[.slice A0 al.length c0,.slice A1 va.length c1,.slice A2 ma.length c2] 32 (h:=?_);intro gA hgA w1 hbox hb1;clear hgA;have PA:=am_ hbox;have HB:=am_ hb1;clear hbox hb1)
  |((with_reducible refine gate_dst (N:=3) rfl ?_);refine box_y 3 #[.slice B0 bs.length d0,.slice B1 vb.length d1,.slice B2 mb.length d2] 32 (h:=?_);intro gB hgB w2 hbox hb1;clear hgB;replace PA:=am_ (blk_below PA.out hb1);have PB:=am_ hbox;replace HB:=am_ (below_step HB.out hb1);clear hbox hb1)
  |((with_reducible refine gate_dst (N:=4) rfl ?_);refine box_y 4 #[.slice none 0 0,.slice none 0 0,.slice none 0 0] 32 (h:=?_);intro gC hgC w3 hbox hb1;have NC:=am_ (show w.heap.size≤gC by rw [hgC];exact HB.out.size);clear hgC;replace PA:=am_ (blk_below PA.out hb1);replace PB:=am_ (blk_below PB.out hb1);have PC:=am_ hbox;replace HB:=am_ (below_step HB.out hb1);clear hbox hb1)
  |((with_reducible refine gate_dst (N:=5) rfl ?_);refine box_y 5 #[.slice none 0 0,.slice none 0 0,.slice none 0 0] 32 (h:=?_);intro gD hgD w4 hbox hb1;have ND:=am_ (show w.heap.size≤gD by rw [hgD];exact HB.out.size);have NCD:=am_ (show gC≠gD by have:=blk_lt PC.out;omega);clear hgD;replace PA:=am_ (blk_below PA.out hb1);replace PB:=am_ (blk_below PB.out hb1);replace PC:=am_ (blk_below PC.out hb1);have PD:=am_ hbox;replace HB:=am_ (below_step HB.out hb1);clear hbox hb1))
 have ag:=am_ (And.intro (blk_lt PC.out) (blk_lt PD.out));have a0:=cl_ PA 0;have a1:=cl_ PA 1;have a2:=cl_ PA 2;have b0:=cl_ PB 0;have b1:=cl_ PB 1;have b2:=cl_ PB 2
 go_upto_region 2 with(first
  |(go_at_call 58;refine(HCR.out _ HB.out).mono ?_;rintro e wL ⟨vL,rfl,hN,hbL⟩;have HNL:=am_ hN;replace PA:=am_ (blk_below PA.out hbL);replace PB:=am_ (blk_below PB.out hbL);replace PC:=am_ (blk_below PC.out hbL);replace PD:=am_ (blk_below PD.out hbL);replace HB:=am_ (below_step HB.out hbL);clear hN hbL a0 a1 a2 b0 b1 b2)
  |((with_reducible refine gate_dst (N:=6) rfl ?_);refine box_y 6 #[.slice none 0 0,.slice none 0 0,.slice none 0 0] 32 (h:=?_);intro g6 hg6 w6 hbox hb6;have N6:=am_ (show wL.heap.size≤g6 by omega);clear hg6;have P6:=am_ hbox;have HL:=am_ hb6;clear hbox hb6)
  |((with_reducible refine gate_dst (N:=7) rfl ?_);refine box_y 7 #[.slice none 0 0,.slice none 0 0,.slice none 0 0] 32 (h:=?_);intro g7 hg7 w7 hbox hb7;have N7:=am_ (show wL.heap.size≤g7 by have:=HL.out.size;omega);have N67:=am_ (show g6≠g7 by have:=blk_lt P6.out;omega);clear hg7;have P7:=am_ hbox;replace P6:=am_ (blk_below P6.out hb7);replace HL:=am_ (below_step HL.out hb7);clear hbox hb7;have z0:=cl_ P6 0;have z1:=cl_ P6 1;have z2:=cl_ P6 2;have z3:=cl_ P7 0;have z4:=cl_ P7 1;have z5:=cl_ P7 2;have f0:=blk_frozen P6.out 0;have f1:=blk_frozen P6.out 1;have f2:=blk_frozen P6.out 2;have f3:=blk_frozen P7.out 0;have f4:=blk_frozen P7.out 1;have f5:=blk_frozen P7.out 2;have n67:=N67.out;have n76:=Ne.symm N67.out))
 have HW0:al_W wL g6 g7 0 w7 #[.slice none 0 0,.slice none 0 0,.slice none 0 0] #[.slice none 0 0,.slice none 0 0,.slice none 0 0] (.slice none 0 0) (.slice none 0 0) (.slice none 0 0) (.slice none 0 0) (.slice none 0 0) (.slice none 0 0) [] [] [] [] [] []:=⟨HL.out,P6.out,P7.out,⟨Kd.R_nil _ _ _ _ _,Kd.R_nil _ _ _ _ _,Kd.R_nil _ _ _ _ _,Kd.R_nil _ _ _ _ _,Kd.R_nil _ _ _ _ _,Kd.R_nil _ _ _ _ _,fun k hk=>(by simp [Value.ownBlock]at hk),fun k hk=>(by simp [Value.ownBlock]at hk),by simp [Value.ownBlock],by simp [Value.ownBlock]⟩⟩;have HW1:al_W wL g6 g7 0 _ #[.slice none 0 0,.slice none 0 0,.slice none 0 0] #[.slice none 0 0,.slice none 0 0,.slice none 0 0] (.slice none 0 0) (.slice none 0 0) (.slice none 0 0) (.slice none 0 0) (.slice none 0 0) (.slice none 0 0) [] [] [] [] [] []:=(((((HW0.set6 N6.out n76 0 (.slice none 0 0)).set6 N6.out n76 1 (.slice none 0 0)).set6 N6.out n76 2 (.slice none 0 0)).set7 N7.out n67 0 (.slice none 0 0)).set7 N7.out n67 1 (.slice none 0 0)).set7 N7.out n67 2 (.slice none 0 0);generalize hWS:((((((w7.setCell ⟨g6,0,none⟩ (.slice none 0 0)).setCell ⟨g6,1,none⟩ (.slice none 0 0)).setCell ⟨g6,2,none⟩ (.slice none 0 0)).setCell ⟨g7,0,none⟩ (.slice none 0 0)).setCell ⟨g7,1,none⟩ (.slice none 0 0)).setCell ⟨g7,2,none⟩ (.slice none 0 0))=wS at HW1 ⊢;clear hWS z0 z1 z2 z3 z4 z5 f0 f1 f2 f3 f4 f5 n67 n76 HL P6 P7 HW0;have HWS:=am_ HW1;clear HW1;obtain⟨AL,cL,rfl⟩:=Kd.N_slice HNL.out;obtain⟨SL,hSL⟩:=al_list HNL.out;have HSL:=am_ hSL;have HN1:=am_ (show 0<wL.heap.size from Nat.lt_of_le_of_lt (Nat.zero_le _) (blk_lt PA.out));clear hSL
 go_wp2
 go_loopg [20] list.length (fun gg s20 wr=>∃ (k:Nat) (u1 v1 m1 u2 v2 m2:Value),k≤list.length∧list.length-k≤gg∧s20=.int .i64 (k:Int)∧Aside0 (al_W wL g6 g7 0 wr #[u1,v1,m1] #[u2,v2,m2] u1 v1 m1 u2 v2 m2 ((List.range k).map SL) (al_bl list k) (al_vl R1 (k-1)) (al_vl R2 (k-1)) (al_ml R1 (k-1)) (al_ml R2 (k-1))))
 case atStart=>exact⟨0,_,_,_,_,_,_,Nat.zero_le _,by omega,rfl,HWS⟩
 case round =>
  clear HWS;obtain⟨k,u1,v1,m1,u2,v2,m2,hk,hgg,rfl,HW⟩:=hrel
  by_cases hlt:k<list.length
  ·
   have hki:(k:Int)<(list.length:Int):=by omega
   obtain⟨ad,e1,hsl,hsc,hsC,h0,h1,h2⟩:=HSL.out k hlt;subst e1;obtain⟨hi0,hi1,hi2⟩:=HM.out.2.1 k hlt;rw [hi0]at h0;rw [hi1]at h1;have k0:=(HW.out.L.cell (World.block_lt_of_cell? _ _ h0)).trans h0;have k1:=(HW.out.L.cell (World.block_lt_of_cell? _ _ h1)).trans h1;have k2:=(HW.out.L.cell (World.block_lt_of_cell? _ _ h2)).trans h2;have HE:=am_ (And.intro hsl (And.intro hsc (And.intro hsC (And.intro hi2 (And.intro hk (And.intro hgg hlt))))));clear hsl hsc hsC h0 h1 h2 hi0 hi1 hi2 hk hgg hlt
   go_upto_region 5 with((with_reducible refine gate_dst (N:=10) rfl ?_);refine box_y 10 #[.int .i64 0,.int .i64 0,.slice none 0 0] 92 (h:=?_);intro g10 hg10 ap hbox hb10;have N10:=am_ (show wL.heap.size≤g10 by rw [hg10];exact HW.out.L.size);clear hg10;have P10:=am_ hbox;replace HW:=am_ (HW.out.below hb10);clear hbox hb10;have z0:=cl_ P10 0;have z1:=cl_ P10 1;have z2:=cl_ P10 2;have f0:=blk_frozen P10.out 0;have f1:=blk_frozen P10.out 1;have f2:=blk_frozen P10.out 2)
   have q1:=blk_set P10.out 0 (.int .i64 (I k));have q2:=blk_set q1 1 (.int .i64 (J k));have q3:=blk_set q2 2 (encSl (SL k));have HW2:=am_ (((HW.out.far P10.out (.inr rfl) N10.out 0 (.int .i64 (I k))).far q1 (.inr rfl) N10.out 1 (.int .i64 (J k))).far q2 (.inr rfl) N10.out 2 (encSl (SL k)));have P10b:=am_ (q3.trans (show _=some (Obj.cells #[.int .i64 (I k),.int .i64 (J k),encSl (SL k)] 92 (0,0)) from rfl));generalize hWX:(((ap.setCell ⟨g10,0,none⟩ (.int .i64 (I k))).setCell ⟨g10,1,none⟩ (.int .i64 (J k))).setCell ⟨g10,2,none⟩ (encSl (SL k)))=wX at HW2 P10b q1 q2 q3 ⊢;clear hWX z0 z1 z2 f0 f1 f2 q1 q2 q3 HW P10 k0 k1 k2;have HW:=HW2;have P10:=P10b;clear HW2 P10b;refine start_ (n:=17) (S:=fun w'=>w'.cell? ⟨g6,0,none⟩=some u1∧w'.cell? ⟨g7,0,none⟩=some u2∧w'.cell? ⟨g10,2,none⟩=some (encSl (SL k))) (ds:=[14,16]) #[false,false,false,false,false,false,false,false,false,false,false,false,false,false,false,false,false] (by kernel_rfl) rfl rfl ⟨(blk_cell HW.out.p6 0).trans rfl,(blk_cell HW.out.p7 0).trans rfl,cl_ P10 2⟩ (fun hHeld=>?_);have hdr:Below wX.heap.size wX wX.drew:=below_drew (Below.refl _ _);replace HW:=am_ (HW.out.below hdr);replace P10:=bd_ P10;clear hdr;generalize wX.drew=w5 at HW P10 hHeld ⊢;refine rp_ 0 25 ?_;refine rp_ 2 27 ?_;refine rp_ 6 31 ?_;refine rp_ 8 33 ?_;refine rt_ 1 26 rfl hHeld (by rintro w' ⟨s0,s1,s2⟩;go_simp;with_reducible rfl) ?_;refine rt_ 3 28 rfl hHeld (by rintro w' ⟨s0,s1,s2⟩;go_simp;with_reducible rfl) ?_;refine rt_ 7 32 rfl hHeld (by rintro w' ⟨s0,s1,s2⟩;go_simp;with_reducible rfl) ?_;refine rt_ 9 34 rfl hHeld (by rintro w' ⟨s0,s1,s2⟩;go_simp;with_reducible rfl) ?_;refine ro1_ 4 (some 29) (fun K hK=>?_);refine value_ (w1:=w5.alloc (.cells #[encSl (SL k)] 50 (0,0))) (v:=.slice (some ⟨w5.heap.size,0,none⟩) 1 1) (by rfl) rfl (by first|(go_simp;done)|(go_simp;rfl)) ?_;refine hK.out _ _ ⟨(blk_cell (blk_alloc HW.out.p6 _) 0).trans rfl,(blk_cell (blk_alloc HW.out.p7 _) 0).trans rfl,(blk_cell (blk_alloc P10.out _) 2).trans rfl⟩ (fun hHeld=>?_);clear hK K;refine norm_y 29 (h:=?_);refine ro1_ 5 (some 30) (fun K hK=>?_);refine Kd.R_append_step kOpq (w0:=wL) wL.heap.size (by rfl) (.tmp 26) (.tmp 29) 29 50 (.slice none 0 0) 24 rfl Tryd.underlying29 info50 rfl (by decide) (by omega) u1 ((List.range k).map SL) (SL k) [encSl (SL k)] (fun _=>True) (fun _=>False) rfl rfl rfl (fun _ hk=>hk.elim) (fun _ _=>trivial) HW.out.R.U1 HW.out.L HW.out.L.size (by rw [List.length_map,List.length_range];have:=HM.out.1;have:=HE.out.2.2.2.2.2.2;omega) ?_;intro u1' w6 hr6 hb6 hg6 hat6;replace P10:=am_ (blk_grown P10.out hg6 (al_typed P10.out (Kd.R_typed HW.out.R.U1) (by decide)));replace HW:=am_ (HW.out.appU1 hb6 hr6 hg6 hat6);clear hr6 hb6 hg6 hat6 hHeld;refine hK.out _ _ ⟨(blk_cell HW.out.p6 0).trans rfl,(blk_cell HW.out.p7 0).trans rfl,cl_ P10 2⟩ (fun hHeld=>?_);clear hK K;refine norm_y 30 (h:=?_);refine rp_ 13 38 ?_
   have hcl:Calls Tryd.prog 59 #[encSl (SL k)] w6 fun e w'=>∃ v0_:Value,e=.returned v0_∧Kd.R k53 53 w' w6.heap.size (fun _=>True) v0_ (rd_T92 list (k:Int)).f2∧Below w6.heap.size w6 w':=by
    rw [show encSl (SL k)=.slice (SL k).1 (rd_T92 list (k:Int)).f2.length (SL k).2.2 by rw [← HE.out.1]];exact impl_Sym_59.calls (SL k).1 (SL k).2.2 (rd_T92 list (k:Int)).f2 (rd_T92 list (k:Int)).f2 w6 (Kd.C_below (Kd.F_now HE.out.2.2.1) HW.out.L) (by rw [← HE.out.1];exact HE.out.2.1) (if_pos HE.out.2.2.2.1)
   refine ro1_ 10 (some 35) (fun K hK=>?_);refine gs_ Tryd.func59 #[encSl (SL k)] (h:=?_);refine hcl.mono ?_;rintro e w7' ⟨v35,rfl,hrv,hbv⟩;refine⟨_,rfl,?_⟩;clear hcl;have hs6:=HW.out.L.size;replace HW:=am_ (HW.out.below hbv);replace P10:=am_ (blk_below P10.out hbv);have HRV:=am_ (Kd.R_lower hrv hs6);obtain⟨Av,cv,rfl⟩:=Kd.R_slice hrv;clear hrv hbv hHeld hs6;refine hK.out _ _ ⟨(blk_cell HW.out.p6 0).trans rfl,(blk_cell HW.out.p7 0).trans rfl,cl_ P10 2⟩ (fun hHeld=>?_);clear hK K;refine norm_y 35 (h:=?_);refine ro1_ 11 (some 36) (fun K hK=>?_);refine value_ (w1:=w7'.alloc (.cells #[.slice Av (rd_T92 list (k:Int)).f2.length cv] 50 (0,0))) (v:=.slice (some ⟨w7'.heap.size,0,none⟩) 1 1) (by rfl) rfl (by first|(go_simp;done)|(go_simp;rfl)) ?_;refine hK.out _ _ ⟨(blk_cell (blk_alloc HW.out.p6 _) 0).trans rfl,(blk_cell (blk_alloc HW.out.p7 _) 0).trans rfl,(blk_cell (blk_alloc P10.out _) 2).trans rfl⟩ (fun hHeld=>?_);clear hK K;refine norm_y 36 (h:=?_);refine ro1_ 12 (some 37) (fun K hK=>?_);refine Kd.R_append_step (Kd.slice 53 k53) (w0:=wL) wL.heap.size (by rfl) (.tmp 32) (.tmp 36) 29 50 (.slice none 0 0) 24 rfl Tryd.underlying29 info50 rfl (by decide) (by omega) u2 (al_bl list k) (rd_T92 list (k:Int)).f2 [.slice Av (rd_T92 list (k:Int)).f2.length cv] (fun k=>some k≠u1'.ownBlock) (fun k=>some k≠u1'.ownBlock∧some k≠u2.ownBlock) rfl rfl ⟨_,rfl,Kd.R_mono (Kd.R_apart' (Kd.R_apart' HRV.out (Kd.R_typed HW.out.R.U1) (by decide)) (Kd.R_typed HW.out.R.U2) (by decide)) (fun _ hk=>⟨hk.1.2,hk.2⟩)⟩ (fun _ hk=>hk) (fun k hk he=>by have:=Kd.R_lt HW.out.R.U1 k he.symm;omega) HW.out.R.U2 HW.out.L HW.out.L.size (by rw [al_bl,List.length_map,List.length_range];have:=HM.out.1;have:=HE.out.2.2.2.2.2.2;omega) ?_;intro u2' w8 hr8 hb8 hg8 hat8;replace P10:=am_ (blk_grown P10.out hg8 (al_typed P10.out (Kd.R_typed HW.out.R.U2) (by decide)));replace HW:=am_ (HW.out.appU2 hb8 hr8 hg8);clear hr8 hb8 hg8 hat8 hHeld HRV;refine hK.out _ _ ⟨(blk_cell HW.out.p6 0).trans rfl,(blk_cell HW.out.p7 0).trans rfl,cl_ P10 2⟩ (fun hHeld=>?_);clear hK K;refine norm_y 37 (h:=?_);obtain⟨Au,cu,hu1⟩:=Kd.R_slice HW.out.R.U1;obtain⟨Aw,cw,hu2⟩:=Kd.R_slice HW.out.R.U2;subst hu1;subst hu2;refine rl1_ 14 none (fun K hK=>?_);have z0:w8.cell? ⟨g6,0,none⟩=some u1:=(blk_cell HW.out.p6 0).trans rfl;have f0:=blk_frozen HW.out.p6 0;refine skip_ (w1:=w8.setCell ⟨g6,0,none⟩ (.slice Au ((List.range k).map SL++[SL k]).length cu)) (by rfl) rfl (by go_simp) ?_;clear z0 f0;have hW9:=HW.out.set6 N6.out (Ne.symm N67.out) 0 (.slice Au ((List.range k).map SL++[SL k]).length cu);have n10:g10≠g6:=fun he=>by have h1:=P10.out;have h2:=HW.out.p6;rw [he,h2]at h1;injection h1 with h1;injection h1 with _ h1;exact absurd h1 (by decide)
   have n11:g10≠g7:=fun he=>by have h1:=P10.out;have h2:=HW.out.p7;rw [he,h2]at h1;injection h1 with h1;injection h1 with _ h1;exact absurd h1 (by decide)
   have N10b:=am_ (And.intro n10 n11);replace P10:=am_ (blk_far P10.out n10 (p:=⟨g6,0,none⟩) (.slice Au ((List.range k).map SL++[SL k]).length cu));replace HW:=am_ hW9;clear hW9 n10 n11 hHeld;refine hK.out _ _ ?_;clear hK K;generalize w8.setCell ⟨g6,0,none⟩ (.slice Au ((List.range k).map SL++[SL k]).length cu)=w9 at HW P10 ⊢;refine rp_ 15 39 ?_;refine rl1_ 16 none (fun K hK=>?_);have z0:w9.cell? ⟨g7,0,none⟩=some u2:=(blk_cell HW.out.p7 0).trans rfl;have f0:=blk_frozen HW.out.p7 0;refine skip_ (w1:=w9.setCell ⟨g7,0,none⟩ (.slice Aw (al_bl list k++[(rd_T92 list (k:Int)).f2]).length cw)) (by rfl) rfl (by go_simp) ?_;clear z0 f0;have hW9:=HW.out.set7 N7.out N67.out 0 (.slice Aw (al_bl list k++[(rd_T92 list (k:Int)).f2]).length cw);replace P10:=am_ (blk_far P10.out N10b.out.2 (p:=⟨g7,0,none⟩) (.slice Aw (al_bl list k++[(rd_T92 list (k:Int)).f2]).length cw));replace HW:=am_ hW9;clear hW9;refine hK.out _ _ ?_;clear hK K;generalize w9.setCell ⟨g7,0,none⟩ (.slice Aw (al_bl list k++[(rd_T92 list (k:Int)).f2]).length cw)=wY at HW P10 ⊢;refine done_ (by kernel_rfl) ?_;have HW':al_W wL g6 g7 0 wY #[.slice Au ((List.range k).map SL++[SL k]).length cu,v1,m1] #[.slice Aw (al_bl list k++[(rd_T92 list (k:Int)).f2]).length cw,v2,m2] (.slice Au ((List.range k).map SL++[SL k]).length cu) v1 m1 (.slice Aw (al_bl list k++[(rd_T92 list (k:Int)).f2]).length cw) v2 m2 ((List.range k).map SL++[SL k]) (al_bl list k++[(rd_T92 list (k:Int)).f2]) (al_vl R1 (k-1)) (al_vl R2 (k-1)) (al_ml R1 (k-1)) (al_ml R2 (k-1)):=HW.out;rw [show al_bl list k++[(rd_T92 list (k:Int)).f2]=al_bl list (k+1) from al_range _ k,show(List.range k).map SL++[SL k]=(List.range (k+1)).map SL from al_range _ k]at HW';replace HW:=am_ HW';clear HW'
   by_cases hk0:k=0
   ·
    have c0a:((k:Int) == 0)=true:=beq_iff_eq.mpr (by omega)
    go_wp2
    go_roundg (list.length-(k+1))
    case measure=>have:=HE.out.2.2.2.2.2.2;have:=HE.out.2.2.2.2.2.1;omega
    case rel=>exact⟨k+1,_,_,_,_,_,_,HE.out.2.2.2.2.2.2,Nat.le_refl _,by subst hk0;rfl,by subst hk0;exact HW⟩
   obtain⟨q,hkq⟩:∃ q,k=q+1:=⟨k-1,by omega⟩;have c0a:((k:Int) == 0)=false:=beq_eq_false_iff_ne.mpr (by omega);have hW:=HW.out;rw [show k-1=q by omega]at hW;replace HW:=am_ hW;have HKQ:=am_ hkq;have hjw:IntKind.i64.wrap ((k:Int)-1)=(q:Int):=by rw [i64_w];have:=HM.out.1;have:=HE.out.2.2.2.2.2.2;unfold wrap64;omega
   have hqi:(q:Int)<(list.length:Int):=by have:=HE.out.2.2.2.2.2.2;omega
   have p2:=eq_true (show(0:Int)≤(q:Int) by omega);have q2:=eq_true hqi;have hql:q+1<list.length:=by rw [← hkq];exact HE.out.2.2.2.2.2.2
   obtain⟨ad',ead,-,-,-,h0,h1,-⟩:=HSL.out q (by omega)
   injection ead with ead
   subst ead;obtain⟨hi0,hi1,-⟩:=HM.out.2.1 q (by omega);rw [hi0]at h0;rw [hi1]at h1;have HQ:=am_ (And.intro h0 (And.intro h1 hql));clear hW hkq hk0 hqi h0 h1 hi0 hi1 hql;generalize hSL:(List.range (k+1)).map SL=sl at HW;generalize hBL:al_bl list (k+1)=bl at HW;have HSB:=am_ (And.intro hSL hBL);generalize hu1:(Value.slice Au sl.length cu)=u1n at HW;generalize hu2:(Value.slice Aw bl.length cw)=u2n at HW;clear hSL hBL hu1 hu2
   go_wp2
   refine start_ (n:=16) (S:=fun w'=>w'.cell? ⟨gA,0,none⟩=some (.slice A0 al.length c0)∧w'.cell? ⟨gA,1,none⟩=some (.slice A1 va.length c1)∧w'.cell? ⟨gA,2,none⟩=some (.slice A2 ma.length c2)∧w'.cell? (ad.add (q*3))=some (.int .i64 (I q))∧w'.cell? ⟨g10,0,none⟩=some (.int .i64 (I k))) (ds:=[]) #[false,false,false,false,false,false,false,false,false,false,false,false,false,false,false,false] (by kernel_rfl) rfl rfl ⟨cl_ ⟨blk_below PA.out HW.out.L⟩ 0,cl_ ⟨blk_below PA.out HW.out.L⟩ 1,cl_ ⟨blk_below PA.out HW.out.L⟩ 2,(HW.out.L.cell (World.block_lt_of_cell? _ _ HQ.out.1)).trans HQ.out.1,cl_ P10 0⟩ (fun hHeld=>?_);have hdr:Below wY.heap.size wY wY.drew:=below_drew (Below.refl _ _);replace HW:=am_ (HW.out.below hdr);replace P10:=bd_ P10;clear hdr;generalize wY.drew=wZ at HW P10 hHeld ⊢;refine rp_ 1 44 ?_;refine rp_ 2 45 ?_;refine rp_ 3 46 ?_;refine rp_ 4 47 ?_;refine rp_ 5 48 ?_;refine rp_ 7 50 ?_;refine rt_ 0 43 rfl hHeld (by rintro w' ⟨s0,s1,s2,s3,s4⟩;go_simp;with_reducible rfl) ?_;refine rt_ 6 49 rfl hHeld (by rintro w' ⟨s0,s1,s2,s3,s4⟩;go_simp;with_reducible rfl) ?_;refine rt_ 8 51 rfl hHeld (by rintro w' ⟨s0,s1,s2,s3,s4⟩;go_simp;with_reducible rfl) ?_
   have hst:∀ W,Below wL.heap.size wL W→Calls Tryd.prog 60 #[.agg #[.slice A0 al.length c0,.slice A1 va.length c1,.slice A2 ma.length c2],.int .i64 (I q),.int .i64 (I k)] W fun e w'=>e=.returned (.tuple #[.agg #[.int .i64 (R1 q).1.f0.f0,.int .i64 (R1 q).1.f0.f1,.bool (R1 q).1.f1],.bool (R1 q).2])∧Below W.heap.size W w':=fun W hW=>by
    have hB:=below_step HB.out hW;obtain⟨y1,y2,y3⟩:=HM.out.2.2.1 q HQ.out.2.2;have y4:=HM.out.2.2.2.2.1 q HQ.out.2.2;rw [← HKQ.out]at y1 y2 y3 y4;exact st_walk (I q) (I k) (A0,al.length,c0) A1 A2 c1 c2 va ma (R1 q) W (GL1.below HG0.out hB) (GL0.below HG1.out hB) (Kd.C_below HRA.out.2.1 hB) (Kd.C_below HRA.out.2.2 hB) y1 y2 y3 HZ.out.1.1 HZ.out.1.2.1 HZ.out.2.2.1 HZ.out.2.2.2.1 y4
   refine join_ 2 #[true,true,true,true,true,true,true,true,true,true,true,true,true,true,false,false] (fun g:Nat=>[(52,.tuple #[.agg #[.int .i64 (R1 q).1.f0.f0,.int .i64 (R1 q).1.f0.f1,.bool (R1 q).1.f1],.bool (R1 q).2]),(42,.tuple #[.agg #[.int .i64 (R1 q).1.f0.f0,.int .i64 (R1 q).1.f0.f1,.bool (R1 q).1.f1],.bool (R1 q).2]),(53,.agg #[.int .i64 (R1 q).1.f0.f0,.int .i64 (R1 q).1.f0.f1,.bool (R1 q).1.f1]),(54,.bool (R1 q).2),(11,.pointer (some ⟨g,0,none⟩))]) (fun g W'=>al_W wL g6 g7 g W' #[u1n,v1,m1] #[u2n,v2,m2] u1n v1 m1 u2n v2 m2 sl bl (al_vl R1 q) (al_vl R2 q) (al_ml R1 q) (al_ml R2 q)∧W'.heap[g10]?=some (.cells #[.int .i64 (I k),.int .i64 (J k),encSl (SL k)] 92 (0,0))∧W'.heap[g]?=some (.cells #[.int .i64 0,.int .i64 0,.bool false] 60 (0,0))∧wL.heap.size≤g) ?_ ?_;rotate_left
   ·
    intro hcont;refine two_ (i:=9) (j:=13) (Ni:=some 52) (Nj:=some 11) #[true,true,true,true,true,true,true,true,true,true,false,false,false,false,false,false] #[true,true,true,true,true,true,true,true,true,false,false,false,false,true,false,false] rfl rfl rfl rfl (by kernel_rfl) (by decide) (by decide) (fun K hK=>?_) (fun K hK=>?_)
    ·
     refine gs_ Tryd.func60 #[.agg #[.slice A0 al.length c0,.slice A1 va.length c1,.slice A2 ma.length c2],.int .i64 (I q),.int .i64 (I k)] (h:=?_);refine(hst _ HW.out.L).mono ?_;rintro e wV ⟨rfl,hbv⟩;refine⟨_,rfl,?_⟩;replace HW:=am_ (HW.out.below hbv);replace P10:=am_ (blk_below P10.out hbv);clear hbv hHeld;refine hK.out _ _ ⟨cl_ ⟨blk_below PA.out HW.out.L⟩ 0,cl_ ⟨blk_below PA.out HW.out.L⟩ 1,cl_ ⟨blk_below PA.out HW.out.L⟩ 2,(HW.out.L.cell (World.block_lt_of_cell? _ _ HQ.out.1)).trans HQ.out.1,cl_ P10 0⟩ (fun hHeld=>?_);clear hK K;refine norm_y 52 (h:=?_);refine rp_ 10 42 ?_;refine rp_ 11 53 ?_;refine rp_ 12 54 ?_;refine ro1_ 13 (some 11) (fun K hK=>?_);refine value_ (w1:=wV.alloc (.cells #[.int .i64 0,.int .i64 0,.bool false] 60 (0,0))) (v:=.pointer (some ⟨wV.heap.size,0,none⟩)) (by rfl) rfl (by first|(go_simp;done)|(go_simp;rfl)) ?_;have hal:Below wV.heap.size wV (wV.alloc (.cells #[.int .i64 0,.int .i64 0,.bool false] 60 (0,0))):=below_alloc (Below.refl _ _) _;have hle:=HW.out.L.size;replace HW:=am_ ((HW.out.box (Nat.le_refl _)).below hal);replace P10:=am_ (blk_below P10.out hal);clear hal hHeld;refine hK.out _ _ ⟨cl_ ⟨blk_below PA.out HW.out.L⟩ 0,cl_ ⟨blk_below PA.out HW.out.L⟩ 1,cl_ ⟨blk_below PA.out HW.out.L⟩ 2,(HW.out.L.cell (World.block_lt_of_cell? _ _ HQ.out.1)).trans HQ.out.1,cl_ P10 0⟩ (fun hHeld=>?_);clear hK K;exact norm_ (by first|(simp only [putAll,Act.put,List.setIfInBounds_toArray,List.set_cons_zero,List.set_cons_succ,i64_w,i32_w];done)|(simp only [putAll,Act.put,List.setIfInBounds_toArray,List.set_cons_zero,List.set_cons_succ,i64_w,i32_w];rfl)) (hcont wV.heap.size _ ⟨HW.out,P10.out,blk_new _ _,hle⟩)
    ·
     refine value_ (w1:=wZ.alloc (.cells #[.int .i64 0,.int .i64 0,.bool false] 60 (0,0))) (v:=.pointer (some ⟨wZ.heap.size,0,none⟩)) (by rfl) rfl (by first|(go_simp;done)|(go_simp;rfl)) ?_;have hal:Below wZ.heap.size wZ (wZ.alloc (.cells #[.int .i64 0,.int .i64 0,.bool false] 60 (0,0))):=below_alloc (Below.refl _ _) _;have hle:=HW.out.L.size;replace HW:=am_ ((HW.out.box (Nat.le_refl _)).below hal);replace P10:=am_ (blk_below P10.out hal);have P11:=am_ (blk_new wZ (.cells #[.int .i64 0,.int .i64 0,.bool false] 60 (0,0)));clear hal hHeld;refine hK.out _ _ ⟨cl_ ⟨blk_below PA.out HW.out.L⟩ 0,cl_ ⟨blk_below PA.out HW.out.L⟩ 1,cl_ ⟨blk_below PA.out HW.out.L⟩ 2,(HW.out.L.cell (World.block_lt_of_cell? _ _ HQ.out.1)).trans HQ.out.1,cl_ P10 0⟩ (fun hHeld=>?_);clear hK K;refine norm_y 11 (h:=?_);refine ro1_ 9 (some 52) (fun K hK=>?_);refine gs_ Tryd.func60 #[.agg #[.slice A0 al.length c0,.slice A1 va.length c1,.slice A2 ma.length c2],.int .i64 (I q),.int .i64 (I k)] (h:=?_);refine(hst _ HW.out.L).mono ?_;rintro e wV ⟨rfl,hbv⟩;refine⟨_,rfl,?_⟩;replace HW:=am_ (HW.out.below hbv);replace P10:=am_ (blk_below P10.out hbv);replace P11:=am_ (blk_below P11.out hbv);clear hbv hHeld;refine hK.out _ _ ⟨cl_ ⟨blk_below PA.out HW.out.L⟩ 0,cl_ ⟨blk_below PA.out HW.out.L⟩ 1,cl_ ⟨blk_below PA.out HW.out.L⟩ 2,(HW.out.L.cell (World.block_lt_of_cell? _ _ HQ.out.1)).trans HQ.out.1,cl_ P10 0⟩ (fun hHeld=>?_);clear hK K;refine norm_y 52 (h:=?_);refine rp_ 10 42 ?_;refine rp_ 11 53 ?_;refine rp_ 12 54 ?_;exact norm_ (by first|(simp only [putAll,Act.put,List.setIfInBounds_toArray,List.set_cons_zero,List.set_cons_succ,i64_w,i32_w];done)|(simp only [putAll,Act.put,List.setIfInBounds_toArray,List.set_cons_zero,List.set_cons_succ,i64_w,i32_w];rfl)) (hcont wZ.heap.size _ ⟨HW.out,P10.out,P11.out,hle⟩)
   clear hHeld hst HW P10;rintro g11 wV ⟨hW,h10,h11,h11n⟩;have HW:=am_ hW;have P10:=am_ h10;have P11:=am_ h11;have N11:=am_ h11n;clear hW h10 h11 h11n;refine norm_ (a':=?_) ?_ ?_;rotate_left
   ·
    simp only [putAll,Act.put,List.setIfInBounds_toArray,List.set_cons_zero,List.set_cons_succ,i64_w,i32_w];rfl
   refine ro1_ 14 none (fun K hK=>?_);have z0:=cl_ P11 0;have z1:=cl_ P11 1;have z2:=cl_ P11 2;have f0:=blk_frozen P11.out 0;have f1:=blk_frozen P11.out 1;have f2:=blk_frozen P11.out 2;refine skip_ (w1:=((wV.setCell ⟨g11,0,none⟩ (.int .i64 (R1 q).1.f0.f0)).setCell ⟨g11,1,none⟩ (.int .i64 (R1 q).1.f0.f1)).setCell ⟨g11,2,none⟩ (.bool (R1 q).1.f1)) (by rfl) rfl (by go_simp) ?_;clear z0 z1 z2 f0 f1 f2;have hW9:=HW.out.val P11.out N11.out (.int .i64 (R1 q).1.f0.f0) (.int .i64 (R1 q).1.f0.f1) (.bool (R1 q).1.f1);have h10:=st_far P10.out (al_neq P10.out P11.out (by decide)) (.int .i64 (R1 q).1.f0.f0) (.int .i64 (R1 q).1.f0.f1) (.bool (R1 q).1.f1);have h11:=st_put P11.out rfl (.int .i64 (R1 q).1.f0.f0) (.int .i64 (R1 q).1.f0.f1) (.bool (R1 q).1.f1);clear HW P10 P11;have HW:=am_ hW9;have P10:=am_ h10;have P11:=am_ h11;clear hW9 h10 h11;refine hK.out _ _ ⟨cl_ ⟨blk_below PA.out HW.out.L⟩ 0,cl_ ⟨blk_below PA.out HW.out.L⟩ 1,cl_ ⟨blk_below PA.out HW.out.L⟩ 2,(HW.out.L.cell (World.block_lt_of_cell? _ _ HQ.out.1)).trans HQ.out.1,cl_ P10 0⟩ (fun hHeld=>?_);clear hK K;generalize (((wV.setCell ⟨g11,0,none⟩ (.int .i64 (R1 q).1.f0.f0)).setCell ⟨g11,1,none⟩ (.int .i64 (R1 q).1.f0.f1)).setCell ⟨g11,2,none⟩ (.bool (R1 q).1.f1))=wW at HW P10 P11 hHeld ⊢;refine rp_ 15 12 ?_;refine done_ (by kernel_rfl) ?_;clear hHeld
   go_wp2
   refine start_ (n:=14) (S:=fun w'=>w'.cell? ⟨g6,1,none⟩=some v1∧w'.cell? ⟨g6,2,none⟩=some m1∧w'.cell? ⟨g11,0,none⟩=some (.int .i64 (R1 q).1.f0.f0)∧w'.cell? ⟨g11,1,none⟩=some (.int .i64 (R1 q).1.f0.f1)∧w'.cell? ⟨g11,2,none⟩=some (.bool (R1 q).1.f1)) (ds:=[11,13]) #[false,false,false,false,false,false,false,false,false,false,false,false,false,false] (by kernel_rfl) rfl rfl ⟨(blk_cell HW.out.p6 1).trans rfl,(blk_cell HW.out.p6 2).trans rfl,cl_ P11 0,cl_ P11 1,cl_ P11 2⟩ (fun hHeld=>?_);have hdr:Below wW.heap.size wW wW.drew:=below_drew (Below.refl _ _);replace HW:=am_ (HW.out.below hdr);replace P10:=bd_ P10;replace P11:=bd_ P11;clear hdr;generalize wW.drew=wa1 at HW P10 P11 hHeld ⊢;refine rp_ 0 55 ?_;refine rp_ 5 60 ?_;refine rp_ 7 62 ?_;refine rt_ 1 56 rfl hHeld (by rintro w' ⟨s0,s1,s2,s3,s4⟩;go_simp;with_reducible rfl) ?_;refine rt_ 2 57 rfl hHeld (by rintro w' ⟨s0,s1,s2,s3,s4⟩;go_simp;with_reducible rfl) ?_;refine rt_ 6 61 rfl hHeld (by rintro w' ⟨s0,s1,s2,s3,s4⟩;go_simp;with_reducible rfl) ?_;refine join_ 4 #[true,true,true,true,true,true,true,true,true,false,true,false,false,false] (fun s:Nat×Value×Nat=>[(58,.slice (some ⟨s.1,0,none⟩) 1 1),(59,s.2.1),(65,.pointer (some ⟨g6,1,none⟩)),(63,.slice (some ⟨s.2.2,0,none⟩) 1 1)]) (fun s W'=>al_W wL g6 g7 g11 W' #[u1n,v1,m1] #[u2n,v2,m2] u1n s.2.1 m1 u2n v2 m2 sl bl (al_vl R1 (q+1)) (al_vl R2 q) (al_ml R1 q) (al_ml R2 q)∧W'.heap[g10]?=some (.cells #[.int .i64 (I k),.int .i64 (J k),encSl (SL k)] 92 (0,0))∧W'.heap[g11]?=some (.cells #[.int .i64 (R1 q).1.f0.f0,.int .i64 (R1 q).1.f0.f1,.bool (R1 q).1.f1] 60 (0,0))∧W'.heap[s.2.2]?=some (.cells #[.bool (R1 q).2] 4 (0,0))) ?_ ?_;rotate_left
   ·
    intro hcont;refine two_ (i:=3) (j:=8) (Ni:=some 58) (Nj:=some 63) #[true,true,true,true,false,true,true,true,false,false,false,false,false,false] #[true,true,true,false,false,true,true,true,true,false,false,false,false,false] rfl rfl rfl rfl (by kernel_rfl) (by decide) (by decide) (fun K hK=>?_) (fun K hK=>?_)
    ·
     refine value_ (w1:=wa1.alloc (.cells #[.int .i64 (R1 q).1.f0.f0,.int .i64 (R1 q).1.f0.f1,.bool (R1 q).1.f1] 60 (0,0))) (v:=.slice (some ⟨wa1.heap.size,0,none⟩) 1 1) (by rfl) rfl (by first|(go_simp;done)|(go_simp;rfl)) ?_;have hal:Below wa1.heap.size wa1 (wa1.alloc (.cells #[.int .i64 (R1 q).1.f0.f0,.int .i64 (R1 q).1.f0.f1,.bool (R1 q).1.f1] 60 (0,0))):=below_alloc (Below.refl _ _) _;replace HW:=am_ (HW.out.below hal);replace P10:=am_ (blk_below P10.out hal);replace P11:=am_ (blk_below P11.out hal);have P58:=am_ (blk_new wa1 (.cells #[.int .i64 (R1 q).1.f0.f0,.int .i64 (R1 q).1.f0.f1,.bool (R1 q).1.f1] 60 (0,0)));clear hal hHeld;refine hK.out _ _ ⟨(blk_cell HW.out.p6 1).trans rfl,(blk_cell HW.out.p6 2).trans rfl,cl_ P11 0,cl_ P11 1,cl_ P11 2⟩ (fun hHeld=>?_);clear hK K;generalize wa1.alloc (.cells #[.int .i64 (R1 q).1.f0.f0,.int .i64 (R1 q).1.f0.f1,.bool (R1 q).1.f1] 60 (0,0))=wb at HW P10 P11 P58 hHeld ⊢;refine norm_y 58 (h:=?_);refine two_ (i:=4) (j:=8) (Ni:=some 59) (Nj:=some 63) #[true,true,true,true,true,true,true,true,false,false,false,false,false,false] #[true,true,true,true,false,true,true,true,true,false,false,false,false,false] rfl rfl rfl rfl (by kernel_rfl) (by decide) (by decide) (fun K hK=>?_) (fun K hK=>?_)
     ·
      refine Kd.R_append_rows_step k60 (Rr:=fun x c=>x=(R1 q).1∧c=[.int .i64 (R1 q).1.f0.f0,.int .i64 (R1 q).1.f0.f1,.bool (R1 q).1.f1]) (w0:=wL) wL.heap.size (by rfl) (.tmp 56) (.tmp 58) 30 60 (.agg #[(.int .i64 0),(.int .i64 0),(.bool false)]) 24 rfl Tryd.underlying30 info60 rfl (by decide) (by omega) v1 (al_vl R1 q) [(R1 q).1] (some ⟨wa1.heap.size,0,none⟩) 1 1 (fun _=>True) (fun _=>False) rfl rfl HW.out.R.V1 (al_one P58.out rfl) (by rintro _ _ ⟨rfl,rfl⟩;exact k60_mkM _ _ _ _) (fun _ hk=>hk.elim) (fun _ _=>trivial) HW.out.L HW.out.L.size (by rw [al_vl,List.length_map,List.length_range];have:=HM.out.1;have:=HQ.out.2.2;omega) ?_;intro vx wc hr hb hg hat;have hlt11:=blk_lt P11.out;have hr:k60.R 60 wc wL.heap.size (fun _=>True) vx (al_vl R1 (q+1)):=by rw [al_vl,← al_range];exact hr
      replace P10:=am_ (blk_grown P10.out hg (al_typed P10.out (Kd.R_typed HW.out.R.V1) (by decide)));replace P11:=am_ (blk_grown P11.out hg (fun he=>HW.out.R.x1 he.symm));replace HW:=am_ (HW.out.appV1 hlt11 hb hr hg hat);clear hr hb hg hat hHeld hlt11;refine hK.out _ _ ⟨(blk_cell HW.out.p6 1).trans rfl,(blk_cell HW.out.p6 2).trans rfl,cl_ P11 0,cl_ P11 1,cl_ P11 2⟩ (fun hHeld=>?_);clear hK K;refine norm_y 59 (h:=?_);refine rp_ 10 65 ?_;refine ro1_ 8 (some 63) (fun K hK=>?_);refine value_ (w1:=wc.alloc (.cells #[.bool (R1 q).2] 4 (0,0))) (v:=.slice (some ⟨wc.heap.size,0,none⟩) 1 1) (by rfl) rfl (by first|(go_simp;done)|(go_simp;rfl)) ?_;have hal:Below wc.heap.size wc (wc.alloc (.cells #[.bool (R1 q).2] 4 (0,0))):=below_alloc (Below.refl _ _) _;replace HW:=am_ (HW.out.below hal);replace P10:=am_ (blk_below P10.out hal);replace P11:=am_ (blk_below P11.out hal);have P63:=am_ (blk_new wc (.cells #[.bool (R1 q).2] 4 (0,0)));clear hal hHeld;refine hK.out _ _ ⟨(blk_cell HW.out.p6 1).trans rfl,(blk_cell HW.out.p6 2).trans rfl,cl_ P11 0,cl_ P11 1,cl_ P11 2⟩ (fun hHeld=>?_);clear hK K;generalize wc.alloc (.cells #[.bool (R1 q).2] 4 (0,0))=wd at HW P10 P11 P63 hHeld ⊢;refine norm_y 63 (h:=?_);exact norm_ (by first|(simp only [putAll,Act.put,List.setIfInBounds_toArray,List.set_cons_zero,List.set_cons_succ,i64_w,i32_w];done)|(simp only [putAll,Act.put,List.setIfInBounds_toArray,List.set_cons_zero,List.set_cons_succ,i64_w,i32_w];rfl)) (hcont (wa1.heap.size,vx,wc.heap.size) _ ⟨HW.out,P10.out,P11.out,P63.out⟩)
     ·
      refine value_ (w1:=wb.alloc (.cells #[.bool (R1 q).2] 4 (0,0))) (v:=.slice (some ⟨wb.heap.size,0,none⟩) 1 1) (by rfl) rfl (by first|(go_simp;done)|(go_simp;rfl)) ?_;have hal:Below wb.heap.size wb (wb.alloc (.cells #[.bool (R1 q).2] 4 (0,0))):=below_alloc (Below.refl _ _) _;replace HW:=am_ (HW.out.below hal);replace P10:=am_ (blk_below P10.out hal);replace P11:=am_ (blk_below P11.out hal);replace P58:=am_ (blk_below P58.out hal);have P63:=am_ (blk_new wb (.cells #[.bool (R1 q).2] 4 (0,0)));clear hal hHeld;refine hK.out _ _ ⟨(blk_cell HW.out.p6 1).trans rfl,(blk_cell HW.out.p6 2).trans rfl,cl_ P11 0,cl_ P11 1,cl_ P11 2⟩ (fun hHeld=>?_);clear hK K;generalize wb.alloc (.cells #[.bool (R1 q).2] 4 (0,0))=wc at HW P10 P11 P63 P58 hHeld ⊢;refine norm_y 63 (h:=?_);refine ro1_ 4 (some 59) (fun K hK=>?_);refine Kd.R_append_rows_step k60 (Rr:=fun x c=>x=(R1 q).1∧c=[.int .i64 (R1 q).1.f0.f0,.int .i64 (R1 q).1.f0.f1,.bool (R1 q).1.f1]) (w0:=wL) wL.heap.size (by rfl) (.tmp 56) (.tmp 58) 30 60 (.agg #[(.int .i64 0),(.int .i64 0),(.bool false)]) 24 rfl Tryd.underlying30 info60 rfl (by decide) (by omega) v1 (al_vl R1 q) [(R1 q).1] (some ⟨wa1.heap.size,0,none⟩) 1 1 (fun _=>True) (fun _=>False) rfl rfl HW.out.R.V1 (al_one P58.out rfl) (by rintro _ _ ⟨rfl,rfl⟩;exact k60_mkM _ _ _ _) (fun _ hk=>hk.elim) (fun _ _=>trivial) HW.out.L HW.out.L.size (by rw [al_vl,List.length_map,List.length_range];have:=HM.out.1;have:=HQ.out.2.2;omega) ?_;intro vx wd hr hb hg hat;have hlt11:=blk_lt P11.out;have hr:k60.R 60 wd wL.heap.size (fun _=>True) vx (al_vl R1 (q+1)):=by rw [al_vl,← al_range];exact hr
      replace P10:=am_ (blk_grown P10.out hg (al_typed P10.out (Kd.R_typed HW.out.R.V1) (by decide)));replace P11:=am_ (blk_grown P11.out hg (fun he=>HW.out.R.x1 he.symm));replace P63:=am_ (blk_grown P63.out hg (al_typed P63.out (Kd.R_typed HW.out.R.V1) (by decide)));replace HW:=am_ (HW.out.appV1 hlt11 hb hr hg hat);clear hr hb hg hat hHeld hlt11;refine hK.out _ _ ⟨(blk_cell HW.out.p6 1).trans rfl,(blk_cell HW.out.p6 2).trans rfl,cl_ P11 0,cl_ P11 1,cl_ P11 2⟩ (fun hHeld=>?_);clear hK K;refine norm_y 59 (h:=?_);refine rp_ 10 65 ?_;exact norm_ (by first|(simp only [putAll,Act.put,List.setIfInBounds_toArray,List.set_cons_zero,List.set_cons_succ,i64_w,i32_w];done)|(simp only [putAll,Act.put,List.setIfInBounds_toArray,List.set_cons_zero,List.set_cons_succ,i64_w,i32_w];rfl)) (hcont (wa1.heap.size,vx,wb.heap.size) _ ⟨HW.out,P10.out,P11.out,P63.out⟩)
    ·
     refine value_ (w1:=wa1.alloc (.cells #[.bool (R1 q).2] 4 (0,0))) (v:=.slice (some ⟨wa1.heap.size,0,none⟩) 1 1) (by rfl) rfl (by first|(go_simp;done)|(go_simp;rfl)) ?_;have hal:Below wa1.heap.size wa1 (wa1.alloc (.cells #[.bool (R1 q).2] 4 (0,0))):=below_alloc (Below.refl _ _) _;replace HW:=am_ (HW.out.below hal);replace P10:=am_ (blk_below P10.out hal);replace P11:=am_ (blk_below P11.out hal);have P63:=am_ (blk_new wa1 (.cells #[.bool (R1 q).2] 4 (0,0)));clear hal hHeld;refine hK.out _ _ ⟨(blk_cell HW.out.p6 1).trans rfl,(blk_cell HW.out.p6 2).trans rfl,cl_ P11 0,cl_ P11 1,cl_ P11 2⟩ (fun hHeld=>?_);clear hK K;generalize wa1.alloc (.cells #[.bool (R1 q).2] 4 (0,0))=wb at HW P10 P11 P63 hHeld ⊢;refine norm_y 63 (h:=?_);refine ro1_ 3 (some 58) (fun K hK=>?_);refine value_ (w1:=wb.alloc (.cells #[.int .i64 (R1 q).1.f0.f0,.int .i64 (R1 q).1.f0.f1,.bool (R1 q).1.f1] 60 (0,0))) (v:=.slice (some ⟨wb.heap.size,0,none⟩) 1 1) (by rfl) rfl (by first|(go_simp;done)|(go_simp;rfl)) ?_;have hal:Below wb.heap.size wb (wb.alloc (.cells #[.int .i64 (R1 q).1.f0.f0,.int .i64 (R1 q).1.f0.f1,.bool (R1 q).1.f1] 60 (0,0))):=below_alloc (Below.refl _ _) _;replace HW:=am_ (HW.out.below hal);replace P10:=am_ (blk_below P10.out hal);replace P11:=am_ (blk_below P11.out hal);replace P63:=am_ (blk_below P63.out hal);have P58:=am_ (blk_new wb (.cells #[.int .i64 (R1 q).1.f0.f0,.int .i64 (R1 q).1.f0.f1,.bool (R1 q).1.f1] 60 (0,0)));clear hal hHeld;refine hK.out _ _ ⟨(blk_cell HW.out.p6 1).trans rfl,(blk_cell HW.out.p6 2).trans rfl,cl_ P11 0,cl_ P11 1,cl_ P11 2⟩ (fun hHeld=>?_);clear hK K;generalize wb.alloc (.cells #[.int .i64 (R1 q).1.f0.f0,.int .i64 (R1 q).1.f0.f1,.bool (R1 q).1.f1] 60 (0,0))=wc at HW P10 P11 P58 P63 hHeld ⊢;refine norm_y 58 (h:=?_);refine ro1_ 4 (some 59) (fun K hK=>?_);refine Kd.R_append_rows_step k60 (Rr:=fun x c=>x=(R1 q).1∧c=[.int .i64 (R1 q).1.f0.f0,.int .i64 (R1 q).1.f0.f1,.bool (R1 q).1.f1]) (w0:=wL) wL.heap.size (by rfl) (.tmp 56) (.tmp 58) 30 60 (.agg #[(.int .i64 0),(.int .i64 0),(.bool false)]) 24 rfl Tryd.underlying30 info60 rfl (by decide) (by omega) v1 (al_vl R1 q) [(R1 q).1] (some ⟨wb.heap.size,0,none⟩) 1 1 (fun _=>True) (fun _=>False) rfl rfl HW.out.R.V1 (al_one P58.out rfl) (by rintro _ _ ⟨rfl,rfl⟩;exact k60_mkM _ _ _ _) (fun _ hk=>hk.elim) (fun _ _=>trivial) HW.out.L HW.out.L.size (by rw [al_vl,List.length_map,List.length_range];have:=HM.out.1;have:=HQ.out.2.2;omega) ?_;intro vx wd hr hb hg hat;have hlt11:=blk_lt P11.out;have hr:k60.R 60 wd wL.heap.size (fun _=>True) vx (al_vl R1 (q+1)):=by rw [al_vl,← al_range];exact hr
     replace P10:=am_ (blk_grown P10.out hg (al_typed P10.out (Kd.R_typed HW.out.R.V1) (by decide)));replace P11:=am_ (blk_grown P11.out hg (fun he=>HW.out.R.x1 he.symm));replace P63:=am_ (blk_grown P63.out hg (al_typed P63.out (Kd.R_typed HW.out.R.V1) (by decide)));replace HW:=am_ (HW.out.appV1 hlt11 hb hr hg hat);clear hr hb hg hat hHeld hlt11;refine hK.out _ _ ⟨(blk_cell HW.out.p6 1).trans rfl,(blk_cell HW.out.p6 2).trans rfl,cl_ P11 0,cl_ P11 1,cl_ P11 2⟩ (fun hHeld=>?_);clear hK K;refine norm_y 59 (h:=?_);refine rp_ 10 65 ?_;exact norm_ (by first|(simp only [putAll,Act.put,List.setIfInBounds_toArray,List.set_cons_zero,List.set_cons_succ,i64_w,i32_w];done)|(simp only [putAll,Act.put,List.setIfInBounds_toArray,List.set_cons_zero,List.set_cons_succ,i64_w,i32_w];rfl)) (hcont (wb.heap.size,vx,wa1.heap.size) _ ⟨HW.out,P10.out,P11.out,P63.out⟩)
   clear hHeld HW P10 P11;rintro ⟨b58,v1n,b63⟩ we1 ⟨hW,h10,h11,h63⟩;have HW:=am_ hW;have P10:=am_ h10;have P11:=am_ h11;have P63:=am_ h63;clear hW h10 h11 h63;refine norm_ (a':=?_) ?_ ?_;rotate_left
   ·
    simp only [putAll,Act.put,List.setIfInBounds_toArray,List.set_cons_zero,List.set_cons_succ,i64_w,i32_w];rfl
   refine ro1_ 9 (some 64) (fun K hK=>?_);refine Kd.R_append_rows_step Kd.bool (Rr:=fun x c=>x=(R1 q).2∧c=[.bool (R1 q).2]) (w0:=wL) wL.heap.size (by rfl) (.tmp 61) (.tmp 63) 24 4 (.bool false) 1 rfl Tryd.underlying24 info4 rfl (by decide) (by omega) m1 (al_ml R1 q) [(R1 q).2] (some ⟨b63,0,none⟩) 1 1 (fun _=>True) (fun _=>False) rfl rfl HW.out.R.M1 (al_one P63.out rfl) (by rintro _ _ ⟨rfl,rfl⟩;exact rfl) (fun _ hk=>hk.elim) (fun _ _=>trivial) HW.out.L HW.out.L.size (by rw [al_ml,List.length_map,List.length_range];have:=HM.out.1;have:=HQ.out.2.2;omega) ?_;intro m1n wf1 hr hb hg hat;have hr:Kd.bool.R 4 wf1 wL.heap.size (fun _=>True) m1n (al_ml R1 (q+1)):=by rw [al_ml,← al_range];exact hr
   replace P10:=am_ (blk_grown P10.out hg (al_typed P10.out (Kd.R_typed HW.out.R.M1) (by decide)));replace P11:=am_ (blk_grown P11.out hg (al_typed P11.out (Kd.R_typed HW.out.R.M1) (by decide)));replace HW:=am_ (HW.out.appM1 hb hr hg hat);clear hr hb hg hat P63;obtain⟨Av1,cv1,hv1⟩:=Kd.R_slice HW.out.R.V1;obtain⟨Am1,cm1,hv2⟩:=Kd.R_slice HW.out.R.M1;subst hv1;subst hv2;refine hK.out _ _ ⟨(blk_cell HW.out.p6 1).trans rfl,(blk_cell HW.out.p6 2).trans rfl,cl_ P11 0,cl_ P11 1,cl_ P11 2⟩ (fun hHeld=>?_);clear hK K;refine norm_y 64 (h:=?_);refine rl1_ 11 none (fun K hK=>?_);have z0:wf1.cell? ⟨g6,1,none⟩=some v1:=(blk_cell HW.out.p6 1).trans rfl;have f0:=blk_frozen HW.out.p6 1;refine skip_ (w1:=wf1.setCell ⟨g6,1,none⟩ (.slice Av1 (al_vl R1 (q+1)).length cv1)) (by rfl) rfl (by go_simp) ?_;clear z0 f0;have hW9:=HW.out.set6 N6.out (Ne.symm N67.out) 1 (.slice Av1 (al_vl R1 (q+1)).length cv1);replace P10:=am_ (blk_far P10.out (al_neq P10.out HW.out.p6 (by decide)) (p:=⟨g6,1,none⟩) (.slice Av1 (al_vl R1 (q+1)).length cv1));replace P11:=am_ (blk_far P11.out (al_neq P11.out HW.out.p6 (by decide)) (p:=⟨g6,1,none⟩) (.slice Av1 (al_vl R1 (q+1)).length cv1));replace HW:=am_ hW9;clear hW9 hHeld;refine hK.out _ _ ?_;clear hK K;generalize wf1.setCell ⟨g6,1,none⟩ (.slice Av1 (al_vl R1 (q+1)).length cv1)=wg1 at HW P10 P11 ⊢;refine rp_ 12 66 ?_;refine rl1_ 13 none (fun K hK=>?_);have z0:wg1.cell? ⟨g6,2,none⟩=some m1:=(blk_cell HW.out.p6 2).trans rfl;have f0:=blk_frozen HW.out.p6 2;refine skip_ (w1:=wg1.setCell ⟨g6,2,none⟩ (.slice Am1 (al_ml R1 (q+1)).length cm1)) (by rfl) rfl (by go_simp) ?_;clear z0 f0;have hW9:=HW.out.set6 N6.out (Ne.symm N67.out) 2 (.slice Am1 (al_ml R1 (q+1)).length cm1);replace P10:=am_ (blk_far P10.out (al_neq P10.out HW.out.p6 (by decide)) (p:=⟨g6,2,none⟩) (.slice Am1 (al_ml R1 (q+1)).length cm1));replace P11:=am_ (blk_far P11.out (al_neq P11.out HW.out.p6 (by decide)) (p:=⟨g6,2,none⟩) (.slice Am1 (al_ml R1 (q+1)).length cm1));replace HW:=am_ hW9;clear hW9;refine hK.out _ _ ?_;clear hK K;generalize wg1.setCell ⟨g6,2,none⟩ (.slice Am1 (al_ml R1 (q+1)).length cm1)=wh1 at HW P10 P11 ⊢;refine done_ (by kernel_rfl) ?_
   go_wp2
   generalize hv1:(Value.slice Av1 (al_vl R1 (q+1)).length cv1)=v1n at HW;generalize hv2:(Value.slice Am1 (al_ml R1 (q+1)).length cm1)=m1n at HW;clear hv1 hv2;have hW:=HW.out;clear HW;have hW:al_W wL g6 g7 g11 wh1 #[u1n,v1n,m1n] #[u2n,v2,m2] u1n v1n m1n u2n v2 m2 sl bl (al_vl R1 (q+1)) (al_vl R2 q) (al_ml R1 (q+1)) (al_ml R2 q):=hW;have HW:=am_ hW;clear hW;refine start_ (n:=15) (S:=fun w'=>w'.cell? ⟨gB,0,none⟩=some (.slice B0 bs.length d0)∧w'.cell? ⟨gB,1,none⟩=some (.slice B1 vb.length d1)∧w'.cell? ⟨gB,2,none⟩=some (.slice B2 mb.length d2)∧w'.cell? ⟨(ad.add (q*3)).block,(ad.add (q*3)).off+1,none⟩=some (.int .i64 (J q))∧w'.cell? ⟨g10,1,none⟩=some (.int .i64 (J k))) (ds:=[]) #[false,false,false,false,false,false,false,false,false,false,false,false,false,false,false] (by kernel_rfl) rfl rfl ⟨cl_ ⟨blk_below PB.out HW.out.L⟩ 0,cl_ ⟨blk_below PB.out HW.out.L⟩ 1,cl_ ⟨blk_below PB.out HW.out.L⟩ 2,(HW.out.L.cell (World.block_lt_of_cell? _ _ HQ.out.2.1)).trans HQ.out.2.1,cl_ P10 1⟩ (fun hHeld=>?_);have hdr:Below wh1.heap.size wh1 wh1.drew:=below_drew (Below.refl _ _);replace HW:=am_ (HW.out.below hdr);replace P10:=bd_ P10;replace P11:=bd_ P11;clear hdr;generalize wh1.drew=wi at HW P10 P11 hHeld ⊢;refine rp_ 1 69 ?_;refine rp_ 2 70 ?_;refine rp_ 3 71 ?_;refine rp_ 4 72 ?_;refine rp_ 5 73 ?_;refine rp_ 7 75 ?_;refine rt_ 0 68 rfl hHeld (by rintro w' ⟨s0,s1,s2,s3,s4⟩;go_simp;with_reducible rfl) ?_;refine rt_ 6 74 rfl hHeld (by rintro w' ⟨s0,s1,s2,s3,s4⟩;go_simp;with_reducible rfl) ?_;refine rt_ 8 76 rfl hHeld (by rintro w' ⟨s0,s1,s2,s3,s4⟩;go_simp;with_reducible rfl) ?_
   have hst:∀ W,Below wL.heap.size wL W→Calls Tryd.prog 60 #[.agg #[.slice B0 bs.length d0,.slice B1 vb.length d1,.slice B2 mb.length d2],.int .i64 (J q),.int .i64 (J k)] W fun e w'=>e=.returned (.tuple #[.agg #[.int .i64 (R2 q).1.f0.f0,.int .i64 (R2 q).1.f0.f1,.bool (R2 q).1.f1],.bool (R2 q).2])∧Below W.heap.size W w':=fun W hW=>by
    have hB:=below_step HB.out hW;obtain⟨y1,y2,y3⟩:=HM.out.2.2.2.1 q HQ.out.2.2;have y4:=HM.out.2.2.2.2.2 q HQ.out.2.2;rw [← HKQ.out]at y1 y2 y3 y4;exact st_walk (J q) (J k) (B0,bs.length,d0) B1 B2 d1 d2 vb mb (R2 q) W (GL1.below HG0.out hB) (GL0.below HG1.out hB) (Kd.C_below HRB.out.2.1 hB) (Kd.C_below HRB.out.2.2 hB) y1 y2 y3 HZ.out.1.2.2.1 HZ.out.1.2.2.2 HZ.out.2.2.2.2.2.1 HZ.out.2.2.2.2.2.2 y4
   refine ro1_ 9 (some 77) (fun K hK=>?_);refine gs_ Tryd.func60 #[.agg #[.slice B0 bs.length d0,.slice B1 vb.length d1,.slice B2 mb.length d2],.int .i64 (J q),.int .i64 (J k)] (h:=?_);refine(hst _ HW.out.L).mono ?_;rintro e wj ⟨rfl,hbv⟩;refine⟨_,rfl,?_⟩;replace HW:=am_ (HW.out.below hbv);replace P10:=am_ (blk_below P10.out hbv);replace P11:=am_ (blk_below P11.out hbv);clear hbv hHeld hst;refine hK.out _ _ ⟨cl_ ⟨blk_below PB.out HW.out.L⟩ 0,cl_ ⟨blk_below PB.out HW.out.L⟩ 1,cl_ ⟨blk_below PB.out HW.out.L⟩ 2,(HW.out.L.cell (World.block_lt_of_cell? _ _ HQ.out.2.1)).trans HQ.out.2.1,cl_ P10 1⟩ (fun hHeld=>?_);clear hK K;refine norm_y 77 (h:=?_);refine rp_ 10 67 ?_;refine rp_ 11 78 ?_;refine rp_ 12 79 ?_;refine ro1_ 13 none (fun K hK=>?_);have z0:=(blk_cell P11.out 0).trans (show _=some (Value.int .i64 (R1 q).1.f0.f0) from rfl);have z1:=(blk_cell P11.out 1).trans (show _=some (Value.int .i64 (R1 q).1.f0.f1) from rfl);have z2:=(blk_cell P11.out 2).trans (show _=some (Value.bool (R1 q).1.f1) from rfl);have f0:=blk_frozen P11.out 0;have f1:=blk_frozen P11.out 1;have f2:=blk_frozen P11.out 2;refine skip_ (w1:=((wj.setCell ⟨g11,0,none⟩ (.int .i64 (R2 q).1.f0.f0)).setCell ⟨g11,1,none⟩ (.int .i64 (R2 q).1.f0.f1)).setCell ⟨g11,2,none⟩ (.bool (R2 q).1.f1)) (by rfl) rfl (by go_simp) ?_;clear z0 z1 z2 f0 f1 f2;have hW9:=HW.out.val P11.out N11.out (.int .i64 (R2 q).1.f0.f0) (.int .i64 (R2 q).1.f0.f1) (.bool (R2 q).1.f1);have h10:=st_far P10.out (al_neq P10.out P11.out (by decide)) (.int .i64 (R2 q).1.f0.f0) (.int .i64 (R2 q).1.f0.f1) (.bool (R2 q).1.f1);have h11:=st_put P11.out rfl (.int .i64 (R2 q).1.f0.f0) (.int .i64 (R2 q).1.f0.f1) (.bool (R2 q).1.f1);clear HW P10 P11;have HW:=am_ hW9;have P10:=am_ h10;have P11:=am_ h11;clear hW9 h10 h11;refine hK.out _ _ ⟨cl_ ⟨blk_below PB.out HW.out.L⟩ 0,cl_ ⟨blk_below PB.out HW.out.L⟩ 1,cl_ ⟨blk_below PB.out HW.out.L⟩ 2,(HW.out.L.cell (World.block_lt_of_cell? _ _ HQ.out.2.1)).trans HQ.out.2.1,cl_ P10 1⟩ (fun hHeld=>?_);clear hK K;generalize (((wj.setCell ⟨g11,0,none⟩ (.int .i64 (R2 q).1.f0.f0)).setCell ⟨g11,1,none⟩ (.int .i64 (R2 q).1.f0.f1)).setCell ⟨g11,2,none⟩ (.bool (R2 q).1.f1))=wk at HW P10 P11 hHeld ⊢;refine rp_ 14 12 ?_;refine done_ (by kernel_rfl) ?_;clear hHeld
   go_wp2
   refine start_ (n:=14) (S:=fun w'=>w'.cell? ⟨g7,1,none⟩=some v2∧w'.cell? ⟨g7,2,none⟩=some m2∧w'.cell? ⟨g11,0,none⟩=some (.int .i64 (R2 q).1.f0.f0)∧w'.cell? ⟨g11,1,none⟩=some (.int .i64 (R2 q).1.f0.f1)∧w'.cell? ⟨g11,2,none⟩=some (.bool (R2 q).1.f1)) (ds:=[11,13]) #[false,false,false,false,false,false,false,false,false,false,false,false,false,false] (by kernel_rfl) rfl rfl ⟨(blk_cell HW.out.p7 1).trans rfl,(blk_cell HW.out.p7 2).trans rfl,cl_ P11 0,cl_ P11 1,cl_ P11 2⟩ (fun hHeld=>?_);have hdr:Below wk.heap.size wk wk.drew:=below_drew (Below.refl _ _);replace HW:=am_ (HW.out.below hdr);replace P10:=bd_ P10;replace P11:=bd_ P11;clear hdr;generalize wk.drew=wa2 at HW P10 P11 hHeld ⊢;refine rp_ 0 80 ?_;refine rp_ 5 85 ?_;refine rp_ 7 87 ?_;refine rt_ 1 81 rfl hHeld (by rintro w' ⟨s0,s1,s2,s3,s4⟩;go_simp;with_reducible rfl) ?_;refine rt_ 2 82 rfl hHeld (by rintro w' ⟨s0,s1,s2,s3,s4⟩;go_simp;with_reducible rfl) ?_;refine rt_ 6 86 rfl hHeld (by rintro w' ⟨s0,s1,s2,s3,s4⟩;go_simp;with_reducible rfl) ?_;refine join_ 4 #[true,true,true,true,true,true,true,true,true,false,true,false,false,false] (fun s:Nat×Value×Nat=>[(83,.slice (some ⟨s.1,0,none⟩) 1 1),(84,s.2.1),(90,.pointer (some ⟨g7,1,none⟩)),(88,.slice (some ⟨s.2.2,0,none⟩) 1 1)]) (fun s W'=>al_W wL g6 g7 g11 W' #[u1n,v1n,m1n] #[u2n,v2,m2] u1n v1n m1n u2n s.2.1 m2 sl bl (al_vl R1 (q+1)) (al_vl R2 (q+1)) (al_ml R1 (q+1)) (al_ml R2 q)∧W'.heap[g10]?=some (.cells #[.int .i64 (I k),.int .i64 (J k),encSl (SL k)] 92 (0,0))∧W'.heap[g11]?=some (.cells #[.int .i64 (R2 q).1.f0.f0,.int .i64 (R2 q).1.f0.f1,.bool (R2 q).1.f1] 60 (0,0))∧W'.heap[s.2.2]?=some (.cells #[.bool (R2 q).2] 4 (0,0))) ?_ ?_;rotate_left
   ·
    intro hcont;refine two_ (i:=3) (j:=8) (Ni:=some 83) (Nj:=some 88) #[true,true,true,true,false,true,true,true,false,false,false,false,false,false] #[true,true,true,false,false,true,true,true,true,false,false,false,false,false] rfl rfl rfl rfl (by kernel_rfl) (by decide) (by decide) (fun K hK=>?_) (fun K hK=>?_)
    ·
     refine value_ (w1:=wa2.alloc (.cells #[.int .i64 (R2 q).1.f0.f0,.int .i64 (R2 q).1.f0.f1,.bool (R2 q).1.f1] 60 (0,0))) (v:=.slice (some ⟨wa2.heap.size,0,none⟩) 1 1) (by rfl) rfl (by first|(go_simp;done)|(go_simp;rfl)) ?_;have hal:Below wa2.heap.size wa2 (wa2.alloc (.cells #[.int .i64 (R2 q).1.f0.f0,.int .i64 (R2 q).1.f0.f1,.bool (R2 q).1.f1] 60 (0,0))):=below_alloc (Below.refl _ _) _;replace HW:=am_ (HW.out.below hal);replace P10:=am_ (blk_below P10.out hal);replace P11:=am_ (blk_below P11.out hal);have P58:=am_ (blk_new wa2 (.cells #[.int .i64 (R2 q).1.f0.f0,.int .i64 (R2 q).1.f0.f1,.bool (R2 q).1.f1] 60 (0,0)));clear hal hHeld;refine hK.out _ _ ⟨(blk_cell HW.out.p7 1).trans rfl,(blk_cell HW.out.p7 2).trans rfl,cl_ P11 0,cl_ P11 1,cl_ P11 2⟩ (fun hHeld=>?_);clear hK K;generalize wa2.alloc (.cells #[.int .i64 (R2 q).1.f0.f0,.int .i64 (R2 q).1.f0.f1,.bool (R2 q).1.f1] 60 (0,0))=wb at HW P10 P11 P58 hHeld ⊢;refine norm_y 83 (h:=?_);refine two_ (i:=4) (j:=8) (Ni:=some 84) (Nj:=some 88) #[true,true,true,true,true,true,true,true,false,false,false,false,false,false] #[true,true,true,true,false,true,true,true,true,false,false,false,false,false] rfl rfl rfl rfl (by kernel_rfl) (by decide) (by decide) (fun K hK=>?_) (fun K hK=>?_)
     ·
      refine Kd.R_append_rows_step k60 (Rr:=fun x c=>x=(R2 q).1∧c=[.int .i64 (R2 q).1.f0.f0,.int .i64 (R2 q).1.f0.f1,.bool (R2 q).1.f1]) (w0:=wL) wL.heap.size (by rfl) (.tmp 81) (.tmp 83) 30 60 (.agg #[(.int .i64 0),(.int .i64 0),(.bool false)]) 24 rfl Tryd.underlying30 info60 rfl (by decide) (by omega) v2 (al_vl R2 q) [(R2 q).1] (some ⟨wa2.heap.size,0,none⟩) 1 1 (fun _=>True) (fun _=>False) rfl rfl HW.out.R.V2 (al_one P58.out rfl) (by rintro _ _ ⟨rfl,rfl⟩;exact k60_mkM _ _ _ _) (fun _ hk=>hk.elim) (fun _ _=>trivial) HW.out.L HW.out.L.size (by rw [al_vl,List.length_map,List.length_range];have:=HM.out.1;have:=HQ.out.2.2;omega) ?_;intro vx wc hr hb hg hat;have hlt11:=blk_lt P11.out;have hr:k60.R 60 wc wL.heap.size (fun _=>True) vx (al_vl R2 (q+1)):=by rw [al_vl,← al_range];exact hr
      replace P10:=am_ (blk_grown P10.out hg (al_typed P10.out (Kd.R_typed HW.out.R.V2) (by decide)));replace P11:=am_ (blk_grown P11.out hg (fun he=>HW.out.R.x2 he.symm));replace HW:=am_ (HW.out.appV2 hlt11 hb hr hg hat);clear hr hb hg hat hHeld hlt11;refine hK.out _ _ ⟨(blk_cell HW.out.p7 1).trans rfl,(blk_cell HW.out.p7 2).trans rfl,cl_ P11 0,cl_ P11 1,cl_ P11 2⟩ (fun hHeld=>?_);clear hK K;refine norm_y 84 (h:=?_);refine rp_ 10 90 ?_;refine ro1_ 8 (some 88) (fun K hK=>?_);refine value_ (w1:=wc.alloc (.cells #[.bool (R2 q).2] 4 (0,0))) (v:=.slice (some ⟨wc.heap.size,0,none⟩) 1 1) (by rfl) rfl (by first|(go_simp;done)|(go_simp;rfl)) ?_;have hal:Below wc.heap.size wc (wc.alloc (.cells #[.bool (R2 q).2] 4 (0,0))):=below_alloc (Below.refl _ _) _;replace HW:=am_ (HW.out.below hal);replace P10:=am_ (blk_below P10.out hal);replace P11:=am_ (blk_below P11.out hal);have P63:=am_ (blk_new wc (.cells #[.bool (R2 q).2] 4 (0,0)));clear hal hHeld;refine hK.out _ _ ⟨(blk_cell HW.out.p7 1).trans rfl,(blk_cell HW.out.p7 2).trans rfl,cl_ P11 0,cl_ P11 1,cl_ P11 2⟩ (fun hHeld=>?_);clear hK K;generalize wc.alloc (.cells #[.bool (R2 q).2] 4 (0,0))=wd at HW P10 P11 P63 hHeld ⊢;refine norm_y 88 (h:=?_);exact norm_ (by first|(simp only [putAll,Act.put,List.setIfInBounds_toArray,List.set_cons_zero,List.set_cons_succ,i64_w,i32_w];done)|(simp only [putAll,Act.put,List.setIfInBounds_toArray,List.set_cons_zero,List.set_cons_succ,i64_w,i32_w];rfl)) (hcont (wa2.heap.size,vx,wc.heap.size) _ ⟨HW.out,P10.out,P11.out,P63.out⟩)
     ·
      refine value_ (w1:=wb.alloc (.cells #[.bool (R2 q).2] 4 (0,0))) (v:=.slice (some ⟨wb.heap.size,0,none⟩) 1 1) (by rfl) rfl (by first|(go_simp;done)|(go_simp;rfl)) ?_;have hal:Below wb.heap.size wb (wb.alloc (.cells #[.bool (R2 q).2] 4 (0,0))):=below_alloc (Below.refl _ _) _;replace HW:=am_ (HW.out.below hal);replace P10:=am_ (blk_below P10.out hal);replace P11:=am_ (blk_below P11.out hal);replace P58:=am_ (blk_below P58.out hal);have P63:=am_ (blk_new wb (.cells #[.bool (R2 q).2] 4 (0,0)));clear hal hHeld;refine hK.out _ _ ⟨(blk_cell HW.out.p7 1).trans rfl,(blk_cell HW.out.p7 2).trans rfl,cl_ P11 0,cl_ P11 1,cl_ P11 2⟩ (fun hHeld=>?_);clear hK K;generalize wb.alloc (.cells #[.bool (R2 q).2] 4 (0,0))=wc at HW P10 P11 P63 P58 hHeld ⊢;refine norm_y 88 (h:=?_);refine ro1_ 4 (some 84) (fun K hK=>?_);refine Kd.R_append_rows_step k60 (Rr:=fun x c=>x=(R2 q).1∧c=[.int .i64 (R2 q).1.f0.f0,.int .i64 (R2 q).1.f0.f1,.bool (R2 q).1.f1]) (w0:=wL) wL.heap.size (by rfl) (.tmp 81) (.tmp 83) 30 60 (.agg #[(.int .i64 0),(.int .i64 0),(.bool false)]) 24 rfl Tryd.underlying30 info60 rfl (by decide) (by omega) v2 (al_vl R2 q) [(R2 q).1] (some ⟨wa2.heap.size,0,none⟩) 1 1 (fun _=>True) (fun _=>False) rfl rfl HW.out.R.V2 (al_one P58.out rfl) (by rintro _ _ ⟨rfl,rfl⟩;exact k60_mkM _ _ _ _) (fun _ hk=>hk.elim) (fun _ _=>trivial) HW.out.L HW.out.L.size (by rw [al_vl,List.length_map,List.length_range];have:=HM.out.1;have:=HQ.out.2.2;omega) ?_;intro vx wd hr hb hg hat;have hlt11:=blk_lt P11.out;have hr:k60.R 60 wd wL.heap.size (fun _=>True) vx (al_vl R2 (q+1)):=by rw [al_vl,← al_range];exact hr
      replace P10:=am_ (blk_grown P10.out hg (al_typed P10.out (Kd.R_typed HW.out.R.V2) (by decide)));replace P11:=am_ (blk_grown P11.out hg (fun he=>HW.out.R.x2 he.symm));replace P63:=am_ (blk_grown P63.out hg (al_typed P63.out (Kd.R_typed HW.out.R.V2) (by decide)));replace HW:=am_ (HW.out.appV2 hlt11 hb hr hg hat);clear hr hb hg hat hHeld hlt11;refine hK.out _ _ ⟨(blk_cell HW.out.p7 1).trans rfl,(blk_cell HW.out.p7 2).trans rfl,cl_ P11 0,cl_ P11 1,cl_ P11 2⟩ (fun hHeld=>?_);clear hK K;refine norm_y 84 (h:=?_);refine rp_ 10 90 ?_;exact norm_ (by first|(simp only [putAll,Act.put,List.setIfInBounds_toArray,List.set_cons_zero,List.set_cons_succ,i64_w,i32_w];done)|(simp only [putAll,Act.put,List.setIfInBounds_toArray,List.set_cons_zero,List.set_cons_succ,i64_w,i32_w];rfl)) (hcont (wa2.heap.size,vx,wb.heap.size) _ ⟨HW.out,P10.out,P11.out,P63.out⟩)
    ·
     refine value_ (w1:=wa2.alloc (.cells #[.bool (R2 q).2] 4 (0,0))) (v:=.slice (some ⟨wa2.heap.size,0,none⟩) 1 1) (by rfl) rfl (by first|(go_simp;done)|(go_simp;rfl)) ?_;have hal:Below wa2.heap.size wa2 (wa2.alloc (.cells #[.bool (R2 q).2] 4 (0,0))):=below_alloc (Below.refl _ _) _;replace HW:=am_ (HW.out.below hal);replace P10:=am_ (blk_below P10.out hal);replace P11:=am_ (blk_below P11.out hal);have P63:=am_ (blk_new wa2 (.cells #[.bool (R2 q).2] 4 (0,0)));clear hal hHeld;refine hK.out _ _ ⟨(blk_cell HW.out.p7 1).trans rfl,(blk_cell HW.out.p7 2).trans rfl,cl_ P11 0,cl_ P11 1,cl_ P11 2⟩ (fun hHeld=>?_);clear hK K;generalize wa2.alloc (.cells #[.bool (R2 q).2] 4 (0,0))=wb at HW P10 P11 P63 hHeld ⊢;refine norm_y 88 (h:=?_);refine ro1_ 3 (some 83) (fun K hK=>?_);refine value_ (w1:=wb.alloc (.cells #[.int .i64 (R2 q).1.f0.f0,.int .i64 (R2 q).1.f0.f1,.bool (R2 q).1.f1] 60 (0,0))) (v:=.slice (some ⟨wb.heap.size,0,none⟩) 1 1) (by rfl) rfl (by first|(go_simp;done)|(go_simp;rfl)) ?_;have hal:Below wb.heap.size wb (wb.alloc (.cells #[.int .i64 (R2 q).1.f0.f0,.int .i64 (R2 q).1.f0.f1,.bool (R2 q).1.f1] 60 (0,0))):=below_alloc (Below.refl _ _) _;replace HW:=am_ (HW.out.below hal);replace P10:=am_ (blk_below P10.out hal);replace P11:=am_ (blk_below P11.out hal);replace P63:=am_ (blk_below P63.out hal);have P58:=am_ (blk_new wb (.cells #[.int .i64 (R2 q).1.f0.f0,.int .i64 (R2 q).1.f0.f1,.bool (R2 q).1.f1] 60 (0,0)));clear hal hHeld;refine hK.out _ _ ⟨(blk_cell HW.out.p7 1).trans rfl,(blk_cell HW.out.p7 2).trans rfl,cl_ P11 0,cl_ P11 1,cl_ P11 2⟩ (fun hHeld=>?_);clear hK K;generalize wb.alloc (.cells #[.int .i64 (R2 q).1.f0.f0,.int .i64 (R2 q).1.f0.f1,.bool (R2 q).1.f1] 60 (0,0))=wc at HW P10 P11 P58 P63 hHeld ⊢;refine norm_y 83 (h:=?_);refine ro1_ 4 (some 84) (fun K hK=>?_);refine Kd.R_append_rows_step k60 (Rr:=fun x c=>x=(R2 q).1∧c=[.int .i64 (R2 q).1.f0.f0,.int .i64 (R2 q).1.f0.f1,.bool (R2 q).1.f1]) (w0:=wL) wL.heap.size (by rfl) (.tmp 81) (.tmp 83) 30 60 (.agg #[(.int .i64 0),(.int .i64 0),(.bool false)]) 24 rfl Tryd.underlying30 info60 rfl (by decide) (by omega) v2 (al_vl R2 q) [(R2 q).1] (some ⟨wb.heap.size,0,none⟩) 1 1 (fun _=>True) (fun _=>False) rfl rfl HW.out.R.V2 (al_one P58.out rfl) (by rintro _ _ ⟨rfl,rfl⟩;exact k60_mkM _ _ _ _) (fun _ hk=>hk.elim) (fun _ _=>trivial) HW.out.L HW.out.L.size (by rw [al_vl,List.length_map,List.length_range];have:=HM.out.1;have:=HQ.out.2.2;omega) ?_;intro vx wd hr hb hg hat;have hlt11:=blk_lt P11.out;have hr:k60.R 60 wd wL.heap.size (fun _=>True) vx (al_vl R2 (q+1)):=by rw [al_vl,← al_range];exact hr
     replace P10:=am_ (blk_grown P10.out hg (al_typed P10.out (Kd.R_typed HW.out.R.V2) (by decide)));replace P11:=am_ (blk_grown P11.out hg (fun he=>HW.out.R.x2 he.symm));replace P63:=am_ (blk_grown P63.out hg (al_typed P63.out (Kd.R_typed HW.out.R.V2) (by decide)));replace HW:=am_ (HW.out.appV2 hlt11 hb hr hg hat);clear hr hb hg hat hHeld hlt11;refine hK.out _ _ ⟨(blk_cell HW.out.p7 1).trans rfl,(blk_cell HW.out.p7 2).trans rfl,cl_ P11 0,cl_ P11 1,cl_ P11 2⟩ (fun hHeld=>?_);clear hK K;refine norm_y 84 (h:=?_);refine rp_ 10 90 ?_;exact norm_ (by first|(simp only [putAll,Act.put,List.setIfInBounds_toArray,List.set_cons_zero,List.set_cons_succ,i64_w,i32_w];done)|(simp only [putAll,Act.put,List.setIfInBounds_toArray,List.set_cons_zero,List.set_cons_succ,i64_w,i32_w];rfl)) (hcont (wb.heap.size,vx,wa2.heap.size) _ ⟨HW.out,P10.out,P11.out,P63.out⟩)
   clear hHeld HW P10 P11;rintro ⟨b58,v2n,b63⟩ we2 ⟨hW,h10,h11,h63⟩;have HW:=am_ hW;have P10:=am_ h10;have P11:=am_ h11;have P63:=am_ h63;clear hW h10 h11 h63;refine norm_ (a':=?_) ?_ ?_;rotate_left
   ·
    simp only [putAll,Act.put,List.setIfInBounds_toArray,List.set_cons_zero,List.set_cons_succ,i64_w,i32_w];rfl
   refine ro1_ 9 (some 89) (fun K hK=>?_);refine Kd.R_append_rows_step Kd.bool (Rr:=fun x c=>x=(R2 q).2∧c=[.bool (R2 q).2]) (w0:=wL) wL.heap.size (by rfl) (.tmp 86) (.tmp 88) 24 4 (.bool false) 1 rfl Tryd.underlying24 info4 rfl (by decide) (by omega) m2 (al_ml R2 q) [(R2 q).2] (some ⟨b63,0,none⟩) 1 1 (fun _=>True) (fun _=>False) rfl rfl HW.out.R.M2 (al_one P63.out rfl) (by rintro _ _ ⟨rfl,rfl⟩;exact rfl) (fun _ hk=>hk.elim) (fun _ _=>trivial) HW.out.L HW.out.L.size (by rw [al_ml,List.length_map,List.length_range];have:=HM.out.1;have:=HQ.out.2.2;omega) ?_;intro m2n wf2 hr hb hg hat;have hr:Kd.bool.R 4 wf2 wL.heap.size (fun _=>True) m2n (al_ml R2 (q+1)):=by rw [al_ml,← al_range];exact hr
   replace P10:=am_ (blk_grown P10.out hg (al_typed P10.out (Kd.R_typed HW.out.R.M2) (by decide)));replace P11:=am_ (blk_grown P11.out hg (al_typed P11.out (Kd.R_typed HW.out.R.M2) (by decide)));replace HW:=am_ (HW.out.appM2 hb hr hg hat);clear hr hb hg hat P63;obtain⟨Av2,cv2,hv1⟩:=Kd.R_slice HW.out.R.V2;obtain⟨Am2,cm2,hv2⟩:=Kd.R_slice HW.out.R.M2;subst hv1;subst hv2;refine hK.out _ _ ⟨(blk_cell HW.out.p7 1).trans rfl,(blk_cell HW.out.p7 2).trans rfl,cl_ P11 0,cl_ P11 1,cl_ P11 2⟩ (fun hHeld=>?_);clear hK K;refine norm_y 89 (h:=?_);refine rl1_ 11 none (fun K hK=>?_);have z0:wf2.cell? ⟨g7,1,none⟩=some v2:=(blk_cell HW.out.p7 1).trans rfl;have f0:=blk_frozen HW.out.p7 1;refine skip_ (w1:=wf2.setCell ⟨g7,1,none⟩ (.slice Av2 (al_vl R2 (q+1)).length cv2)) (by rfl) rfl (by go_simp) ?_;clear z0 f0;have hW9:=HW.out.set7 N7.out N67.out 1 (.slice Av2 (al_vl R2 (q+1)).length cv2);replace P10:=am_ (blk_far P10.out (al_neq P10.out HW.out.p7 (by decide)) (p:=⟨g7,1,none⟩) (.slice Av2 (al_vl R2 (q+1)).length cv2));replace P11:=am_ (blk_far P11.out (al_neq P11.out HW.out.p7 (by decide)) (p:=⟨g7,1,none⟩) (.slice Av2 (al_vl R2 (q+1)).length cv2));replace HW:=am_ hW9;clear hW9 hHeld;refine hK.out _ _ ?_;clear hK K;generalize wf2.setCell ⟨g7,1,none⟩ (.slice Av2 (al_vl R2 (q+1)).length cv2)=wg2 at HW P10 P11 ⊢;refine rp_ 12 91 ?_;refine rl1_ 13 none (fun K hK=>?_);have z0:wg2.cell? ⟨g7,2,none⟩=some m2:=(blk_cell HW.out.p7 2).trans rfl;have f0:=blk_frozen HW.out.p7 2;refine skip_ (w1:=wg2.setCell ⟨g7,2,none⟩ (.slice Am2 (al_ml R2 (q+1)).length cm2)) (by rfl) rfl (by go_simp) ?_;clear z0 f0;have hW9:=HW.out.set7 N7.out N67.out 2 (.slice Am2 (al_ml R2 (q+1)).length cm2);replace P10:=am_ (blk_far P10.out (al_neq P10.out HW.out.p7 (by decide)) (p:=⟨g7,2,none⟩) (.slice Am2 (al_ml R2 (q+1)).length cm2));replace P11:=am_ (blk_far P11.out (al_neq P11.out HW.out.p7 (by decide)) (p:=⟨g7,2,none⟩) (.slice Am2 (al_ml R2 (q+1)).length cm2));replace HW:=am_ hW9;clear hW9;refine hK.out _ _ ?_;clear hK K;generalize wg2.setCell ⟨g7,2,none⟩ (.slice Am2 (al_ml R2 (q+1)).length cm2)=wh2 at HW P10 P11 ⊢;refine done_ (by kernel_rfl) ?_
   go_wp2
   generalize hv1:(Value.slice Av2 (al_vl R2 (q+1)).length cv2)=v2n at HW;generalize hv2:(Value.slice Am2 (al_ml R2 (q+1)).length cm2)=m2n at HW;clear hv1 hv2;have hW:=HW.out;clear HW;have hW:al_W wL g6 g7 g11 wh2 #[u1n,v1n,m1n] #[u2n,v2n,m2n] u1n v1n m1n u2n v2n m2n sl bl (al_vl R1 (q+1)) (al_vl R2 (q+1)) (al_ml R1 (q+1)) (al_ml R2 (q+1)):=hW;have HW:=am_ hW;clear hW;have hW:=HW.out.unbox HN1.out;rw [← HSB.out.1,← HSB.out.2]at hW;clear HW;have HW:=am_ hW;clear hW
   go_roundg (list.length-(k+1))
   case measure=>have:=HE.out.2.2.2.2.2.2;have:=HE.out.2.2.2.2.2.1;omega
   case rel=>exact⟨k+1,u1n,v1n,m1n,u2n,v2n,m2n,HE.out.2.2.2.2.2.2,Nat.le_refl _,by first|rfl|rw [st_wS k (by have:=HM.out.1;have:=HE.out.2.2.2.2.2.2;omega)],by rw [show k+1-1=q+1 by rw [HKQ.out];omega];exact HW⟩
  ·
   obtain rfl:k=list.length:=by omega
   obtain⟨Au,cu,hu1⟩:=Kd.R_slice HW.out.R.U1;obtain⟨Av,cv,hu2⟩:=Kd.R_slice HW.out.R.V1;obtain⟨Am,cm,hu3⟩:=Kd.R_slice HW.out.R.M1;obtain⟨Bu,du,hu4⟩:=Kd.R_slice HW.out.R.U2;obtain⟨Bv,dv,hu5⟩:=Kd.R_slice HW.out.R.V2;obtain⟨Bm,dm,hu6⟩:=Kd.R_slice HW.out.R.M2;have nC6:=am_ (show g6≠gC by have:=blk_lt PC.out;have:=N6.out;omega);have nC7:=am_ (show g7≠gC by have:=blk_lt PC.out;have:=N7.out;omega);have nD6:=am_ (show g6≠gD by have:=blk_lt PD.out;have:=N6.out;omega);have nD7:=am_ (show g7≠gD by have:=blk_lt PD.out;have:=N7.out;omega);have HU:=am_ (And.intro hu1 (And.intro hu2 (And.intro hu3 (And.intro hu4 (And.intro hu5 hu6)))));clear hlt hgg hk
   go_wp2
   refine start_ (n:=4) (S:=fun w'=>w'.cell? ⟨g6,0,none⟩=some (.slice Au ((List.range list.length).map SL).length cu)∧w'.cell? ⟨g6,1,none⟩=some (.slice Av (al_vl R1 (list.length-1)).length cv)∧w'.cell? ⟨g6,2,none⟩=some (.slice Am (al_ml R1 (list.length-1)).length cm)∧w'.cell? ⟨g7,0,none⟩=some (.slice Bu (al_bl list list.length).length du)∧w'.cell? ⟨g7,1,none⟩=some (.slice Bv (al_vl R2 (list.length-1)).length dv)∧w'.cell? ⟨g7,2,none⟩=some (.slice Bm (al_ml R2 (list.length-1)).length dm)) (ds:=[]) #[false,false,false,false] (by kernel_rfl) rfl rfl (by subst hu1 hu2 hu3 hu4 hu5 hu6;exact⟨(blk_cell HW.out.p6 0).trans rfl,(blk_cell HW.out.p6 1).trans rfl,(blk_cell HW.out.p6 2).trans rfl,(blk_cell HW.out.p7 0).trans rfl,(blk_cell HW.out.p7 1).trans rfl,(blk_cell HW.out.p7 2).trans rfl⟩) (fun hHeld=>?_);clear hu1 hu2 hu3 hu4 hu5 hu6;have hdr:Below wr.heap.size wr wr.drew:=below_drew (Below.refl _ _);replace HW:=am_ (HW.out.below hdr);clear hdr;generalize wr.drew=wa at HW hHeld ⊢;have PC1:=am_ (blk_below PC.out HW.out.L);have PD1:=am_ (blk_below PD.out HW.out.L);refine rt_ 0 93 rfl hHeld (by rintro w' ⟨s0,s1,s2,s3,s4,s5⟩;go_simp;with_reducible rfl) ?_;refine rt_ 1 94 rfl hHeld (by rintro w' ⟨s0,s1,s2,s3,s4,s5⟩;go_simp;with_reducible rfl) ?_;refine ro1_ 2 none (fun K hK=>?_);have z0:=cc_ (v:=.slice none 0 0) PC1.out 0;have z1:=cc_ (v:=.slice none 0 0) PC1.out 1;have z2:=cc_ (v:=.slice none 0 0) PC1.out 2;have f0:=blk_frozen PC1.out 0;have f1:=blk_frozen PC1.out 1;have f2:=blk_frozen PC1.out 2;refine skip_ (w1:=((wa.setCell ⟨gC,0,none⟩ (.slice Au ((List.range list.length).map SL).length cu)).setCell ⟨gC,1,none⟩ (.slice Av (al_vl R1 (list.length-1)).length cv)).setCell ⟨gC,2,none⟩ (.slice Am (al_ml R1 (list.length-1)).length cm)) (by rfl) rfl (by go_simp) ?_;clear z0 z1 z2 f0 f1 f2;refine hK.out _ _ ⟨al_pcf hHeld.1 nC6.out _ _ _,al_pcf hHeld.2.1 nC6.out _ _ _,al_pcf hHeld.2.2.1 nC6.out _ _ _,al_pcf hHeld.2.2.2.1 nC7.out _ _ _,al_pcf hHeld.2.2.2.2.1 nC7.out _ _ _,al_pcf hHeld.2.2.2.2.2 nC7.out _ _ _⟩ (fun hHeld=>?_);clear hK K;have PC2:=am_ (al_put PC1.out rfl (.slice Au ((List.range list.length).map SL).length cu) (.slice Av (al_vl R1 (list.length-1)).length cv) (.slice Am (al_ml R1 (list.length-1)).length cm));have PD2:=am_ (al_pfar PD1.out (Ne.symm NCD.out) (.slice Au ((List.range list.length).map SL).length cu) (.slice Av (al_vl R1 (list.length-1)).length cv) (.slice Am (al_ml R1 (list.length-1)).length cm));have ae:=am_ (HW.out.R.seg PC1.out (.slice Au ((List.range list.length).map SL).length cu) (.slice Av (al_vl R1 (list.length-1)).length cv) (.slice Am (al_ml R1 (list.length-1)).length cm));have HB2:=am_ ((((below_step HB.out HW.out.L).setCell (p:=⟨gC,0,none⟩) NC.out (.slice Au ((List.range list.length).map SL).length cu)).setCell (p:=⟨gC,1,none⟩) NC.out (.slice Av (al_vl R1 (list.length-1)).length cv)).setCell (p:=⟨gC,2,none⟩) NC.out (.slice Am (al_ml R1 (list.length-1)).length cm));have HH2:=am_ (fun(k:Nat) (h4:w4.heap.size≤k) (hlt:k<wL.heap.size)=>(al_hp wa (g:=gC) (k:=k) (by have:=ag.out.1;omega) (.slice Au ((List.range list.length).map SL).length cu) (.slice Av (al_vl R1 (list.length-1)).length cv) (.slice Am (al_ml R1 (list.length-1)).length cm)).trans (HW.out.L.block k hlt));generalize ((wa.setCell ⟨gC,0,none⟩ (.slice Au ((List.range list.length).map SL).length cu)).setCell ⟨gC,1,none⟩ (.slice Av (al_vl R1 (list.length-1)).length cv)).setCell ⟨gC,2,none⟩ (.slice Am (al_ml R1 (list.length-1)).length cm)=wb at PC2 PD2 ae HB2 HH2 hHeld ⊢;refine ro1_ 3 none (fun K hK=>?_);have z0:=cc_ (v:=.slice none 0 0) PD2.out 0;have z1:=cc_ (v:=.slice none 0 0) PD2.out 1;have z2:=cc_ (v:=.slice none 0 0) PD2.out 2;have f0:=blk_frozen PD2.out 0;have f1:=blk_frozen PD2.out 1;have f2:=blk_frozen PD2.out 2;refine skip_ (w1:=((wb.setCell ⟨gD,0,none⟩ (.slice Bu (al_bl list list.length).length du)).setCell ⟨gD,1,none⟩ (.slice Bv (al_vl R2 (list.length-1)).length dv)).setCell ⟨gD,2,none⟩ (.slice Bm (al_ml R2 (list.length-1)).length dm)) (by rfl) rfl (by go_simp) ?_;clear z0 z1 z2 f0 f1 f2;refine hK.out _ _ ⟨al_pcf hHeld.1 nD6.out _ _ _,al_pcf hHeld.2.1 nD6.out _ _ _,al_pcf hHeld.2.2.1 nD6.out _ _ _,al_pcf hHeld.2.2.2.1 nD7.out _ _ _,al_pcf hHeld.2.2.2.2.1 nD7.out _ _ _,al_pcf hHeld.2.2.2.2.2 nD7.out _ _ _⟩ (fun hHeld=>?_);clear hK K;have PD3:=am_ (al_put PD2.out rfl (.slice Bu (al_bl list list.length).length du) (.slice Bv (al_vl R2 (list.length-1)).length dv) (.slice Bm (al_ml R2 (list.length-1)).length dm));have PC3:=am_ (al_pfar PC2.out NCD.out (.slice Bu (al_bl list list.length).length du) (.slice Bv (al_vl R2 (list.length-1)).length dv) (.slice Bm (al_ml R2 (list.length-1)).length dm));have aj:=am_ (ae.out.seg PD2.out (.slice Bu (al_bl list list.length).length du) (.slice Bv (al_vl R2 (list.length-1)).length dv) (.slice Bm (al_ml R2 (list.length-1)).length dm));have HB3:=am_ (((HB2.out.setCell (p:=⟨gD,0,none⟩) ND.out (.slice Bu (al_bl list list.length).length du)).setCell (p:=⟨gD,1,none⟩) ND.out (.slice Bv (al_vl R2 (list.length-1)).length dv)).setCell (p:=⟨gD,2,none⟩) ND.out (.slice Bm (al_ml R2 (list.length-1)).length dm));have HH3:=am_ (fun(k:Nat) (h4:w4.heap.size≤k) (hlt:k<wL.heap.size)=>(al_hp wb (g:=gD) (k:=k) (by have:=ag.out.2;omega) (.slice Bu (al_bl list list.length).length du) (.slice Bv (al_vl R2 (list.length-1)).length dv) (.slice Bm (al_ml R2 (list.length-1)).length dm)).trans (HH2.out k h4 hlt));generalize ((wb.setCell ⟨gD,0,none⟩ (.slice Bu (al_bl list list.length).length du)).setCell ⟨gD,1,none⟩ (.slice Bv (al_vl R2 (list.length-1)).length dv)).setCell ⟨gD,2,none⟩ (.slice Bm (al_ml R2 (list.length-1)).length dm)=wc at PC3 PD3 aj HB3 HH3 ⊢;refine done_ (by kernel_rfl) ?_
   go_wp2
   refine bodyPost_ret (results_cc rfl _ _ gC gD 32 32 _ _ (0,0) (0,0) _ _ rfl PC3.out hu32 rfl (by kernel_rfl) rfl PD3.out hu32 rfl (by kernel_rfl)) rfl ?_;have hR:=aj.out;obtain⟨e1,e2,e3,e4,e5,e6⟩:=HU.out;subst e1 e2 e3 e4 e5 e6;have L1:((List.range list.length).map SL).length=list.length:=by simp
   have L2:(al_vl R1 (list.length-1)).length=list.length-1:=by simp [al_vl]
   have L3:(al_ml R1 (list.length-1)).length=list.length-1:=by simp [al_ml]
   have L4:(al_bl list list.length).length=list.length:=by simp [al_bl]
   have L5:(al_vl R2 (list.length-1)).length=list.length-1:=by simp [al_vl]
   have L6:(al_ml R2 (list.length-1)).length=list.length-1:=by simp [al_ml]
   have C1:=Kd.R_reads' hR.U1;have C2:=Kd.R_reads' hR.V1;have C3:=Kd.R_reads' hR.M1;have C4:=Kd.R_reads' hR.U2;have C5:=Kd.R_reads' hR.V2;have C6:=Kd.R_reads' hR.M2;have D1:=C1.2.2;have D2:=C2.2.2;have D3:=C3.2.2;have D4:=C4.2.2;have D5:=C5.2.2;have D6:=C6.2.2;rw [L1]at D1;rw [L2]at D2;rw [L3]at D3;rw [L4]at D4;rw [L5]at D5;rw [L6]at D6;refine⟨(Au,_,cu),(Av,_,cv),(Am,_,cm),(Bu,_,du),(Bv,_,dv),(Bm,_,dm),rfl,⟨L1,C1.2.1,al_rows D1 (fun q hq=>?_)⟩,⟨L2,C2.2.1,D2⟩,⟨L3,C3.2.1,D3⟩,⟨L4,C4.2.1,D4⟩,⟨L5,C5.2.1,D5⟩,⟨L6,C6.2.1,D6⟩,HB3.out⟩;obtain⟨_,_,y1,y2,y3,_⟩:=HSL.out q hq;exact⟨y1,y2,y3 wc (fun k h4 hlt=>HH3.out k h4 hlt)⟩
def sl_go(f:Nat→Bool):Nat→Nat→Bool
 |0,_=>true
 |n+1,k=>f k&&sl_go f n (k+1)
def sl_f(QV:Nat→Bool)(M1 M2:List Bool)(q:Nat):Bool:=QV q && !(rdOf false M1 (q:Int) && !(rdOf false M2 (q:Int)))
def sl_res(t1 t2:Int)(f:Nat→Bool)(n:Nat):Bool:=if t1=t2 then sl_go f n 0 else false
theorem sl_walk(A0 A1 A2 B0 B1 B2:Option Addr)(c0 c1 c2 d0 d1 d2:Nat)(al bs:List (List S53))(va vb:List S60)(ma mb:List Bool)(BL:List (List S53))(V1 V2:List S60)(M1 M2:List Bool)(QV:Nat→Bool)(k1 k2:Nat)(t1 t2:Int)(w:World)(hG0:GL1 w)
  (hs0:Kd.C (Kd.slice 53 k53) w B0 bs.length bs) (hs1:Kd.C k60 w B1 vb.length vb) (hs2:Kd.C Kd.bool w B2 mb.length mb) (hd0:bs.length≤d0) (hd1:vb.length≤d1) (hd2:mb.length≤d2)
  (hAL:∀ W,Below w.heap.size w W→Calls Tryd.prog 35 #[.agg #[.slice A0 al.length c0,.slice A1 va.length c1,.slice A2 ma.length c2],.agg #[.slice B0 bs.length d0,.slice B1 vb.length d1,.slice B2 mb.length d2]] W fun e w'=>∃ (X0 X1 X2:Option Addr) (y0:Sl) (Y1 Y2:Option Addr) (e0 e1 e2 yc1 yc2:Nat),e=.returned (.tuple #[.agg #[.slice X0 BL.length e0,.slice X1 V1.length e1,.slice X2 M1.length e2],.agg #[encSl y0,.slice Y1 V1.length yc1,.slice Y2 V1.length yc2]]) ∧
   (BL.length≤e0∧Kd.C (Kd.slice 53 k53) w' X0 BL.length BL)∧(V1.length≤e1∧Kd.C k60 w' X1 V1.length V1)∧(M1.length≤e2∧Kd.C Kd.bool w' X2 M1.length M1)∧Kd.C k60 w' Y1 V1.length V2∧Kd.C Kd.bool w' Y2 V1.length M2∧Below W.heap.size W w')
  (hM:M1.length=V1.length) (hn:V1.length≤1000) (ht1:impl_Seg_terms.f k1 BL V1 M1=some t1) (ht2:impl_Seg_terms.f k2 bs vb mb=some t2)
  (hQ:∀ q,q<V1.length→impl_ValLeq.f (rd_T60 V1 (q:Int)).f0.f0 (rd_T60 V1 (q:Int)).f0.f1 (rd_T60 V1 (q:Int)).f1 (rd_T60 V2 (q:Int)).f0.f0 (rd_T60 V2 (q:Int)).f0.f1 (rd_T60 V2 (q:Int)).f1=some (QV q)) :
  Calls Tryd.prog 18 #[.agg #[.slice A0 al.length c0,.slice A1 va.length c1,.slice A2 ma.length c2],.agg #[.slice B0 bs.length d0,.slice B1 vb.length d1,.slice B2 mb.length d2]] w fun e w'=>e=.returned (.bool (sl_res t1 t2 (sl_f QV M1 M2) V1.length))∧Below w.heap.size w w':=by
 have hu60:=Tryd.underlying60;have hu58:=Tryd.underlying58;have hu32:=Tryd.underlying32;have HG0:=am_ hG0;have HAL:=am_ hAL;have HBS:=am_ (And.intro hs0 (And.intro hs1 (And.intro hs2 (And.intro hd0 (And.intro hd1 hd2)))));have HT:=am_ (And.intro hM (And.intro hn (And.intro ht1 (And.intro ht2 hQ))));clear hG0 hAL hs0 hs1 hs2 hd0 hd1 hd2 hM hn ht1 ht2 hQ
 go_enter Tryd.func18,Tryd.ntmps18
 go_upto_region 1 with(first
  |((with_reducible refine gate_dst (N:=2) rfl ?_);refine box_y 2 #[.slice A0 al.length c0,.slice A1 va.length c1,.slice A2 ma.length c2] 32 (h:=?_);intro gA hgA w1 hbox hb1;clear hgA;have PA:=am_ hbox;have HB:=am_ hb1;clear hbox hb1)
  |((with_reducible refine gate_dst (N:=3) rfl ?_);refine box_y 3 #[.slice B0 bs.length d0,.slice B1 vb.length d1,.slice B2 mb.length d2] 32 (h:=?_);intro gB hgB w2 hbox hb1;clear hgB;replace PA:=am_ (blk_below PA.out hb1);have PB:=am_ hbox;replace HB:=am_ (below_step HB.out hb1);clear hbox hb1))
 have a0:=cl_ PA 0;have a1:=cl_ PA 1;have a2:=cl_ PA 2;have b0:=cl_ PB 0;have b1:=cl_ PB 1;have b2:=cl_ PB 2
 go_upto_region 2 with(first
  |(go_at_call 35;refine(HAL.out _ HB.out).mono ?_;rintro e wR ⟨X0,X1,X2,y0,Y1,Y2,e0,e1,e2,yc1,yc2,rfl,r0,r1,r2,r4,r5,hbL⟩;have HRR:=am_ (And.intro r0 (And.intro r1 (And.intro r2 (And.intro r4 r5))));replace PB:=am_ (blk_below PB.out hbL);replace HB:=am_ (below_step HB.out hbL);clear hbL a0 a1 a2 b0 b1 b2 r0 r1 r2 r4 r5 PA)
  |((with_reducible refine gate_dst (N:=5) rfl ?_);refine box_y 5 #[.slice none 0 0,.slice none 0 0,.slice none 0 0] 32 (h:=?_);intro g5 hg5 w5 hbox hb5;have N5:=am_ (show wR.heap.size≤g5 by omega);clear hg5;have P5:=am_ hbox;have HL:=am_ hb5;clear hbox hb5)
  |((with_reducible refine gate_dst (N:=6) rfl ?_);refine box_y 6 #[.slice none 0 0,.slice none 0 0,.slice none 0 0] 32 (h:=?_);intro g6 hg6 w6 hbox hb6;have N6:=am_ (show wR.heap.size≤g6 by have:=HL.out.size;omega);have N56:=am_ (show g5≠g6 by have:=blk_lt P5.out;omega);clear hg6;have P6:=am_ hbox;replace P5:=am_ (blk_below P5.out hb6);replace HL:=am_ (below_step HL.out hb6);clear hbox hb6;have z0:=cl_ P5 0;have z1:=cl_ P5 1;have z2:=cl_ P5 2;have z3:=cl_ P6 0;have z4:=cl_ P6 1;have z5:=cl_ P6 2;have f0:=blk_frozen P5.out 0;have f1:=blk_frozen P5.out 1;have f2:=blk_frozen P5.out 2;have f3:=blk_frozen P6.out 0;have f4:=blk_frozen P6.out 1;have f5:=blk_frozen P6.out 2;have n56:=N56.out;have n65:=Ne.symm N56.out))
 have q5:=al_pfar (al_put P5.out rfl (.slice X0 BL.length e0) (.slice X1 V1.length e1) (.slice X2 M1.length e2)) n56 (encSl y0) (.slice Y1 V1.length yc1) (.slice Y2 V1.length yc2);have q6:=al_put (al_pfar P6.out n65 (.slice X0 BL.length e0) (.slice X1 V1.length e1) (.slice X2 M1.length e2)) rfl (encSl y0) (.slice Y1 V1.length yc1) (.slice Y2 V1.length yc2);have qL:=(((((HL.out.setCell (p:=⟨g5,0,none⟩) N5.out (.slice X0 BL.length e0)).setCell (p:=⟨g5,1,none⟩) N5.out (.slice X1 V1.length e1)).setCell (p:=⟨g5,2,none⟩) N5.out (.slice X2 M1.length e2)).setCell (p:=⟨g6,0,none⟩) N6.out (encSl y0)).setCell (p:=⟨g6,1,none⟩) N6.out (.slice Y1 V1.length yc1)).setCell (p:=⟨g6,2,none⟩) N6.out (.slice Y2 V1.length yc2);generalize hWS:((((((w6.setCell ⟨g5,0,none⟩ (.slice X0 BL.length e0)).setCell ⟨g5,1,none⟩ (.slice X1 V1.length e1)).setCell ⟨g5,2,none⟩ (.slice X2 M1.length e2)).setCell ⟨g6,0,none⟩ (encSl y0)).setCell ⟨g6,1,none⟩ (.slice Y1 V1.length yc1)).setCell ⟨g6,2,none⟩ (.slice Y2 V1.length yc2))=wS at q5 q6 qL ⊢;clear hWS z0 z1 z2 z3 z4 z5 f0 f1 f2 f3 f4 f5 n56 n65 HL P5 P6 N56 N5 N6;have P5:=am_ q5;have P6:=am_ q6;have HL:=am_ qL;have PB:=am_ (blk_below PB.out qL);clear q5 q6 qL;refine start_ (n:=5) (S:=fun w'=>w'.cell? ⟨g5,0,none⟩=some (.slice X0 BL.length e0)∧w'.cell? ⟨g5,1,none⟩=some (.slice X1 V1.length e1)∧w'.cell? ⟨g5,2,none⟩=some (.slice X2 M1.length e2)∧w'.cell? ⟨gB,0,none⟩=some (.slice B0 bs.length d0)∧w'.cell? ⟨gB,1,none⟩=some (.slice B1 vb.length d1)∧w'.cell? ⟨gB,2,none⟩=some (.slice B2 mb.length d2)) (ds:=[]) #[false,false,false,false,false] (by kernel_rfl) rfl rfl ⟨cl_ P5 0,cl_ P5 1,cl_ P5 2,cl_ PB 0,cl_ PB 1,cl_ PB 2⟩ (fun hHeld=>?_);replace P5:=bd_ P5;replace P6:=bd_ P6;replace PB:=bd_ PB;replace HL:=am_ (below_drew HL.out);generalize wS.drew=wT at P5 P6 PB HL hHeld ⊢;refine rt_ 0 15 rfl hHeld (by rintro w' ⟨s0,s1,s2,s3,s4,s5⟩;go_simp;with_reducible rfl) ?_;refine rt_ 2 17 rfl hHeld (by rintro w' ⟨s0,s1,s2,s3,s4,s5⟩;go_simp;with_reducible rfl) ?_;refine ro1_ 1 (some 16) (fun K hK=>?_);refine gs_ Tryd.func36 #[.agg #[.slice X0 BL.length e0,.slice X1 V1.length e1,.slice X2 M1.length e2]] (h:=?_);refine(impl_Seg_terms.calls k1 X0 e0 BL X1 e1 V1 X2 e2 M1 t1 wT (Kd.C_below HRR.out.1.2 HL.out) HRR.out.1.1 (Kd.C_below HRR.out.2.1.2 HL.out) HRR.out.2.1.1 (Kd.C_below HRR.out.2.2.1.2 HL.out) HRR.out.2.2.1.1 HT.out.2.2.1).mono ?_;rintro e wU ⟨rfl,hb⟩;refine⟨_,rfl,?_⟩;replace P5:=am_ (blk_below P5.out hb);replace P6:=am_ (blk_below P6.out hb);replace PB:=am_ (blk_below PB.out hb);replace HL:=am_ (below_step HL.out hb);clear hb hHeld;refine hK.out _ _ ⟨cl_ P5 0,cl_ P5 1,cl_ P5 2,cl_ PB 0,cl_ PB 1,cl_ PB 2⟩ (fun hHeld=>?_);clear hK K;refine norm_y 16 (h:=?_);refine ro1_ 3 (some 18) (fun K hK=>?_);refine gs_ Tryd.func36 #[.agg #[.slice B0 bs.length d0,.slice B1 vb.length d1,.slice B2 mb.length d2]] (h:=?_);refine(impl_Seg_terms.calls k2 B0 d0 bs B1 d1 vb B2 d2 mb t2 wU (Kd.C_below HBS.out.1 (below_step HB.out HL.out)) HBS.out.2.2.2.1 (Kd.C_below HBS.out.2.1 (below_step HB.out HL.out)) HBS.out.2.2.2.2.1 (Kd.C_below HBS.out.2.2.1 (below_step HB.out HL.out)) HBS.out.2.2.2.2.2 HT.out.2.2.2.1).mono ?_;rintro e wV ⟨rfl,hb⟩;refine⟨_,rfl,?_⟩;replace P5:=am_ (blk_below P5.out hb);replace P6:=am_ (blk_below P6.out hb);replace PB:=am_ (blk_below PB.out hb);replace HL:=am_ (below_step HL.out hb);clear hb hHeld;refine hK.out _ _ ⟨cl_ P5 0,cl_ P5 1,cl_ P5 2,cl_ PB 0,cl_ PB 1,cl_ PB 2⟩ (fun hHeld=>?_);clear hK K;refine norm_y 18 (h:=?_);refine rp_ 4 19 ?_;refine done_ (by kernel_rfl) ?_;clear hHeld PB
 by_cases h12:t1=t2
 ·
  have cne:(t1 != t2)=false:=bne_eq_false_iff_eq.mpr h12;have H12:=am_ h12;have p1:=cl_ P5 1;rw [cne];clear h12 cne
  go_wp2
  go_loopg [23] V1.length (fun gg s23 wr=>∃ k:Nat,k≤V1.length∧V1.length-k≤gg∧s23=.int .i64 (k:Int)∧Aside0 (sl_go (sl_f QV M1 M2) (V1.length-k) k=sl_go (sl_f QV M1 M2) V1.length 0)∧Aside0 (wr.heap[g5]?=some (.cells #[.slice X0 BL.length e0,.slice X1 V1.length e1,.slice X2 M1.length e2] 32 (0,0)))∧Aside0 (wr.heap[g6]?=some (.cells #[encSl y0,.slice Y1 V1.length yc1,.slice Y2 V1.length yc2] 32 (0,0)))∧Aside0 (Below wR.heap.size wR wr))
  case atStart=>exact⟨0,Nat.zero_le _,by omega,rfl,⟨rfl⟩,P5,P6,HL⟩
  case round =>
   clear P5 P6 HL p1;obtain⟨k,hk,hgg,rfl,HS,P5,P6,HL⟩:=hrel
   by_cases hlt:k<V1.length
   ·
    have hki:(k:Int)<(V1.length:Int):=by omega
    have hkn:(k:Int)<((V1.length:Nat):Int):=hki;have hk0:(0:Int)≤(k:Int):=by omega
    obtain⟨aa,e1',m0,m1,m2⟩:=at_T60 (Kd.C_below HRR.out.2.1.2 HL.out) (k:Int) hk0 hki;obtain⟨ac,e2',m3,m4,m5⟩:=at_T60 (Kd.C_below HRR.out.2.2.2.1 HL.out) (k:Int) hk0 hki;obtain⟨ak,e3',m6⟩:=Kd.at_bool (Kd.C_below HRR.out.2.2.1.2 HL.out) (k:Int) hk0 (by have:=HT.out.1;omega);obtain⟨ao,e4',m7⟩:=Kd.at_bool (Kd.C_below HRR.out.2.2.2.2 HL.out) (k:Int) hk0 hki;subst e1' e2' e3' e4';rw [Int.toNat_natCast]at m0 m1 m2 m3 m4 m5 m6 m7;have hQ:=HT.out.2.2.2.2 k hlt;have hS:=HS.out;obtain⟨d,hd⟩:∃ d,V1.length-k=d+1:=⟨V1.length-k-1,by omega⟩;rw [hd,sl_go]at hS;have HS:=am_ hS;have HQ:=am_ hQ;have HD:=am_ (And.intro hd (And.intro hk (And.intro hgg hlt)));have HK:=am_ (And.intro m3 (And.intro m4 (And.intro m5 (And.intro m6 m7))));have hkm:(k:Int)<(M1.length:Int):=by have:=HT.out.1;omega
    clear hS hQ hd hk hgg hlt m3 m4 m5 m6 m7;have hSb:((QV k && !(rdOf false M1 (k:Int) && !(rdOf false M2 (k:Int))))&&sl_go (sl_f QV M1 M2) d (k+1))=sl_go (sl_f QV M1 M2) V1.length 0:=HS.out;obtain⟨h3,h4,h5,h6,h7⟩:=HK.out;have HQ':=HQ.out;clear HK HS HQ;generalize QV k=qv at hSb HQ';generalize rdOf false M1 (k:Int)=b1 at hSb h6;generalize rdOf false M2 (k:Int)=b2 at hSb h7;have HQ:=am_ HQ';have HS:=am_ hSb;have HK:=am_ (And.intro h3 (And.intro h4 (And.intro h5 (And.intro h6 h7))));clear HQ' hSb h3 h4 h5 h6 h7
    go_upto_region 7 with((with_reducible refine gate_dst (N:=8) rfl ?_);refine box_y 8 #[.int .i64 0,.int .i64 0,.bool false] 60 (h:=?_);intro g8 hg8 w8 hbox hb8;have H8:=am_ (And.intro hg8 hb8);have N8:=am_ (show wR.heap.size≤g8 by have:=HL.out.size;omega);clear hg8;replace P5:=am_ (blk_below P5.out hb8);replace P6:=am_ (blk_below P6.out hb8);replace HL:=am_ (below_step HL.out hb8);have P8:=am_ hbox;clear hbox hb8;have z0:=cl_ P8 0;have z1:=cl_ P8 1;have z2:=cl_ P8 2;have f0:=blk_frozen P8.out 0;have f1:=blk_frozen P8.out 1;have f2:=blk_frozen P8.out 2)
    have hc:∀ {a:Addr} {v:Value},wr.cell? a=some v→(((w8.setCell ⟨g8,0,none⟩ (.int .i64 (rd_T60 V1 (k:Int)).f0.f0)).setCell ⟨g8,1,none⟩ (.int .i64 (rd_T60 V1 (k:Int)).f0.f1)).setCell ⟨g8,2,none⟩ (.bool (rd_T60 V1 (k:Int)).f1)).cell? a=some v:=fun {a v} h=>al_pcf ((H8.out.2.cell (World.block_lt_of_cell? _ _ h)).trans h) (by have h1:=World.block_lt_of_cell? _ _ h;have h2:=H8.out.1;omega) _ _ _;replace HK:=am_ (And.intro (hc HK.out.1) (And.intro (hc HK.out.2.1) (And.intro (hc HK.out.2.2.1) (And.intro (hc HK.out.2.2.2.1) (hc HK.out.2.2.2.2)))));have q5:=st_far P5.out (al_neq P5.out P8.out (by decide)) (.int .i64 (rd_T60 V1 (k:Int)).f0.f0) (.int .i64 (rd_T60 V1 (k:Int)).f0.f1) (.bool (rd_T60 V1 (k:Int)).f1);have q6:=st_far P6.out (al_neq P6.out P8.out (by decide)) (.int .i64 (rd_T60 V1 (k:Int)).f0.f0) (.int .i64 (rd_T60 V1 (k:Int)).f0.f1) (.bool (rd_T60 V1 (k:Int)).f1);have q8:=st_put P8.out rfl (.int .i64 (rd_T60 V1 (k:Int)).f0.f0) (.int .i64 (rd_T60 V1 (k:Int)).f0.f1) (.bool (rd_T60 V1 (k:Int)).f1);have qL:=((HL.out.setCell (p:=⟨g8,0,none⟩) N8.out (.int .i64 (rd_T60 V1 (k:Int)).f0.f0)).setCell (p:=⟨g8,1,none⟩) N8.out (.int .i64 (rd_T60 V1 (k:Int)).f0.f1)).setCell (p:=⟨g8,2,none⟩) N8.out (.bool (rd_T60 V1 (k:Int)).f1);clear P5 P6 P8 HL hc H8 z0 z1 z2 f0 f1 f2 m0 m1 m2;have P5:=am_ q5;have P6:=am_ q6;have P8:=am_ q8;have HL:=am_ qL;clear q5 q6 q8 qL;generalize (((w8.setCell ⟨g8,0,none⟩ (.int .i64 (rd_T60 V1 (k:Int)).f0.f0)).setCell ⟨g8,1,none⟩ (.int .i64 (rd_T60 V1 (k:Int)).f0.f1)).setCell ⟨g8,2,none⟩ (.bool (rd_T60 V1 (k:Int)).f1))=wX at P5 P6 P8 HL HK ⊢;refine start_ (n:=23) (S:=fun w'=>w'.cell? ⟨g8,0,none⟩=some (.int .i64 (rd_T60 V1 (k:Int)).f0.f0)∧w'.cell? ⟨g8,1,none⟩=some (.int .i64 (rd_T60 V1 (k:Int)).f0.f1)∧w'.cell? ⟨g8,2,none⟩=some (.bool (rd_T60 V1 (k:Int)).f1)∧w'.cell? ⟨g6,1,none⟩=some (.slice (some ac) V1.length yc1)∧w'.cell? ⟨g5,2,none⟩=some (.slice (some ak) M1.length e2)∧w'.cell? ⟨g6,2,none⟩=some (.slice (some ao) V1.length yc2)∧w'.cell? (ac.add (k*3))=some (.int .i64 (rd_T60 V2 (k:Int)).f0.f0)∧w'.cell? ⟨(ac.add (k*3)).block,(ac.add (k*3)).off+1,none⟩=some (.int .i64 (rd_T60 V2 (k:Int)).f0.f1)∧w'.cell? ⟨(ac.add (k*3)).block,(ac.add (k*3)).off+2,none⟩=some (.bool (rd_T60 V2 (k:Int)).f1)∧w'.cell? (ak.add k)=some (.bool b1)∧w'.cell? (ao.add k)=some (.bool b2)) (ds:=[]) #[false,false,false,false,false,false,false,false,false,false,false,false,false,false,false,false,false,false,false,false,false,false,false] (by kernel_rfl) rfl rfl ⟨cl_ P8 0,cl_ P8 1,cl_ P8 2,cl_ P6 1,cl_ P5 2,cl_ P6 2,HK.out.1,HK.out.2.1,HK.out.2.2.1,HK.out.2.2.2.1,HK.out.2.2.2.2⟩ (fun hHeld=>?_);replace P5:=bd_ P5;replace P6:=bd_ P6;replace P8:=bd_ P8;replace HL:=am_ (below_drew HL.out);generalize wX.drew=wY at P5 P6 P8 HL hHeld ⊢;clear HK;refine rp_ 1 29 ?_;refine rp_ 3 31 ?_;refine rt_ 0 28 rfl hHeld (by rintro w' ⟨s0,s1,s2,s3,s4,s5,s6,s7,s8,s9,s10⟩;go_simp;with_reducible rfl) ?_;refine rt_ 2 30 rfl hHeld (by rintro w' ⟨s0,s1,s2,s3,s4,s5,s6,s7,s8,s9,s10⟩;go_simp;with_reducible rfl) ?_;refine rp_ 4 32 ?_;refine rt_ 5 33 rfl hHeld (by rintro w' ⟨s0,s1,s2,s3,s4,s5,s6,s7,s8,s9,s10⟩;go_simp;with_reducible rfl) ?_;refine ro1_ 6 (some 34) (fun K hK=>?_);refine gs_ Tryd.func37 #[.agg #[.int .i64 (rd_T60 V1 (k:Int)).f0.f0,.int .i64 (rd_T60 V1 (k:Int)).f0.f1,.bool (rd_T60 V1 (k:Int)).f1],.agg #[.int .i64 (rd_T60 V2 (k:Int)).f0.f0,.int .i64 (rd_T60 V2 (k:Int)).f0.f1,.bool (rd_T60 V2 (k:Int)).f1]] (h:=?_);refine(impl_ValLeq.calls _ _ _ _ _ _ qv wY (GL1.below HG0.out (below_step HB.out HL.out)) HQ.out).mono ?_;rintro e wZ ⟨rfl,hb⟩;refine⟨_,rfl,?_⟩;replace P5:=am_ (blk_below P5.out hb);replace P6:=am_ (blk_below P6.out hb);replace P8:=am_ (blk_below P8.out hb);replace HL:=am_ (below_step HL.out hb);obtain⟨-,-,-,-,-,-,i0,i1,i2,i3,i4⟩:=hHeld;refine hK.out _ _ ⟨cl_ P8 0,cl_ P8 1,cl_ P8 2,cl_ P6 1,cl_ P5 2,cl_ P6 2,(hb.cell (World.block_lt_of_cell? _ _ i0)).trans i0,(hb.cell (World.block_lt_of_cell? _ _ i1)).trans i1,(hb.cell (World.block_lt_of_cell? _ _ i2)).trans i2,(hb.cell (World.block_lt_of_cell? _ _ i3)).trans i3,(hb.cell (World.block_lt_of_cell? _ _ i4)).trans i4⟩ (fun hHeld=>?_);clear hK K hb i0 i1 i2 i3 i4;refine norm_y 34 (h:=?_);refine rp_ 7 35 ?_;refine rp_ 8 36 ?_;cases qv with
    |false =>
     refine rn_ 9 37 ?_;refine rn_ 10 38 ?_;refine rn_ 11 39 ?_;refine rn_ 12 40 ?_;refine rn_ 13 41 ?_;refine rn_ 14 42 ?_;refine rn_ 15 43 ?_;refine rn_ 16 44 ?_;refine rn_ 17 45 ?_;refine rn_ 18 46 ?_;refine rn_ 19 47 ?_;refine rn_ 20 48 ?_;refine rn_ 21 49 ?_;refine rp_ 22 50 ?_;refine done_ (by kernel_rfl) ?_;have HE:=am_ (show sl_res t1 t2 (sl_f QV M1 M2) V1.length=false by unfold sl_res;rw [if_pos H12.out,← HS.out];rfl)
     go_wp2
     go_ret
     exact⟨by rw [HE.out];rfl,below_step HB.out HL.out⟩
    |true =>
     refine rp_ 9 37 ?_;refine rp_ 11 39 ?_;refine rt_ 10 38 rfl hHeld (by rintro w' ⟨s0,s1,s2,s3,s4,s5,s6,s7,s8,s9,s10⟩;go_simp;with_reducible rfl) ?_;refine rp_ 12 40 ?_;refine rt_ 13 41 rfl hHeld (by rintro w' ⟨s0,s1,s2,s3,s4,s5,s6,s7,s8,s9,s10⟩;go_simp;with_reducible rfl) ?_;refine rp_ 14 42 ?_;cases b1 with
     |true =>
      refine rp_ 15 43 ?_;refine rp_ 17 45 ?_;refine rt_ 16 44 rfl hHeld (by rintro w' ⟨s0,s1,s2,s3,s4,s5,s6,s7,s8,s9,s10⟩;go_simp;with_reducible rfl) ?_;refine rp_ 18 46 ?_;refine rt_ 19 47 rfl hHeld (by rintro w' ⟨s0,s1,s2,s3,s4,s5,s6,s7,s8,s9,s10⟩;go_simp;with_reducible rfl) ?_;refine rp_ 20 48 ?_;refine rp_ 21 49 ?_;refine rp_ 22 50 ?_;refine done_ (by kernel_rfl) ?_;cases b2 with
      |true =>
       go_wp2
       go_roundg d
       case measure=>have:=HD.out;omega
       case rel=>exact⟨k+1,by have:=HD.out;omega,by have:=HD.out;omega,by first|rfl|rw [st_wS k (by have:=HT.out.2.1;have:=HD.out;omega)],⟨by rw [show V1.length-(k+1)=d by have:=HD.out;omega];exact HS.out⟩,P5,P6,HL⟩
      |false =>
       have HE:=am_ (show sl_res t1 t2 (sl_f QV M1 M2) V1.length=false by unfold sl_res;rw [if_pos H12.out,← HS.out];rfl)
       go_wp2
       go_ret
       exact⟨by rw [HE.out];rfl,below_step HB.out HL.out⟩
     |false =>
      refine rn_ 15 43 ?_;refine rn_ 16 44 ?_;refine rn_ 17 45 ?_;refine rn_ 18 46 ?_;refine rn_ 19 47 ?_;refine rn_ 20 48 ?_;refine rp_ 21 49 ?_;refine rp_ 22 50 ?_;refine done_ (by kernel_rfl) ?_
      go_wp2
      go_roundg d
      case measure=>have:=HD.out;omega
      case rel=>exact⟨k+1,by have:=HD.out;omega,by have:=HD.out;omega,by first|rfl|rw [st_wS k (by have:=HT.out.2.1;have:=HD.out;omega)],⟨by rw [show V1.length-(k+1)=d by have:=HD.out;omega];exact HS.out⟩,P5,P6,HL⟩
   ·
    obtain rfl:k=V1.length:=by omega
    have hS:=HS.out;rw [Nat.sub_self,sl_go]at hS;have HS:=am_ (show sl_res t1 t2 (sl_f QV M1 M2) V1.length=true by unfold sl_res;rw [if_pos H12.out];exact hS.symm);clear hS
    go_wp2
    go_ret
    exact⟨by rw [HS.out];rfl,below_step HB.out HL.out⟩
 ·
  have cne:(t1 != t2)=true:=bne_iff_ne.mpr h12;have HS:=am_ (show sl_res t1 t2 (sl_f QV M1 M2) V1.length=false by unfold sl_res;rw [if_neg h12]);clear h12
  go_wp2
  go_ret
  exact⟨by rw [HS.out];rfl,below_step HB.out HL.out⟩
theorem sg_walk(k:Nat)(size l:Int)(A0 A1 A2 B0 B1 B2:Option Addr)(c0 c1 c2 d0 d1 d2:Nat)(al bs:List (List S53))(va vb:List S60)(ma mb:List Bool)(r r' res:Bool)(w:World)(hG0:GL1 w)
  (hr0:Kd.C (Kd.slice 53 k53) w A0 al.length al) (hc0:al.length≤c0) (hr1:Kd.C k60 w A1 va.length va) (hc1:va.length≤c1) (hr2:Kd.C Kd.bool w A2 ma.length ma) (hc2:ma.length≤c2) (hok:impl_SegOk.f k size l al va ma=some r)
  (hs0:Kd.C (Kd.slice 53 k53) w B0 bs.length bs) (hd0:bs.length≤d0) (hs1:Kd.C k60 w B1 vb.length vb) (hd1:vb.length≤d1) (hs2:Kd.C Kd.bool w B2 mb.length mb) (hd2:mb.length≤d2) (hok':impl_SegOk.f k size l bs vb mb=some r')
  (hSL:(r&&r')=true→∀ W,Below w.heap.size w W→Calls Tryd.prog 18 #[.agg #[.slice A0 al.length c0,.slice A1 va.length c1,.slice A2 ma.length c2],.agg #[.slice B0 bs.length d0,.slice B1 vb.length d1,.slice B2 mb.length d2]] W fun e w'=>e=.returned (.bool res)∧Below W.heap.size W w') :
  Calls Tryd.prog 7 #[.int .i64 size,.int .i64 l,.agg #[.slice A0 al.length c0,.slice A1 va.length c1,.slice A2 ma.length c2],.agg #[.slice B0 bs.length d0,.slice B1 vb.length d1,.slice B2 mb.length d2]] w fun e w'=>e=.returned (.bool ((r&&r')&&res))∧Below w.heap.size w w':=by
 have hu32:=Tryd.underlying32;have HA:=am_ (fun(W:World) (gb:Nat) (hB:Below w.heap.size w W) (hb:W.heap[gb]?=some (.cells #[.slice A0 al.length c0,.slice A1 va.length c1,.slice A2 ma.length c2,.slice B0 bs.length d0,.slice B1 vb.length d1,.slice B2 mb.length d2] 32 (0,0)))=>sq_are k size l gb A0 A1 A2 B0 B1 B2 c0 c1 c2 d0 d1 d2 al bs va vb ma mb r r' W (GL1.below hG0 hB) hb (Kd.C_below hr0 hB) hc0 (Kd.C_below hr1 hB) hc1 (Kd.C_below hr2 hB) hc2 hok (Kd.C_below hs0 hB) hd0 (Kd.C_below hs1 hB) hd1 (Kd.C_below hs2 hB) hd2 hok');have HSL:=am_ hSL;clear hSL hG0 hr0 hc0 hr1 hc1 hr2 hc2 hok hs0 hd0 hs1 hd1 hs2 hd2 hok';generalize (r&&r')=rr at HA HSL ⊢;cases rr with
 |true =>
  have HS:=am_ (HSL.out rfl);clear HSL
  go_enter Tryd.func7,Tryd.ntmps7
  go_upto_region 1 with(first
   |((with_reducible refine gate_dst (N:=6) rfl ?_);refine box_y 6 #[.slice A0 al.length c0,.slice A1 va.length c1,.slice A2 ma.length c2] 32 (h:=?_);intro gA hgA w1 hbox hb1;clear hgA;have PA:=am_ hbox;have HB:=am_ hb1;clear hbox hb1)
   |((with_reducible refine gate_dst (N:=7) rfl ?_);refine box_y 7 #[.slice B0 bs.length d0,.slice B1 vb.length d1,.slice B2 mb.length d2] 32 (h:=?_);intro gB hgB w2 hbox hb1;clear hgB;replace PA:=am_ (blk_below PA.out hb1);have PB:=am_ hbox;replace HB:=am_ (below_step HB.out hb1);clear hbox hb1))
  have a0:=cl_ PA 0;have a1:=cl_ PA 1;have a2:=cl_ PA 2;have b0:=cl_ PB 0;have b1:=cl_ PB 1;have b2:=cl_ PB 2
  go_wp2_with (first
   |(go_at_call 17;refine(HA.out _ w2.heap.size (below_step HB.out (below_alloc (Below.refl _ _) _)) (blk_new w2 _)).mono ?_;rintro e w3 ⟨rfl,hb3⟩;have hb4:=(below_alloc (Below.refl w2.heap.size w2) (.cells #[.slice A0 al.length c0,.slice A1 va.length c1,.slice A2 ma.length c2,.slice B0 bs.length d0,.slice B1 vb.length d1,.slice B2 mb.length d2] 32 (0,0)));have hb5:=below_step hb4 hb3;have a0:=cl_ (am_ (blk_below PA.out hb5)) 0;have a1:=cl_ (am_ (blk_below PA.out hb5)) 1;have a2:=cl_ (am_ (blk_below PA.out hb5)) 2;have b0:=cl_ (am_ (blk_below PB.out hb5)) 0;have b1:=cl_ (am_ (blk_below PB.out hb5)) 1;have b2:=cl_ (am_ (blk_below PB.out hb5)) 2;have HB3:=am_ (below_step HB.out hb5);clear hb3 hb4 hb5)
   |(refine gate_guard (by rfl) ?_;dsimp only;go_at_call 18;refine(HS.out _ HB3.out).mono ?_;rintro e w4 ⟨rfl,hb6⟩;have HB4:=am_ (below_step HB3.out hb6);clear hb6)
   |(go_at_call 18;refine(HS.out _ HB3.out).mono ?_;rintro e w4 ⟨rfl,hb6⟩;have HB4:=am_ (below_step HB3.out hb6);clear hb6))
  go_ret
  exact⟨rfl,HB4.out⟩
 |false =>
  clear HSL
  go_enter Tryd.func7,Tryd.ntmps7
  go_upto_region 1 with(first
   |((with_reducible refine gate_dst (N:=6) rfl ?_);refine box_y 6 #[.slice A0 al.length c0,.slice A1 va.length c1,.slice A2 ma.length c2] 32 (h:=?_);intro gA hgA w1 hbox hb1;clear hgA;have PA:=am_ hbox;have HB:=am_ hb1;clear hbox hb1)
   |((with_reducible refine gate_dst (N:=7) rfl ?_);refine box_y 7 #[.slice B0 bs.length d0,.slice B1 vb.length d1,.slice B2 mb.length d2] 32 (h:=?_);intro gB hgB w2 hbox hb1;clear hgB;replace PA:=am_ (blk_below PA.out hb1);have PB:=am_ hbox;replace HB:=am_ (below_step HB.out hb1);clear hbox hb1))
  have a0:=cl_ PA 0;have a1:=cl_ PA 1;have a2:=cl_ PA 2;have b0:=cl_ PB 0;have b1:=cl_ PB 1;have b2:=cl_ PB 2
  go_wp2_with (first
   |(go_at_call 17;refine(HA.out _ w2.heap.size (below_step HB.out (below_alloc (Below.refl _ _) _)) (blk_new w2 _)).mono ?_;rintro e w3 ⟨rfl,hb3⟩;have hb4:=(below_alloc (Below.refl w2.heap.size w2) (.cells #[.slice A0 al.length c0,.slice A1 va.length c1,.slice A2 ma.length c2,.slice B0 bs.length d0,.slice B1 vb.length d1,.slice B2 mb.length d2] 32 (0,0)));have hb5:=below_step hb4 hb3;have HB3:=am_ (below_step HB.out hb5);clear hb3 hb4 hb5 a0 a1 a2 b0 b1 b2))
  go_ret
  exact⟨rfl,HB3.out⟩
def impl_SegLeq.I(list:List S92)(q:Nat):Nat:=(rd_T92 list (q:Int)).f0.toNat
def impl_SegLeq.J(list:List S92)(q:Nat):Nat:=(rd_T92 list (q:Int)).f1.toNat
def impl_SegLeq.R(v:List S60)(m:List Bool)(I:Nat→Nat)(q:Nat):S60×Bool:=(st_go v m (I (q+1)-I q) (I q) (⟨⟨1,0⟩,true⟩,true)).getD (⟨⟨0,0⟩,false⟩,false)
def impl_SegLeq.L(al bs:List (List S53)):List S92:=cr_cut (cr_all bs al 0 [])
def impl_SegLeq.R1(al bs:List (List S53))(va:List S60)(ma:List Bool):Nat→S60×Bool:=impl_SegLeq.R va ma (impl_SegLeq.I (impl_SegLeq.L al bs))
def impl_SegLeq.R2(al bs:List (List S53))(vb:List S60)(mb:List Bool):Nat→S60×Bool:=impl_SegLeq.R vb mb (impl_SegLeq.J (impl_SegLeq.L al bs))
def impl_SegLeq.Q(R1 R2:Nat→S60×Bool)(q:Nat):Bool:=(impl_ValLeq.f (R1 q).1.f0.f0 (R1 q).1.f0.f1 (R1 q).1.f1 (R2 q).1.f0.f0 (R2 q).1.f0.f1 (R2 q).1.f1).getD false
def impl_SegLeq.T(b:List (List S53)):Int:=((b.map List.length).sum:Nat)
structure impl_SegLeq.C (k:Nat) (al:List (List S53)) (va:List S60) (ma:List Bool) (bs:List (List S53)) (vb:List S60) (mb:List Bool):Prop where
 la:al.length≤1000
 lb:bs.length≤1000
 ra:∀ r∈al,0<r.length∧r.length≤1000000
 rb:∀ r∈bs,r.length≤1000000
 z:va.length≤1000000∧ma.length≤1000000∧vb.length≤1000000∧mb.length≤1000000
 n:(impl_SegLeq.L al bs).length≤16
 i:∀ q,q<(impl_SegLeq.L al bs).length→(rd_T92 (impl_SegLeq.L al bs) (q:Int)).f0=(impl_SegLeq.I (impl_SegLeq.L al bs) q:Int)∧(rd_T92 (impl_SegLeq.L al bs) (q:Int)).f1=(impl_SegLeq.J (impl_SegLeq.L al bs) q:Int)∧(rd_T92 (impl_SegLeq.L al bs) (q:Int)).f2.length≤1000000
 m1:∀ q,q+1<(impl_SegLeq.L al bs).length→impl_SegLeq.I (impl_SegLeq.L al bs) q≤impl_SegLeq.I (impl_SegLeq.L al bs) (q+1)∧impl_SegLeq.I (impl_SegLeq.L al bs) (q+1)≤va.length∧impl_SegLeq.I (impl_SegLeq.L al bs) (q+1)≤ma.length
 m2:∀ q,q+1<(impl_SegLeq.L al bs).length→impl_SegLeq.J (impl_SegLeq.L al bs) q≤impl_SegLeq.J (impl_SegLeq.L al bs) (q+1)∧impl_SegLeq.J (impl_SegLeq.L al bs) (q+1)≤vb.length∧impl_SegLeq.J (impl_SegLeq.L al bs) (q+1)≤mb.length
 t1:∀ q,q+1<(impl_SegLeq.L al bs).length→st_go va ma (impl_SegLeq.I (impl_SegLeq.L al bs) (q+1)-impl_SegLeq.I (impl_SegLeq.L al bs) q) (impl_SegLeq.I (impl_SegLeq.L al bs) q) (⟨⟨1,0⟩,true⟩,true)=some (impl_SegLeq.R1 al bs va ma q)
 t2:∀ q,q+1<(impl_SegLeq.L al bs).length→st_go vb mb (impl_SegLeq.J (impl_SegLeq.L al bs) (q+1)-impl_SegLeq.J (impl_SegLeq.L al bs) q) (impl_SegLeq.J (impl_SegLeq.L al bs) q) (⟨⟨1,0⟩,true⟩,true)=some (impl_SegLeq.R2 al bs vb mb q)
 s1:impl_Seg_terms.f k (al_bl (impl_SegLeq.L al bs) (impl_SegLeq.L al bs).length) (al_vl (impl_SegLeq.R1 al bs va ma) ((impl_SegLeq.L al bs).length-1)) (al_ml (impl_SegLeq.R1 al bs va ma) ((impl_SegLeq.L al bs).length-1))=some (impl_SegLeq.T (al_bl (impl_SegLeq.L al bs) (impl_SegLeq.L al bs).length))
 s2:impl_Seg_terms.f k bs vb mb=some (impl_SegLeq.T bs)
 q:∀ q,q<(impl_SegLeq.L al bs).length-1→impl_ValLeq.f (impl_SegLeq.R1 al bs va ma q).1.f0.f0 (impl_SegLeq.R1 al bs va ma q).1.f0.f1 (impl_SegLeq.R1 al bs va ma q).1.f1 (impl_SegLeq.R2 al bs vb mb q).1.f0.f0 (impl_SegLeq.R2 al bs vb mb q).1.f0.f1 (impl_SegLeq.R2 al bs vb mb q).1.f1=some (impl_SegLeq.Q (impl_SegLeq.R1 al bs va ma) (impl_SegLeq.R2 al bs vb mb) q)
def impl_SegLeq.A(al:List (List S53))(va:List S60)(ma:List Bool)(bs:List (List S53))(vb:List S60)(mb:List Bool):Bool:=sl_res (impl_SegLeq.T (al_bl (impl_SegLeq.L al bs) (impl_SegLeq.L al bs).length)) (impl_SegLeq.T bs) (sl_f (impl_SegLeq.Q (impl_SegLeq.R1 al bs va ma) (impl_SegLeq.R2 al bs vb mb)) (al_ml (impl_SegLeq.R1 al bs va ma) ((impl_SegLeq.L al bs).length-1)) (al_ml (impl_SegLeq.R2 al bs vb mb) ((impl_SegLeq.L al bs).length-1))) ((impl_SegLeq.L al bs).length-1)
open Classical in
noncomputable def impl_SegLeq.f(k:Nat)(a0 a1:Int)(al:List (List S53))(va:List S60)(ma:List Bool)(bs:List (List S53))(vb:List S60)(mb:List Bool):Option Bool :=
 (impl_SegOk.f k a0 a1 al va ma).bind fun r=>(impl_SegOk.f k a0 a1 bs vb mb).bind fun r'=>if(r&&r')=true then(if impl_SegLeq.C k al va ma bs vb mb then some (impl_SegLeq.A al va ma bs vb mb)else none)else some false
theorem impl_SegLeq.cases{k:Nat}{a0 a1:Int}{al:List (List S53)}{va:List S60}{ma:List Bool}{bs:List (List S53)}{vb:List S60}{mb:List Bool}{r:Bool}(h:impl_SegLeq.f k a0 a1 al va ma bs vb mb=some r) :
  ∃ p p',impl_SegOk.f k a0 a1 al va ma=some p∧impl_SegOk.f k a0 a1 bs vb mb=some p'∧((p&&p')=false∧r=false∨(p&&p')=true∧impl_SegLeq.C k al va ma bs vb mb∧r=impl_SegLeq.A al va ma bs vb mb):=by
 unfold impl_SegLeq.f at h;obtain⟨p,h0,h⟩:=Option.bind_eq_some_iff.mp h;obtain⟨p',h1,h⟩:=Option.bind_eq_some_iff.mp h;refine⟨p,p',h0,h1,?_⟩;cases hp:(p&&p')with
 |false =>
  rw [hp,if_neg (by decide)]at h;exact .inl ⟨rfl,(Option.some.inj h).symm⟩
 |true =>
  rw [hp,if_pos rfl]at h
  by_cases hc:impl_SegLeq.C k al va ma bs vb mb
  ·
   rw [if_pos hc]at h;exact .inr ⟨rfl,hc,(Option.some.inj h).symm⟩
  ·
   rw [if_neg hc]at h;cases h
theorem impl_SegLeq.good{k:Nat}{a0 a1:Int}{al:List (List S53)}{va:List S60}{ma:List Bool}{bs:List (List S53)}{vb:List S60}{mb:List Bool}{p p' r:Bool}(h0:impl_SegOk.f k a0 a1 al va ma=some p)(h1:impl_SegOk.f k a0 a1 bs vb mb=some p')(h:(p&&p')=false∧r=false∨(p&&p')=true∧impl_SegLeq.C k al va ma bs vb mb∧r=impl_SegLeq.A al va ma bs vb mb):impl_SegLeq.f k a0 a1 al va ma bs vb mb=some r:=by
 unfold impl_SegLeq.f;rw [h0,Option.bind_some,h1,Option.bind_some]
 rcases h with⟨hp,rfl⟩|⟨hp,hc,rfl⟩
 ·
  rw [hp,if_neg (by decide)]
 ·
  rw [hp,if_pos rfl,if_pos hc]
theorem impl_SegLeq.mono:∀ a0 a1 a2 a3 a4 a5 a6 a7 k,LeO (impl_SegLeq.f k a0 a1 a2 a3 a4 a5 a6 a7) (impl_SegLeq.f (k+1) a0 a1 a2 a3 a4 a5 a6 a7):=by
 intro a0 a1 al va ma bs vb mb k r h;obtain⟨p,p',h0,h1,h⟩:=impl_SegLeq.cases h;refine impl_SegLeq.good (impl_SegOk.mono _ _ _ _ _ _ _ h0) (impl_SegOk.mono _ _ _ _ _ _ _ h1) ?_
 rcases h with h|⟨hp,hc,hr⟩
 ·
  exact .inl h
 ·
  exact .inr ⟨hp,{ hc with s1:=impl_Seg_terms.mono _ _ _ _ _ hc.s1,s2:=impl_Seg_terms.mono _ _ _ _ _ hc.s2 },hr⟩
theorem impl_SegLeq.calls(k:Nat)(a0 a1:Int)(A0:Option Addr)(c0:Nat)(al:List (List S53))(A1:Option Addr)(c1:Nat)(va:List S60)(A2:Option Addr)(c2:Nat)(ma:List Bool)(B0:Option Addr)(d0:Nat)(bs:List (List S53))(B1:Option Addr)(d1:Nat)(vb:List S60)(B2:Option Addr)(d2:Nat)(mb:List Bool)(r:Bool)(w:World)
  (hG1:GL0 w) (hG0:GL1 w) (hr0:Kd.C (Kd.slice 53 k53) w A0 al.length al) (hc0:al.length≤c0) (hr1:Kd.C k60 w A1 va.length va) (hc1:va.length≤c1) (hr2:Kd.C Kd.bool w A2 ma.length ma) (hc2:ma.length≤c2)
  (hs0:Kd.C (Kd.slice 53 k53) w B0 bs.length bs) (hd0:bs.length≤d0) (hs1:Kd.C k60 w B1 vb.length vb) (hd1:vb.length≤d1) (hs2:Kd.C Kd.bool w B2 mb.length mb) (hd2:mb.length≤d2) (h:impl_SegLeq.f k a0 a1 al va ma bs vb mb=some r) :
  Calls Tryd.prog 7 #[.int .i64 a0,.int .i64 a1,.agg #[.slice A0 al.length c0,.slice A1 va.length c1,.slice A2 ma.length c2],.agg #[.slice B0 bs.length d0,.slice B1 vb.length d1,.slice B2 mb.length d2]] w fun e w'=>e=.returned (.bool r)∧Below w.heap.size w w':=by
 obtain⟨p,p',h0,h1,h⟩:=impl_SegLeq.cases h
 have hres:r=((p&&p')&&impl_SegLeq.A al va ma bs vb mb):=by
  rcases h with⟨hp,hr⟩|⟨hp,_,hr⟩
  ·
   rw [hp,hr];rfl
  ·
   rw [hp,hr];rfl
 rw [hres];refine sg_walk k a0 a1 A0 A1 A2 B0 B1 B2 c0 c1 c2 d0 d1 d2 al bs va vb ma mb p p' _ w hG0 hr0 hc0 hr1 hc1 hr2 hc2 h0 hs0 hd0 hs1 hd1 hs2 hd2 h1 (fun hp W hB=>?_)
 obtain⟨hc,-⟩:impl_SegLeq.C k al va ma bs vb mb∧True:=by
  rcases h with⟨hp',_⟩|⟨_,hc,_⟩
  ·
   rw [hp]at hp';cases hp'
  ·
   exact⟨hc,trivial⟩
 have LV1:(al_vl (impl_SegLeq.R1 al bs va ma) ((impl_SegLeq.L al bs).length-1)).length=(impl_SegLeq.L al bs).length-1:=by simp [al_vl]
 have LM1:(al_ml (impl_SegLeq.R1 al bs va ma) ((impl_SegLeq.L al bs).length-1)).length=(impl_SegLeq.L al bs).length-1:=by simp [al_ml]
 have LV2:(al_vl (impl_SegLeq.R2 al bs vb mb) ((impl_SegLeq.L al bs).length-1)).length=(impl_SegLeq.L al bs).length-1:=by simp [al_vl]
 have LM2:(al_ml (impl_SegLeq.R2 al bs vb mb) ((impl_SegLeq.L al bs).length-1)).length=(impl_SegLeq.L al bs).length-1:=by simp [al_ml]
 have LB:(al_bl (impl_SegLeq.L al bs) (impl_SegLeq.L al bs).length).length=(impl_SegLeq.L al bs).length:=by simp [al_bl]
 have hrd:∀ (R:Nat→S60×Bool) (q n:Nat),q<n→rd_T60 (al_vl R n) (q:Int)=(R q).1:=fun R q n hq=>by unfold rd_T60 al_vl;simp [List.getD,hq]
 have hS:=sl_walk A0 A1 A2 B0 B1 B2 c0 c1 c2 d0 d1 d2 al bs va vb ma mb (al_bl (impl_SegLeq.L al bs) (impl_SegLeq.L al bs).length) (al_vl (impl_SegLeq.R1 al bs va ma) ((impl_SegLeq.L al bs).length-1)) (al_vl (impl_SegLeq.R2 al bs vb mb) ((impl_SegLeq.L al bs).length-1)) (al_ml (impl_SegLeq.R1 al bs va ma) ((impl_SegLeq.L al bs).length-1)) (al_ml (impl_SegLeq.R2 al bs vb mb) ((impl_SegLeq.L al bs).length-1)) (impl_SegLeq.Q (impl_SegLeq.R1 al bs va ma) (impl_SegLeq.R2 al bs vb mb)) k k _ _ W (GL1.below hG0 hB) (Kd.C_below hs0 hB) (Kd.C_below hs1 hB) (Kd.C_below hs2 hB) hd0 hd1 hd2
  (fun W2 hB2=>by
   have hBB:=below_step hB hB2;refine(al_walk A0 A1 A2 B0 B1 B2 c0 c1 c2 d0 d1 d2 al bs va vb ma mb (impl_SegLeq.L al bs) (impl_SegLeq.I (impl_SegLeq.L al bs)) (impl_SegLeq.J (impl_SegLeq.L al bs)) (impl_SegLeq.R1 al bs va ma) (impl_SegLeq.R2 al bs vb mb) W2 (GL1.below hG0 hBB) (GL0.below hG1 hBB) (Kd.C_below hr0 hBB) hc0 (Kd.C_below hs0 hBB) hd0 hc.la hc.lb hc.ra hc.rb (Kd.C_below hr1 hBB) (Kd.C_below hr2 hBB) hc1 hc2 (Kd.C_below hs1 hBB) (Kd.C_below hs2 hBB) hd1 hd2 hc.z rfl hc.n hc.i hc.m1 hc.m2 hc.t1 hc.t2).mono ?_;rintro e w' ⟨⟨X0,n0,e0⟩,⟨X1,n1,e1⟩,⟨X2,n2,e2⟩,y0,⟨Y1,m1,g1⟩,⟨Y2,m2,g2⟩,rfl,⟨q0,r0,s0⟩,⟨q1,r1,s1⟩,⟨q2,r2,s2⟩,_,⟨q4,r4,s4⟩,⟨q5,r5,s5⟩,hb⟩;have q0:n0=_:=q0;have q1:n1=_:=q1;have q2:n2=_:=q2;have q4:m1=_:=q4;have q5:m2=_:=q5;subst q0 q1 q2 q4 q5;refine⟨X0,X1,X2,y0,Y1,Y2,e0,e1,e2,g1,g2,?_,⟨?_,?_⟩,⟨?_,?_⟩,⟨?_,?_⟩,?_,?_,hb⟩
   ·
    rw [LB,LV1,LM1]
   ·
    rw [LB];exact r0
   ·
    rw [LB];exact s0
   ·
    rw [LV1];exact r1
   ·
    rw [LV1];exact s1
   ·
    rw [LM1];exact r2
   ·
    rw [LM1];exact s2
   ·
    rw [LV1];exact s4
   ·
    rw [LV1];exact s5)
  (by rw [LM1,LV1]) (by rw [LV1];have:=hc.n;omega) hc.s1 hc.s2 (fun q hq=>by rw [LV1]at hq;rw [hrd _ q _ hq,hrd _ q _ hq];exact hc.q q hq)
 rw [LV1]at hS;exact hS
end Go.Proofs.YtcdeojfeebmonaaDoor.Q
