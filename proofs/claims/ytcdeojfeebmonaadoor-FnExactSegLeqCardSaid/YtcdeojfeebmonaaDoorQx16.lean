/- Functions of the translation as Lean functions, each with a proof that a call answers so; out of the seat, by this claim's own program prt.py. -/
import Derived.Test.YtcdeojfeebmonaaDoorWRepsOne
import Derived.Test.YtcdeojfeebmonaaDoorQx0
import Derived.Test.YtcdeojfeebmonaaDoorQx7
import Derived.Test.YtcdeojfeebmonaaDoorQx15
import Derived.Test.YtcdeojfeebmonaaDoorQStep3
namespace Go.Proofs.YtcdeojfeebmonaaDoor.Q
open Go.RowKit Go.Proofs.YtcdeojfeebmonaaDoorW.PrintWords Go.Proofs.YtcdeojfeebmonaaDoorW.PrintLast Go.Proofs.YtcdeojfeebmonaaDoorW.PrintMore
attribute [local go_sem] max2_int min2_int max_two min_two max_three min_three max_four min_four
set_option linter.unusedVariables false
set_option maxHeartbeats 8000000
set_option maxRecDepth 100000
set_option linter.unusedSimpArgs false
def spec_SegLeq.f(k:Nat)(a0:Int)(a1:Int)(af:List (List (S53)))(ag:List (S60))(ah:List Bool)(aw:List (List (S53)))(ax:List (S60))(ay:List Bool):Option (Bool):=(spec_SegOk.f k a0 a1 af ag ah).bind fun bi=>(if bi=true then((spec_SegOk.f k a0 a1 aw ax ay).bind fun bj=>(if bj=true then((spec_l11Leq.f k af ag ah aw ax ay).bind fun aU=>(some aU))else(some false)))else(some false))
theorem spec_SegLeq.mono:∀ a0 a1 a2 a3 a4 a5 a6 a7 k,LeO (spec_SegLeq.f k a0 a1 a2 a3 a4 a5 a6 a7) (spec_SegLeq.f (k+1) a0 a1 a2 a3 a4 a5 a6 a7):=by
 intro a0 a1 a2 a3 a4 a5 a6 a7 k;unfold spec_SegLeq.f
 repeat' first
   |(with_reducible exact spec_SegOk.mono _ _ _ _ _ _)|(with_reducible exact spec_l11Leq.mono _ _ _ _ _ _ _)|(with_reducible exact LeO.refl _)|(with_reducible exact LeO.none _)|(with_reducible refine LeO.ite ?_ ?_)|(with_reducible refine LeO.bind ?_ fun _=>?_)|exact spec_SegOk.mono _ _ _ _ _ _|exact spec_l11Leq.mono _ _ _ _ _ _ _|exact LeO.none _|refine LeO.ite ?_ ?_|refine LeO.bind ?_ fun _=>?_
theorem spec_SegLeq.calls(k:Nat)(a0:Int)(a1:Int)(az:Option Addr)(aG:Nat)(af:List (List (S53)))(aA:Option Addr)(aH:Nat)(ag:List (S60))(aC:Option Addr)(aI:Nat)(ah:List Bool)(aV:Option Addr)(bf:Nat)(aw:List (List (S53)))(aW:Option Addr)(bg:Nat)(ax:List (S60))(aX:Option Addr)(bh:Nat)(ay:List Bool)(r:Bool)(w:World)(bA:Kd.C (Kd.slice 53 k53) w az af.length af)(bq:af.length≤aG)(bB:Kd.C k60 w aA ag.length ag)(br:ag.length≤aH)(bC:Kd.C Kd.bool w aC ah.length ah)(bu:ah.length≤aI)(bD:Kd.C (Kd.slice 53 k53) w aV aw.length aw)(bw:aw.length≤bf)(bE:Kd.C k60 w aW ax.length ax)(bx:ax.length≤bg)(bF:Kd.C Kd.bool w aX ay.length ay)(bz:ay.length≤bh)(h:spec_SegLeq.f k a0 a1 af ag ah aw ax ay=some r) :
  Calls Tryd.prog 5 #[.int .i64 a0,.int .i64 a1,.agg #[.slice az af.length aG,.slice aA ag.length aH,.slice aC ah.length aI],.agg #[.slice aV aw.length bf,.slice aW ax.length bg,.slice aX ay.length bh]] w fun e w'=>e=.returned (.bool r)∧Below w.heap.size w w':=by
 have hu32:=Tryd.underlying32;have aN:=am_ bA;have aJ:=am_ bq;clear bA bq;have aQ:=am_ bB;have aK:=am_ br;clear bB br;have aT:=am_ bC;have aM:=am_ bu;clear bC bu;have a9:=am_ bD;have aY:=am_ bw;clear bD bw;have ba:=am_ bE;have aZ:=am_ bx;clear bE bx;have bc:=am_ bF;have a8:=am_ bz;clear bF bz;have HB:=am_ (Below.refl w.heap.size w);have H:((spec_SegOk.f k a0 a1 af ag ah).bind fun bi=>(if bi=true then((spec_SegOk.f k a0 a1 aw ax ay).bind fun bj=>(if bj=true then((spec_l11Leq.f k af ag ah aw ax ay).bind fun aU=>(some aU))else(some false)))else(some false)))=some r:=h;clear h;obtain⟨bi,A5,H⟩:=be_ H;(try dsimp only at H)
 by_cases c6:bi=true
 ·
  subst c6;have H1:=ifp_ H
  clear H;have H:=H1;clear H1;obtain⟨bj,A7,H⟩:=be_ H;(try dsimp only at H)
  by_cases c8:bj=true
  ·
   subst c8;have H1:=ifp_ H
   clear H;have H:=H1;clear H1;replace H:=Option.bind_eq_some_iff.mp H;obtain⟨aU,A90,H⟩:=H;replace H:(some aU)=some r:=H;have A9:=am_ A90;clear A90;obtain rfl:=Option.some.inj H
   go_enter Tryd.func5,Tryd.ntmps5
   go_wp2_with (first|((with_reducible refine gate_dst (N:=6) rfl ?_);refine box_y 6 #[.slice az af.length aG,.slice aA ag.length aH,.slice aC ah.length aI] 32 (h:=?_);intro bo hg cK hbox hb;have aa:=am_ hbox;have bk:=gz_ hg HB;have ae:=gz_ hg HB;replace HB:=hb_ HB hb;clear hb hbox hg)|((with_reducible refine gate_dst (N:=7) rfl ?_);refine box_y 7 #[.slice aV aw.length bf,.slice aW ax.length bg,.slice aX ay.length bh] 32 (h:=?_);intro bp hg cM hbox hb;have ai:=am_ hbox;have bn:=gz1_ hg HB ae;have aD:=gz1_ hg HB ae;replace HB:=hb1_ HB hb ae;have ac:=nb_ hg aa;replace aa:=bb_ aa hb;have au:=ns_ ac;clear hb hbox hg;have cG:=ac.out;have cI:=au.out;obtain⟨bM,bN,bO,ca,cb,cd⟩:=cz3_ aa)|((with_reducible refine gate_callee (f:=12) rfl ?_);refine gl_ 12 Tryd.func12 #[.int .i64 a0,.int .i64 a1,.agg #[.slice az af.length aG,.slice aA ag.length aH,.slice aC ah.length aI]] (h:=?_);(with_reducible refine(spec_SegOk.calls k a0 a1 _ _ af _ _ ag _ _ ah true _ ?aj ?ak ?ao ?ap ?aq ?ar A5.out).mono ?_);(case aj=>exact sq_c (Kd.C_below aN.out HB.out));(case ak=>exact aJ.out);(case ao=>exact sq_c (Kd.C_below aQ.out HB.out));(case ap=>exact aK.out);(case aq=>exact sq_c (Kd.C_below aT.out HB.out));(case ar=>exact aM.out);rintro e cN ⟨rfl,hb⟩;refine⟨_,rfl,?_⟩;replace aa:=bb_ aa hb;replace ai:=bb_ ai hb;replace HB:=hb2_ HB hb ae aD;(try clear hb);obtain⟨bP,bQ,bR,cf,cg,ch⟩:=cz3_ ai)|(go_at_call 12;(with_reducible refine(spec_SegOk.calls k a0 a1 _ _ aw _ _ ax _ _ ay true _ ?aj ?ak ?ao ?ap ?aq ?ar A7.out).mono ?_);(case aj=>exact sq_c (Kd.C_below a9.out HB.out));(case ak=>exact aY.out);(case ao=>exact sq_c (Kd.C_below ba.out HB.out));(case ap=>exact aZ.out);(case aq=>exact sq_c (Kd.C_below bc.out HB.out));(case ar=>exact a8.out);rintro e cO ⟨rfl,hb⟩;replace aa:=bb_ aa hb;replace ai:=bb_ ai hb;replace HB:=hb2_ HB hb ae aD;(try clear hb);obtain⟨bS,bT,bU,cj,ck,cl⟩:=cz3_ aa;obtain⟨bV,bW,bX,cn,cp,cq⟩:=cz3_ ai)|(go_at_call 13;(with_reducible refine(spec_l11Leq.calls k _ _ af _ _ ag _ _ ah _ _ aw _ _ ax _ _ ay aU _ ?aj ?ak ?ao ?ap ?aq ?ar ?bJ ?bK ?bL ?bG ?bH ?bI A9.out).mono ?_);(case aj=>exact sq_c (Kd.C_below aN.out HB.out));(case ak=>exact aJ.out);(case ao=>exact sq_c (Kd.C_below aQ.out HB.out));(case ap=>exact aK.out);(case aq=>exact sq_c (Kd.C_below aT.out HB.out));(case ar=>exact aM.out);(case bJ=>exact sq_c (Kd.C_below a9.out HB.out));(case bK=>exact aY.out);(case bL=>exact sq_c (Kd.C_below ba.out HB.out));(case bG=>exact aZ.out);(case bH=>exact sq_c (Kd.C_below bc.out HB.out));(case bI=>exact a8.out);rintro e cP ⟨rfl,hb⟩;replace HB:=hb_ HB hb;(try clear hb)))
   go_ret
   exact⟨lf_,sq_below HB.out⟩
  ·
   replace c8:=Bool.eq_false_iff.mpr c8;subst c8;have H1:=ifn_ H
   clear H;have H:=H1;clear H1;obtain rfl:=Option.some.inj H
   go_enter Tryd.func5,Tryd.ntmps5
   go_wp2_with (first|((with_reducible refine gate_dst (N:=6) rfl ?_);refine box_y 6 #[.slice az af.length aG,.slice aA ag.length aH,.slice aC ah.length aI] 32 (h:=?_);intro bo hg cQ hbox hb;have aa:=am_ hbox;have bk:=gz_ hg HB;have ae:=gz_ hg HB;replace HB:=hb_ HB hb;clear hb hbox hg)|((with_reducible refine gate_dst (N:=7) rfl ?_);refine box_y 7 #[.slice aV aw.length bf,.slice aW ax.length bg,.slice aX ay.length bh] 32 (h:=?_);intro bp hg cR hbox hb;have ai:=am_ hbox;have bn:=gz1_ hg HB ae;have aD:=gz1_ hg HB ae;replace HB:=hb1_ HB hb ae;have ac:=nb_ hg aa;replace aa:=bb_ aa hb;have au:=ns_ ac;clear hb hbox hg;have cH:=ac.out;have cJ:=au.out;obtain⟨bY,bZ,b3,cr,cx,cy⟩:=cz3_ aa)|((with_reducible refine gate_callee (f:=12) rfl ?_);refine gl_ 12 Tryd.func12 #[.int .i64 a0,.int .i64 a1,.agg #[.slice az af.length aG,.slice aA ag.length aH,.slice aC ah.length aI]] (h:=?_);(with_reducible refine(spec_SegOk.calls k a0 a1 _ _ af _ _ ag _ _ ah true _ ?aj ?ak ?ao ?ap ?aq ?ar A5.out).mono ?_);(case aj=>exact sq_c (Kd.C_below aN.out HB.out));(case ak=>exact aJ.out);(case ao=>exact sq_c (Kd.C_below aQ.out HB.out));(case ap=>exact aK.out);(case aq=>exact sq_c (Kd.C_below aT.out HB.out));(case ar=>exact aM.out);rintro e cS ⟨rfl,hb⟩;refine⟨_,rfl,?_⟩;replace ai:=bb_ ai hb;replace HB:=hb1_ HB hb aD;(try clear hb);obtain⟨b4,b5,b6,cz,cA,cB⟩:=cz3_ ai)|(go_at_call 12;(with_reducible refine(spec_SegOk.calls k a0 a1 _ _ aw _ _ ax _ _ ay false _ ?aj ?ak ?ao ?ap ?aq ?ar A7.out).mono ?_);(case aj=>exact sq_c (Kd.C_below a9.out HB.out));(case ak=>exact aY.out);(case ao=>exact sq_c (Kd.C_below ba.out HB.out));(case ap=>exact aZ.out);(case aq=>exact sq_c (Kd.C_below bc.out HB.out));(case ar=>exact a8.out);rintro e cT ⟨rfl,hb⟩;replace HB:=hb_ HB hb;(try clear hb)))
   go_ret
   exact⟨lf_,sq_below HB.out⟩
 ·
  replace c6:=Bool.eq_false_iff.mpr c6;subst c6;have H1:=ifn_ H
  clear H;have H:=H1;clear H1;obtain rfl:=Option.some.inj H
  go_enter Tryd.func5,Tryd.ntmps5
  go_wp2_with (first|((with_reducible refine gate_dst (N:=6) rfl ?_);refine box_y 6 #[.slice az af.length aG,.slice aA ag.length aH,.slice aC ah.length aI] 32 (h:=?_);intro bo hg cU hbox hb;have aa:=am_ hbox;have bk:=gz_ hg HB;have ae:=gz_ hg HB;replace HB:=hb_ HB hb;clear hb hbox hg)|((with_reducible refine gate_dst (N:=7) rfl ?_);refine box_y 7 #[.slice aV aw.length bf,.slice aW ax.length bg,.slice aX ay.length bh] 32 (h:=?_);intro bp hg cV hbox hb;have ai:=am_ hbox;have bn:=gz1_ hg HB ae;have aD:=gz1_ hg HB ae;replace HB:=hb1_ HB hb ae;have ac:=nb_ hg aa;replace aa:=bb_ aa hb;have au:=ns_ ac;clear hb hbox hg;obtain⟨b7,b8,b9,cC,cD,cF⟩:=cz3_ aa)|((with_reducible refine gate_callee (f:=12) rfl ?_);refine gl_ 12 Tryd.func12 #[.int .i64 a0,.int .i64 a1,.agg #[.slice az af.length aG,.slice aA ag.length aH,.slice aC ah.length aI]] (h:=?_);(with_reducible refine(spec_SegOk.calls k a0 a1 _ _ af _ _ ag _ _ ah false _ ?aj ?ak ?ao ?ap ?aq ?ar A5.out).mono ?_);(case aj=>exact sq_c (Kd.C_below aN.out HB.out));(case ak=>exact aJ.out);(case ao=>exact sq_c (Kd.C_below aQ.out HB.out));(case ap=>exact aK.out);(case aq=>exact sq_c (Kd.C_below aT.out HB.out));(case ar=>exact aM.out);rintro e cW ⟨rfl,hb⟩;refine⟨_,rfl,?_⟩;replace HB:=hb_ HB hb;(try clear hb)))
  go_ret
  exact⟨lf_,sq_below HB.out⟩
def laws_toSym.f(ai:Int)(aj:Int):Option (Int×Int):=some (ai,aj)
theorem laws_toSym.calls(ai:Int)(aj:Int)(r1:Int)(r2:Int)(w:World)(h:laws_toSym.f ai aj=some (r1,r2)) :
  Calls Tryd.prog 46 #[.agg #[.int .i64 ai,.int .i64 aj]] w fun e w'=>e=.returned (.agg #[.int .i64 r1,.int .i64 r2])∧Below w.heap.size w w':=by
 have hu82:=Tryd.underlying82;have hu53:=Tryd.underlying53;have HB:=am_ (Below.refl w.heap.size w);have H:(some (ai,aj))=some (r1,r2):=h;clear h;simp only [Option.some.injEq,Prod.mk.injEq]at H;obtain⟨rfl,rfl⟩:=H
 go_enter Tryd.func46,Tryd.ntmps46
 go_wp2_with (first|((with_reducible refine gate_dst (N:=1) rfl ?_);refine box_y 1 #[.int .i64 ai,.int .i64 aj] 82 (h:=?_);intro aU hg w2 hbox hb;have ac:=am_ hbox;have aN:=gz_ hg HB;have ae:=gz_ hg HB;replace HB:=hb_ HB hb;clear hb hbox hg)|((with_reducible refine gate_dst (N:=2) rfl ?_);refine box_y 2 #[.int .i64 0,.int .i64 0] 53 (h:=?_);intro aw hg w3 hbox hb;have ah:=am_ hbox;have aQ:=gz1_ hg HB ae;have ak:=gz1_ hg HB ae;replace HB:=hb1_ HB hb ae;have af:=nb_ hg ac;replace ac:=bb_ ac hb;have ao:=ns_ af;clear hb hbox hg)|((with_reducible refine gate_dst (N:=3) rfl ?_);refine box_y 3 #[.int .i64 0,.int .i64 0] 53 (h:=?_);intro aV hg w4 hbox hb;have ar:=am_ hbox;have aT:=gz2_ hg HB ae ak;have au:=gz2_ hg HB ae ak;replace HB:=hb2_ HB hb ae ak;have ag:=nb_ hg ac;replace ac:=bb_ ac hb;have ap:=ns_ ag;have aa:=nb_ hg ah;replace ah:=bb_ ah hb;have aq:=ns_ aa;clear hb hbox hg;have aW:=af.out;have aZ:=ao.out;have aX:=ag.out;have a8:=ap.out;obtain⟨aC,aD,aI,aJ⟩:=cz2_ ac;have aY:=aq.out;have a9:=aa.out;obtain⟨aG,aH,aK,aM⟩:=cz2_ ar;obtain⟨ax,ay,az,aA⟩:=cz2_ ah))
 refine bodyPost_ret (results_cell_row rfl _ _ aw 53 #[.int .i64 ai,.int .i64 aj] (0,0) _ rfl (bp1_ ah aa) Tryd.underlying53 rfl (by kernel_rfl)) rfl ?_;exact⟨lf_,sq_below2 HB.out ak.out au.out⟩
def laws_toSymS.l0:Nat→List (S82)→List (S53)→Int→Option ((List (S53)))
 |0,_,_,_=>none
 |k+1,x0,x3,x4=>if x4<(x0.length:Int)then(if 0≤x4 then((laws_toSym.f ((rd_T82 x0 x4).f0) ((rd_T82 x0 x4).f1)).bind fun ap=>(if x4<(x3.length:Int)then(laws_toSymS.l0 k x0 (x3.set (x4:Int).toNat (⟨ap.1,ap.2⟩:S53)) (wrap64 (x4+1)))else(none)))else(none))else(some x3)
def laws_toSymS.f(k:Nat)(l0:List (S82)):Option ((List (S53))):=if 0≤(l0.length:Int)then(if((l0.length:Int):Int).toNat≤17592186044416 then(laws_toSymS.l0 k l0 (List.replicate ((l0.length:Int):Int).toNat z53) 0)else(none))else(none)
theorem laws_toSymS.mono_l:∀ k,(∀ y0 y1 y2,LeO (laws_toSymS.l0 k y0 y1 y2) (laws_toSymS.l0 (k+1) y0 y1 y2))
 |0=>fun _ _ _ r h=>by simp [laws_toSymS.l0]at h
 |k+1=>by
  have ih0:=laws_toSymS.mono_l k
  ·
   intro y0 y1 y2;unfold laws_toSymS.l0
   repeat' first
   |(with_reducible exact ih0 _ _ _)|(with_reducible exact LeO.refl _)|(with_reducible exact LeO.none _)|(with_reducible refine LeO.ite ?_ ?_)|(with_reducible refine LeO.bind ?_ fun _=>?_)|exact ih0 _ _ _|exact LeO.none _|refine LeO.ite ?_ ?_|refine LeO.bind ?_ fun _=>?_
theorem laws_toSymS.mono:∀ a0 k,LeO (laws_toSymS.f k a0) (laws_toSymS.f (k+1) a0):=by
 intro a0 k;have ih0:=laws_toSymS.mono_l k;unfold laws_toSymS.f
 repeat' first
   |(with_reducible exact ih0 _ _ _)|(with_reducible exact LeO.refl _)|(with_reducible exact LeO.none _)|(with_reducible refine LeO.ite ?_ ?_)|(with_reducible refine LeO.bind ?_ fun _=>?_)|exact ih0 _ _ _|exact LeO.none _|refine LeO.ite ?_ ?_|refine LeO.bind ?_ fun _=>?_
theorem laws_toSymS.calls(k:Nat)(A0:Option Addr)(c0:Nat)(l0:List (S82))(r:List (S53))(w:World)(hr0:Kd.C k82 w A0 l0.length l0)(hc0:l0.length≤c0)(h:laws_toSymS.f k l0=some r) :
  Calls Tryd.prog 30 #[.slice A0 l0.length c0] w fun e w'=>∃ v0_:Value,e=.returned (v0_)∧Kd.R k53 53 w' w.heap.size (fun _=>True) v0_ r∧Below w.heap.size w w':=by
 have hu82:=Tryd.underlying82;have hu53:=Tryd.underlying53;have aX:=am_ hr0;have a8:=am_ hc0;clear hr0 hc0;have HB:=am_ (Below.refl w.heap.size w);have H:(if 0≤(l0.length:Int)then(if((l0.length:Int):Int).toNat≤17592186044416 then(laws_toSymS.l0 k l0 (List.replicate ((l0.length:Int):Int).toNat z53) 0)else(none))else(none))=some r:=h;clear h
 by_cases c2:0≤(l0.length:Int)
 ·
  rw [if_pos c2]at H;have aI:=eq_true c2;have aJ:=decide_eq_true (p:=0≤(l0.length:Int)) c2;clear c2
  by_cases c3:((l0.length:Int):Int).toNat≤17592186044416
  ·
   rw [if_pos c3]at H;have aK:=eq_true c3;have aM:=decide_eq_true (p:=((l0.length:Int):Int).toNat≤17592186044416) c3;clear c3;obtain⟨aH,af⟩:∃ y_:List (S53),y_=(List.replicate ((l0.length:Int):Int).toNat z53):=⟨_,rfl⟩;replace H:(laws_toSymS.l0 k l0 aH 0)=some r:=by first|(rw [af];with_reducible exact H)|(have H2_:=(Option.bind_some _ _).symm.trans H;rw [af];with_reducible exact H2_)|(have H2_:=(Option.bind_some _ _).symm.trans H;with_reducible exact H2_)|with_reducible exact H|(rw [af];exact H)|exact H
   have ao:=am_ af;clear af;have H':=am_ H;clear H
   go_enter Tryd.func30,Tryd.ntmps30
   go_wp2_with (first|((with_reducible refine gate_dst (N:=7) rfl ?_);refine Kd.R_make k53 _ 53 rfl (N:=7) rfl 50 _ _ rfl (l0.length:Int) rfl rfl Tryd.underlying50 (.agg #[(.int .i64 0),(.int .i64 0)]) 16 info53 rfl (by decide) (by omega) z53 (ok:=fun _=>True) (okp:=fun _=>True) (k53_mkM _ _ _ z53 ) (fun _ hk=>hk) trivial (sq_dec) (Nat.le_trans (Nat.mul_le_mul_right _ (sq_dec:(l0.length:Int).toNat≤17592186044416)) (by omega)) (Below.refl _ _) (Nat.le_refl _) ?_;intro v326 w4 ho5 hb hg_ hnew_;clear hg_ hnew_;(first|rw [← ao.out]at ho5|(simp only [Int.reduceToNat]at ho5;rw [← ao.out]at ho5));have az:=am_ (Kd.R_lower ho5 (below_size (sq_below HB.out)));replace HB:=hb_ HB hb;clear hb ho5))
   go_loopg [4] k (fun kq v4 w'=>∃ (ac:List (S53)) (aa:Int),v4=.int .i64 aa∧Aside0 (laws_toSymS.l0 kq l0 ac aa=some r)∧Aside0 (kq≤k)∧Aside0 (Kd.R k53 53 w' w.heap.size (fun _=>True) v326 ac)∧Aside0 (Below w.heap.size w w'))
   case atStart=>exact⟨(aH),(0),sr_,H',⟨Nat.le_refl _⟩,⟨by(with_reducible repeat(first|apply Kd.R_alloc|apply Kd.R_drewN|apply Kd.R_drew));exact az.out⟩,⟨sq_below HB.out⟩⟩
   case round =>
    clear H'
    obtain⟨ac,aa,rfl,HA,HK1,ae,HB⟩:=hrel;cases gk with
    |zero=>exact absurd HA.out (by simp [laws_toSymS.l0])
    |succ k1 =>
     have H:=HA.out;clear HA;simp only [laws_toSymS.l0]at H
     by_cases c6:aa<(l0.length:Int)
     ·
      rw [if_pos c6]at H;have aN:=decide_eq_true (p:=aa<(l0.length:Int)) c6;clear c6
      by_cases c7:0≤aa
      ·
       rw [if_pos c7]at H;have aY:=decide_eq_true (p:=0≤aa) c7;clear c7;replace H:=Option.bind_eq_some_iff.mp H;obtain⟨⟨aj,ak⟩,A80,H⟩:=H;(try dsimp only at H);have A8:=am_ A80;clear A80
       by_cases c9:aa<(ac.length:Int)
       ·
        rw [if_pos c9]at H;have aZ:=decide_eq_true (p:=aa<(ac.length:Int)) c9;clear c9;obtain⟨ay,ag⟩:∃ y_:List (S53),y_=(ac.set (aa:Int).toNat (⟨aj,ak⟩:S53)):=⟨_,rfl⟩;replace H:(laws_toSymS.l0 k1 l0 ay (wrap64 (aa+1)))=some r:=by first|(rw [ag];with_reducible exact H)|(have H2_:=(Option.bind_some _ _).symm.trans H;rw [ag];with_reducible exact H2_)|(have H2_:=(Option.bind_some _ _).symm.trans H;with_reducible exact H2_)|with_reducible exact H|(rw [ag];exact H)|exact H
        have aA:=am_ ag;clear ag;have H':=am_ H;clear H;have au:0≤(aa:Int):=sq_dec;have aw:aa<(l0.length:Int):=sq_dec;obtain⟨aW,aQ,ah,ai⟩:=at_T82 aX.out aa au aw;cases aQ;replace ah:=cb_ HB ah;replace ai:=cb_ HB ai;replace au:=eq_true au;replace aw:=eq_true aw
        go_wp2_with (first|((with_reducible refine gate_callee (f:=46) rfl ?_);refine gl_ 20 Tryd.func46 #[.agg #[.int .i64 ((rd_T82 l0 aa).f0),.int .i64 ((rd_T82 l0 aa).f1)]] (h:=?_);(with_reducible refine(laws_toSym.calls ((rd_T82 l0 aa).f0) ((rd_T82 l0 aa).f1) aj ak _ A8.out).mono ?_);rintro e ax ⟨rfl,hb⟩;refine⟨_,rfl,?_⟩;replace ae:=rb_ ae hb;replace HB:=hb_ HB hb;(try clear hb);have p10:0≤(aa:Int):=sq_dec;have q10:(aa:Int)<((ac.length:Int):Int):=sq_dec;obtain⟨go10,aC,aD,aG,gl10,cl10,HG10⟩:=Kd.R_form ae.out (by omega);(first|cases aD|(injection aD with ea_ en_ ec_;(first|subst ea_|(injection ea_ with ea_;subst ea_));subst ec_;clear en_));have GB10:=am_ aG;have GG10:=am_ HG10;clear aG gl10 HG10;obtain⟨ce10,hcl10,hM10,hcc10,hfr10⟩:=Kd.R_elem ae.out z53 (aa:Int) p10 q10;obtain rfl:=k53_openM hM10;have aT:ax.cell? ⟨go10,(aa:Int).toNat*2,none⟩=some (.int .i64 ((rd_T53 ac aa).f0)):=hcc10 0 _ rfl;have aU:ax.cell? ⟨go10,(aa:Int).toNat*2+1,none⟩=some (.int .i64 ((rd_T53 ac aa).f1)):=hcc10 1 _ rfl;have hf10_0:ax.frozen? ⟨go10,(aa:Int).toNat*2,none⟩=false:=hfr10 0;have hf10_1:ax.frozen? ⟨go10,(aa:Int).toNat*2+1,none⟩=false:=hfr10 1;clear hcl10 hcc10 hfr10 hM10;replace p10:=eq_true p10;replace q10:=eq_true q10;have HX12:=am_ (show Kd.R k53 53 ax w.heap.size (fun _=>True) (.slice (some ⟨go10,0,none⟩) ac.length aC) ac from(sq_row ae.out));obtain⟨ce12,hcl12,hM12,hcc12,hfr12⟩:=Kd.R_elem HX12.out z53 (aa:Int) (sq_dec) (by have h_:(aa:Int)<((ac.length:Int):Int):=sq_dec;first|exact h_|(have e_:=(Kd.R_reads' ae.out).1;omega)|simpa using h_);obtain rfl:=k53_openM hM12;have HP12:=Kd.R_seg HX12.out (aa:Int) (sq_dec) (by have h_:(aa:Int)<((ac.length:Int):Int):=sq_dec;first|exact h_|(have e_:=(Kd.R_reads' ae.out).1;omega)|simpa using h_) (seg:=[.int .i64 aj,.int .i64 ak]) (j:=0) hcl12 hcc12 (show 2≤2 from by decide) (x':=(⟨aj,ak⟩:S53)) (k53_mkM _ _ _ (⟨aj,ak⟩:S53)) (fun _ hk=>hk);have aq:=hcc12 0 _ rfl;(try simp only [show(k53).sz=2 from rfl,Nat.mul_one,Nat.add_zero]at aq);have hf12_0:=hfr12 0;(try simp only [show(k53).sz=2 from rfl,Nat.mul_one,Nat.add_zero]at hf12_0);have ar:=hcc12 1 _ rfl;(try simp only [show(k53).sz=2 from rfl,Nat.mul_one,Nat.add_zero]at ar);have hf12_1:=hfr12 1;(try simp only [show(k53).sz=2 from rfl,Nat.mul_one,Nat.add_zero]at hf12_1);clear hcl12 hcc12 hfr12 hM12)|((with_reducible refine gate_store (t:=53) (p:=21) rfl ?_);refine store_event (t:=53) (p:=21) (v:=?vo_w13) (w1:=((ax.setCell ⟨go10,(aa:Int).toNat*2,none⟩ (.int .i64 aj)).setCell ⟨go10,(aa:Int).toNat*2+1,none⟩ (.int .i64 ak))) ?hg ?ho ?hn ?hr ?_;(case ho=>rfl);(case hg=>rfl);(case hn=>rfl);(case hr=>first|(go_simp;done)|(go_simp;rfl));intro aV hw;have hg:ax.grownBy aV (some go10):=(by rw [hw];exact HP12.2);have hp_:Kd.R k53 53 aV w.heap.size (fun _=>True) (.slice (some ⟨go10,0,none⟩) ac.length aC) ay:=(by rw [hw,aA.out];exact HP12.1);clear HP12;replace ae:=am_ hp_;replace HB:=am_ ((by rw [hw];exact below_set (below_set (HB.out) GB10.out) GB10.out:Below w.heap.size w aV));clear hg hw hp_))
        go_roundg k1
        case measure=>have:=HK1.out;omega
        case rel=>exact⟨(ay),(wrap64 (aa+1)),sr_,H',⟨by have:=HK1.out;omega⟩,⟨by(with_reducible repeat(first|apply Kd.R_alloc|apply Kd.R_drewN|apply Kd.R_drew));exact ae.out⟩,⟨sq_below HB.out⟩⟩
       ·
        rw [if_neg c9]at H;exact absurd H (by simp)
      ·
       rw [if_neg c7]at H;exact absurd H (by simp)
     ·
      rw [if_neg c6]at H;have aN:=decide_eq_false (p:=aa<(l0.length:Int)) c6;clear c6;obtain rfl:=Option.some.inj H
      go_wp2
      go_ret
      exact⟨_,by first|rfl|(simp [errW_none,errW_some]<;>rfl)|(simp [*,errW_none,errW_some]<;>rfl),by(with_reducible repeat(first|apply Kd.R_alloc|apply Kd.R_drewN|apply Kd.R_drew));exact ae.out,sq_below HB.out⟩
  ·
   rw [if_neg c3]at H;exact absurd H (by simp)
 ·
  rw [if_neg c2]at H;exact absurd H (by simp)
def laws_toSymSS.l0:Nat→List (List (S82))→List (List (S53))→Int→Option ((List (List (S53))))
 |0,_,_,_=>none
 |k+1,x0,x3,x4=>if x4<(x0.length:Int)then(if 0≤x4 then((laws_toSymS.f k (rd_L2 x0 x4)).bind fun af=>(if x4<(x3.length:Int)then(laws_toSymSS.l0 k x0 (x3.set (x4:Int).toNat af) (wrap64 (x4+1)))else(none)))else(none))else(some x3)
def laws_toSymSS.f(k:Nat)(l0:List (List (S82))):Option ((List (List (S53)))):=if 0≤(l0.length:Int)then(if((l0.length:Int):Int).toNat≤11728124029610 then(laws_toSymSS.l0 k l0 (List.replicate ((l0.length:Int):Int).toNat []) 0)else(none))else(none)
theorem laws_toSymSS.mono_l:∀ k,(∀ y0 y1 y2,LeO (laws_toSymSS.l0 k y0 y1 y2) (laws_toSymSS.l0 (k+1) y0 y1 y2))
 |0=>fun _ _ _ r h=>by simp [laws_toSymSS.l0]at h
 |k+1=>by
  have ih0:=laws_toSymSS.mono_l k
  ·
   intro y0 y1 y2;unfold laws_toSymSS.l0
   repeat' first
   |(with_reducible exact ih0 _ _ _)|(with_reducible exact laws_toSymS.mono _ _)|(with_reducible exact LeO.refl _)|(with_reducible exact LeO.none _)|(with_reducible refine LeO.ite ?_ ?_)|(with_reducible refine LeO.bind ?_ fun _=>?_)|exact ih0 _ _ _|exact laws_toSymS.mono _ _|exact LeO.none _|refine LeO.ite ?_ ?_|refine LeO.bind ?_ fun _=>?_
theorem laws_toSymSS.mono:∀ a0 k,LeO (laws_toSymSS.f k a0) (laws_toSymSS.f (k+1) a0):=by
 intro a0 k;have ih0:=laws_toSymSS.mono_l k;unfold laws_toSymSS.f
 repeat' first
   |(with_reducible exact ih0 _ _ _)|(with_reducible exact laws_toSymS.mono _ _)|(with_reducible exact LeO.refl _)|(with_reducible exact LeO.none _)|(with_reducible refine LeO.ite ?_ ?_)|(with_reducible refine LeO.bind ?_ fun _=>?_)|exact ih0 _ _ _|exact laws_toSymS.mono _ _|exact LeO.none _|refine LeO.ite ?_ ?_|refine LeO.bind ?_ fun _=>?_
theorem laws_toSymSS.calls(k:Nat)(A0:Option Addr)(c0:Nat)(l0:List (List (S82)))(r:List (List (S53)))(w:World)(hr0:Kd.C (Kd.slice 82 k82) w A0 l0.length l0)(hc0:l0.length≤c0)(h:laws_toSymSS.f k l0=some r) :
  Calls Tryd.prog 14 #[.slice A0 l0.length c0] w fun e w'=>∃ v0_:Value,e=.returned (v0_)∧Kd.S (Kd.slice 53 k53) 50 w' w.heap.size (fun _=>True) v0_ r∧Below w.heap.size w w':=by
 have ba:=am_ hr0;have bg:=am_ hc0;clear hr0 hc0;have HB:=am_ (Below.refl w.heap.size w);have H:(if 0≤(l0.length:Int)then(if((l0.length:Int):Int).toNat≤11728124029610 then(laws_toSymSS.l0 k l0 (List.replicate ((l0.length:Int):Int).toNat []) 0)else(none))else(none))=some r:=h;clear h
 by_cases c2:0≤(l0.length:Int)
 ·
  rw [if_pos c2]at H;have aQ:=eq_true c2;have aT:=decide_eq_true (p:=0≤(l0.length:Int)) c2;clear c2
  by_cases c3:((l0.length:Int):Int).toNat≤11728124029610
  ·
   rw [if_pos c3]at H;have aU:=eq_true c3;have aV:=decide_eq_true (p:=((l0.length:Int):Int).toNat≤11728124029610) c3;clear c3;obtain⟨aN,ag⟩:∃ y_:List (List (S53)),y_=(List.replicate ((l0.length:Int):Int).toNat []):=⟨_,rfl⟩;replace H:(laws_toSymSS.l0 k l0 aN 0)=some r:=by first|(rw [ag];with_reducible exact H)|(have H2_:=(Option.bind_some _ _).symm.trans H;rw [ag];with_reducible exact H2_)|(have H2_:=(Option.bind_some _ _).symm.trans H;with_reducible exact H2_)|with_reducible exact H|(rw [ag];exact H)|exact H
   have ar:=am_ ag;clear ag;have H':=am_ H;clear H
   go_enter Tryd.func14,Tryd.ntmps14
   go_wp2_with (first|((with_reducible refine gate_dst (N:=7) rfl ?_);refine Kd.S_make (Kd.slice 53 k53) _ 50 rfl (N:=7) rfl 29 _ _ rfl (l0.length:Int) rfl rfl Tryd.underlying29 (.slice none 0 0) 24 info50 rfl (by decide) (by omega) [] (ok:=fun _=>True) (okp:=fun _=>True) ⟨_,rfl,Kd.R_nil _ _ _ _ _⟩ (fun _ hk=>hk) trivial (sq_dec) (Nat.le_trans (Nat.mul_le_mul_right _ (sq_dec:(l0.length:Int).toNat≤11728124029610)) (by omega)) (Below.refl _ _) (Nat.le_refl _) ?_;intro v333 w4 ho5 hb hg_ hnew_;clear hg_ hnew_;(first|rw [← ar.out]at ho5|(simp only [Int.reduceToNat]at ho5;rw [← ar.out]at ho5));have aD:=am_ (Kd.S_lower ho5 (below_size (sq_below HB.out)));replace HB:=hb_ HB hb;clear hb ho5))
   go_loopg [4] k (fun kq v4 w'=>∃ (ae:List (List (S53))) (aa:Int),v4=.int .i64 aa∧Aside0 (laws_toSymSS.l0 kq l0 ae aa=some r)∧Aside0 (kq≤k)∧Aside0 (Kd.S (Kd.slice 53 k53) 50 w' w.heap.size (fun _=>True) v333 ae)∧Aside0 (Below w.heap.size w w'))
   case atStart=>exact⟨(aN),(0),sr_,H',⟨Nat.le_refl _⟩,⟨by(with_reducible repeat(first|apply Kd.S_alloc|apply Kd.S_drewN|apply Kd.S_drew));exact aD.out⟩,⟨sq_below HB.out⟩⟩
   case round =>
    clear H'
    obtain⟨ae,aa,rfl,HA,HK1,ac,HB⟩:=hrel;cases gk with
    |zero=>exact absurd HA.out (by simp [laws_toSymSS.l0])
    |succ k1 =>
     have H:=HA.out;clear HA;simp only [laws_toSymSS.l0]at H
     by_cases c6:aa<(l0.length:Int)
     ·
      rw [if_pos c6]at H;have aW:=decide_eq_true (p:=aa<(l0.length:Int)) c6;clear c6
      by_cases c7:0≤aa
      ·
       rw [if_pos c7]at H;have bc:=decide_eq_true (p:=0≤aa) c7;clear c7;obtain⟨af,A8,H⟩:=be_ H;(try dsimp only at H)
       by_cases c9:aa<(ae.length:Int)
       ·
        rw [if_pos c9]at H;have bf:=decide_eq_true (p:=aa<(ae.length:Int)) c9;clear c9;obtain⟨aC,ah⟩:∃ y_:List (List (S53)),y_=(ae.set (aa:Int).toNat af):=⟨_,rfl⟩;replace H:(laws_toSymSS.l0 k1 l0 aC (wrap64 (aa+1)))=some r:=by first|(rw [ah];with_reducible exact H)|(have H2_:=(Option.bind_some _ _).symm.trans H;rw [ah];with_reducible exact H2_)|(have H2_:=(Option.bind_some _ _).symm.trans H;with_reducible exact H2_)|with_reducible exact H|(rw [ah];exact H)|exact H
        have aG:=am_ ah;clear ah;have H':=am_ H;clear H;have az:0≤(aa:Int):=sq_dec;have aA:aa<(l0.length:Int):=sq_dec;obtain⟨a9,au,aw,aX,aj,hl335_0,hi335_0⟩:=at_L2 ba.out aa az aA;cases aX;replace aj:=cb_ HB aj;have ap:=am_ hi335_0;have ao:=am_ hl335_0;clear hi335_0 hl335_0;replace az:=eq_true az;replace aA:=eq_true aA
        go_wp2_with (first|((with_reducible refine gate_callee (f:=30) rfl ?_);refine gl_ 20 Tryd.func30 #[.slice au (rd_L2 l0 aa).length aw] (h:=?_);(with_reducible refine(laws_toSymS.calls k1 _ _ (rd_L2 l0 aa) af _ ?aK ?aM A8.out).mono ?_);(case aK=>exact sq_c (Kd.C_below ap.out HB.out));(case aM=>exact ao.out);rintro e aZ ⟨v337,rfl,ho0,hb⟩;refine⟨_,rfl,?_⟩;replace ac:=am_ (Kd.S_elder' (by(with_reducible repeat(first|apply Kd.S_alloc|apply Kd.S_drewN|apply Kd.S_drew));exact ac.out) (Kd.R_base ho0) hb);have ai:=am_ (Kd.R_lower ho0 (below_size (sq_below HB.out)));replace HB:=hb_ HB hb;(try clear hb);(try clear ho0);have p10:0≤(aa:Int):=sq_dec;have q10:(aa:Int)<((ae.length:Int):Int):=sq_dec;obtain⟨go10,aH,aI,aJ,gl10,cl10,HG10⟩:=Kd.S_form ac.out (by omega);(first|cases aI|(injection aI with ea_ en_ ec_;(first|subst ea_|(injection ea_ with ea_;subst ea_));subst ec_;clear en_));have GB10:=am_ aJ;have GG10:=am_ HG10;clear aJ gl10 HG10;obtain⟨_,ce10,hcl10,hM10,hcc10,hfr10,_,_⟩:=Kd.S_elem ac.out [] (aa:Int) p10 q10;obtain⟨ve10_0,rfl,ge10_0⟩:=(id hM10);have ax:=hcc10 0 _ rfl;have hf10_0:=hfr10 0;(try simp only [show((Kd.slice 53 k53)).sz=1 from rfl,Nat.mul_one,Nat.add_zero]at ax);(try simp only [show((Kd.slice 53 k53)).sz=1 from rfl,Nat.mul_one,Nat.add_zero]at hf10_0);clear hcl10 hcc10 hfr10 hM10;replace p10:=eq_true p10;replace q10:=eq_true q10;obtain⟨ak,aq,aY⟩:=Kd.R_slice ai.out;subst aY;have n_:=am_ (Kd.S_mono (ok':=(fun k_=>some k_≠(.slice ak af.length aq:Value).ownBlock)) ac.out (fun k_ hk=>hk.2));clear ac;have ac:=n_;clear n_;have HX12:=am_ (show Kd.S (Kd.slice 53 k53) 50 aZ w.heap.size (fun k_=>((fun _=>True)) k_∧¬((fun k_=>some k_=(.slice ak af.length aq:Value).ownBlock)) k_) (.slice (some ⟨go10,0,none⟩) ae.length aH) ae from(by(with_reducible repeat(first|apply Kd.S_alloc|apply Kd.S_drewN|apply Kd.S_drew));exact Kd.S_mono ac.out (fun k_ hk=>⟨trivial,fun e_=>hk e_⟩)));obtain⟨oki12,ce12,hcl12,hM12,hcc12,hfr12,hoki12,hH12⟩:=Kd.S_elem HX12.out [] (aa:Int) (sq_dec) (by have h_:(aa:Int)<((ae.length:Int):Int):=sq_dec;first|exact h_|(have e_:=(Kd.S_reads' ac.out).1;omega)|simpa using h_);obtain⟨ve12_0,rfl,ge12_0⟩:=(id hM12);have HP12:=Kd.S_seg hH12 (sq_dec) (by have h_:(aa:Int)<((ae.length:Int):Int):=sq_dec;first|exact h_|(have e_:=(Kd.S_reads' ac.out).1;omega)|simpa using h_) (seg:=[.slice ak af.length aq]) (j:=0) (show 1≤1 from by decide) (x':=af) (Kd.M_row (Kd.R_mono (Kd.R_tight rfl (Kd.R_mono (ok':=fun k_=>((fun _=>True)) k_∧k_≠go10) (Kd.R_apart' (ai.out) (Kd.S_typed ac.out) (by decide)) (fun k_ hk=>⟨trivial,fun e_=>(hk.2) (by rw [e_];rfl)⟩))) (fun _ h_=>Or.inr (h_)))) (fun _ hk=>hk) (fun k_ hk_=>((Kd.R_mono (ok':=fun k_=>((fun _=>True)) k_∧k_≠go10) (Kd.R_apart' (ai.out) (Kd.S_typed ac.out) (by decide)) (fun k_ hk=>⟨trivial,fun e_=>(hk.2) (by rw [e_];rfl)⟩))).1 k_ hk_.symm);have ay:=hcc12 0 _ rfl;(try simp only [show((Kd.slice 53 k53)).sz=1 from rfl,Nat.mul_one,Nat.add_zero]at ay);have hf12_0:=hfr12 0;(try simp only [show((Kd.slice 53 k53)).sz=1 from rfl,Nat.mul_one,Nat.add_zero]at hf12_0);clear hcl12 hcc12 hfr12 hM12 hoki12 hH12;(try simp only [show((Kd.slice 53 k53)).sz=1 from rfl,Nat.mul_one,Nat.add_zero]at HP12))|((with_reducible refine gate_store (t:=50) (p:=21) rfl ?_);refine store_event (t:=50) (p:=21) (v:=?vo_w13) (w1:=(aZ.setCell ⟨go10,(aa:Int).toNat,none⟩ (.slice ak af.length aq))) ?hg ?ho ?hn ?hr ?_;(case ho=>rfl);(case hg=>rfl);(case hn=>rfl);(case hr=>first|(go_simp;done)|(go_simp;rfl));intro a8 hw;have hg:aZ.grownBy a8 (some go10):=(by rw [hw];exact HP12.2);have hp_:Kd.S (Kd.slice 53 k53) 50 a8 w.heap.size (fun _=>True) (.slice (some ⟨go10,0,none⟩) ae.length aH) aC:=(by rw [hw,aG.out];exact HP12.1);clear HP12;replace ac:=am_ hp_;replace HB:=am_ ((by rw [hw];exact below_set (HB.out) GB10.out:Below w.heap.size w a8));clear ai;clear hg hw hp_))
        go_roundg k1
        case measure=>have:=HK1.out;omega
        case rel=>exact⟨(aC),(wrap64 (aa+1)),sr_,H',⟨by have:=HK1.out;omega⟩,⟨by(with_reducible repeat(first|apply Kd.S_alloc|apply Kd.S_drewN|apply Kd.S_drew));exact ac.out⟩,⟨sq_below HB.out⟩⟩
       ·
        rw [if_neg c9]at H;exact absurd H (by simp)
      ·
       rw [if_neg c7]at H;exact absurd H (by simp)
     ·
      rw [if_neg c6]at H;have aW:=decide_eq_false (p:=aa<(l0.length:Int)) c6;clear c6;obtain rfl:=Option.some.inj H
      go_wp2
      go_ret
      exact⟨_,by first|rfl|(simp [errW_none,errW_some]<;>rfl)|(simp [*,errW_none,errW_some]<;>rfl),by(with_reducible repeat(first|apply Kd.S_alloc|apply Kd.S_drewN|apply Kd.S_drew));exact ac.out,sq_below HB.out⟩
  ·
   rw [if_neg c3]at H;exact absurd H (by simp)
 ·
  rw [if_neg c2]at H;exact absurd H (by simp)
end Go.Proofs.YtcdeojfeebmonaaDoor.Q
