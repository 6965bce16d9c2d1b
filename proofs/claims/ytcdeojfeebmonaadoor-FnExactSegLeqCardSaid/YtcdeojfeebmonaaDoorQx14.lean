/- Functions of the translation as Lean functions, each with a proof that a call answers so; out of the seat, by this claim's own program prt.py. -/
import Derived.Test.YtcdeojfeebmonaaDoorWRepsOne
import Derived.Test.YtcdeojfeebmonaaDoorQx0
import Derived.Test.YtcdeojfeebmonaaDoorQx5
import Derived.Test.YtcdeojfeebmonaaDoorQx6
import Derived.Test.YtcdeojfeebmonaaDoorQStep3
namespace Go.Proofs.YtcdeojfeebmonaaDoor.Q
open Go.RowKit Go.Proofs.YtcdeojfeebmonaaDoorW.PrintWords Go.Proofs.YtcdeojfeebmonaaDoorW.PrintLast Go.Proofs.YtcdeojfeebmonaaDoorW.PrintMore
attribute [local go_sem] max2_int min2_int max_two min_two max_three min_three max_four min_four
set_option linter.unusedVariables false
set_option maxHeartbeats 8000000
set_option maxRecDepth 100000
set_option linter.unusedSimpArgs false
def spec_RangeLeq.f(ah:Int)(ai:Int)(ak:Int)(ao:Int):Option (Bool):=(spec_RangeOk.f ah ai).bind fun aw=>(if aw=true then((spec_RangeOk.f ak ao).bind fun ax=>(if ax=true then((spec_l06Is.f ah ai).bind fun ay=>(if ay=true then(if ah≥ak then(some (decide (ai≤ao)))else(some false))else(some true)))else(some false)))else(some false))
theorem spec_RangeLeq.calls(ah:Int)(ai:Int)(ak:Int)(ao:Int)(r:Bool)(w:World)(h:spec_RangeLeq.f ah ai ak ao=some r) :
  Calls Tryd.prog 45 #[.agg #[.int .i64 ah,.int .i64 ai],.agg #[.int .i64 ak,.int .i64 ao]] w fun e w'=>e=.returned (.bool r)∧Below w.heap.size w w':=by
 have hu58:=Tryd.underlying58;have HB:=am_ (Below.refl w.heap.size w);have H:((spec_RangeOk.f ah ai).bind fun aw=>(if aw=true then((spec_RangeOk.f ak ao).bind fun ax=>(if ax=true then((spec_l06Is.f ah ai).bind fun ay=>(if ay=true then(if ah≥ak then(some (decide (ai≤ao)))else(some false))else(some true)))else(some false)))else(some false)))=some r:=h;clear h;obtain⟨aw,A3,H⟩:=be_ H;(try dsimp only at H)
 by_cases c4:aw=true
 ·
  subst c4;have H1:=ifp_ H
  clear H;have H:=H1;clear H1;obtain⟨ax,A5,H⟩:=be_ H;(try dsimp only at H)
  by_cases c6:ax=true
  ·
   subst c6;have H1:=ifp_ H
   clear H;have H:=H1;clear H1;obtain⟨ay,A7,H⟩:=be_ H;(try dsimp only at H)
   by_cases c8:ay=true
   ·
    subst c8;have H1:=ifp_ H
    clear H;have H:=H1;clear H1
    by_cases c9:ah≥ak
    ·
     rw [if_pos c9]at H;have b3:=decide_eq_true (p:=ak≤ah) c9;clear c9;obtain rfl:=Option.some.inj H
     go_enter Tryd.func45,Tryd.ntmps45
     go_wp2_with (first|((with_reducible refine gate_dst (N:=2) rfl ?_);refine box_y 2 #[.int .i64 ah,.int .i64 ai] 58 (h:=?_);intro ar hg cd hbox hb;have aa:=am_ hbox;have ap:=gz_ hg HB;have ae:=gz_ hg HB;replace HB:=hb_ HB hb;clear hb hbox hg)|((with_reducible refine gate_dst (N:=3) rfl ?_);refine box_y 3 #[.int .i64 ak,.int .i64 ao] 58 (h:=?_);intro au hg cf hbox hb;have af:=am_ hbox;have aq:=gz1_ hg HB ae;have aj:=gz1_ hg HB ae;replace HB:=hb1_ HB hb ae;have ac:=nb_ hg aa;replace aa:=bb_ aa hb;have ag:=ns_ ac;clear hb hbox hg;have b4:=ac.out;have b8:=ag.out;obtain⟨az,aA,bq,br⟩:=cz2_ aa)|((with_reducible refine gate_callee (f:=42) rfl ?_);refine gl_ 6 Tryd.func42 #[.agg #[.int .i64 ah,.int .i64 ai]] (h:=?_);(with_reducible refine(spec_RangeOk.calls ah ai true _ A3.out).mono ?_);rintro e cg ⟨rfl,hb⟩;refine⟨_,rfl,?_⟩;replace aa:=bb_ aa hb;replace af:=bb_ af hb;replace HB:=hb2_ HB hb ae aj;(try clear hb);obtain⟨aC,aD,bu,bw⟩:=cz2_ af)|(go_at_call 42;(with_reducible refine(spec_RangeOk.calls ak ao true _ A5.out).mono ?_);rintro e ch ⟨rfl,hb⟩;replace aa:=bb_ aa hb;replace af:=bb_ af hb;replace HB:=hb2_ HB hb ae aj;(try clear hb);obtain⟨aG,aH,bx,bz⟩:=cz2_ aa)|(go_at_call 64;(with_reducible refine(spec_l06Is.calls ah ai true _ A7.out).mono ?_);rintro e cj ⟨rfl,hb⟩;replace aa:=bb_ aa hb;replace af:=bb_ af hb;replace HB:=hb2_ HB hb ae aj;(try clear hb);obtain⟨aI,aJ,bA,bB⟩:=cz2_ aa;obtain⟨aK,aM,bC,bD⟩:=cz2_ af))
     go_ret
     exact⟨lf_,sq_below1 HB.out aj.out⟩
    ·
     rw [if_neg c9]at H;have b3:=decide_eq_false (p:=ak≤ah) c9;clear c9;obtain rfl:=Option.some.inj H
     go_enter Tryd.func45,Tryd.ntmps45
     go_wp2_with (first|((with_reducible refine gate_dst (N:=2) rfl ?_);refine box_y 2 #[.int .i64 ah,.int .i64 ai] 58 (h:=?_);intro ar hg ck hbox hb;have aa:=am_ hbox;have ap:=gz_ hg HB;have ae:=gz_ hg HB;replace HB:=hb_ HB hb;clear hb hbox hg)|((with_reducible refine gate_dst (N:=3) rfl ?_);refine box_y 3 #[.int .i64 ak,.int .i64 ao] 58 (h:=?_);intro au hg cl hbox hb;have af:=am_ hbox;have aq:=gz1_ hg HB ae;have aj:=gz1_ hg HB ae;replace HB:=hb1_ HB hb ae;have ac:=nb_ hg aa;replace aa:=bb_ aa hb;have ag:=ns_ ac;clear hb hbox hg;have b5:=ac.out;have b9:=ag.out;obtain⟨aN,aQ,bE,bF⟩:=cz2_ aa)|((with_reducible refine gate_callee (f:=42) rfl ?_);refine gl_ 6 Tryd.func42 #[.agg #[.int .i64 ah,.int .i64 ai]] (h:=?_);(with_reducible refine(spec_RangeOk.calls ah ai true _ A3.out).mono ?_);rintro e cn ⟨rfl,hb⟩;refine⟨_,rfl,?_⟩;replace aa:=bb_ aa hb;replace af:=bb_ af hb;replace HB:=hb2_ HB hb ae aj;(try clear hb);obtain⟨aT,aU,bG,bH⟩:=cz2_ af)|(go_at_call 42;(with_reducible refine(spec_RangeOk.calls ak ao true _ A5.out).mono ?_);rintro e cp ⟨rfl,hb⟩;replace aa:=bb_ aa hb;replace af:=bb_ af hb;replace HB:=hb2_ HB hb ae aj;(try clear hb);obtain⟨aV,aW,bI,bJ⟩:=cz2_ aa)|(go_at_call 64;(with_reducible refine(spec_l06Is.calls ah ai true _ A7.out).mono ?_);rintro e cq ⟨rfl,hb⟩;replace aa:=bb_ aa hb;replace af:=bb_ af hb;replace HB:=hb2_ HB hb ae aj;(try clear hb);obtain⟨aX,aY,bK,bL⟩:=cz2_ aa;obtain⟨aZ,a8,bM,bN⟩:=cz2_ af))
     go_ret
     exact⟨lf_,sq_below1 HB.out aj.out⟩
   ·
    replace c8:=Bool.eq_false_iff.mpr c8;subst c8;have H1:=ifn_ H
    clear H;have H:=H1;clear H1;obtain rfl:=Option.some.inj H
    go_enter Tryd.func45,Tryd.ntmps45
    go_wp2_with (first|((with_reducible refine gate_dst (N:=2) rfl ?_);refine box_y 2 #[.int .i64 ah,.int .i64 ai] 58 (h:=?_);intro ar hg cr hbox hb;have aa:=am_ hbox;have ap:=gz_ hg HB;have ae:=gz_ hg HB;replace HB:=hb_ HB hb;clear hb hbox hg)|((with_reducible refine gate_dst (N:=3) rfl ?_);refine box_y 3 #[.int .i64 ak,.int .i64 ao] 58 (h:=?_);intro au hg cx hbox hb;have af:=am_ hbox;have aq:=gz1_ hg HB ae;have aj:=gz1_ hg HB ae;replace HB:=hb1_ HB hb ae;have ac:=nb_ hg aa;replace aa:=bb_ aa hb;have ag:=ns_ ac;clear hb hbox hg;have b6:=ac.out;have ca:=ag.out;obtain⟨a9,ba,bO,bP⟩:=cz2_ aa)|((with_reducible refine gate_callee (f:=42) rfl ?_);refine gl_ 6 Tryd.func42 #[.agg #[.int .i64 ah,.int .i64 ai]] (h:=?_);(with_reducible refine(spec_RangeOk.calls ah ai true _ A3.out).mono ?_);rintro e cy ⟨rfl,hb⟩;refine⟨_,rfl,?_⟩;replace aa:=bb_ aa hb;replace af:=bb_ af hb;replace HB:=hb2_ HB hb ae aj;(try clear hb);obtain⟨bc,bf,bQ,bR⟩:=cz2_ af)|(go_at_call 42;(with_reducible refine(spec_RangeOk.calls ak ao true _ A5.out).mono ?_);rintro e cz ⟨rfl,hb⟩;replace aa:=bb_ aa hb;replace HB:=hb1_ HB hb ae;(try clear hb);obtain⟨bg,bh,bS,bT⟩:=cz2_ aa)|(go_at_call 64;(with_reducible refine(spec_l06Is.calls ah ai false _ A7.out).mono ?_);rintro e cA ⟨rfl,hb⟩;replace HB:=hb_ HB hb;(try clear hb)))
    go_ret
    exact⟨lf_,sq_below HB.out⟩
  ·
   replace c6:=Bool.eq_false_iff.mpr c6;subst c6;have H1:=ifn_ H
   clear H;have H:=H1;clear H1;obtain rfl:=Option.some.inj H
   go_enter Tryd.func45,Tryd.ntmps45
   go_wp2_with (first|((with_reducible refine gate_dst (N:=2) rfl ?_);refine box_y 2 #[.int .i64 ah,.int .i64 ai] 58 (h:=?_);intro ar hg cB hbox hb;have aa:=am_ hbox;have ap:=gz_ hg HB;have ae:=gz_ hg HB;replace HB:=hb_ HB hb;clear hb hbox hg)|((with_reducible refine gate_dst (N:=3) rfl ?_);refine box_y 3 #[.int .i64 ak,.int .i64 ao] 58 (h:=?_);intro au hg cC hbox hb;have af:=am_ hbox;have aq:=gz1_ hg HB ae;have aj:=gz1_ hg HB ae;replace HB:=hb1_ HB hb ae;have ac:=nb_ hg aa;replace aa:=bb_ aa hb;have ag:=ns_ ac;clear hb hbox hg;have b7:=ac.out;have cb:=ag.out;obtain⟨bi,bj,bU,bV⟩:=cz2_ aa)|((with_reducible refine gate_callee (f:=42) rfl ?_);refine gl_ 6 Tryd.func42 #[.agg #[.int .i64 ah,.int .i64 ai]] (h:=?_);(with_reducible refine(spec_RangeOk.calls ah ai true _ A3.out).mono ?_);rintro e cD ⟨rfl,hb⟩;refine⟨_,rfl,?_⟩;replace af:=bb_ af hb;replace HB:=hb1_ HB hb aj;(try clear hb);obtain⟨bk,bn,bW,bX⟩:=cz2_ af)|(go_at_call 42;(with_reducible refine(spec_RangeOk.calls ak ao false _ A5.out).mono ?_);rintro e cF ⟨rfl,hb⟩;replace HB:=hb_ HB hb;(try clear hb)))
   go_ret
   exact⟨lf_,sq_below HB.out⟩
 ·
  replace c4:=Bool.eq_false_iff.mpr c4;subst c4;have H1:=ifn_ H
  clear H;have H:=H1;clear H1;obtain rfl:=Option.some.inj H
  go_enter Tryd.func45,Tryd.ntmps45
  go_wp2_with (first|((with_reducible refine gate_dst (N:=2) rfl ?_);refine box_y 2 #[.int .i64 ah,.int .i64 ai] 58 (h:=?_);intro ar hg cG hbox hb;have aa:=am_ hbox;have ap:=gz_ hg HB;have ae:=gz_ hg HB;replace HB:=hb_ HB hb;clear hb hbox hg)|((with_reducible refine gate_dst (N:=3) rfl ?_);refine box_y 3 #[.int .i64 ak,.int .i64 ao] 58 (h:=?_);intro au hg cH hbox hb;have af:=am_ hbox;have aq:=gz1_ hg HB ae;have aj:=gz1_ hg HB ae;replace HB:=hb1_ HB hb ae;have ac:=nb_ hg aa;replace aa:=bb_ aa hb;have ag:=ns_ ac;clear hb hbox hg;obtain⟨bo,bp,bY,bZ⟩:=cz2_ aa)|((with_reducible refine gate_callee (f:=42) rfl ?_);refine gl_ 6 Tryd.func42 #[.agg #[.int .i64 ah,.int .i64 ai]] (h:=?_);(with_reducible refine(spec_RangeOk.calls ah ai false _ A3.out).mono ?_);rintro e cI ⟨rfl,hb⟩;refine⟨_,rfl,?_⟩;replace HB:=hb_ HB hb;(try clear hb)))
  go_ret
  exact⟨lf_,sq_below HB.out⟩
def spec_ValLeq.f(ah:Int)(ai:Int)(ap:Bool)(ak:Int)(ao:Int)(aq:Bool):Option (Bool):=(spec_ValOk.f ah ai ap).bind fun ay=>(if ay=true then((spec_ValOk.f ak ao aq).bind fun az=>(if az=true then((spec_RangeLeq.f ah ai ak ao).bind fun aA=>(if aA=true then(if ap=true then(some true)else(some (!aq)))else(some false)))else(some false)))else(some false))
theorem spec_ValLeq.calls(ah:Int)(ai:Int)(ap:Bool)(ak:Int)(ao:Int)(aq:Bool)(r:Bool)(w:World)(h:spec_ValLeq.f ah ai ap ak ao aq=some r) :
  Calls Tryd.prog 29 #[.agg #[.int .i64 ah,.int .i64 ai,.bool ap],.agg #[.int .i64 ak,.int .i64 ao,.bool aq]] w fun e w'=>e=.returned (.bool r)∧Below w.heap.size w w':=by
 have hu60:=Tryd.underlying60;have hu58:=Tryd.underlying58;have HB:=am_ (Below.refl w.heap.size w);have H:((spec_ValOk.f ah ai ap).bind fun ay=>(if ay=true then((spec_ValOk.f ak ao aq).bind fun az=>(if az=true then((spec_RangeLeq.f ah ai ak ao).bind fun aA=>(if aA=true then(if ap=true then(some true)else(some (!aq)))else(some false)))else(some false)))else(some false)))=some r:=h;clear h;obtain⟨ay,A3,H⟩:=be_ H;(try dsimp only at H)
 by_cases c4:ay=true
 ·
  subst c4;have H1:=ifp_ H
  clear H;have H:=H1;clear H1;obtain⟨az,A5,H⟩:=be_ H;(try dsimp only at H)
  by_cases c6:az=true
  ·
   subst c6;have H1:=ifp_ H
   clear H;have H:=H1;clear H1;obtain⟨aA,A7,H⟩:=be_ H;(try dsimp only at H)
   by_cases c8:aA=true
   ·
    subst c8;have H1:=ifp_ H
    clear H;have H:=H1;clear H1
    by_cases c9:ap=true
    ·
     subst c9;have H1:=ifp_ H
     clear H;have H:=H1;clear H1;obtain rfl:=Option.some.inj H
     go_enter Tryd.func29,Tryd.ntmps29
     go_wp2_with (first|((with_reducible refine gate_dst (N:=2) rfl ?_);refine box_y 2 #[.int .i64 ah,.int .i64 ai,.bool true] 60 (h:=?_);intro aw hg dh hbox hb;have aa:=am_ hbox;have ar:=gz_ hg HB;have af:=gz_ hg HB;replace HB:=hb_ HB hb;clear hb hbox hg)|((with_reducible refine gate_dst (N:=3) rfl ?_);refine box_y 3 #[.int .i64 ak,.int .i64 ao,.bool aq] 60 (h:=?_);intro ax hg di hbox hb;have ae:=am_ hbox;have au:=gz1_ hg HB af;have aj:=gz1_ hg HB af;replace HB:=hb1_ HB hb af;have ac:=nb_ hg aa;replace aa:=bb_ aa hb;have ag:=ns_ ac;clear hb hbox hg;have cZ:=ac.out;have dd:=ag.out;obtain⟨aC,aD,aG,bS,bT,bU⟩:=cz3_ aa)|((with_reducible refine gate_callee (f:=27) rfl ?_);refine gl_ 6 Tryd.func27 #[.agg #[.int .i64 ah,.int .i64 ai,.bool true]] (h:=?_);(with_reducible refine(spec_ValOk.calls ah ai true true _ A3.out).mono ?_);rintro e dj ⟨rfl,hb⟩;refine⟨_,rfl,?_⟩;replace aa:=bb_ aa hb;replace ae:=bb_ ae hb;replace HB:=hb2_ HB hb af aj;(try clear hb);obtain⟨aH,aI,aJ,bV,bW,bX⟩:=cz3_ ae)|(go_at_call 27;(with_reducible refine(spec_ValOk.calls ak ao aq true _ A5.out).mono ?_);rintro e dk ⟨rfl,hb⟩;replace aa:=bb_ aa hb;replace ae:=bb_ ae hb;replace HB:=hb2_ HB hb af aj;(try clear hb);obtain⟨aK,aM,aN,bY,bZ,b3⟩:=cz3_ aa;obtain⟨aQ,aT,aU,b4,b5,b6⟩:=cz3_ ae)|(go_at_call 45;(with_reducible refine(spec_RangeLeq.calls ah ai ak ao true _ A7.out).mono ?_);rintro e dl ⟨rfl,hb⟩;replace aa:=bb_ aa hb;replace HB:=hb1_ HB hb af;(try clear hb);obtain⟨aV,aW,aX,b7,b8,b9⟩:=cz3_ aa))
     go_ret
     exact⟨lf_,sq_below1 HB.out af.out⟩
    ·
     replace c9:=Bool.eq_false_iff.mpr c9;subst c9;have H1:=ifn_ H
     clear H;have H:=H1;clear H1;obtain rfl:=Option.some.inj H
     go_enter Tryd.func29,Tryd.ntmps29
     go_wp2_with (first|((with_reducible refine gate_dst (N:=2) rfl ?_);refine box_y 2 #[.int .i64 ah,.int .i64 ai,.bool false] 60 (h:=?_);intro aw hg dn hbox hb;have aa:=am_ hbox;have ar:=gz_ hg HB;have af:=gz_ hg HB;replace HB:=hb_ HB hb;clear hb hbox hg)|((with_reducible refine gate_dst (N:=3) rfl ?_);refine box_y 3 #[.int .i64 ak,.int .i64 ao,.bool aq] 60 (h:=?_);intro ax hg dp hbox hb;have ae:=am_ hbox;have au:=gz1_ hg HB af;have aj:=gz1_ hg HB af;replace HB:=hb1_ HB hb af;have ac:=nb_ hg aa;replace aa:=bb_ aa hb;have ag:=ns_ ac;clear hb hbox hg;have da:=ac.out;have de:=ag.out;obtain⟨aY,aZ,a8,ca,cb,cd⟩:=cz3_ aa)|((with_reducible refine gate_callee (f:=27) rfl ?_);refine gl_ 6 Tryd.func27 #[.agg #[.int .i64 ah,.int .i64 ai,.bool false]] (h:=?_);(with_reducible refine(spec_ValOk.calls ah ai false true _ A3.out).mono ?_);rintro e dq ⟨rfl,hb⟩;refine⟨_,rfl,?_⟩;replace aa:=bb_ aa hb;replace ae:=bb_ ae hb;replace HB:=hb2_ HB hb af aj;(try clear hb);obtain⟨a9,ba,bc,cf,cg,ch⟩:=cz3_ ae)|(go_at_call 27;(with_reducible refine(spec_ValOk.calls ak ao aq true _ A5.out).mono ?_);rintro e dr ⟨rfl,hb⟩;replace aa:=bb_ aa hb;replace ae:=bb_ ae hb;replace HB:=hb2_ HB hb af aj;(try clear hb);obtain⟨bf,bg,bh,cj,ck,cl⟩:=cz3_ aa;obtain⟨bi,bj,bk,cn,cp,cq⟩:=cz3_ ae)|(go_at_call 45;(with_reducible refine(spec_RangeLeq.calls ah ai ak ao true _ A7.out).mono ?_);rintro e dt ⟨rfl,hb⟩;replace aa:=bb_ aa hb;replace ae:=bb_ ae hb;replace HB:=hb2_ HB hb af aj;(try clear hb);obtain⟨bn,bo,bp,cr,cx,cy⟩:=cz3_ aa;obtain⟨bq,br,bu,cz,cA,cB⟩:=cz3_ ae))
     go_ret
     exact⟨lf_,sq_below1 HB.out aj.out⟩
   ·
    replace c8:=Bool.eq_false_iff.mpr c8;subst c8;have H1:=ifn_ H
    clear H;have H:=H1;clear H1;obtain rfl:=Option.some.inj H
    go_enter Tryd.func29,Tryd.ntmps29
    go_wp2_with (first|((with_reducible refine gate_dst (N:=2) rfl ?_);refine box_y 2 #[.int .i64 ah,.int .i64 ai,.bool ap] 60 (h:=?_);intro aw hg dw hbox hb;have aa:=am_ hbox;have ar:=gz_ hg HB;have af:=gz_ hg HB;replace HB:=hb_ HB hb;clear hb hbox hg)|((with_reducible refine gate_dst (N:=3) rfl ?_);refine box_y 3 #[.int .i64 ak,.int .i64 ao,.bool aq] 60 (h:=?_);intro ax hg dx hbox hb;have ae:=am_ hbox;have au:=gz1_ hg HB af;have aj:=gz1_ hg HB af;replace HB:=hb1_ HB hb af;have ac:=nb_ hg aa;replace aa:=bb_ aa hb;have ag:=ns_ ac;clear hb hbox hg;have db:=ac.out;have df:=ag.out;obtain⟨bw,bx,bz,cC,cD,cF⟩:=cz3_ aa)|((with_reducible refine gate_callee (f:=27) rfl ?_);refine gl_ 6 Tryd.func27 #[.agg #[.int .i64 ah,.int .i64 ai,.bool ap]] (h:=?_);(with_reducible refine(spec_ValOk.calls ah ai ap true _ A3.out).mono ?_);rintro e dy ⟨rfl,hb⟩;refine⟨_,rfl,?_⟩;replace aa:=bb_ aa hb;replace ae:=bb_ ae hb;replace HB:=hb2_ HB hb af aj;(try clear hb);obtain⟨bA,bB,bC,cG,cH,cI⟩:=cz3_ ae)|(go_at_call 27;(with_reducible refine(spec_ValOk.calls ak ao aq true _ A5.out).mono ?_);rintro e dz ⟨rfl,hb⟩;replace aa:=bb_ aa hb;replace ae:=bb_ ae hb;replace HB:=hb2_ HB hb af aj;(try clear hb);obtain⟨bD,bE,bF,cJ,cK,cM⟩:=cz3_ aa;obtain⟨bG,bH,bI,cN,cO,cP⟩:=cz3_ ae)|(go_at_call 45;(with_reducible refine(spec_RangeLeq.calls ah ai ak ao false _ A7.out).mono ?_);rintro e dA ⟨rfl,hb⟩;replace HB:=hb_ HB hb;(try clear hb)))
    go_ret
    exact⟨lf_,sq_below HB.out⟩
  ·
   replace c6:=Bool.eq_false_iff.mpr c6;subst c6;have H1:=ifn_ H
   clear H;have H:=H1;clear H1;obtain rfl:=Option.some.inj H
   go_enter Tryd.func29,Tryd.ntmps29
   go_wp2_with (first|((with_reducible refine gate_dst (N:=2) rfl ?_);refine box_y 2 #[.int .i64 ah,.int .i64 ai,.bool ap] 60 (h:=?_);intro aw hg dB hbox hb;have aa:=am_ hbox;have ar:=gz_ hg HB;have af:=gz_ hg HB;replace HB:=hb_ HB hb;clear hb hbox hg)|((with_reducible refine gate_dst (N:=3) rfl ?_);refine box_y 3 #[.int .i64 ak,.int .i64 ao,.bool aq] 60 (h:=?_);intro ax hg dC hbox hb;have ae:=am_ hbox;have au:=gz1_ hg HB af;have aj:=gz1_ hg HB af;replace HB:=hb1_ HB hb af;have ac:=nb_ hg aa;replace aa:=bb_ aa hb;have ag:=ns_ ac;clear hb hbox hg;have dc:=ac.out;have dg:=ag.out;obtain⟨bJ,bK,bL,cQ,cR,cS⟩:=cz3_ aa)|((with_reducible refine gate_callee (f:=27) rfl ?_);refine gl_ 6 Tryd.func27 #[.agg #[.int .i64 ah,.int .i64 ai,.bool ap]] (h:=?_);(with_reducible refine(spec_ValOk.calls ah ai ap true _ A3.out).mono ?_);rintro e dD ⟨rfl,hb⟩;refine⟨_,rfl,?_⟩;replace ae:=bb_ ae hb;replace HB:=hb1_ HB hb aj;(try clear hb);obtain⟨bM,bN,bO,cT,cU,cV⟩:=cz3_ ae)|(go_at_call 27;(with_reducible refine(spec_ValOk.calls ak ao aq false _ A5.out).mono ?_);rintro e dE ⟨rfl,hb⟩;replace HB:=hb_ HB hb;(try clear hb)))
   go_ret
   exact⟨lf_,sq_below HB.out⟩
 ·
  replace c4:=Bool.eq_false_iff.mpr c4;subst c4;have H1:=ifn_ H
  clear H;have H:=H1;clear H1;obtain rfl:=Option.some.inj H
  go_enter Tryd.func29,Tryd.ntmps29
  go_wp2_with (first|((with_reducible refine gate_dst (N:=2) rfl ?_);refine box_y 2 #[.int .i64 ah,.int .i64 ai,.bool ap] 60 (h:=?_);intro aw hg dF hbox hb;have aa:=am_ hbox;have ar:=gz_ hg HB;have af:=gz_ hg HB;replace HB:=hb_ HB hb;clear hb hbox hg)|((with_reducible refine gate_dst (N:=3) rfl ?_);refine box_y 3 #[.int .i64 ak,.int .i64 ao,.bool aq] 60 (h:=?_);intro ax hg dG hbox hb;have ae:=am_ hbox;have au:=gz1_ hg HB af;have aj:=gz1_ hg HB af;replace HB:=hb1_ HB hb af;have ac:=nb_ hg aa;replace aa:=bb_ aa hb;have ag:=ns_ ac;clear hb hbox hg;obtain⟨bP,bQ,bR,cW,cX,cY⟩:=cz3_ aa)|((with_reducible refine gate_callee (f:=27) rfl ?_);refine gl_ 6 Tryd.func27 #[.agg #[.int .i64 ah,.int .i64 ai,.bool ap]] (h:=?_);(with_reducible refine(spec_ValOk.calls ah ai ap false _ A3.out).mono ?_);rintro e dH ⟨rfl,hb⟩;refine⟨_,rfl,?_⟩;replace HB:=hb_ HB hb;(try clear hb)))
  go_ret
  exact⟨lf_,sq_below HB.out⟩
end Go.Proofs.YtcdeojfeebmonaaDoor.Q
