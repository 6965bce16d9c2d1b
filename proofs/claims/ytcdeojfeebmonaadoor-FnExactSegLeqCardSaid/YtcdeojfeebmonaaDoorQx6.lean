/- Functions of the translation as Lean functions, each with a proof that a call answers so; out of the seat, by this claim's own program prt.py. -/
import Derived.Test.YtcdeojfeebmonaaDoorWRepsOne
import Derived.Test.YtcdeojfeebmonaaDoorQx0
import Derived.Test.YtcdeojfeebmonaaDoorQx5
import Derived.Test.YtcdeojfeebmonaaDoorQStep3
namespace Go.Proofs.YtcdeojfeebmonaaDoor.Q
open Go.RowKit Go.Proofs.YtcdeojfeebmonaaDoorW.PrintWords Go.Proofs.YtcdeojfeebmonaaDoorW.PrintLast Go.Proofs.YtcdeojfeebmonaaDoorW.PrintMore
attribute [local go_sem] max2_int min2_int max_two min_two max_three min_three max_four min_four
set_option linter.unusedVariables false
set_option maxHeartbeats 8000000
set_option maxRecDepth 100000
set_option linter.unusedSimpArgs false
def spec_RangeOk.f(ac:Int)(ae:Int):Option (Bool):=if ac=1 then(if ae=0 then(some true)else((spec_l06Is.f ac ae).bind fun ak=>(if ak=true then((spec_l05Val.f ac).bind fun ao=>(if ao=true then((spec_l05Val.f ae).bind fun ai=>(some ai))else(some false)))else(some false))))else((spec_l06Is.f ac ae).bind fun ap=>(if ap=true then((spec_l05Val.f ac).bind fun aq=>(if aq=true then((spec_l05Val.f ae).bind fun aj=>(some aj))else(some false)))else(some false)))
theorem spec_RangeOk.calls(ac:Int)(ae:Int)(r:Bool)(w:World)(h:spec_RangeOk.f ac ae=some r) :
  Calls Tryd.prog 42 #[.agg #[.int .i64 ac,.int .i64 ae]] w fun e w'=>e=.returned (.bool r)∧Below w.heap.size w w':=by
 have hu58:=Tryd.underlying58;have HB:=am_ (Below.refl w.heap.size w);have H:(if ac=1 then(if ae=0 then(some true)else((spec_l06Is.f ac ae).bind fun ak=>(if ak=true then((spec_l05Val.f ac).bind fun ao=>(if ao=true then((spec_l05Val.f ae).bind fun ai=>(some ai))else(some false)))else(some false))))else((spec_l06Is.f ac ae).bind fun ap=>(if ap=true then((spec_l05Val.f ac).bind fun aq=>(if aq=true then((spec_l05Val.f ae).bind fun aj=>(some aj))else(some false)))else(some false))))=some r:=h;clear h
 by_cases c2:ac=1
 ·
  rw [if_pos c2]at H;have bw:(ac == 1)=true:=beq_iff_eq.mpr c2;have bx:(ac != 1)=false:=bne_eq_false_iff_eq.mpr c2;clear c2
  by_cases c3:ae=0
  ·
   rw [if_pos c3]at H;have bz:(ae == 0)=true:=beq_iff_eq.mpr c3;have bA:(ae != 0)=false:=bne_eq_false_iff_eq.mpr c3;clear c3;obtain rfl:=Option.some.inj H
   go_enter Tryd.func42,Tryd.ntmps42
   go_wp2_with (first|((with_reducible refine gate_dst (N:=1) rfl ?_);refine box_y 1 #[.int .i64 ac,.int .i64 ae] 58 (h:=?_);intro ah hg w4 hbox hb;have aa:=am_ hbox;have ag:=gz_ hg HB;have af:=gz_ hg HB;replace HB:=hb_ HB hb;clear hb hbox hg;obtain⟨bB,bC,bD,bE⟩:=cz2_ aa))
   go_ret
   exact⟨lf_,sq_below1 HB.out af.out⟩
  ·
   rw [if_neg c3]at H;have bz:(ae == 0)=false:=beq_eq_false_iff_ne.mpr c3;have bA:(ae != 0)=true:=bne_iff_ne.mpr c3;obtain⟨ak,A6,H⟩:=be_ H;(try dsimp only at H)
   by_cases c7:ak=true
   ·
    subst c7;have H1:=ifp_ H
    clear H;have H:=H1;clear H1;obtain⟨ao,A8,H⟩:=be_ H;(try dsimp only at H)
    by_cases c9:ao=true
    ·
     subst c9;have H1:=ifp_ H
     clear H;have H:=H1;clear H1;replace H:=Option.bind_eq_some_iff.mp H;obtain⟨ai,A100,H⟩:=H;replace H:(some ai)=some r:=H;have A10:=am_ A100;clear A100;obtain rfl:=Option.some.inj H
     go_enter Tryd.func42,Tryd.ntmps42
     go_wp2_with (first|((with_reducible refine gate_dst (N:=1) rfl ?_);refine box_y 1 #[.int .i64 ac,.int .i64 ae] 58 (h:=?_);intro ah hg bF hbox hb;have aa:=am_ hbox;have ag:=gz_ hg HB;have af:=gz_ hg HB;replace HB:=hb_ HB hb;clear hb hbox hg;obtain⟨ar,au,aW,aX⟩:=cz2_ aa)|(go_at_call 64;(with_reducible refine(spec_l06Is.calls ac ae true _ A6.out).mono ?_);rintro e bG ⟨rfl,hb⟩;replace aa:=bb_ aa hb;replace HB:=hb1_ HB hb af;(try clear hb);obtain⟨aw,ax,aY,aZ⟩:=cz2_ aa)|(go_at_call 65;(with_reducible refine(spec_l05Val.calls ac true _ A8.out).mono ?_);rintro e w' ⟨rfl,⟨nd,rfl⟩⟩)|(go_at_call 65;(with_reducible refine(spec_l05Val.calls ae ai _ A10.out).mono ?_);rintro e w' ⟨rfl,⟨nd,rfl⟩⟩))
     go_ret
     exact⟨lf_,sq_below HB.out⟩
    ·
     replace c9:=Bool.eq_false_iff.mpr c9;subst c9;have H1:=ifn_ H
     clear H;have H:=H1;clear H1;obtain rfl:=Option.some.inj H
     go_enter Tryd.func42,Tryd.ntmps42
     go_wp2_with (first|((with_reducible refine gate_dst (N:=1) rfl ?_);refine box_y 1 #[.int .i64 ac,.int .i64 ae] 58 (h:=?_);intro ah hg bH hbox hb;have aa:=am_ hbox;have ag:=gz_ hg HB;have af:=gz_ hg HB;replace HB:=hb_ HB hb;clear hb hbox hg;obtain⟨ay,az,a8,a9⟩:=cz2_ aa)|(go_at_call 64;(with_reducible refine(spec_l06Is.calls ac ae true _ A6.out).mono ?_);rintro e bI ⟨rfl,hb⟩;replace aa:=bb_ aa hb;replace HB:=hb1_ HB hb af;(try clear hb);obtain⟨aA,aC,ba,bc⟩:=cz2_ aa)|(go_at_call 65;(with_reducible refine(spec_l05Val.calls ac false _ A8.out).mono ?_);rintro e w' ⟨rfl,⟨nd,rfl⟩⟩))
     go_ret
     exact⟨lf_,sq_below HB.out⟩
   ·
    replace c7:=Bool.eq_false_iff.mpr c7;subst c7;have H1:=ifn_ H
    clear H;have H:=H1;clear H1;obtain rfl:=Option.some.inj H
    go_enter Tryd.func42,Tryd.ntmps42
    go_wp2_with (first|((with_reducible refine gate_dst (N:=1) rfl ?_);refine box_y 1 #[.int .i64 ac,.int .i64 ae] 58 (h:=?_);intro ah hg bJ hbox hb;have aa:=am_ hbox;have ag:=gz_ hg HB;have af:=gz_ hg HB;replace HB:=hb_ HB hb;clear hb hbox hg;obtain⟨aD,aG,bf,bg⟩:=cz2_ aa)|(go_at_call 64;(with_reducible refine(spec_l06Is.calls ac ae false _ A6.out).mono ?_);rintro e bK ⟨rfl,hb⟩;replace HB:=hb_ HB hb;(try clear hb)))
    go_ret
    exact⟨lf_,sq_below HB.out⟩
 ·
  rw [if_neg c2]at H;have bw:(ac == 1)=false:=beq_eq_false_iff_ne.mpr c2;have bx:(ac != 1)=true:=bne_iff_ne.mpr c2;obtain⟨ap,A22,H⟩:=be_ H;(try dsimp only at H)
  by_cases c23:ap=true
  ·
   subst c23;have H1:=ifp_ H
   clear H;have H:=H1;clear H1;obtain⟨aq,A24,H⟩:=be_ H;(try dsimp only at H)
   by_cases c25:aq=true
   ·
    subst c25;have H1:=ifp_ H
    clear H;have H:=H1;clear H1;replace H:=Option.bind_eq_some_iff.mp H;obtain⟨aj,A260,H⟩:=H;replace H:(some aj)=some r:=H;have A26:=am_ A260;clear A260;obtain rfl:=Option.some.inj H
    go_enter Tryd.func42,Tryd.ntmps42
    go_wp2_with (first|((with_reducible refine gate_dst (N:=1) rfl ?_);refine box_y 1 #[.int .i64 ac,.int .i64 ae] 58 (h:=?_);intro ah hg bL hbox hb;have aa:=am_ hbox;have ag:=gz_ hg HB;have af:=gz_ hg HB;replace HB:=hb_ HB hb;clear hb hbox hg;obtain⟨aH,aI,bh,bi⟩:=cz2_ aa)|(go_at_call 64;(with_reducible refine(spec_l06Is.calls ac ae true _ A22.out).mono ?_);rintro e bM ⟨rfl,hb⟩;replace aa:=bb_ aa hb;replace HB:=hb1_ HB hb af;(try clear hb);obtain⟨aJ,aK,bj,bk⟩:=cz2_ aa)|(go_at_call 65;(with_reducible refine(spec_l05Val.calls ac true _ A24.out).mono ?_);rintro e w' ⟨rfl,⟨nd,rfl⟩⟩)|(go_at_call 65;(with_reducible refine(spec_l05Val.calls ae aj _ A26.out).mono ?_);rintro e w' ⟨rfl,⟨nd,rfl⟩⟩))
    go_ret
    exact⟨lf_,sq_below HB.out⟩
   ·
    replace c25:=Bool.eq_false_iff.mpr c25;subst c25;have H1:=ifn_ H
    clear H;have H:=H1;clear H1;obtain rfl:=Option.some.inj H
    go_enter Tryd.func42,Tryd.ntmps42
    go_wp2_with (first|((with_reducible refine gate_dst (N:=1) rfl ?_);refine box_y 1 #[.int .i64 ac,.int .i64 ae] 58 (h:=?_);intro ah hg bN hbox hb;have aa:=am_ hbox;have ag:=gz_ hg HB;have af:=gz_ hg HB;replace HB:=hb_ HB hb;clear hb hbox hg;obtain⟨aM,aN,bn,bo⟩:=cz2_ aa)|(go_at_call 64;(with_reducible refine(spec_l06Is.calls ac ae true _ A22.out).mono ?_);rintro e bO ⟨rfl,hb⟩;replace aa:=bb_ aa hb;replace HB:=hb1_ HB hb af;(try clear hb);obtain⟨aQ,aT,bp,bq⟩:=cz2_ aa)|(go_at_call 65;(with_reducible refine(spec_l05Val.calls ac false _ A24.out).mono ?_);rintro e w' ⟨rfl,⟨nd,rfl⟩⟩))
    go_ret
    exact⟨lf_,sq_below HB.out⟩
  ·
   replace c23:=Bool.eq_false_iff.mpr c23;subst c23;have H1:=ifn_ H
   clear H;have H:=H1;clear H1;obtain rfl:=Option.some.inj H
   go_enter Tryd.func42,Tryd.ntmps42
   go_wp2_with (first|((with_reducible refine gate_dst (N:=1) rfl ?_);refine box_y 1 #[.int .i64 ac,.int .i64 ae] 58 (h:=?_);intro ah hg bP hbox hb;have aa:=am_ hbox;have ag:=gz_ hg HB;have af:=gz_ hg HB;replace HB:=hb_ HB hb;clear hb hbox hg;obtain⟨aU,aV,br,bu⟩:=cz2_ aa)|(go_at_call 64;(with_reducible refine(spec_l06Is.calls ac ae false _ A22.out).mono ?_);rintro e bQ ⟨rfl,hb⟩;replace HB:=hb_ HB hb;(try clear hb)))
   go_ret
   exact⟨lf_,sq_below HB.out⟩
def spec_ValOk.f(aa:Int)(ac:Int)(af:Bool):Option (Bool):=(spec_RangeOk.f aa ac).bind fun ae=>(some ae)
theorem spec_ValOk.calls(aa:Int)(ac:Int)(af:Bool)(r:Bool)(w:World)(h:spec_ValOk.f aa ac af=some r) :
  Calls Tryd.prog 27 #[.agg #[.int .i64 aa,.int .i64 ac,.bool af]] w fun e w'=>e=.returned (.bool r)∧Below w.heap.size w w':=by
 have hu60:=Tryd.underlying60;have hu58:=Tryd.underlying58;have HB:=am_ (Below.refl w.heap.size w);have H:((spec_RangeOk.f aa ac).bind fun ae=>(some ae))=some r:=h;clear h;replace H:=Option.bind_eq_some_iff.mp H;obtain⟨ae,A20,H⟩:=H;replace H:(some ae)=some r:=H;have A2:=am_ A20;clear A20;obtain rfl:=Option.some.inj H
 go_enter Tryd.func27,Tryd.ntmps27
 go_wp2_with (first|((with_reducible refine gate_dst (N:=1) rfl ?_);refine box_y 1 #[.int .i64 aa,.int .i64 ac,.bool af] 60 (h:=?_);intro au hg w3 hbox hb;have ag:=am_ hbox;have ar:=gz_ hg HB;have aq:=gz_ hg HB;replace HB:=hb_ HB hb;clear hb hbox hg;obtain⟨ah,ai,aj,ak,ao,ap⟩:=cz3_ ag)|((with_reducible refine gate_callee (f:=42) rfl ?_);refine gl_ 5 Tryd.func42 #[.agg #[.int .i64 aa,.int .i64 ac]] (h:=?_);(with_reducible refine(spec_RangeOk.calls aa ac ae _ A2.out).mono ?_);rintro e w5 ⟨rfl,hb⟩;refine⟨_,rfl,?_⟩;replace HB:=hb_ HB hb;(try clear hb)))
 go_ret
 exact⟨lf_,sq_below HB.out⟩
end Go.Proofs.YtcdeojfeebmonaaDoor.Q
