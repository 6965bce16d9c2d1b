/- Functions of the translation as Lean functions, each with a proof that a call answers so; out of the seat, by this claim's own program prt.py. -/
import Derived.Test.YtcdeojfeebmonaaDoorWRepsOne
import Derived.Test.YtcdeojfeebmonaaDoorQx0
import Derived.Test.YtcdeojfeebmonaaDoorQStep3
namespace Go.Proofs.YtcdeojfeebmonaaDoor.Q
open Go.RowKit Go.Proofs.YtcdeojfeebmonaaDoorW.PrintWords Go.Proofs.YtcdeojfeebmonaaDoorW.PrintLast Go.Proofs.YtcdeojfeebmonaaDoorW.PrintMore
attribute [local go_sem] max2_int min2_int max_two min_two max_three min_three max_four min_four
set_option linter.unusedVariables false
set_option maxHeartbeats 8000000
set_option maxRecDepth 100000
set_option linter.unusedSimpArgs false
def spec_l06None.f:Option (Int×Int):=some (1,0)
theorem spec_l06None.calls(r1:Int)(r2:Int)(w:World)(h:spec_l06None.f=some (r1,r2)) :
  Calls Tryd.prog 75 #[] w fun e w'=>e=.returned (.agg #[.int .i64 r1,.int .i64 r2])∧Below w.heap.size w w':=by
 have hu58:=Tryd.underlying58;have HB:=am_ (Below.refl w.heap.size w);have H:(some (1,0))=some (r1,r2):=h;clear h;simp only [Option.some.injEq,Prod.mk.injEq]at H;obtain⟨rfl,rfl⟩:=H
 go_enter Tryd.func75,Tryd.ntmps75
 go_wp2_with (first|((with_reducible refine gate_dst (N:=0) rfl ?_);refine box_y 0 #[.int .i64 0,.int .i64 0] 58 (h:=?_);intro ae hg w1 hbox hb;have aa:=am_ hbox;have aj:=gz_ hg HB;have ac:=gz_ hg HB;replace HB:=hb_ HB hb;clear hb hbox hg;obtain⟨af,ag,ah,ai⟩:=cz2_ aa))
 refine bodyPost_ret (results_cell_row rfl _ _ ae 58 #[.int .i64 1,.int .i64 0] (0,0) _ rfl (bp_ aa) Tryd.underlying58 rfl (by kernel_rfl)) rfl ?_;exact⟨lf_,sq_below1 HB.out ac.out⟩
def spec_l09None.f:Option (Int×Int×Bool):=(spec_l06None.f).bind fun aa=>(some (aa.1,aa.2,true))
theorem spec_l09None.calls(r1:Int)(r2:Int)(r3:Bool)(w:World)(h:spec_l09None.f=some (r1,r2,r3)) :
  Calls Tryd.prog 66 #[] w fun e w'=>e=.returned (.agg #[.int .i64 r1,.int .i64 r2,.bool r3])∧Below w.heap.size w w':=by
 have hu60:=Tryd.underlying60;have HB:=am_ (Below.refl w.heap.size w);have H:((spec_l06None.f).bind fun aa=>(some (aa.1,aa.2,true)))=some (r1,r2,r3):=h;clear h;replace H:=Option.bind_eq_some_iff.mp H;obtain⟨⟨af,ag⟩,A10,H⟩:=H;replace H:(some (af,ag,true))=some (r1,r2,r3):=H;have A1:=am_ A10;clear A10;simp only [Option.some.injEq,Prod.mk.injEq]at H;obtain⟨rfl,rfl,rfl⟩:=H
 go_enter Tryd.func66,Tryd.ntmps66
 go_wp2_with (first|((with_reducible refine gate_dst (N:=0) rfl ?_);refine box_y 0 #[.int .i64 0,.int .i64 0,.bool false] 60 (h:=?_);intro ah hg w2 hbox hb;have ac:=am_ hbox;have ar:=gz_ hg HB;have ae:=gz_ hg HB;replace HB:=hb_ HB hb;clear hb hbox hg)|((with_reducible refine gate_callee (f:=75) rfl ?_);refine gl_ 1 Tryd.func75 #[] (h:=?_);(with_reducible refine(spec_l06None.calls af ag _ A1.out).mono ?_);rintro e w3 ⟨rfl,hb⟩;refine⟨_,rfl,?_⟩;replace ac:=bb_ ac hb;replace HB:=hb1_ HB hb ae;(try clear hb);obtain⟨ai,aj,ak,ao,ap,aq⟩:=cz3_ ac))
 refine bodyPost_ret (results_cell_row rfl _ _ ah 60 #[.int .i64 af,.int .i64 ag,.bool true] (0,0) _ rfl (bp_ ac) Tryd.underlying60 rfl (by kernel_rfl)) rfl ?_;exact⟨lf_,sq_below1 HB.out ae.out⟩
def spec_l06Min.f(a0:Int)(a1:Int):Option (Int):=if a0<a1 then(some a0)else(some a1)
theorem spec_l06Min.calls(a0:Int)(a1:Int)(r:Int)(w:World)(h:spec_l06Min.f a0 a1=some r) :
  Calls Tryd.prog 81 #[.int .i64 a0,.int .i64 a1] w fun e w'=>e=.returned (.int .i64 r)∧Drawn0 w w':=by
 have H:(if a0<a1 then(some a0)else(some a1))=some r:=h;clear h
 by_cases c3:a0<a1
 ·
  rw [if_pos c3]at H;have aa:=decide_eq_true (p:=a0<a1) c3;clear c3;obtain rfl:=Option.some.inj H
  go_enter Tryd.func81,Tryd.ntmps81
  go_wp2
  go_ret
  exact⟨by first|rfl|(simp;done)|(simp [*];done),by repeat(first|exact Drawn0.refl _|apply Drawn0.step)⟩
 ·
  rw [if_neg c3]at H;have aa:=decide_eq_false (p:=a0<a1) c3;clear c3;obtain rfl:=Option.some.inj H
  go_enter Tryd.func81,Tryd.ntmps81
  go_wp2
  go_ret
  exact⟨by first|rfl|(simp;done)|(simp [*];done),by repeat(first|exact Drawn0.refl _|apply Drawn0.step)⟩
def spec_l06Max.f(a0:Int)(a1:Int):Option (Int):=if a0 > a1 then(some a0)else(some a1)
theorem spec_l06Max.calls(a0:Int)(a1:Int)(r:Int)(w:World)(h:spec_l06Max.f a0 a1=some r) :
  Calls Tryd.prog 82 #[.int .i64 a0,.int .i64 a1] w fun e w'=>e=.returned (.int .i64 r)∧Drawn0 w w':=by
 have H:(if a0 > a1 then(some a0)else(some a1))=some r:=h;clear h
 by_cases c3:a0 > a1
 ·
  rw [if_pos c3]at H;have aa:=decide_eq_true (p:=a1<a0) c3;clear c3;obtain rfl:=Option.some.inj H
  go_enter Tryd.func82,Tryd.ntmps82
  go_wp2
  go_ret
  exact⟨by first|rfl|(simp;done)|(simp [*];done),by repeat(first|exact Drawn0.refl _|apply Drawn0.step)⟩
 ·
  rw [if_neg c3]at H;have aa:=decide_eq_false (p:=a1<a0) c3;clear c3;obtain rfl:=Option.some.inj H
  go_enter Tryd.func82,Tryd.ntmps82
  go_wp2
  go_ret
  exact⟨by first|rfl|(simp;done)|(simp [*];done),by repeat(first|exact Drawn0.refl _|apply Drawn0.step)⟩
def spec_l06Make.f(a0:Int)(a1:Int):Option (Int×Int):=(spec_l06Max.f a0 (-1000000)).bind fun ae=>((spec_l06Min.f a1 1000000).bind fun af=>(if ae > af then((spec_l06None.f).bind fun ag=>(some (ag.1,ag.2)))else(some (ae,af))))
theorem spec_l06Make.calls(a0:Int)(a1:Int)(r1:Int)(r2:Int)(w:World)(h:spec_l06Make.f a0 a1=some (r1,r2)) :
  Calls Tryd.prog 80 #[.int .i64 a0,.int .i64 a1] w fun e w'=>e=.returned (.agg #[.int .i64 r1,.int .i64 r2])∧Below w.heap.size w w':=by
 have hu58:=Tryd.underlying58;have HB:=am_ (Below.refl w.heap.size w);have H:((spec_l06Max.f a0 (-1000000)).bind fun ae=>((spec_l06Min.f a1 1000000).bind fun af=>(if ae > af then((spec_l06None.f).bind fun ag=>(some (ag.1,ag.2)))else(some (ae,af)))))=some (r1,r2):=h;clear h;obtain⟨ae,A3,H⟩:=be_ H;(try dsimp only at H);obtain⟨af,A4,H⟩:=be_ H;(try dsimp only at H)
 by_cases c5:ae > af
 ·
  rw [if_pos c5]at H;have aw:=decide_eq_true (p:=af<ae) c5;clear c5;replace H:=Option.bind_eq_some_iff.mp H;obtain⟨⟨ai,aj⟩,A60,H⟩:=H;replace H:(some (ai,aj))=some (r1,r2):=H;have A6:=am_ A60;clear A60;simp only [Option.some.injEq,Prod.mk.injEq]at H;obtain⟨rfl,rfl⟩:=H
  go_enter Tryd.func80,Tryd.ntmps80
  go_wp2_with (first|((with_reducible refine gate_dst (N:=4) rfl ?_);refine box_y 4 #[.int .i64 0,.int .i64 0] 58 (h:=?_);intro ah hg w7 hbox hb;have aa:=am_ hbox;have ao:=gz_ hg HB;have ac:=gz_ hg HB;replace HB:=hb_ HB hb;clear hb hbox hg)|((with_reducible refine gate_callee (f:=82) rfl ?_);refine gl_ 6 Tryd.func82 #[.int .i64 a0,.int .i64 (-1000000)] (h:=?_);(with_reducible refine(spec_l06Max.calls a0 (-1000000) ae _ A3.out).mono ?_);rintro e w' ⟨rfl,⟨nd,rfl⟩⟩;refine⟨_,rfl,?_⟩;(try(rw [drewN_self w7];generalize hq_:World.drewN w7 _=w7;replace aa:=bq_ hq_ aa;replace HB:=hq1_ hq_ HB ac;clear hq_)))|((with_reducible refine gate_callee (f:=81) rfl ?_);refine gl_ 8 Tryd.func81 #[.int .i64 a1,.int .i64 1000000] (h:=?_);(with_reducible refine(spec_l06Min.calls a1 1000000 af _ A4.out).mono ?_);rintro e w' ⟨rfl,⟨nd,rfl⟩⟩;refine⟨_,rfl,?_⟩;(try(rw [drewN_self w7];generalize hq_:World.drewN w7 _=w7;replace aa:=bq_ hq_ aa;replace HB:=hq1_ hq_ HB ac;clear hq_)))|((with_reducible refine gate_callee (f:=75) rfl ?_);refine gl_ 12 Tryd.func75 #[] (h:=?_);(with_reducible refine(spec_l06None.calls ai aj _ A6.out).mono ?_);rintro e w8 ⟨rfl,hb⟩;refine⟨_,rfl,?_⟩;replace aa:=bb_ aa hb;replace HB:=hb1_ HB hb ac;(try clear hb);obtain⟨ax,ay,az,aA⟩:=cz2_ aa))
  refine bodyPost_ret (results_cell_row rfl _ _ ah 58 #[.int .i64 ai,.int .i64 aj] (0,0) _ rfl (bp_ aa) Tryd.underlying58 rfl (by kernel_rfl)) rfl ?_;exact⟨lf_,sq_below1 HB.out ac.out⟩
 ·
  rw [if_neg c5]at H;have aw:=decide_eq_false (p:=af<ae) c5;clear c5;simp only [Option.some.injEq,Prod.mk.injEq]at H;obtain⟨rfl,rfl⟩:=H
  go_enter Tryd.func80,Tryd.ntmps80
  go_wp2_with (first|((with_reducible refine gate_dst (N:=4) rfl ?_);refine box_y 4 #[.int .i64 0,.int .i64 0] 58 (h:=?_);intro ah hg ak hbox hb;have aa:=am_ hbox;have ao:=gz_ hg HB;have ac:=gz_ hg HB;replace HB:=hb_ HB hb;clear hb hbox hg)|((with_reducible refine gate_callee (f:=82) rfl ?_);refine gl_ 6 Tryd.func82 #[.int .i64 a0,.int .i64 (-1000000)] (h:=?_);(with_reducible refine(spec_l06Max.calls a0 (-1000000) ae _ A3.out).mono ?_);rintro e w' ⟨rfl,⟨nd,rfl⟩⟩;refine⟨_,rfl,?_⟩;(try(rw [drewN_self ak];generalize hq_:World.drewN ak _=ak;replace aa:=bq_ hq_ aa;replace HB:=hq1_ hq_ HB ac;clear hq_)))|((with_reducible refine gate_callee (f:=81) rfl ?_);refine gl_ 8 Tryd.func81 #[.int .i64 a1,.int .i64 1000000] (h:=?_);(with_reducible refine(spec_l06Min.calls a1 1000000 af _ A4.out).mono ?_);rintro e w' ⟨rfl,⟨nd,rfl⟩⟩;refine⟨_,rfl,?_⟩;(try(rw [drewN_self ak];generalize hq_:World.drewN ak _=ak;replace aa:=bq_ hq_ aa;replace HB:=hq1_ hq_ HB ac;clear hq_));obtain⟨ap,aq,ar,au⟩:=cz2_ aa))
  refine bodyPost_ret (results_cell_row rfl _ _ ah 58 #[.int .i64 ae,.int .i64 af] (0,0) _ rfl (bp_ aa) Tryd.underlying58 rfl (by kernel_rfl)) rfl ?_;exact⟨lf_,sq_below1 HB.out ac.out⟩
end Go.Proofs.YtcdeojfeebmonaaDoor.Q
