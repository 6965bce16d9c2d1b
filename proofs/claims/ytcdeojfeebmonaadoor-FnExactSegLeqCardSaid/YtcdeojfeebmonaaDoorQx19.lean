/- Functions of the translation as Lean functions, each with a proof that a call answers so; out of the seat, by this claim's own program prt.py. -/
import Derived.Test.YtcdeojfeebmonaaDoorWRepsOne
import Derived.Test.YtcdeojfeebmonaaDoorQx0
import Derived.Test.YtcdeojfeebmonaaDoorQx2
import Derived.Test.YtcdeojfeebmonaaDoorQx18
import Derived.Test.YtcdeojfeebmonaaDoorQStep3
namespace Go.Proofs.YtcdeojfeebmonaaDoor.Q
open Go.RowKit Go.Proofs.YtcdeojfeebmonaaDoorW.PrintWords Go.Proofs.YtcdeojfeebmonaaDoorW.PrintLast Go.Proofs.YtcdeojfeebmonaaDoorW.PrintMore
attribute [local go_sem] max2_int min2_int max_two min_two max_three min_three max_four min_four
set_option linter.unusedVariables false
set_option maxHeartbeats 8000000
set_option maxRecDepth 100000
set_option linter.unusedSimpArgs false
attribute [local go_sem high] eqA58
def impl_RangeOk.f(aa:Int)(ac:Int):Option (Bool):=if(aa == 1&&(ac == 0))=true then(some true)else((impl_isVal.f aa).bind fun ao=>(if ao=true then((impl_isVal.f ac).bind fun ap=>(if ap=true then(some (decide (aa≤ac)))else(some false)))else(some false)))
theorem impl_RangeOk.calls(aa:Int)(ac:Int)(r:Bool)(w:World)(hG1:GL1 w)(h:impl_RangeOk.f aa ac=some r) :
  Calls Tryd.prog 71 #[.agg #[.int .i64 aa,.int .i64 ac]] w fun e w'=>e=.returned (.bool r)∧Below w.heap.size w w':=by
 have hu58:=Tryd.underlying58;have HB:=am_ (Below.refl w.heap.size w);have HG1:=am_ hG1;clear hG1;have H:(if(aa == 1&&(ac == 0))=true then(some true)else((impl_isVal.f aa).bind fun ao=>(if ao=true then((impl_isVal.f ac).bind fun ap=>(if ap=true then(some (decide (aa≤ac)))else(some false)))else(some false))))=some r:=h;clear h
 by_cases c2:(aa == 1&&(ac == 0))=true
 ·
  rw [if_pos c2]at H;have aI:(aa == 1&&(ac == 0))=true:=c2
  (try(have aJ:decide (aa=1&&(ac == 0))=true:=by simpa using c2))
  (try(have aK:(aa == 1&&(ac == 0))=true:=by simpa using c2))
  clear c2;obtain rfl:=Option.some.inj H
  go_enter Tryd.func71,Tryd.ntmps71
  go_wp2_with (first|((with_reducible refine gate_dst (N:=1) rfl ?_);refine box_y 1 #[.int .i64 aa,.int .i64 ac] 58 (h:=?_);intro ah hg w3 hbox hb;have ae:=am_ hbox;have ag:=gz_ hg HB;have af:=gz_ hg HB;replace HB:=hb_ HB hb;clear hb hbox hg;obtain⟨aM,aN,aQ,aT⟩:=cz2_ ae;have hgl5_0:w3.cell? ⟨1,0,none⟩=some (.int .i64 1):=GL1.c0 (GL1.below HG1.out HB.out);have hgl5_1:w3.cell? ⟨1,1,none⟩=some (.int .i64 0):=GL1.c1 (GL1.below HG1.out HB.out)))
  go_ret
  exact⟨lf_,sq_below HB.out⟩
 ·
  rw [if_neg c2]at H;have aI:(aa == 1&&(ac == 0))=false:=by simpa using c2
  (try(have aJ:decide (aa=1&&(ac == 0))=false:=by simpa using c2))
  (try(have aK:(aa == 1&&(ac == 0))=false:=by simpa using c2))
  (try(have aX:¬(aa=1&&(ac == 0)):=by simpa using c2))
  clear c2;obtain⟨ao,A6,H⟩:=be_ H;(try dsimp only at H)
  by_cases c7:ao=true
  ·
   subst c7;have H1:=ifp_ H
   clear H;have H:=H1;clear H1;obtain⟨ap,A8,H⟩:=be_ H;(try dsimp only at H)
   by_cases c9:ap=true
   ·
    subst c9;have H1:=ifp_ H
    clear H;have H:=H1;clear H1;obtain rfl:=Option.some.inj H
    go_enter Tryd.func71,Tryd.ntmps71
    go_wp2_with (first|((with_reducible refine gate_dst (N:=1) rfl ?_);refine box_y 1 #[.int .i64 aa,.int .i64 ac] 58 (h:=?_);intro ah hg aU hbox hb;have ae:=am_ hbox;have ag:=gz_ hg HB;have af:=gz_ hg HB;replace HB:=hb_ HB hb;clear hb hbox hg;obtain⟨aq,ar,az,aA⟩:=cz2_ ae;have hgl12_0:aU.cell? ⟨1,0,none⟩=some (.int .i64 1):=GL1.c0 (GL1.below HG1.out HB.out);have hgl12_1:aU.cell? ⟨1,1,none⟩=some (.int .i64 0):=GL1.c1 (GL1.below HG1.out HB.out);have ai:ah≠1:=(by first|exact Nat.ne_of_gt (Nat.lt_of_lt_of_le (World.block_lt_of_cell? _ _ (GL1.c0 HG1.out)) af.out)|exact Nat.ne_of_gt (Nat.lt_of_lt_of_le (World.block_lt_of_cell? _ _ (GL1.c0 HG1.out)) ag.out));have hnhgl12_389:=Ne.symm ai)|(go_at_call 77;(with_reducible refine(impl_isVal.calls aa true _ A6.out).mono ?_);rintro e w' ⟨rfl,⟨nd,rfl⟩⟩)|(go_at_call 77;(with_reducible refine(impl_isVal.calls ac true _ A8.out).mono ?_);rintro e w' ⟨rfl,⟨nd,rfl⟩⟩))
    go_ret
    exact⟨lf_,sq_below1 HB.out af.out⟩
   ·
    replace c9:=Bool.eq_false_iff.mpr c9;subst c9;have H1:=ifn_ H
    clear H;have H:=H1;clear H1;obtain rfl:=Option.some.inj H
    go_enter Tryd.func71,Tryd.ntmps71
    go_wp2_with (first|((with_reducible refine gate_dst (N:=1) rfl ?_);refine box_y 1 #[.int .i64 aa,.int .i64 ac] 58 (h:=?_);intro ah hg aV hbox hb;have ae:=am_ hbox;have ag:=gz_ hg HB;have af:=gz_ hg HB;replace HB:=hb_ HB hb;clear hb hbox hg;obtain⟨au,aw,aC,aD⟩:=cz2_ ae;have hgl15_0:aV.cell? ⟨1,0,none⟩=some (.int .i64 1):=GL1.c0 (GL1.below HG1.out HB.out);have hgl15_1:aV.cell? ⟨1,1,none⟩=some (.int .i64 0):=GL1.c1 (GL1.below HG1.out HB.out);have aj:ah≠1:=(by first|exact Nat.ne_of_gt (Nat.lt_of_lt_of_le (World.block_lt_of_cell? _ _ (GL1.c0 HG1.out)) af.out)|exact Nat.ne_of_gt (Nat.lt_of_lt_of_le (World.block_lt_of_cell? _ _ (GL1.c0 HG1.out)) ag.out));have hnhgl15_389:=Ne.symm aj)|(go_at_call 77;(with_reducible refine(impl_isVal.calls aa true _ A6.out).mono ?_);rintro e w' ⟨rfl,⟨nd,rfl⟩⟩)|(go_at_call 77;(with_reducible refine(impl_isVal.calls ac false _ A8.out).mono ?_);rintro e w' ⟨rfl,⟨nd,rfl⟩⟩))
    go_ret
    exact⟨lf_,sq_below HB.out⟩
  ·
   replace c7:=Bool.eq_false_iff.mpr c7;subst c7;have H1:=ifn_ H
   clear H;have H:=H1;clear H1;obtain rfl:=Option.some.inj H
   go_enter Tryd.func71,Tryd.ntmps71
   go_wp2_with (first|((with_reducible refine gate_dst (N:=1) rfl ?_);refine box_y 1 #[.int .i64 aa,.int .i64 ac] 58 (h:=?_);intro ah hg aW hbox hb;have ae:=am_ hbox;have ag:=gz_ hg HB;have af:=gz_ hg HB;replace HB:=hb_ HB hb;clear hb hbox hg;obtain⟨ax,ay,aG,aH⟩:=cz2_ ae;have hgl18_0:aW.cell? ⟨1,0,none⟩=some (.int .i64 1):=GL1.c0 (GL1.below HG1.out HB.out);have hgl18_1:aW.cell? ⟨1,1,none⟩=some (.int .i64 0):=GL1.c1 (GL1.below HG1.out HB.out);have ak:ah≠1:=(by first|exact Nat.ne_of_gt (Nat.lt_of_lt_of_le (World.block_lt_of_cell? _ _ (GL1.c0 HG1.out)) af.out)|exact Nat.ne_of_gt (Nat.lt_of_lt_of_le (World.block_lt_of_cell? _ _ (GL1.c0 HG1.out)) ag.out));have hnhgl18_389:=Ne.symm ak)|(go_at_call 77;(with_reducible refine(impl_isVal.calls aa false _ A6.out).mono ?_);rintro e w' ⟨rfl,⟨nd,rfl⟩⟩))
   go_ret
   exact⟨lf_,sq_below HB.out⟩
def impl_ValOk.f(aa:Int)(ac:Int)(af:Bool):Option (Bool):=(impl_RangeOk.f aa ac).bind fun ae=>(some ae)
theorem impl_ValOk.calls(aa:Int)(ac:Int)(af:Bool)(r:Bool)(w:World)(hG1:GL1 w)(h:impl_ValOk.f aa ac af=some r) :
  Calls Tryd.prog 57 #[.agg #[.int .i64 aa,.int .i64 ac,.bool af]] w fun e w'=>e=.returned (.bool r)∧Below w.heap.size w w':=by
 have hu60:=Tryd.underlying60;have hu58:=Tryd.underlying58;have HB:=am_ (Below.refl w.heap.size w);have HG1:=am_ hG1;clear hG1;have H:((impl_RangeOk.f aa ac).bind fun ae=>(some ae))=some r:=h;clear h;replace H:=Option.bind_eq_some_iff.mp H;obtain⟨ae,A20,H⟩:=H;replace H:(some ae)=some r:=H;have A2:=am_ A20;clear A20;obtain rfl:=Option.some.inj H
 go_enter Tryd.func57,Tryd.ntmps57
 go_wp2_with (first|((with_reducible refine gate_dst (N:=1) rfl ?_);refine box_y 1 #[.int .i64 aa,.int .i64 ac,.bool af] 60 (h:=?_);intro aw hg w3 hbox hb;have ag:=am_ hbox;have au:=gz_ hg HB;have ar:=gz_ hg HB;replace HB:=hb_ HB hb;clear hb hbox hg;obtain⟨ai,aj,ak,ao,ap,aq⟩:=cz3_ ag)|((with_reducible refine gate_callee (f:=71) rfl ?_);refine gl_ 5 Tryd.func71 #[.agg #[.int .i64 aa,.int .i64 ac]] (h:=?_);(with_reducible refine(impl_RangeOk.calls aa ac ae _ ?ah A2.out).mono ?_);(case ah=>exact GL1.below HG1.out (sq_below HB.out));rintro e w5 ⟨rfl,hb⟩;refine⟨_,rfl,?_⟩;replace HB:=hb_ HB hb;(try clear hb)))
 go_ret
 exact⟨lf_,sq_below HB.out⟩
def impl_SegOk_1.f(aa:Int)(ac:Int)(ae:Bool):Option (Bool):=(impl_ValOk.f aa ac ae).bind fun af=>(some (!af))
theorem impl_SegOk_1.calls(aa:Int)(ac:Int)(ae:Bool)(r:Bool)(w:World)(hG1:GL1 w)(h:impl_SegOk_1.f aa ac ae=some r) :
  Calls Tryd.prog 56 #[.agg #[.int .i64 aa,.int .i64 ac,.bool ae]] w fun e w'=>e=.returned (.bool r)∧Below w.heap.size w w':=by
 have hu60:=Tryd.underlying60;have HB:=am_ (Below.refl w.heap.size w);have HG1:=am_ hG1;clear hG1;have H:((impl_ValOk.f aa ac ae).bind fun af=>(some (!af)))=some r:=h;clear h;replace H:=Option.bind_eq_some_iff.mp H;obtain⟨af,A20,H⟩:=H;replace H:(some (!af))=some r:=H;have A2:=am_ A20;clear A20;obtain rfl:=Option.some.inj H
 go_enter Tryd.func56,Tryd.ntmps56
 go_wp2_with (first|((with_reducible refine gate_dst (N:=1) rfl ?_);refine box_y 1 #[.int .i64 aa,.int .i64 ac,.bool ae] 60 (h:=?_);intro aw hg w3 hbox hb;have ag:=am_ hbox;have au:=gz_ hg HB;have ar:=gz_ hg HB;replace HB:=hb_ HB hb;clear hb hbox hg;obtain⟨ai,aj,ak,ao,ap,aq⟩:=cz3_ ag)|((with_reducible refine gate_callee (f:=57) rfl ?_);refine gl_ 4 Tryd.func57 #[.agg #[.int .i64 aa,.int .i64 ac,.bool ae]] (h:=?_);(with_reducible refine(impl_ValOk.calls aa ac ae af _ ?ah A2.out).mono ?_);(case ah=>exact GL1.below HG1.out (sq_below HB.out));rintro e w5 ⟨rfl,hb⟩;refine⟨_,rfl,?_⟩;replace HB:=hb_ HB hb;(try clear hb)))
 go_ret
 exact⟨lf_,sq_below HB.out⟩
def slices_IndexFunc__impl_SegOk_1.l0:Nat→List (S60)→Int→Int→Option (Int)
 |0,_,_,_=>none
 |k+1,x0,x7,x8=>if x8<x7 then(if 0≤x8 then(if x8<(x0.length:Int)then((impl_SegOk_1.f ((rd_T60 x0 x8).f0.f0) ((rd_T60 x0 x8).f0.f1) ((rd_T60 x0 x8).f1)).bind fun ak=>(if ak=true then(some x8)else(slices_IndexFunc__impl_SegOk_1.l0 k x0 x7 (wrap64 (x8+1)))))else(none))else(none))else(some (-1))
def slices_IndexFunc__impl_SegOk_1.f(k:Nat)(l0:List (S60)):Option (Int):=slices_IndexFunc__impl_SegOk_1.l0 k l0 (l0.length:Int) 0
theorem slices_IndexFunc__impl_SegOk_1.mono_l:∀ k,(∀ y0 y1 y2,LeO (slices_IndexFunc__impl_SegOk_1.l0 k y0 y1 y2) (slices_IndexFunc__impl_SegOk_1.l0 (k+1) y0 y1 y2))
 |0=>fun _ _ _ r h=>by simp [slices_IndexFunc__impl_SegOk_1.l0]at h
 |k+1=>by
  have ih0:=slices_IndexFunc__impl_SegOk_1.mono_l k
  ·
   intro y0 y1 y2;unfold slices_IndexFunc__impl_SegOk_1.l0
   repeat' first
   |(with_reducible exact ih0 _ _ _)|(with_reducible exact LeO.refl _)|(with_reducible exact LeO.none _)|(with_reducible refine LeO.ite ?_ ?_)|(with_reducible refine LeO.bind ?_ fun _=>?_)|exact ih0 _ _ _|exact LeO.none _|refine LeO.ite ?_ ?_|refine LeO.bind ?_ fun _=>?_
theorem slices_IndexFunc__impl_SegOk_1.mono:∀ a0 k,LeO (slices_IndexFunc__impl_SegOk_1.f k a0) (slices_IndexFunc__impl_SegOk_1.f (k+1) a0):=by
 intro a0 k;have ih0:=slices_IndexFunc__impl_SegOk_1.mono_l k;unfold slices_IndexFunc__impl_SegOk_1.f
 repeat' first
   |(with_reducible exact ih0 _ _ _)|(with_reducible exact LeO.refl _)|(with_reducible exact LeO.none _)|(with_reducible refine LeO.ite ?_ ?_)|(with_reducible refine LeO.bind ?_ fun _=>?_)|exact ih0 _ _ _|exact LeO.none _|refine LeO.ite ?_ ?_|refine LeO.bind ?_ fun _=>?_
theorem slices_IndexFunc__impl_SegOk_1.calls(k:Nat)(A0:Option Addr)(c0:Nat)(l0:List (S60))(r:Int)(w:World)(hG1:GL1 w)(hr0:Kd.C k60 w A0 l0.length l0)(hc0:l0.length≤c0)(h:slices_IndexFunc__impl_SegOk_1.f k l0=some r) :
  Calls Tryd.prog 70 #[.slice A0 l0.length c0,.func (.func 56) #[] #[]] w fun e w'=>e=.returned (.int .i64 r)∧Below w.heap.size w w':=by
 have hu60:=Tryd.underlying60;have aq:=am_ hr0;have aw:=am_ hc0;clear hr0 hc0;have HB:=am_ (Below.refl w.heap.size w);have HG1:=am_ hG1;clear hG1;have H:(slices_IndexFunc__impl_SegOk_1.l0 k l0 (l0.length:Int) 0)=some r:=h;clear h;have H':=am_ H;clear H
 go_enter Tryd.func70,Tryd.ntmps70
 go_wp2
 go_loopg [8] k (fun kq v8 w'=>∃ (aa:Int),v8=.int .i64 aa∧Aside0 (slices_IndexFunc__impl_SegOk_1.l0 kq l0 (l0.length:Int) aa=some r)∧Aside0 (kq≤k)∧Aside0 (Below w.heap.size w w'))
 case atStart=>exact⟨(0),sr_,H',⟨Nat.le_refl _⟩,⟨sq_below HB.out⟩⟩
 case round =>
  clear H'
  obtain⟨aa,rfl,HA,HK1,HB⟩:=hrel;cases gk with
  |zero=>exact absurd HA.out (by simp [slices_IndexFunc__impl_SegOk_1.l0])
  |succ k1 =>
   have H:=HA.out;clear HA;simp only [slices_IndexFunc__impl_SegOk_1.l0]at H
   by_cases c3:aa<(l0.length:Int)
   ·
    rw [if_pos c3]at H;have ap:=decide_eq_true (p:=aa<(l0.length:Int)) c3;clear c3
    by_cases c4:0≤aa
    ·
     rw [if_pos c4]at H;have ar:=decide_eq_true (p:=0≤aa) c4;clear c4
     by_cases c5:aa<(l0.length:Int)
     ·
      rw [if_pos c5]at H;have au:=decide_eq_true (p:=aa<(l0.length:Int)) c5;clear c5;obtain⟨ak,A6,H⟩:=be_ H;(try dsimp only at H)
      by_cases c7:ak=true
      ·
       subst c7;have H1:=ifp_ H
       clear H;have H:=H1;clear H1;obtain rfl:=Option.some.inj H;have ag:0≤(aa:Int):=sq_dec;have ah:aa<(l0.length:Int):=sq_dec;obtain⟨ao,aj,ac,ae,af⟩:=at_T60 aq.out aa ag ah;cases aj;replace ac:=cb_ HB ac;replace ae:=cb_ HB ae;replace af:=cb_ HB af;replace ag:=eq_true ag;replace ah:=eq_true ah
       go_wp2_with (first|(go_at_call 56;(with_reducible refine(impl_SegOk_1.calls ((rd_T60 l0 aa).f0.f0) ((rd_T60 l0 aa).f0.f1) ((rd_T60 l0 aa).f1) true _ ?ai A6.out).mono ?_);(case ai=>exact GL1.below HG1.out (sq_below HB.out));rintro e w8 ⟨rfl,hb⟩;replace HB:=hb_ HB hb;(try clear hb)))
       go_ret
       exact⟨lf_,sq_below HB.out⟩
      ·
       replace c7:=Bool.eq_false_iff.mpr c7;subst c7;have H1:=ifn_ H
       clear H;have H:=H1;clear H1;have H':=am_ H;clear H;have ag:0≤(aa:Int):=sq_dec;have ah:aa<(l0.length:Int):=sq_dec;obtain⟨ao,aj,ac,ae,af⟩:=at_T60 aq.out aa ag ah;cases aj;replace ac:=cb_ HB ac;replace ae:=cb_ HB ae;replace af:=cb_ HB af;replace ag:=eq_true ag;replace ah:=eq_true ah
       go_wp2_with (first|(go_at_call 56;(with_reducible refine(impl_SegOk_1.calls ((rd_T60 l0 aa).f0.f0) ((rd_T60 l0 aa).f0.f1) ((rd_T60 l0 aa).f1) false _ ?ai A6.out).mono ?_);(case ai=>exact GL1.below HG1.out (sq_below HB.out));rintro e w9 ⟨rfl,hb⟩;replace HB:=hb_ HB hb;(try clear hb)))
       go_roundg k1
       case measure=>have:=HK1.out;omega
       case rel=>exact⟨(wrap64 (aa+1)),sr_,H',⟨by have:=HK1.out;omega⟩,⟨sq_below HB.out⟩⟩
     ·
      rw [if_neg c5]at H;exact absurd H (by simp)
    ·
     rw [if_neg c4]at H;exact absurd H (by simp)
   ·
    rw [if_neg c3]at H;have ap:=decide_eq_false (p:=aa<(l0.length:Int)) c3;clear c3;obtain rfl:=Option.some.inj H
    go_wp2
    go_ret
    exact⟨lf_,sq_below HB.out⟩
def slices_ContainsFunc__impl_SegOk_1.f(k:Nat)(l0:List (S60)):Option (Bool):=(slices_IndexFunc__impl_SegOk_1.f k l0).bind fun aa=>(some (decide (aa≥0)))
theorem slices_ContainsFunc__impl_SegOk_1.mono:∀ a0 k,LeO (slices_ContainsFunc__impl_SegOk_1.f k a0) (slices_ContainsFunc__impl_SegOk_1.f (k+1) a0):=by
 intro a0 k;unfold slices_ContainsFunc__impl_SegOk_1.f
 repeat' first
   |(with_reducible exact slices_IndexFunc__impl_SegOk_1.mono _ _)|(with_reducible exact LeO.refl _)|(with_reducible exact LeO.none _)|(with_reducible refine LeO.ite ?_ ?_)|(with_reducible refine LeO.bind ?_ fun _=>?_)|exact slices_IndexFunc__impl_SegOk_1.mono _ _|exact LeO.none _|refine LeO.ite ?_ ?_|refine LeO.bind ?_ fun _=>?_
theorem slices_ContainsFunc__impl_SegOk_1.calls(k:Nat)(A0:Option Addr)(c0:Nat)(l0:List (S60))(r:Bool)(w:World)(hG1:GL1 w)(hr0:Kd.C k60 w A0 l0.length l0)(hc0:l0.length≤c0)(h:slices_ContainsFunc__impl_SegOk_1.f k l0=some r) :
  Calls Tryd.prog 55 #[.slice A0 l0.length c0,.func (.func 56) #[] #[]] w fun e w'=>e=.returned (.bool r)∧Below w.heap.size w w':=by
 have ah:=am_ hr0;have ag:=am_ hc0;clear hr0 hc0;have HB:=am_ (Below.refl w.heap.size w);have HG1:=am_ hG1;clear hG1;have H:((slices_IndexFunc__impl_SegOk_1.f k l0).bind fun aa=>(some (decide (aa≥0))))=some r:=h;clear h;replace H:=Option.bind_eq_some_iff.mp H;obtain⟨aa,A30,H⟩:=H;replace H:(some (decide (aa≥0)))=some r:=H;have A3:=am_ A30;clear A30;obtain rfl:=Option.some.inj H
 go_enter Tryd.func55,Tryd.ntmps55
 go_wp2_with (first|((with_reducible refine gate_callee (f:=70) rfl ?_);refine gl_ 7 Tryd.func70 #[.slice A0 l0.length c0,.func (.func 56) #[] #[]] (h:=?_);(with_reducible refine(slices_IndexFunc__impl_SegOk_1.calls k _ _ l0 aa _ ?af ?ac ?ae A3.out).mono ?_);(case ac=>repeat(first|exact ah.out|(with_reducible refine Kd.C_alloc ?_ _)|(with_reducible refine Kd.C_drewN ?_ _)|(with_reducible refine Kd.C_drew ?_)));(case ae=>exact ag.out);(case af=>exact GL1.below HG1.out (sq_below HB.out));rintro e w4 ⟨rfl,hb⟩;refine⟨_,rfl,?_⟩;replace HB:=hb_ HB hb;(try clear hb)))
 go_ret
 exact⟨lf_,sq_below HB.out⟩
end Go.Proofs.YtcdeojfeebmonaaDoor.Q
