/- Functions of the translation as Lean functions, each with a proof that a call answers so; out of the seat, by this claim's own program prt.py. -/
import Derived.Test.YtcdeojfeebmonaaDoorWRepsOne
import Derived.Test.YtcdeojfeebmonaaDoorQx0
import Derived.Test.YtcdeojfeebmonaaDoorQx2
import Derived.Test.YtcdeojfeebmonaaDoorQx19
import Derived.Test.YtcdeojfeebmonaaDoorQStep3
namespace Go.Proofs.YtcdeojfeebmonaaDoor.Q
open Go.RowKit Go.Proofs.YtcdeojfeebmonaaDoorW.PrintWords Go.Proofs.YtcdeojfeebmonaaDoorW.PrintLast Go.Proofs.YtcdeojfeebmonaaDoorW.PrintMore
attribute [local go_sem] max2_int min2_int max_two min_two max_three min_three max_four min_four
set_option linter.unusedVariables false
set_option maxHeartbeats 8000000
set_option maxRecDepth 100000
set_option linter.unusedSimpArgs false
attribute [local go_sem high] eqA58
def impl_Seg_terms.l0:Nat→Int→List (List (S53))→Int→Int→Option (Int)
 |0,_,_,_,_=>none
 |k+1,x3,x7,x8,x9=>if x9<x8 then(if 0≤x9 then(if x9<(x7.length:Int)then(impl_Seg_terms.l0 k (wrap64 (x3+((rd_L7 x7 x9).length:Int))) x7 x8 (wrap64 (x9+1)))else(none))else(none))else(some x3)
def impl_Seg_terms.f(k:Nat)(aa:List (List (S53)))(ae:List (S60))(af:List Bool):Option (Int):=impl_Seg_terms.l0 k 0 aa (aa.length:Int) 0
theorem impl_Seg_terms.mono_l:∀ k,(∀ y0 y1 y2 y3,LeO (impl_Seg_terms.l0 k y0 y1 y2 y3) (impl_Seg_terms.l0 (k+1) y0 y1 y2 y3))
 |0=>fun _ _ _ _ r h=>by simp [impl_Seg_terms.l0]at h
 |k+1=>by
  have ih0:=impl_Seg_terms.mono_l k
  ·
   intro y0 y1 y2 y3;unfold impl_Seg_terms.l0
   repeat' first
   |(with_reducible exact ih0 _ _ _ _)|(with_reducible exact LeO.refl _)|(with_reducible exact LeO.none _)|(with_reducible refine LeO.ite ?_ ?_)|(with_reducible refine LeO.bind ?_ fun _=>?_)|exact ih0 _ _ _ _|exact LeO.none _|refine LeO.ite ?_ ?_|refine LeO.bind ?_ fun _=>?_
theorem impl_Seg_terms.mono:∀ a0 a1 a2 k,LeO (impl_Seg_terms.f k a0 a1 a2) (impl_Seg_terms.f (k+1) a0 a1 a2):=by
 intro a0 a1 a2 k;have ih0:=impl_Seg_terms.mono_l k;unfold impl_Seg_terms.f
 repeat' first
   |(with_reducible exact ih0 _ _ _ _)|(with_reducible exact LeO.refl _)|(with_reducible exact LeO.none _)|(with_reducible refine LeO.ite ?_ ?_)|(with_reducible refine LeO.bind ?_ fun _=>?_)|exact ih0 _ _ _ _|exact LeO.none _|refine LeO.ite ?_ ?_|refine LeO.bind ?_ fun _=>?_
theorem impl_Seg_terms.calls(k:Nat)(aj:Option Addr)(ap:Nat)(aa:List (List (S53)))(ak:Option Addr)(aq:Nat)(ae:List (S60))(ao:Option Addr)(ar:Nat)(af:List Bool)(r:Int)(w:World)(az:Kd.C (Kd.slice 53 k53) w aj aa.length aa)(aw:aa.length≤ap)(aA:Kd.C k60 w ak ae.length ae)(ax:ae.length≤aq)(aC:Kd.C Kd.bool w ao af.length af)(ay:af.length≤ar)(h:impl_Seg_terms.f k aa ae af=some r) :
  Calls Tryd.prog 36 #[.agg #[.slice aj aa.length ap,.slice ak ae.length aq,.slice ao af.length ar]] w fun e w'=>e=.returned (.int .i64 r)∧Below w.heap.size w w':=by
 have hu32:=Tryd.underlying32;have aQ:=am_ az;have a9:=am_ aw;clear az aw;have bf:=am_ aA;have ba:=am_ ax;clear aA ax;have bg:=am_ aC;have bc:=am_ ay;clear aC ay;have HB:=am_ (Below.refl w.heap.size w);have H:(impl_Seg_terms.l0 k 0 aa (aa.length:Int) 0)=some r:=h;clear h;have H':=am_ H;clear H
 go_enter Tryd.func36,Tryd.ntmps36
 go_wp2_with (first|((with_reducible refine gate_dst (N:=1) rfl ?_);refine box_y 1 #[.slice aj aa.length ap,.slice ak ae.length aq,.slice ao af.length ar] 32 (h:=?_);intro aT hg w2 hbox hb;have ag:=am_ hbox;have a8:=gz_ hg HB;have ai:=gz_ hg HB;replace HB:=hb_ HB hb;clear hb hbox hg;obtain⟨aD,aG,aH,aI,aJ,aK⟩:=cz3_ ag))
 go_loopg [3,9] k (fun kq v3 v9 w'=>∃ (au:Int) (ac:Int),v3=.int .i64 au∧v9=.int .i64 ac∧Aside0 (impl_Seg_terms.l0 kq au aa (aa.length:Int) ac=some r)∧Aside0 (kq≤k)∧Aside0 (w'.heap[aT]?=some (.cells #[(.slice aj aa.length ap),(.slice ak ae.length aq),(.slice ao af.length ar)] 32 (0,0)))∧Aside0 (Below w.heap.size w w'))
 case atStart=>exact⟨(0),(0),sr_,sr_,H',⟨Nat.le_refl _⟩,bk_ ag,⟨sq_below1 HB.out ai.out⟩⟩
 case round =>
  clear H'
  obtain⟨au,ac,rfl,rfl,HA,HK1,ag,HB⟩:=hrel;cases gk with
  |zero=>exact absurd HA.out (by simp [impl_Seg_terms.l0])
  |succ k1 =>
   have H:=HA.out;clear HA;simp only [impl_Seg_terms.l0]at H
   by_cases c4:ac<(aa.length:Int)
   ·
    rw [if_pos c4]at H;have aY:=decide_eq_true (p:=ac<(aa.length:Int)) c4;clear c4
    by_cases c5:0≤ac
    ·
     rw [if_pos c5]at H;have bi:=decide_eq_true (p:=0≤ac) c5;clear c5
     by_cases c6:ac<(aa.length:Int)
     ·
      rw [if_pos c6]at H;have bj:=decide_eq_true (p:=ac<(aa.length:Int)) c6;clear c6;have H':=am_ H;clear H;have aM:0≤(ac:Int):=sq_dec;have aN:ac<(aa.length:Int):=sq_dec;obtain⟨bh,aW,aX,aZ,ah,hl428_0,hi428_0⟩:=at_L7 aQ.out ac aM aN;cases aZ;replace ah:=cb_ HB ah;have aV:=am_ hi428_0;have aU:=am_ hl428_0;clear hi428_0 hl428_0;replace aM:=eq_true aM;replace aN:=eq_true aN
      go_wp2
      go_roundg k1
      case measure=>have:=HK1.out;omega
      case rel=>exact⟨(wrap64 (au+((rd_L7 aa ac).length:Int))),(wrap64 (ac+1)),sr_,sr_,H',⟨by have:=HK1.out;omega⟩,bk_ ag,⟨sq_below1 HB.out ai.out⟩⟩
     ·
      rw [if_neg c6]at H;exact absurd H (by simp)
    ·
     rw [if_neg c5]at H;exact absurd H (by simp)
   ·
    rw [if_neg c4]at H;have aY:=decide_eq_false (p:=ac<(aa.length:Int)) c4;clear c4;obtain rfl:=Option.some.inj H
    go_wp2
    go_ret
    exact⟨lf_,sq_below1 HB.out ai.out⟩
def impl_RangeLeq.f(ah:Int)(aj:Int)(ao:Int)(ap:Int):Option (Bool):=(impl_RangeOk.f ah aj).bind fun aD=>(if aD=true then((impl_RangeOk.f ao ap).bind fun aG=>(if aG=true then(if(ah == 1&&(aj == 0))=true then(some true)else(if(!(ao == 1)||(!(ap == 0)))=true then(if ao≤ah then(some (decide (aj≤ap)))else(some false))else(some false)))else(some false)))else(some false))
theorem impl_RangeLeq.calls(ah:Int)(aj:Int)(ao:Int)(ap:Int)(r:Bool)(w:World)(hG1:GL1 w)(h:impl_RangeLeq.f ah aj ao ap=some r) :
  Calls Tryd.prog 61 #[.agg #[.int .i64 ah,.int .i64 aj],.agg #[.int .i64 ao,.int .i64 ap]] w fun e w'=>e=.returned (.bool r)∧Below w.heap.size w w':=by
 have hu58:=Tryd.underlying58;have HB:=am_ (Below.refl w.heap.size w);have HG1:=am_ hG1;clear hG1;have H:((impl_RangeOk.f ah aj).bind fun aD=>(if aD=true then((impl_RangeOk.f ao ap).bind fun aG=>(if aG=true then(if(ah == 1&&(aj == 0))=true then(some true)else(if(!(ao == 1)||(!(ap == 0)))=true then(if ao≤ah then(some (decide (aj≤ap)))else(some false))else(some false)))else(some false)))else(some false)))=some r:=h;clear h;obtain⟨aD,A3,H⟩:=be_ H;(try dsimp only at H)
 by_cases c4:aD=true
 ·
  subst c4;have H1:=ifp_ H
  clear H;have H:=H1;clear H1;obtain⟨aG,A5,H⟩:=be_ H;(try dsimp only at H)
  by_cases c6:aG=true
  ·
   subst c6;have H1:=ifp_ H
   clear H;have H:=H1;clear H1
   by_cases c7:(ah == 1&&(aj == 0))=true
   ·
    rw [if_pos c7]at H;have cl:(ah == 1&&(aj == 0))=true:=c7
    (try(have cn:decide (ah=1&&(aj == 0))=true:=by simpa using c7))
    (try(have cp:(ah == 1&&(aj == 0))=true:=by simpa using c7))
    clear c7;obtain rfl:=Option.some.inj H
    go_enter Tryd.func61,Tryd.ntmps61
    go_wp2_with (first|((with_reducible refine gate_dst (N:=2) rfl ?_);refine box_y 2 #[.int .i64 ah,.int .i64 aj] 58 (h:=?_);intro aw hg w8 hbox hb;have aa:=am_ hbox;have au:=gz_ hg HB;have ac:=gz_ hg HB;replace HB:=hb_ HB hb;clear hb hbox hg)|((with_reducible refine gate_dst (N:=3) rfl ?_);refine box_y 3 #[.int .i64 ao,.int .i64 ap] 58 (h:=?_);intro ar hg w9 hbox hb;have af:=am_ hbox;have aq:=gz1_ hg HB ac;have ag:=gz1_ hg HB ac;replace HB:=hb1_ HB hb ac;have ae:=nb_ hg aa;replace aa:=bb_ aa hb;have ai:=ns_ ae;clear hb hbox hg;have cq:=ae.out;have cA:=ai.out;obtain⟨aJ,aK,bF,bG⟩:=cz2_ aa)|((with_reducible refine gate_callee (f:=71) rfl ?_);refine gl_ 6 Tryd.func71 #[.agg #[.int .i64 ah,.int .i64 aj]] (h:=?_);(with_reducible refine(impl_RangeOk.calls ah aj true _ ?ak A3.out).mono ?_);(case ak=>exact GL1.below HG1.out (sq_below2 HB.out ac.out ag.out));rintro e cM ⟨rfl,hb⟩;refine⟨_,rfl,?_⟩;replace aa:=bb_ aa hb;replace af:=bb_ af hb;replace HB:=hb2_ HB hb ac ag;(try clear hb);obtain⟨aM,aN,bH,bI⟩:=cz2_ af)|(go_at_call 71;(with_reducible refine(impl_RangeOk.calls ao ap true _ ?ak A5.out).mono ?_);(case ak=>exact GL1.below HG1.out (sq_below1 HB.out ac.out));rintro e cG ⟨rfl,hb⟩;replace aa:=bb_ aa hb;replace HB:=hb1_ HB hb ac;(try clear hb);obtain⟨aQ,aT,bJ,bK⟩:=cz2_ aa;have hgl16_0:cG.cell? ⟨1,0,none⟩=some (.int .i64 1):=GL1.c0 (GL1.below HG1.out HB.out);have hgl16_1:cG.cell? ⟨1,1,none⟩=some (.int .i64 0):=GL1.c1 (GL1.below HG1.out HB.out)))
    go_ret
    exact⟨lf_,sq_below HB.out⟩
   ·
    rw [if_neg c7]at H;have cl:(ah == 1&&(aj == 0))=false:=by simpa using c7
    (try(have cn:decide (ah=1&&(aj == 0))=false:=by simpa using c7))
    (try(have cp:(ah == 1&&(aj == 0))=false:=by simpa using c7))
    (try(have cK:¬(ah=1&&(aj == 0)):=by simpa using c7))
    clear c7
    by_cases c17:(!(ao == 1)||(!(ap == 0)))=true
    ·
     rw [if_pos c17]at H;have aH:(!(ao == 1)||(!(ap == 0)))=true:=c17;clear c17
     by_cases c18:ao≤ah
     ·
      rw [if_pos c18]at H;have aI:=decide_eq_true (p:=ao≤ah) c18;clear c18;obtain rfl:=Option.some.inj H
      go_enter Tryd.func61,Tryd.ntmps61
      go_wp2_with (first|((with_reducible refine gate_dst (N:=2) rfl ?_);refine box_y 2 #[.int .i64 ah,.int .i64 aj] 58 (h:=?_);intro aw hg cN hbox hb;have aa:=am_ hbox;have au:=gz_ hg HB;have ac:=gz_ hg HB;replace HB:=hb_ HB hb;clear hb hbox hg)|((with_reducible refine gate_dst (N:=3) rfl ?_);refine box_y 3 #[.int .i64 ao,.int .i64 ap] 58 (h:=?_);intro ar hg cO hbox hb;have af:=am_ hbox;have aq:=gz1_ hg HB ac;have ag:=gz1_ hg HB ac;replace HB:=hb1_ HB hb ac;have ae:=nb_ hg aa;replace aa:=bb_ aa hb;have ai:=ns_ ae;clear hb hbox hg;have cr:=ae.out;have cB:=ai.out;obtain⟨aU,aV,bL,bM⟩:=cz2_ aa)|((with_reducible refine gate_callee (f:=71) rfl ?_);refine gl_ 6 Tryd.func71 #[.agg #[.int .i64 ah,.int .i64 aj]] (h:=?_);(with_reducible refine(impl_RangeOk.calls ah aj true _ ?ak A3.out).mono ?_);(case ak=>exact GL1.below HG1.out (sq_below2 HB.out ac.out ag.out));rintro e cP ⟨rfl,hb⟩;refine⟨_,rfl,?_⟩;replace aa:=bb_ aa hb;replace af:=bb_ af hb;replace HB:=hb2_ HB hb ac ag;(try clear hb);obtain⟨aW,aX,bN,bO⟩:=cz2_ af)|(go_at_call 71;(with_reducible refine(impl_RangeOk.calls ao ap true _ ?ak A5.out).mono ?_);(case ak=>exact GL1.below HG1.out (sq_below2 HB.out ac.out ag.out));rintro e cH ⟨rfl,hb⟩;replace aa:=bb_ aa hb;replace af:=bb_ af hb;replace HB:=hb2_ HB hb ac ag;(try clear hb);obtain⟨aY,aZ,bP,bQ⟩:=cz2_ aa;have hgl27_0:cH.cell? ⟨1,0,none⟩=some (.int .i64 1):=GL1.c0 (GL1.below HG1.out HB.out);have hgl27_1:cH.cell? ⟨1,1,none⟩=some (.int .i64 0):=GL1.c1 (GL1.below HG1.out HB.out);have ax:aw≠1:=(by first|exact Nat.ne_of_gt (Nat.lt_of_lt_of_le (World.block_lt_of_cell? _ _ (GL1.c0 HG1.out)) ac.out)|exact Nat.ne_of_gt (Nat.lt_of_lt_of_le (World.block_lt_of_cell? _ _ (GL1.c0 HG1.out)) au.out));have hnhgl27_429:=Ne.symm ax;have ay:ar≠1:=(by first|exact Nat.ne_of_gt (Nat.lt_of_lt_of_le (World.block_lt_of_cell? _ _ (GL1.c0 HG1.out)) ag.out)|exact Nat.ne_of_gt (Nat.lt_of_lt_of_le (World.block_lt_of_cell? _ _ (GL1.c0 HG1.out)) aq.out));have hnhgl27_430:=Ne.symm ay;obtain⟨a8,a9,bR,bS⟩:=cz2_ af))
      go_ret
      exact⟨lf_,sq_below1 HB.out ag.out⟩
     ·
      rw [if_neg c18]at H;have aI:=decide_eq_false (p:=ao≤ah) c18;clear c18;obtain rfl:=Option.some.inj H
      go_enter Tryd.func61,Tryd.ntmps61
      go_wp2_with (first|((with_reducible refine gate_dst (N:=2) rfl ?_);refine box_y 2 #[.int .i64 ah,.int .i64 aj] 58 (h:=?_);intro aw hg cQ hbox hb;have aa:=am_ hbox;have au:=gz_ hg HB;have ac:=gz_ hg HB;replace HB:=hb_ HB hb;clear hb hbox hg)|((with_reducible refine gate_dst (N:=3) rfl ?_);refine box_y 3 #[.int .i64 ao,.int .i64 ap] 58 (h:=?_);intro ar hg cR hbox hb;have af:=am_ hbox;have aq:=gz1_ hg HB ac;have ag:=gz1_ hg HB ac;replace HB:=hb1_ HB hb ac;have ae:=nb_ hg aa;replace aa:=bb_ aa hb;have ai:=ns_ ae;clear hb hbox hg;have cx:=ae.out;have cC:=ai.out;obtain⟨ba,bc,bT,bU⟩:=cz2_ aa)|((with_reducible refine gate_callee (f:=71) rfl ?_);refine gl_ 6 Tryd.func71 #[.agg #[.int .i64 ah,.int .i64 aj]] (h:=?_);(with_reducible refine(impl_RangeOk.calls ah aj true _ ?ak A3.out).mono ?_);(case ak=>exact GL1.below HG1.out (sq_below2 HB.out ac.out ag.out));rintro e cS ⟨rfl,hb⟩;refine⟨_,rfl,?_⟩;replace aa:=bb_ aa hb;replace af:=bb_ af hb;replace HB:=hb2_ HB hb ac ag;(try clear hb);obtain⟨bf,bg,bV,bW⟩:=cz2_ af)|(go_at_call 71;(with_reducible refine(impl_RangeOk.calls ao ap true _ ?ak A5.out).mono ?_);(case ak=>exact GL1.below HG1.out (sq_below2 HB.out ac.out ag.out));rintro e cI ⟨rfl,hb⟩;replace aa:=bb_ aa hb;replace af:=bb_ af hb;replace HB:=hb2_ HB hb ac ag;(try clear hb);obtain⟨bh,bi,bX,bY⟩:=cz2_ aa;have hgl37_0:cI.cell? ⟨1,0,none⟩=some (.int .i64 1):=GL1.c0 (GL1.below HG1.out HB.out);have hgl37_1:cI.cell? ⟨1,1,none⟩=some (.int .i64 0):=GL1.c1 (GL1.below HG1.out HB.out);have az:aw≠1:=(by first|exact Nat.ne_of_gt (Nat.lt_of_lt_of_le (World.block_lt_of_cell? _ _ (GL1.c0 HG1.out)) ac.out)|exact Nat.ne_of_gt (Nat.lt_of_lt_of_le (World.block_lt_of_cell? _ _ (GL1.c0 HG1.out)) au.out));have hnhgl37_429:=Ne.symm az;have aA:ar≠1:=(by first|exact Nat.ne_of_gt (Nat.lt_of_lt_of_le (World.block_lt_of_cell? _ _ (GL1.c0 HG1.out)) ag.out)|exact Nat.ne_of_gt (Nat.lt_of_lt_of_le (World.block_lt_of_cell? _ _ (GL1.c0 HG1.out)) aq.out));have hnhgl37_430:=Ne.symm aA;obtain⟨bj,bk,bZ,b3⟩:=cz2_ af))
      go_ret
      exact⟨lf_,sq_below1 HB.out ac.out⟩
    ·
     rw [if_neg c17]at H;have aH:(!(ao == 1)||(!(ap == 0)))=false:=by simpa using c17
     clear c17;obtain rfl:=Option.some.inj H
     go_enter Tryd.func61,Tryd.ntmps61
     go_wp2_with (first|((with_reducible refine gate_dst (N:=2) rfl ?_);refine box_y 2 #[.int .i64 ah,.int .i64 aj] 58 (h:=?_);intro aw hg cT hbox hb;have aa:=am_ hbox;have au:=gz_ hg HB;have ac:=gz_ hg HB;replace HB:=hb_ HB hb;clear hb hbox hg)|((with_reducible refine gate_dst (N:=3) rfl ?_);refine box_y 3 #[.int .i64 ao,.int .i64 ap] 58 (h:=?_);intro ar hg cU hbox hb;have af:=am_ hbox;have aq:=gz1_ hg HB ac;have ag:=gz1_ hg HB ac;replace HB:=hb1_ HB hb ac;have ae:=nb_ hg aa;replace aa:=bb_ aa hb;have ai:=ns_ ae;clear hb hbox hg;have cy:=ae.out;have cD:=ai.out;obtain⟨bn,bo,b4,b5⟩:=cz2_ aa)|((with_reducible refine gate_callee (f:=71) rfl ?_);refine gl_ 6 Tryd.func71 #[.agg #[.int .i64 ah,.int .i64 aj]] (h:=?_);(with_reducible refine(impl_RangeOk.calls ah aj true _ ?ak A3.out).mono ?_);(case ak=>exact GL1.below HG1.out (sq_below2 HB.out ac.out ag.out));rintro e cV ⟨rfl,hb⟩;refine⟨_,rfl,?_⟩;replace aa:=bb_ aa hb;replace af:=bb_ af hb;replace HB:=hb2_ HB hb ac ag;(try clear hb);obtain⟨bp,bq,b6,b7⟩:=cz2_ af)|(go_at_call 71;(with_reducible refine(impl_RangeOk.calls ao ap true _ ?ak A5.out).mono ?_);(case ak=>exact GL1.below HG1.out (sq_below2 HB.out ac.out ag.out));rintro e cJ ⟨rfl,hb⟩;replace aa:=bb_ aa hb;replace af:=bb_ af hb;replace HB:=hb2_ HB hb ac ag;(try clear hb);obtain⟨br,bu,b8,b9⟩:=cz2_ aa;have hgl47_0:cJ.cell? ⟨1,0,none⟩=some (.int .i64 1):=GL1.c0 (GL1.below HG1.out HB.out);have hgl47_1:cJ.cell? ⟨1,1,none⟩=some (.int .i64 0):=GL1.c1 (GL1.below HG1.out HB.out);have aC:ar≠1:=(by first|exact Nat.ne_of_gt (Nat.lt_of_lt_of_le (World.block_lt_of_cell? _ _ (GL1.c0 HG1.out)) ag.out)|exact Nat.ne_of_gt (Nat.lt_of_lt_of_le (World.block_lt_of_cell? _ _ (GL1.c0 HG1.out)) aq.out));have hnhgl47_430:=Ne.symm aC;obtain⟨bw,bx,ca,cb⟩:=cz2_ af))
     go_ret
     exact⟨lf_,sq_below HB.out⟩
  ·
   replace c6:=Bool.eq_false_iff.mpr c6;subst c6;have H1:=ifn_ H
   clear H;have H:=H1;clear H1;obtain rfl:=Option.some.inj H
   go_enter Tryd.func61,Tryd.ntmps61
   go_wp2_with (first|((with_reducible refine gate_dst (N:=2) rfl ?_);refine box_y 2 #[.int .i64 ah,.int .i64 aj] 58 (h:=?_);intro aw hg cW hbox hb;have aa:=am_ hbox;have au:=gz_ hg HB;have ac:=gz_ hg HB;replace HB:=hb_ HB hb;clear hb hbox hg)|((with_reducible refine gate_dst (N:=3) rfl ?_);refine box_y 3 #[.int .i64 ao,.int .i64 ap] 58 (h:=?_);intro ar hg cX hbox hb;have af:=am_ hbox;have aq:=gz1_ hg HB ac;have ag:=gz1_ hg HB ac;replace HB:=hb1_ HB hb ac;have ae:=nb_ hg aa;replace aa:=bb_ aa hb;have ai:=ns_ ae;clear hb hbox hg;have cz:=ae.out;have cF:=ai.out;obtain⟨bz,bA,cd,cf⟩:=cz2_ aa)|((with_reducible refine gate_callee (f:=71) rfl ?_);refine gl_ 6 Tryd.func71 #[.agg #[.int .i64 ah,.int .i64 aj]] (h:=?_);(with_reducible refine(impl_RangeOk.calls ah aj true _ ?ak A3.out).mono ?_);(case ak=>exact GL1.below HG1.out (sq_below1 HB.out ag.out));rintro e cY ⟨rfl,hb⟩;refine⟨_,rfl,?_⟩;replace af:=bb_ af hb;replace HB:=hb1_ HB hb ag;(try clear hb);obtain⟨bB,bC,cg,ch⟩:=cz2_ af)|(go_at_call 71;(with_reducible refine(impl_RangeOk.calls ao ap false _ ?ak A5.out).mono ?_);(case ak=>exact GL1.below HG1.out (sq_below HB.out));rintro e cZ ⟨rfl,hb⟩;replace HB:=hb_ HB hb;(try clear hb)))
   go_ret
   exact⟨lf_,sq_below HB.out⟩
 ·
  replace c4:=Bool.eq_false_iff.mpr c4;subst c4;have H1:=ifn_ H
  clear H;have H:=H1;clear H1;obtain rfl:=Option.some.inj H
  go_enter Tryd.func61,Tryd.ntmps61
  go_wp2_with (first|((with_reducible refine gate_dst (N:=2) rfl ?_);refine box_y 2 #[.int .i64 ah,.int .i64 aj] 58 (h:=?_);intro aw hg da hbox hb;have aa:=am_ hbox;have au:=gz_ hg HB;have ac:=gz_ hg HB;replace HB:=hb_ HB hb;clear hb hbox hg)|((with_reducible refine gate_dst (N:=3) rfl ?_);refine box_y 3 #[.int .i64 ao,.int .i64 ap] 58 (h:=?_);intro ar hg db hbox hb;have af:=am_ hbox;have aq:=gz1_ hg HB ac;have ag:=gz1_ hg HB ac;replace HB:=hb1_ HB hb ac;have ae:=nb_ hg aa;replace aa:=bb_ aa hb;have ai:=ns_ ae;clear hb hbox hg;obtain⟨bD,bE,cj,ck⟩:=cz2_ aa)|((with_reducible refine gate_callee (f:=71) rfl ?_);refine gl_ 6 Tryd.func71 #[.agg #[.int .i64 ah,.int .i64 aj]] (h:=?_);(with_reducible refine(impl_RangeOk.calls ah aj false _ ?ak A3.out).mono ?_);(case ak=>exact GL1.below HG1.out (sq_below HB.out));rintro e dc ⟨rfl,hb⟩;refine⟨_,rfl,?_⟩;replace HB:=hb_ HB hb;(try clear hb)))
  go_ret
  exact⟨lf_,sq_below HB.out⟩
def impl_ValLeq.f(ag:Int)(ah:Int)(ar:Bool)(ai:Int)(aj:Int)(ap:Bool):Option (Bool):=(impl_RangeLeq.f ag ah ai aj).bind fun au=>(if au=true then(if ar=true then(some true)else(some (!ap)))else(some false))
theorem impl_ValLeq.calls(ag:Int)(ah:Int)(ar:Bool)(ai:Int)(aj:Int)(ap:Bool)(r:Bool)(w:World)(hG1:GL1 w)(h:impl_ValLeq.f ag ah ar ai aj ap=some r) :
  Calls Tryd.prog 37 #[.agg #[.int .i64 ag,.int .i64 ah,.bool ar],.agg #[.int .i64 ai,.int .i64 aj,.bool ap]] w fun e w'=>e=.returned (.bool r)∧Below w.heap.size w w':=by
 have hu60:=Tryd.underlying60;have hu58:=Tryd.underlying58;have HB:=am_ (Below.refl w.heap.size w);have HG1:=am_ hG1;clear hG1;have H:((impl_RangeLeq.f ag ah ai aj).bind fun au=>(if au=true then(if ar=true then(some true)else(some (!ap)))else(some false)))=some r:=h;clear h;obtain⟨au,A3,H⟩:=be_ H;(try dsimp only at H)
 by_cases c4:au=true
 ·
  subst c4;have H1:=ifp_ H
  clear H;have H:=H1;clear H1
  by_cases c5:ar=true
  ·
   subst c5;have H1:=ifp_ H
   clear H;have H:=H1;clear H1;obtain rfl:=Option.some.inj H
   go_enter Tryd.func37,Tryd.ntmps37
   go_wp2_with (first|((with_reducible refine gate_dst (N:=2) rfl ?_);refine box_y 2 #[.int .i64 ag,.int .i64 ah,.bool true] 60 (h:=?_);intro ay hg w6 hbox hb;have aa:=am_ hbox;have aw:=gz_ hg HB;have ae:=gz_ hg HB;replace HB:=hb_ HB hb;clear hb hbox hg)|((with_reducible refine gate_dst (N:=3) rfl ?_);refine box_y 3 #[.int .i64 ai,.int .i64 aj,.bool ap] 60 (h:=?_);intro az hg w7 hbox hb;have ak:=am_ hbox;have ax:=gz1_ hg HB ae;have ao:=gz1_ hg HB ae;replace HB:=hb1_ HB hb ae;have ac:=nb_ hg aa;replace aa:=bb_ aa hb;have af:=ns_ ac;clear hb hbox hg;have bV:=ac.out;have bW:=af.out;obtain⟨bL,bM,bN,bO,bP,bQ⟩:=cz3_ aa;obtain⟨aA,aC,aD,bh,bi,bj⟩:=cz3_ ak)|((with_reducible refine gate_callee (f:=61) rfl ?_);refine gl_ 9 Tryd.func61 #[.agg #[.int .i64 ag,.int .i64 ah],.agg #[.int .i64 ai,.int .i64 aj]] (h:=?_);(with_reducible refine(impl_RangeLeq.calls ag ah ai aj true _ ?aq A3.out).mono ?_);(case aq=>exact GL1.below HG1.out (sq_below1 HB.out ae.out));rintro e bX ⟨rfl,hb⟩;refine⟨_,rfl,?_⟩;replace aa:=bb_ aa hb;replace HB:=hb1_ HB hb ae;(try clear hb);obtain⟨aG,aH,aI,bk,bn,bo⟩:=cz3_ aa))
   go_ret
   exact⟨lf_,sq_below1 HB.out ae.out⟩
  ·
   replace c5:=Bool.eq_false_iff.mpr c5;subst c5;have H1:=ifn_ H
   clear H;have H:=H1;clear H1;obtain rfl:=Option.some.inj H
   go_enter Tryd.func37,Tryd.ntmps37
   go_wp2_with (first|((with_reducible refine gate_dst (N:=2) rfl ?_);refine box_y 2 #[.int .i64 ag,.int .i64 ah,.bool false] 60 (h:=?_);intro ay hg bY hbox hb;have aa:=am_ hbox;have aw:=gz_ hg HB;have ae:=gz_ hg HB;replace HB:=hb_ HB hb;clear hb hbox hg)|((with_reducible refine gate_dst (N:=3) rfl ?_);refine box_y 3 #[.int .i64 ai,.int .i64 aj,.bool ap] 60 (h:=?_);intro az hg bZ hbox hb;have ak:=am_ hbox;have ax:=gz1_ hg HB ae;have ao:=gz1_ hg HB ae;replace HB:=hb1_ HB hb ae;have ac:=nb_ hg aa;replace aa:=bb_ aa hb;have af:=ns_ ac;clear hb hbox hg;have bR:=ac.out;have bT:=af.out;obtain⟨aJ,aK,aM,bp,bq,br⟩:=cz3_ aa;obtain⟨aN,aQ,aT,bu,bw,bx⟩:=cz3_ ak)|((with_reducible refine gate_callee (f:=61) rfl ?_);refine gl_ 9 Tryd.func61 #[.agg #[.int .i64 ag,.int .i64 ah],.agg #[.int .i64 ai,.int .i64 aj]] (h:=?_);(with_reducible refine(impl_RangeLeq.calls ag ah ai aj true _ ?aq A3.out).mono ?_);(case aq=>exact GL1.below HG1.out (sq_below2 HB.out ae.out ao.out));rintro e b3 ⟨rfl,hb⟩;refine⟨_,rfl,?_⟩;replace aa:=bb_ aa hb;replace ak:=bb_ ak hb;replace HB:=hb2_ HB hb ae ao;(try clear hb);obtain⟨aU,aV,aW,bz,bA,bB⟩:=cz3_ aa;obtain⟨aX,aY,aZ,bC,bD,bE⟩:=cz3_ ak))
   go_ret
   exact⟨lf_,sq_below1 HB.out ao.out⟩
 ·
  replace c4:=Bool.eq_false_iff.mpr c4;subst c4;have H1:=ifn_ H
  clear H;have H:=H1;clear H1;obtain rfl:=Option.some.inj H
  go_enter Tryd.func37,Tryd.ntmps37
  go_wp2_with (first|((with_reducible refine gate_dst (N:=2) rfl ?_);refine box_y 2 #[.int .i64 ag,.int .i64 ah,.bool ar] 60 (h:=?_);intro ay hg b4 hbox hb;have aa:=am_ hbox;have aw:=gz_ hg HB;have ae:=gz_ hg HB;replace HB:=hb_ HB hb;clear hb hbox hg)|((with_reducible refine gate_dst (N:=3) rfl ?_);refine box_y 3 #[.int .i64 ai,.int .i64 aj,.bool ap] 60 (h:=?_);intro az hg b5 hbox hb;have ak:=am_ hbox;have ax:=gz1_ hg HB ae;have ao:=gz1_ hg HB ae;replace HB:=hb1_ HB hb ae;have ac:=nb_ hg aa;replace aa:=bb_ aa hb;have af:=ns_ ac;clear hb hbox hg;have bS:=ac.out;have bU:=af.out;obtain⟨a8,a9,ba,bF,bG,bH⟩:=cz3_ aa;obtain⟨bc,bf,bg,bI,bJ,bK⟩:=cz3_ ak)|((with_reducible refine gate_callee (f:=61) rfl ?_);refine gl_ 9 Tryd.func61 #[.agg #[.int .i64 ag,.int .i64 ah],.agg #[.int .i64 ai,.int .i64 aj]] (h:=?_);(with_reducible refine(impl_RangeLeq.calls ag ah ai aj false _ ?aq A3.out).mono ?_);(case aq=>exact GL1.below HG1.out (sq_below HB.out));rintro e b6 ⟨rfl,hb⟩;refine⟨_,rfl,?_⟩;replace HB:=hb_ HB hb;(try clear hb)))
  go_ret
  exact⟨lf_,sq_below HB.out⟩
def impl_Sym_59.f(l0:List (S53)):Option (List (S53)):=if l0.length≤1000000 then some l0 else none
set_option maxRecDepth 100000 in
theorem impl_Sym_59.none_(c0:Nat)(w:World):Calls Tryd.prog 59 #[.slice none 0 c0] w fun e w'=>e=.returned (.slice none 0 0)∧Below w.heap.size w w':=by
 have hnil:=fun(w:World)=>Lib.run_eql_slice_nil (P:=Tryd.prog) w 50 53 (none:Option Addr) 0 c0 0 0 Tryd.underlying50
 go_enter Tryd.func59,Tryd.ntmps59
 go_wp2
 go_ret
 exact⟨rfl,Below.refl _ _⟩
set_option maxRecDepth 100000 in
theorem impl_Sym_59.some_(ad:Addr)(c0:Nat)(l0:List (S53))(w:World)(hr0:Kd.C k53 w (some ad) l0.length l0)(hs:l0.length≤1000000) :
  Calls Tryd.prog 59 #[.slice (some ad) l0.length c0] w fun e w'=>∃ v0_:Value,e=.returned v0_∧Kd.R k53 53 w' w.heap.size (fun _=>True) v0_ l0∧Below w.heap.size w w':=by
 have hnil:=fun(w:World)=>Lib.run_eql_slice_nil (P:=Tryd.prog) w 50 53 (some ad:Option Addr) l0.length c0 0 0 Tryd.underlying50;have hinfo:(Tryd.prog.info? 53).map (fun i=>(i.zero,i.size,i.bytes))=some (some (.agg #[.int .i64 0,.int .i64 0]),(k53).sz,16):=by kernel_rfl
 have HR:=am_ hr0;have HI:=am_ hinfo;clear hr0 hinfo
 go_enter Tryd.func59,Tryd.ntmps59
 go_wp2_with (first
  |((with_reducible refine gate_dst (N:=5) rfl ?_);refine Kd.R_lit k53 _ 53 ?hg (N:=5) ?hd (xs:=[]) (inner:=[]) (ok:=fun _=>True) (okp:=fun _=>True) ?hr ?hp (fun _ hk=>hk) trivial (Below.refl _ _) (Nat.le_refl _) (by simp) ?_;(case hd=>rfl);(case hg=>rfl);(case hr=>first|(go_simp;done)|(go_simp;rfl));(case hp=>exact(Reps.none _ _));intro v5 w5 ho5 hb5 hg5 hn5)
  |((with_reducible refine gate_builtin (b:=.append) (xs:=#[.tmp 5,.tmp 6]) rfl ?_);at_builtin;refine Kd.R_append_rows k53 (w0:=w) w.heap.size rfl (.tmp 5) (.tmp 6) 50 53 (.agg #[.int .i64 0,.int .i64 0]) 16 rfl Tryd.underlying50 HI.out rfl (by decide) (by omega) v5 [] l0 _ _ _ (fun _=>True) (fun _=>False) rfl rfl ?aO ?aR (fun _ _ h=>h) (fun _ h=>h.elim) ?aF ?aB ?aS ?aL ?_;(case aR=>exact Kd.C_below HR.out hb5);(case aB=>exact hb5);(case aF=>exact(fun _ _=>trivial));(case aO=>exact ho5);(case aS=>exact hb5.size);(case aL=>simp only [List.length_nil];omega);intro v7 w7 ho7 hb7 hg7 hat7))
 go_ret
 exact⟨v7,rfl,ho7,hb7⟩
theorem impl_Sym_59.calls(A0:Option Addr)(c0:Nat)(l0:List (S53))(r:List (S53))(w:World)(hr0:Kd.C k53 w A0 l0.length l0)(hc0:l0.length≤c0)(h:impl_Sym_59.f l0=some r) :
  Calls Tryd.prog 59 #[.slice A0 l0.length c0] w fun e w'=>∃ v0_:Value,e=.returned (v0_)∧Kd.R k53 53 w' w.heap.size (fun _=>True) v0_ r∧Below w.heap.size w w':=by
 unfold impl_Sym_59.f at h
 split at h
 ·
  rename_i hs
  obtain rfl:=Option.some.inj h;cases A0 with
  |some ad=>exact impl_Sym_59.some_ ad c0 l0 w hr0 hs
  |none =>
   rcases Nat.eq_zero_or_pos l0.length with h0|h0
   ·
    obtain rfl:=List.eq_nil_of_length_eq_zero h0;refine(impl_Sym_59.none_ c0 w).mono ?_;rintro e w' ⟨rfl,hb⟩;exact⟨_,rfl,Kd.R_nil _ _ _ _ _,hb⟩
   ·
    obtain⟨ad,h,_⟩:=hr0.2.2 h0;cases h
 ·
  cases h
def impl_orOther.f(ap:Int)(aq:Int)(ar:Int)(au:Int):Option (Int×Int×Bool):=if(ap == 1&&(aq == 0))=true then(some (ar,au,true))else(if(ar == 1&&(au == 0))=true then(some (ap,aq,true))else(some (1,0,false)))
theorem impl_orOther.calls(ap:Int)(aq:Int)(ar:Int)(au:Int)(r1:Int)(r2:Int)(r3:Bool)(w:World)(hG1:GL1 w)(h:impl_orOther.f ap aq ar au=some (r1,r2,r3)) :
  Calls Tryd.prog 83 #[.agg #[.int .i64 ap,.int .i64 aq],.agg #[.int .i64 ar,.int .i64 au]] w fun e w'=>e=.returned (.tuple #[.agg #[.int .i64 r1,.int .i64 r2],.bool r3])∧Below w.heap.size w w':=by
 have hu58:=Tryd.underlying58;have HB:=am_ (Below.refl w.heap.size w);have HG1:=am_ hG1;clear hG1;have H:(if(ap == 1&&(aq == 0))=true then(some (ar,au,true))else(if(ar == 1&&(au == 0))=true then(some (ap,aq,true))else(some (1,0,false))))=some (r1,r2,r3):=h;clear h
 by_cases c3:(ap == 1&&(aq == 0))=true
 ·
  rw [if_pos c3]at H;have bJ:(ap == 1&&(aq == 0))=true:=c3
  (try(have bK:decide (ap=1&&(aq == 0))=true:=by simpa using c3))
  (try(have bL:(ap == 1&&(aq == 0))=true:=by simpa using c3))
  clear c3;simp only [Option.some.injEq,Prod.mk.injEq]at H;obtain⟨rfl,rfl,rfl⟩:=H
  go_enter Tryd.func83,Tryd.ntmps83
  go_wp2_with (first|((with_reducible refine gate_dst (N:=2) rfl ?_);refine box_y 2 #[.int .i64 ap,.int .i64 aq] 58 (h:=?_);intro aQ hg w4 hbox hb;have aa:=am_ hbox;have aN:=gz_ hg HB;have ac:=gz_ hg HB;replace HB:=hb_ HB hb;clear hb hbox hg)|((with_reducible refine gate_dst (N:=3) rfl ?_);refine box_y 3 #[.int .i64 ar,.int .i64 au] 58 (h:=?_);intro aC hg w5 hbox hb;have ah:=am_ hbox;have az:=gz1_ hg HB ac;have ai:=gz1_ hg HB ac;replace HB:=hb1_ HB hb ac;have ae:=nb_ hg aa;replace aa:=bb_ aa hb;have aj:=ns_ ae;clear hb hbox hg)|((with_reducible refine gate_dst (N:=4) rfl ?_);refine box_y 4 #[.int .i64 0,.int .i64 0] 58 (h:=?_);intro ay hg w6 hbox hb;have aw:=am_ hbox;have aA:=gz2_ hg HB ac ai;have ax:=gz2_ hg HB ac ai;replace HB:=hb2_ HB hb ac ai;have af:=nb_ hg aa;replace aa:=bb_ aa hb;have ak:=ns_ af;have ag:=nb_ hg ah;replace ah:=bb_ ah hb;have ao:=ns_ ag;clear hb hbox hg;have cb:=ae.out;have cf:=aj.out;have cd:=af.out;have cg:=ak.out;obtain⟨bM,bN,bO,bP⟩:=cz2_ aa;have hgl10_0:w6.cell? ⟨1,0,none⟩=some (.int .i64 1):=GL1.c0 (GL1.below HG1.out HB.out);have hgl10_1:w6.cell? ⟨1,1,none⟩=some (.int .i64 0):=GL1.c1 (GL1.below HG1.out HB.out);have aD:aC≠1:=(by first|exact Nat.ne_of_gt (Nat.lt_of_lt_of_le (World.block_lt_of_cell? _ _ (GL1.c0 HG1.out)) ai.out)|exact Nat.ne_of_gt (Nat.lt_of_lt_of_le (World.block_lt_of_cell? _ _ (GL1.c0 HG1.out)) az.out));have hnhgl10_437:=Ne.symm aD;have aG:ay≠1:=(by first|exact Nat.ne_of_gt (Nat.lt_of_lt_of_le (World.block_lt_of_cell? _ _ (GL1.c0 HG1.out)) ax.out)|exact Nat.ne_of_gt (Nat.lt_of_lt_of_le (World.block_lt_of_cell? _ _ (GL1.c0 HG1.out)) aA.out));have hnhgl10_438:=Ne.symm aG;have bR:=ag.out;have bY:=ao.out;obtain⟨aW,aX,bp,bq⟩:=cz2_ ah;obtain⟨aY,aZ,br,bu⟩:=cz2_ aw))
  refine bodyPost_ret (results_ct rfl _ _ ay 58 #[.int .i64 ar,.int .i64 au] (0,0) _ rfl (bp_ aw) Tryd.underlying58 rfl (by kernel_rfl)) rfl ?_;exact⟨lf_,sq_below1 HB.out ax.out⟩
 ·
  rw [if_neg c3]at H;have bJ:(ap == 1&&(aq == 0))=false:=by simpa using c3
  (try(have bK:decide (ap=1&&(aq == 0))=false:=by simpa using c3))
  (try(have bL:(ap == 1&&(aq == 0))=false:=by simpa using c3))
  (try(have ca:¬(ap=1&&(aq == 0)):=by simpa using c3))
  clear c3
  by_cases c14:(ar == 1&&(au == 0))=true
  ·
   rw [if_pos c14]at H;have aT:(ar == 1&&(au == 0))=true:=c14
   (try(have aU:decide (ar=1&&(au == 0))=true:=by simpa using c14))
   (try(have aV:(ar == 1&&(au == 0))=true:=by simpa using c14))
   clear c14;simp only [Option.some.injEq,Prod.mk.injEq]at H;obtain⟨rfl,rfl,rfl⟩:=H
   go_enter Tryd.func83,Tryd.ntmps83
   go_wp2_with (first|((with_reducible refine gate_dst (N:=2) rfl ?_);refine box_y 2 #[.int .i64 ap,.int .i64 aq] 58 (h:=?_);intro aQ hg ch hbox hb;have aa:=am_ hbox;have aN:=gz_ hg HB;have ac:=gz_ hg HB;replace HB:=hb_ HB hb;clear hb hbox hg)|((with_reducible refine gate_dst (N:=3) rfl ?_);refine box_y 3 #[.int .i64 ar,.int .i64 au] 58 (h:=?_);intro aC hg cj hbox hb;have ah:=am_ hbox;have az:=gz1_ hg HB ac;have ai:=gz1_ hg HB ac;replace HB:=hb1_ HB hb ac;have ae:=nb_ hg aa;replace aa:=bb_ aa hb;have aj:=ns_ ae;clear hb hbox hg)|((with_reducible refine gate_dst (N:=4) rfl ?_);refine box_y 4 #[.int .i64 0,.int .i64 0] 58 (h:=?_);intro ay hg b8 hbox hb;have aw:=am_ hbox;have aA:=gz2_ hg HB ac ai;have ax:=gz2_ hg HB ac ai;replace HB:=hb2_ HB hb ac ai;have af:=nb_ hg aa;replace aa:=bb_ aa hb;have ak:=ns_ af;have ag:=nb_ hg ah;replace ah:=bb_ ah hb;have ao:=ns_ ag;clear hb hbox hg;have bS:=ae.out;have bZ:=aj.out;have bT:=af.out;have b3:=ak.out;obtain⟨a8,a9,bw,bx⟩:=cz2_ aa;have hgl21_0:b8.cell? ⟨1,0,none⟩=some (.int .i64 1):=GL1.c0 (GL1.below HG1.out HB.out);have hgl21_1:b8.cell? ⟨1,1,none⟩=some (.int .i64 0):=GL1.c1 (GL1.below HG1.out HB.out);have aH:aQ≠1:=(by first|exact Nat.ne_of_gt (Nat.lt_of_lt_of_le (World.block_lt_of_cell? _ _ (GL1.c0 HG1.out)) ac.out)|exact Nat.ne_of_gt (Nat.lt_of_lt_of_le (World.block_lt_of_cell? _ _ (GL1.c0 HG1.out)) aN.out));have hnhgl21_436:=Ne.symm aH;have aI:aC≠1:=(by first|exact Nat.ne_of_gt (Nat.lt_of_lt_of_le (World.block_lt_of_cell? _ _ (GL1.c0 HG1.out)) ai.out)|exact Nat.ne_of_gt (Nat.lt_of_lt_of_le (World.block_lt_of_cell? _ _ (GL1.c0 HG1.out)) az.out));have hnhgl21_437:=Ne.symm aI;have aJ:ay≠1:=(by first|exact Nat.ne_of_gt (Nat.lt_of_lt_of_le (World.block_lt_of_cell? _ _ (GL1.c0 HG1.out)) ax.out)|exact Nat.ne_of_gt (Nat.lt_of_lt_of_le (World.block_lt_of_cell? _ _ (GL1.c0 HG1.out)) aA.out));have hnhgl21_438:=Ne.symm aJ;have bU:=ag.out;have b4:=ao.out;obtain⟨ba,bc,bz,bA⟩:=cz2_ ah;obtain⟨bf,bg,bB,bC⟩:=cz2_ aw))
   refine bodyPost_ret (results_ct rfl _ _ ay 58 #[.int .i64 ap,.int .i64 aq] (0,0) _ rfl (bp_ aw) Tryd.underlying58 rfl (by kernel_rfl)) rfl ?_;exact⟨lf_,sq_below1 HB.out ax.out⟩
  ·
   rw [if_neg c14]at H;have aT:(ar == 1&&(au == 0))=false:=by simpa using c14
   (try(have aU:decide (ar=1&&(au == 0))=false:=by simpa using c14))
   (try(have aV:(ar == 1&&(au == 0))=false:=by simpa using c14))
   (try(have bQ:¬(ar=1&&(au == 0)):=by simpa using c14))
   clear c14;simp only [Option.some.injEq,Prod.mk.injEq]at H;obtain⟨rfl,rfl,rfl⟩:=H
   go_enter Tryd.func83,Tryd.ntmps83
   go_wp2_with (first|((with_reducible refine gate_dst (N:=2) rfl ?_);refine box_y 2 #[.int .i64 ap,.int .i64 aq] 58 (h:=?_);intro aQ hg ck hbox hb;have aa:=am_ hbox;have aN:=gz_ hg HB;have ac:=gz_ hg HB;replace HB:=hb_ HB hb;clear hb hbox hg)|((with_reducible refine gate_dst (N:=3) rfl ?_);refine box_y 3 #[.int .i64 ar,.int .i64 au] 58 (h:=?_);intro aC hg cl hbox hb;have ah:=am_ hbox;have az:=gz1_ hg HB ac;have ai:=gz1_ hg HB ac;replace HB:=hb1_ HB hb ac;have ae:=nb_ hg aa;replace aa:=bb_ aa hb;have aj:=ns_ ae;clear hb hbox hg)|((with_reducible refine gate_dst (N:=4) rfl ?_);refine box_y 4 #[.int .i64 0,.int .i64 0] 58 (h:=?_);intro ay hg b9 hbox hb;have aw:=am_ hbox;have aA:=gz2_ hg HB ac ai;have ax:=gz2_ hg HB ac ai;replace HB:=hb2_ HB hb ac ai;have af:=nb_ hg aa;replace aa:=bb_ aa hb;have ak:=ns_ af;have ag:=nb_ hg ah;replace ah:=bb_ ah hb;have ao:=ns_ ag;clear hb hbox hg;have bV:=ae.out;have b5:=aj.out;have bW:=af.out;have b6:=ak.out;obtain⟨bh,bi,bD,bE⟩:=cz2_ aa;have hgl31_0:b9.cell? ⟨1,0,none⟩=some (.int .i64 1):=GL1.c0 (GL1.below HG1.out HB.out);have hgl31_1:b9.cell? ⟨1,1,none⟩=some (.int .i64 0):=GL1.c1 (GL1.below HG1.out HB.out);have aK:aC≠1:=(by first|exact Nat.ne_of_gt (Nat.lt_of_lt_of_le (World.block_lt_of_cell? _ _ (GL1.c0 HG1.out)) ai.out)|exact Nat.ne_of_gt (Nat.lt_of_lt_of_le (World.block_lt_of_cell? _ _ (GL1.c0 HG1.out)) az.out));have hnhgl31_437:=Ne.symm aK;have aM:ay≠1:=(by first|exact Nat.ne_of_gt (Nat.lt_of_lt_of_le (World.block_lt_of_cell? _ _ (GL1.c0 HG1.out)) ax.out)|exact Nat.ne_of_gt (Nat.lt_of_lt_of_le (World.block_lt_of_cell? _ _ (GL1.c0 HG1.out)) aA.out));have hnhgl31_438:=Ne.symm aM;have bX:=ag.out;have b7:=ao.out;obtain⟨bj,bk,bF,bG⟩:=cz2_ ah;obtain⟨bn,bo,bH,bI⟩:=cz2_ aw))
   refine bodyPost_ret (results_ct rfl _ _ ay 58 #[.int .i64 1,.int .i64 0] (0,0) _ rfl (bp_ aw) Tryd.underlying58 rfl (by kernel_rfl)) rfl ?_;exact⟨lf_,sq_below1 HB.out ax.out⟩
end Go.Proofs.YtcdeojfeebmonaaDoor.Q
