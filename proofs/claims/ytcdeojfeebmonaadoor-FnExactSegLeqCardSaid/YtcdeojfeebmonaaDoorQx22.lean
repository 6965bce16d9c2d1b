/- Functions of the translation as Lean functions, each with a proof that a call answers so; out of the seat, by this claim's own program prt.py. -/
import Derived.Test.YtcdeojfeebmonaaDoorWRepsOne
import Derived.Test.YtcdeojfeebmonaaDoorQx0
import Derived.Test.YtcdeojfeebmonaaDoorQx19
import Derived.Test.YtcdeojfeebmonaaDoorQx21
import Derived.Test.YtcdeojfeebmonaaDoorQStep3
namespace Go.Proofs.YtcdeojfeebmonaaDoor.Q
open Go.RowKit Go.Proofs.YtcdeojfeebmonaaDoorW.PrintWords Go.Proofs.YtcdeojfeebmonaaDoorW.PrintLast Go.Proofs.YtcdeojfeebmonaaDoorW.PrintMore
attribute [local go_sem] max2_int min2_int max_two min_two max_three min_three max_four min_four
set_option linter.unusedVariables false
set_option maxHeartbeats 8000000
set_option maxRecDepth 100000
set_option linter.unusedSimpArgs false
def impl_RangeJoin.j0:Nat→Bool→Int→Int→Int→Int→Option (Int×Int)
 |0,_,_,_,_,_=>none
 |k+1,x14,aM,aN,aQ,aT=>if x14=true then(some (1,0))else((impl_orOther.f aM aN aQ aT).bind fun aZ=>(if aZ.2.2=true then(some (aZ.1,aZ.2.1))else(some (mn aM aQ,mx aN aT))))
def impl_RangeJoin.f(k:Nat)(ak:Int)(aj:Int)(ar:Int)(ao:Int):Option (Int×Int):=(impl_RangeOk.f ak aj).bind fun a8=>(if a8=true then((impl_RangeOk.f ar ao).bind fun aW=>(impl_RangeJoin.j0 k (!aW) ak aj ar ao))else(impl_RangeJoin.j0 k true ak aj ar ao))
theorem impl_RangeJoin.mono_l:∀ k,(∀ y0 y1 y2 y3 y4,LeO (impl_RangeJoin.j0 k y0 y1 y2 y3 y4) (impl_RangeJoin.j0 (k+1) y0 y1 y2 y3 y4))
 |0=>fun _ _ _ _ _ r h=>by simp [impl_RangeJoin.j0]at h
 |k+1=>by
  have ih0:=impl_RangeJoin.mono_l k
  ·
   intro y0 y1 y2 y3 y4;unfold impl_RangeJoin.j0
   repeat' first
   |(with_reducible exact ih0 _ _ _ _ _)|(with_reducible exact LeO.refl _)|(with_reducible exact LeO.none _)|(with_reducible refine LeO.ite ?_ ?_)|(with_reducible refine LeO.bind ?_ fun _=>?_)|exact ih0 _ _ _ _ _|exact LeO.none _|refine LeO.ite ?_ ?_|refine LeO.bind ?_ fun _=>?_
theorem impl_RangeJoin.mono:∀ a0 a1 a2 a3 k,LeO (impl_RangeJoin.f k a0 a1 a2 a3) (impl_RangeJoin.f (k+1) a0 a1 a2 a3):=by
 intro a0 a1 a2 a3 k;have ih0:=impl_RangeJoin.mono_l k;unfold impl_RangeJoin.f
 repeat' first
   |(with_reducible exact ih0 _ _ _ _ _)|(with_reducible exact LeO.refl _)|(with_reducible exact LeO.none _)|(with_reducible refine LeO.ite ?_ ?_)|(with_reducible refine LeO.bind ?_ fun _=>?_)|exact ih0 _ _ _ _ _|exact LeO.none _|refine LeO.ite ?_ ?_|refine LeO.bind ?_ fun _=>?_
theorem impl_RangeJoin.calls(k:Nat)(ak:Int)(aj:Int)(ar:Int)(ao:Int)(r1:Int)(r2:Int)(w:World)(hG1:GL1 w)(h:impl_RangeJoin.f k ak aj ar ao=some (r1,r2)) :
  Calls Tryd.prog 79 #[.agg #[.int .i64 ak,.int .i64 aj],.agg #[.int .i64 ar,.int .i64 ao]] w fun e w'=>e=.returned (.agg #[.int .i64 r1,.int .i64 r2])∧Below w.heap.size w w':=by
 have hu58:=Tryd.underlying58;have HB:=am_ (Below.refl w.heap.size w);have HG1:=am_ hG1;clear hG1;have H:((impl_RangeOk.f ak aj).bind fun a8=>(if a8=true then((impl_RangeOk.f ar ao).bind fun aW=>(impl_RangeJoin.j0 k (!aW) ak aj ar ao))else(impl_RangeJoin.j0 k true ak aj ar ao)))=some (r1,r2):=h;clear h;have cy:=am_ H;clear H
 go_enter Tryd.func79,Tryd.ntmps79
 go_upto_region 1 with(first|((with_reducible refine gate_dst (N:=2) rfl ?_);refine box_y 2 #[.int .i64 ak,.int .i64 aj] 58 (h:=?_);intro bA hg w4 hbox hb;have aa:=am_ hbox;have cA:=gz_ hg HB;have ag:=gz_ hg HB;replace HB:=hb_ HB hb;clear hb hbox hg)|((with_reducible refine gate_dst (N:=3) rfl ?_);refine box_y 3 #[.int .i64 ar,.int .i64 ao] 58 (h:=?_);intro bB hg w5 hbox hb;have af:=am_ hbox;have cB:=gz1_ hg HB ag;have ai:=gz1_ hg HB ag;replace HB:=hb1_ HB hb ag;have ap:=nb_ hg aa;replace aa:=bb_ aa hb;have au:=ns_ ap;clear hb hbox hg)|((with_reducible refine gate_dst (N:=4) rfl ?_);refine box_y 4 #[.int .i64 0,.int .i64 0] 58 (h:=?_);intro aG hg w6 hbox hb;have ac:=am_ hbox;have bx:=gz2_ hg HB ag ai;have ae:=gz2_ hg HB ag ai;replace HB:=hb2_ HB hb ag ai;have aq:=nb_ hg aa;replace aa:=bb_ aa hb;have ax:=ns_ aq;have aw:=nb_ hg af;replace af:=bb_ af hb;have az:=ns_ aw;clear hb hbox hg))
 (try simp only [Act.put,List.setIfInBounds_toArray,List.set_cons_zero,List.set_cons_succ])
 go_cut [14] (fun v14 wc=>∃ (kq:Nat) (aK:Bool),v14=.bool aK∧Aside0 (impl_RangeJoin.j0 kq aK ak aj ar ao=some (r1,r2))∧Aside0 (kq≤k)∧Aside0 (wc.heap[bA]?=some (.cells #[.int .i64 ak,.int .i64 aj] 58 (0,0)))∧Aside0 (wc.heap[bB]?=some (.cells #[.int .i64 ar,.int .i64 ao] 58 (0,0)))∧Aside0 (wc.heap[aG]?=some (.cells #[.int .i64 0,.int .i64 0] 58 (0,0)))∧Aside0 (Below w.heap.size w wc))
 case first =>
  have H:=cy.out;clear cy;obtain⟨a8,A7,H⟩:=be_ H;(try dsimp only at H)
  by_cases c8:a8=true
  ·
   subst c8;have H1:=ifp_ H
   clear H;have H:=H1;clear H1;obtain⟨aW,A9,H⟩:=be_ H;(try dsimp only at H);have H':=am_ H;clear H;have cC:=ap.out;have cT:=au.out;have cD:=aq.out;have cU:=ax.out;obtain⟨a9,ba,bi,bj⟩:=cz2_ aa
   go_wp2_with (first|((with_reducible refine gate_callee (f:=71) rfl ?_);refine gl_ 8 Tryd.func71 #[.agg #[.int .i64 ak,.int .i64 aj]] (h:=?_);(with_reducible refine(impl_RangeOk.calls ak aj true _ ?ay A7.out).mono ?_);(case ay=>exact GL1.below HG1.out (sq_below3 HB.out ag.out ai.out ae.out));rintro e dj ⟨rfl,hb⟩;refine⟨_,rfl,?_⟩;replace aa:=bb_ aa hb;replace af:=bb_ af hb;replace ac:=bb_ ac hb;replace HB:=hb3_ HB hb ag ai ae;(try clear hb);have cF:=aw.out;have cV:=az.out;obtain⟨bc,bf,bk,bn⟩:=cz2_ af)|(go_at_call 71;(with_reducible refine(impl_RangeOk.calls ar ao aW _ ?ay A9.out).mono ?_);(case ay=>exact GL1.below HG1.out (sq_below3 HB.out ag.out ai.out ae.out));rintro e dk ⟨rfl,hb⟩;replace aa:=bb_ aa hb;replace af:=bb_ af hb;replace ac:=bb_ ac hb;replace HB:=hb3_ HB hb ag ai ae;(try clear hb)))
   go_meet
   case rel=>exact⟨_,(!aW),sr_,H',om_,bk_ aa,bk_ af,bk_ ac,⟨sq_below3 HB.out ag.out ai.out ae.out⟩⟩
  ·
   replace c8:=Bool.eq_false_iff.mpr c8;subst c8;have H1:=ifn_ H
   clear H;have H:=H1;clear H1;have H':=am_ H;clear H;have cG:=ap.out;have cW:=au.out;have cH:=aq.out;have cX:=ax.out;obtain⟨bg,bh,bo,bp⟩:=cz2_ aa
   go_wp2_with (first|((with_reducible refine gate_callee (f:=71) rfl ?_);refine gl_ 8 Tryd.func71 #[.agg #[.int .i64 ak,.int .i64 aj]] (h:=?_);(with_reducible refine(impl_RangeOk.calls ak aj false _ ?ay A7.out).mono ?_);(case ay=>exact GL1.below HG1.out (sq_below3 HB.out ag.out ai.out ae.out));rintro e dl ⟨rfl,hb⟩;refine⟨_,rfl,?_⟩;replace aa:=bb_ aa hb;replace af:=bb_ af hb;replace ac:=bb_ ac hb;replace HB:=hb3_ HB hb ag ai ae;(try clear hb)))
   go_meet
   case rel=>exact⟨_,(true),sr_,H',om_,bk_ aa,bk_ af,bk_ ac,⟨sq_below3 HB.out ag.out ai.out ae.out⟩⟩
 case rest =>
  clear cy
  obtain⟨kq,aK,rfl,HA,HJ2,aa,af,ac,HB⟩:=hcut;cases kq with
  |zero=>exact absurd HA.out (by simp [impl_RangeJoin.j0])
  |succ di =>
   have H:=HA.out;clear HA;simp only [impl_RangeJoin.j0]at H
   by_cases c21:aK=true
   ·
    subst c21;have H1:=ifp_ H
    clear H;have H:=H1;clear H1;simp only [Option.some.injEq,Prod.mk.injEq]at H;obtain⟨rfl,rfl⟩:=H;have hgl22_0:wc.cell? ⟨1,0,none⟩=some (.int .i64 1):=GL1.c0 (GL1.below HG1.out HB.out);have hgl22_1:wc.cell? ⟨1,1,none⟩=some (.int .i64 0):=GL1.c1 (GL1.below HG1.out HB.out);have aJ:aG≠1:=(by first|exact Nat.ne_of_gt (Nat.lt_of_lt_of_le (World.block_lt_of_cell? _ _ (GL1.c0 HG1.out)) ae.out)|exact Nat.ne_of_gt (Nat.lt_of_lt_of_le (World.block_lt_of_cell? _ _ (GL1.c0 HG1.out)) bx.out));have hnhgl22_441:=Ne.symm aJ;obtain⟨bD,bE,bZ,b3⟩:=cz2_ ac
    go_wp2
    refine bodyPost_ret (results_cell_row rfl _ _ aG 58 #[.int .i64 1,.int .i64 0] (0,0) _ rfl (bp_ ac) Tryd.underlying58 rfl (by kernel_rfl)) rfl ?_;exact⟨lf_,sq_below1 HB.out ae.out⟩
   ·
    replace c21:=Bool.eq_false_iff.mpr c21;subst c21;have H1:=ifn_ H
    clear H;have H:=H1;clear H1;replace H:=Option.bind_eq_some_iff.mp H;obtain⟨⟨bu,bw,cz⟩,A240,H⟩:=H;(try dsimp only at H);have A24:=am_ A240;clear A240
    by_cases c25:cz=true
    ·
     subst c25;have H1:=ifp_ H
     clear H;have H:=H1;clear H1;simp only [Option.some.injEq,Prod.mk.injEq]at H;obtain⟨rfl,rfl⟩:=H;have cI:=ap.out;have cY:=au.out;have cJ:=aq.out;have cZ:=ax.out;obtain⟨bF,bG,b4,b5⟩:=cz2_ aa;have cK:=aw.out;have da:=az.out;obtain⟨bH,bI,b6,b7⟩:=cz2_ af
     go_wp2_with (first|((with_reducible refine gate_callee (f:=83) rfl ?_);refine gl_ 19 Tryd.func83 #[.agg #[.int .i64 ak,.int .i64 aj],.agg #[.int .i64 ar,.int .i64 ao]] (h:=?_);(with_reducible refine(impl_orOther.calls ak aj ar ao bu bw true _ ?ay A24.out).mono ?_);(case ay=>exact GL1.below HG1.out (sq_below1 HB.out ae.out));rintro e dn ⟨rfl,hb⟩;refine⟨_,rfl,?_⟩;replace ac:=bb_ ac hb;replace HB:=hb1_ HB hb ae;(try clear hb))|((with_reducible refine gate_dst (N:=5) rfl ?_);refine box_y 5 #[.int .i64 0,.int .i64 0] 58 (h:=?_);intro bC hg dp hbox hb;have aX:=am_ hbox;have bz:=gz1_ hg HB ae;have aY:=gz1_ hg HB ae;replace HB:=hb1_ HB hb ae;have ah:=nb_ hg ac;replace ac:=bb_ ac hb;have aA:=ns_ ah;clear hb hbox hg;have cM:=aA.out;have db:=ah.out;obtain⟨bJ,bK,b8,b9⟩:=cz2_ aX;obtain⟨bL,bM,ca,cb⟩:=cz2_ ac))
     refine bodyPost_ret (results_cell_row rfl _ _ aG 58 #[.int .i64 bu,.int .i64 bw] (0,0) _ rfl (bp1_ ac ah) Tryd.underlying58 rfl (by kernel_rfl)) rfl ?_;exact⟨lf_,sq_below2 HB.out ae.out aY.out⟩
    ·
     replace c25:=Bool.eq_false_iff.mpr c25;subst c25;have H1:=ifn_ H
     clear H;have H:=H1;clear H1;obtain⟨bq,aH⟩:∃ j_:Int,(mn ak ar)=j_:=⟨_,rfl⟩;replace H:(some (bq,mx aj ao))=some (r1,r2):=by first|(rw [aH]at H;exact H)|(simp only [aH]at H ⊢;exact H)
     (try rw [aH]at A24)
     have hji36_:(if ar<ak then ar else ak)=bq:=aH;obtain⟨br,aI⟩:∃ j_:Int,(mx aj ao)=j_:=⟨_,rfl⟩;replace H:(some (bq,br))=some (r1,r2):=by first|(rw [aI]at H;exact H)|(simp only [aI]at H ⊢;exact H)
     (try rw [aI]at A24)
     have hji37_:(if aj<ao then ao else aj)=br:=aI;simp only [Option.some.injEq,Prod.mk.injEq]at H;obtain⟨rfl,rfl⟩:=H;have cN:=ap.out;have dc:=au.out;have cO:=aq.out;have dd:=ax.out;obtain⟨bN,bO,cd,cf⟩:=cz2_ aa;have cP:=aw.out;have de:=az.out;obtain⟨bP,bQ,cg,ch⟩:=cz2_ af
     go_wp2_with (first|((with_reducible refine gate_callee (f:=83) rfl ?_);refine gl_ 19 Tryd.func83 #[.agg #[.int .i64 ak,.int .i64 aj],.agg #[.int .i64 ar,.int .i64 ao]] (h:=?_);(with_reducible refine(impl_orOther.calls ak aj ar ao bu bw false _ ?ay A24.out).mono ?_);(case ay=>exact GL1.below HG1.out (sq_below3 HB.out ag.out ai.out ae.out));rintro e dq ⟨rfl,hb⟩;refine⟨_,rfl,?_⟩;replace aa:=bb_ aa hb;replace af:=bb_ af hb;replace ac:=bb_ ac hb;replace HB:=hb3_ HB hb ag ai ae;(try clear hb))|((with_reducible refine gate_dst (N:=5) rfl ?_);refine box_y 5 #[.int .i64 0,.int .i64 0] 58 (h:=?_);intro bC hg dr hbox hb;have aX:=am_ hbox;have bz:=gz3_ hg HB ag ai ae;have aY:=gz3_ hg HB ag ai ae;replace HB:=hb3_ HB hb ag ai ae;have aC:=nb_ hg aa;replace aa:=bb_ aa hb;have aU:=ns_ aC;have aD:=nb_ hg af;replace af:=bb_ af hb;have aV:=ns_ aD;have ah:=nb_ hg ac;replace ac:=bb_ ac hb;have aA:=ns_ ah;clear hb hbox hg;have cQ:=aU.out;have df:=aC.out;have cR:=aV.out;have dg:=aD.out;have cS:=aA.out;have dh:=ah.out;obtain⟨bR,bS,cj,ck⟩:=cz2_ aX;obtain⟨bT,bU,cl,cn⟩:=cz2_ aa;obtain⟨bV,bW,cp,cq⟩:=cz2_ af;obtain⟨bX,bY,cr,cx⟩:=cz2_ ac))
     refine bodyPost_ret (results_cell_row rfl _ _ aG 58 #[.int .i64 bq,.int .i64 br] (0,0) _ rfl (bp1_ ac ah) Tryd.underlying58 rfl (by kernel_rfl)) rfl ?_;exact⟨by first|rfl|(simp [errW_none,errW_some]<;>rfl)|(simp only [← aH,← aI];first|rfl|(simp [errW_none,errW_some]<;>rfl))|(simp [*,errW_none,errW_some]<;>rfl),sq_below2 HB.out ae.out aY.out⟩
end Go.Proofs.YtcdeojfeebmonaaDoor.Q
