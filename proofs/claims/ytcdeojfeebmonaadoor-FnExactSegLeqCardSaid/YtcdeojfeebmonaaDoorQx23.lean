/- Functions of the translation as Lean functions, each with a proof that a call answers so; out of the seat, by this claim's own program prt.py. -/
import Derived.Test.YtcdeojfeebmonaaDoorWTab
import Derived.Test.YtcdeojfeebmonaaDoorWRepsOne
import Derived.Test.YtcdeojfeebmonaaDoorQx0
import Derived.Test.YtcdeojfeebmonaaDoorQx19
import Derived.Test.YtcdeojfeebmonaaDoorQx22
import Derived.Test.YtcdeojfeebmonaaDoorQStep3
namespace Go.Proofs.YtcdeojfeebmonaaDoor.Q
open Go.RowKit Go.Proofs.YtcdeojfeebmonaaDoorW.PrintWords Go.Proofs.YtcdeojfeebmonaaDoorW.PrintLast Go.Proofs.YtcdeojfeebmonaaDoorW.PrintMore
attribute [local go_sem] max2_int min2_int max_two min_two max_three min_three max_four min_four
set_option linter.unusedVariables false
set_option maxHeartbeats 8000000
set_option maxRecDepth 100000
set_option linter.unusedSimpArgs false
def impl_ValJoin.f(k:Nat)(au:Int)(aw:Int)(aC:Bool)(ay:Int)(az:Int)(aA:Bool):Option (Int×Int×Bool):=(impl_ValOk.f au aw aC).bind fun aQ=>(if aQ=true then((impl_ValOk.f ay az aA).bind fun aT=>(if aT=true then((impl_RangeJoin.f k au aw ay az).bind fun aD=>(if aC=true then(some (aD.1,aD.2,aA))else(some (aD.1,aD.2,false))))else(some (1,0,true))))else(some (1,0,true)))
theorem impl_ValJoin.mono:∀ a0 a1 a2 a3 a4 a5 k,LeO (impl_ValJoin.f k a0 a1 a2 a3 a4 a5) (impl_ValJoin.f (k+1) a0 a1 a2 a3 a4 a5):=by
 intro a0 a1 a2 a3 a4 a5 k;unfold impl_ValJoin.f
 repeat' first
   |(with_reducible exact impl_RangeJoin.mono _ _ _ _ _)|(with_reducible exact LeO.refl _)|(with_reducible exact LeO.none _)|(with_reducible refine LeO.ite ?_ ?_)|(with_reducible refine LeO.bind ?_ fun _=>?_)|exact impl_RangeJoin.mono _ _ _ _ _|exact LeO.none _|refine LeO.ite ?_ ?_|refine LeO.bind ?_ fun _=>?_
def impl_ValJoin.T3:Bool×List (List Nat×List Nat):=(true,[([],[]),([0],[0]),([],[]),([2],[2]),([1,3],[1,3]),([],[]),([5],[5]),([6,4],[6]),([7],[7]),([8,7],[7,8]),([7,9],[7,9]),([4,10],[4,10]),([11,7,0,1,2,3,4,5,6,7,8,9,10,11],[11])])
def impl_ValJoin.B3:List Nat:=[0,1,0,4,15,0,32,127,255,511,1023,2047,4095]
theorem impl_ValJoin.tab3:rtab .any (opsOf Tryd.f74 3)=impl_ValJoin.T3:=by kernel_rfl
theorem impl_ValJoin.bits3:waitsOk impl_ValJoin.T3.2 impl_ValJoin.B3=true:=by kernel_rfl
theorem impl_ValJoin.calls(k:Nat)(au:Int)(aw:Int)(aC:Bool)(ay:Int)(az:Int)(aA:Bool)(r1:Int)(r2:Int)(r3:Bool)(w:World)(hG0:GL0 w)(hG1:GL1 w)(h:impl_ValJoin.f k au aw aC ay az aA=some (r1,r2,r3)) :
  Calls Tryd.prog 74 #[.agg #[.int .i64 au,.int .i64 aw,.bool aC],.agg #[.int .i64 ay,.int .i64 az,.bool aA]] w fun e w'=>e=.returned (.agg #[.int .i64 r1,.int .i64 r2,.bool r3])∧Below w.heap.size w w':=by
 have hu60:=Tryd.underlying60;have hu58:=Tryd.underlying58;have HB:=am_ (Below.refl w.heap.size w);have HG0:=am_ hG0;clear hG0;have HG1:=am_ hG1;clear hG1;have H:((impl_ValOk.f au aw aC).bind fun aQ=>(if aQ=true then((impl_ValOk.f ay az aA).bind fun aT=>(if aT=true then((impl_RangeJoin.f k au aw ay az).bind fun aD=>(if aC=true then(some (aD.1,aD.2,aA))else(some (aD.1,aD.2,false))))else(some (1,0,true))))else(some (1,0,true))))=some (r1,r2,r3):=h;clear h;obtain⟨aQ,A3,H⟩:=be_ H;(try dsimp only at H)
 by_cases c4:aQ=true
 ·
  subst c4;have H1:=ifp_ H
  clear H;have H:=H1;clear H1;obtain⟨aT,A5,H⟩:=be_ H;(try dsimp only at H)
  by_cases c6:aT=true
  ·
   subst c6;have H1:=ifp_ H
   clear H;have H:=H1;clear H1;replace H:=Option.bind_eq_some_iff.mp H;obtain⟨⟨aU,aV⟩,A70,H⟩:=H;(try dsimp only at H);have A7:=am_ A70;clear A70
   by_cases c8:aC=true
   ·
    subst c8;have H1:=ifp_ H
    clear H;have H:=H1;clear H1;simp only [Option.some.injEq,Prod.mk.injEq]at H;obtain⟨rfl,rfl,rfl⟩:=H
    go_enter Tryd.func74,Tryd.ntmps74
    try go_wp2_with (first|((with_reducible refine gate_dst (N:=2) rfl ?_);refine box_y 2 #[.int .i64 au,.int .i64 aw,.bool true] 60 (h:=?_);intro aG hg w9 hbox hb;have ae:=am_ hbox;have aM:=gz_ hg HB;have ai:=gz_ hg HB;replace HB:=hb_ HB hb;clear hb hbox hg)|((with_reducible refine gate_dst (N:=3) rfl ?_);refine box_y 3 #[.int .i64 ay,.int .i64 az,.bool aA] 60 (h:=?_);intro aH hg dz hbox hb;have ag:=am_ hbox;have aN:=gz1_ hg HB ai;have ak:=gz1_ hg HB ai;replace HB:=hb1_ HB hb ai;have aq:=nb_ hg ae;replace ae:=bb_ ae hb;have ax:=ns_ aq;clear hb hbox hg)|((with_reducible refine gate_dst (N:=4) rfl ?_);refine box_y 4 #[.int .i64 0,.int .i64 0,.bool false] 60 (h:=?_);intro af hg dA hbox hb;have ah:=am_ hbox;have aI:=gz2_ hg HB ai ak;have ao:=gz2_ hg HB ai ak;replace HB:=hb2_ HB hb ai ak;have aa:=nb_ hg ae;replace ae:=bb_ ae hb;have aj:=ns_ aa;have ac:=nb_ hg ag;replace ag:=bb_ ag hb;have ap:=ns_ ac;clear hb hbox hg;have cS:=aq.out;have dc:=ax.out;have cT:=aa.out;have dd:=aj.out;obtain⟨aW,aX,aY,bE,bF,bG⟩:=cz3_ ae)|((with_reducible refine gate_callee (f:=57) rfl ?_);refine gl_ 6 Tryd.func57 #[.agg #[.int .i64 au,.int .i64 aw,.bool true]] (h:=?_);(with_reducible refine(impl_ValOk.calls au aw true true _ ?ar A3.out).mono ?_);(case ar=>exact GL1.below HG1.out (sq_below3 HB.out ai.out ak.out ao.out));rintro e dB ⟨rfl,hb⟩;refine⟨_,rfl,?_⟩;replace ae:=bb_ ae hb;replace ag:=bb_ ag hb;replace ah:=bb_ ah hb;replace HB:=hb3_ HB hb ai ak ao;(try clear hb);have cU:=ac.out;have de:=ap.out;obtain⟨aZ,a8,a9,bH,bI,bJ⟩:=cz3_ ag)|(go_at_call 57;(with_reducible refine(impl_ValOk.calls ay az aA true _ ?ar A5.out).mono ?_);(case ar=>exact GL1.below HG1.out (sq_below3 HB.out ai.out ak.out ao.out));rintro e dx ⟨rfl,hb⟩;replace ae:=bb_ ae hb;replace ag:=bb_ ag hb;replace ah:=bb_ ah hb;replace HB:=hb3_ HB hb ai ak ao;(try clear hb)))
    replace ae:=bd_ ae;replace ag:=bd_ ag;replace ah:=bd_ ah;replace HB:=hd_ HB;refine start_ (n:=13) (S:=fun w'=>w'.cell? ⟨aG,0,none⟩=some (.int .i64 au)∧w'.cell? ⟨aG,1,none⟩=some (.int .i64 aw)∧w'.cell? ⟨aG,2,none⟩=some (.bool true)∧w'.cell? ⟨aH,0,none⟩=some (.int .i64 ay)∧w'.cell? ⟨aH,1,none⟩=some (.int .i64 az)∧w'.cell? ⟨aH,2,none⟩=some (.bool aA)) (ds:=[]) #[false,false,false,false,false,false,false,false,false,false,false,false,false] (by kernel_rfl) rfl rfl ⟨cl_ ae 0,cl_ ae 1,cl_ ae 2,cl_ ag 0,cl_ ag 1,cl_ ag 2⟩ (fun hHeld=>?_);refine with_tabW impl_ValJoin.tab3 impl_ValJoin.bits3 (fun HT_ HW_=>?_);generalize dx.drew=dC at ae ag ah HB hHeld ⊢;refine py_ HT_ 0 14 ?_
    refine py_ HT_ 2 16 ?_
    refine py_ HT_ 5 19 ?_
    refine ty_ HT_ HW_ 1 15 rfl hHeld (by rintro w' ⟨s0,s1,s2,s3,s4,s5⟩;go_simp;with_reducible rfl) ?_
    refine ty_ HT_ HW_ 3 17 rfl hHeld (by rintro w' ⟨s0,s1,s2,s3,s4,s5⟩;go_simp;with_reducible rfl) ?_
    refine ty_ HT_ HW_ 6 20 rfl hHeld (by rintro w' ⟨s0,s1,s2,s3,s4,s5⟩;go_simp;with_reducible rfl) ?_
    refine oy_ HT_ 4 (some 18) (fun K hK=>?_);refine gs_ Tryd.func79 #[.agg #[.int .i64 au,.int .i64 aw],.agg #[.int .i64 ay,.int .i64 az]] (h:=?_);with_reducible refine(impl_RangeJoin.calls k au aw ay az aU aV _ ?ar A7.out).mono ?_
    (case ar=>exact GL1.below HG1.out (sq_below3 HB.out ai.out ak.out ao.out))
    rintro e cH ⟨rfl,hb⟩;refine⟨_,rfl,?_⟩;replace ae:=bb_ ae hb;replace ag:=bb_ ag hb;replace ah:=bb_ ah hb;replace HB:=hb3_ HB hb ai ak ao
    (try clear hb)
    (try clear hb2)
    (try clear hk)
    (try clear hi)
    refine hK.out _ _ ⟨cl_ ae 0,cl_ ae 1,cl_ ae 2,cl_ ag 0,cl_ ag 1,cl_ ag 2⟩ (fun hHeld=>?_);clear hK K;refine norm_y 18 (h:=?_)
    refine py_ HT_ 7 21 ?_
    refine py_ HT_ 8 22 ?_
    refine ty_ HT_ HW_ 9 23 rfl hHeld (by rintro w' ⟨s0,s1,s2,s3,s4,s5⟩;go_simp;with_reducible rfl) ?_
    refine py_ HT_ 10 24 ?_
    refine py_ HT_ 11 25 ?_
    refine oy_ HT_ 12 none (fun K hK=>?_);have dn:cH.cell? ⟨af,0,none⟩=some (.int .i64 0):=(blk_cell ah.out 0).trans rfl;have cM:=blk_frozen ah.out 0;have cp:=aa.out;have cq:=ac.out;have b8:=aj.out;have b9:=ap.out;have dp:cH.cell? ⟨af,1,none⟩=some (.int .i64 0):=(blk_cell ah.out 1).trans rfl;have cN:=blk_frozen ah.out 1;have cr:=aa.out;have cx:=ac.out;have ca:=aj.out;have cb:=ap.out;have dq:cH.cell? ⟨af,2,none⟩=some (.bool false):=(blk_cell ah.out 2).trans rfl;have cO:=blk_frozen ah.out 2;have cy:=aa.out;have cz:=ac.out;have cd:=aj.out;have cf:=ap.out;refine skip_ (w1:=?_) (by rfl) rfl ?_ ?_;rotate_left
    ·
     go_simp;rfl
    refine hK.out _ _ ⟨((cell_far (p:=⟨af,_,none⟩) aa.out _).trans (((cell_far (p:=⟨af,_,none⟩) aa.out _).trans (((cell_far (p:=⟨af,_,none⟩) aa.out _).trans (hHeld.1)))))),((cell_far (p:=⟨af,_,none⟩) aa.out _).trans (((cell_far (p:=⟨af,_,none⟩) aa.out _).trans (((cell_far (p:=⟨af,_,none⟩) aa.out _).trans (hHeld.2.1)))))),((cell_far (p:=⟨af,_,none⟩) aa.out _).trans (((cell_far (p:=⟨af,_,none⟩) aa.out _).trans (((cell_far (p:=⟨af,_,none⟩) aa.out _).trans (hHeld.2.2.1)))))),((cell_far (p:=⟨af,_,none⟩) ac.out _).trans (((cell_far (p:=⟨af,_,none⟩) ac.out _).trans (((cell_far (p:=⟨af,_,none⟩) ac.out _).trans (hHeld.2.2.2.1)))))),((cell_far (p:=⟨af,_,none⟩) ac.out _).trans (((cell_far (p:=⟨af,_,none⟩) ac.out _).trans (((cell_far (p:=⟨af,_,none⟩) ac.out _).trans (hHeld.2.2.2.2.1)))))),((cell_far (p:=⟨af,_,none⟩) ac.out _).trans (((cell_far (p:=⟨af,_,none⟩) ac.out _).trans (((cell_far (p:=⟨af,_,none⟩) ac.out _).trans (hHeld.2.2.2.2.2))))))⟩ (fun hHeld=>?_);clear hK K;refine done_ (done_of HT_.out (by kernel_rfl)) ?_
    try go_wp2
    refine bodyPost_ret (results_cell_row rfl _ _ af 60 #[.int .i64 aU,.int .i64 aV,.bool aA] (0,0) _ rfl (bp_ ah) Tryd.underlying60 rfl (by kernel_rfl)) rfl ?_;exact⟨lf_,sq_below3 HB.out ai.out ak.out ao.out⟩
   ·
    replace c8:=Bool.eq_false_iff.mpr c8;subst c8;have H1:=ifn_ H
    clear H;have H:=H1;clear H1;simp only [Option.some.injEq,Prod.mk.injEq]at H;obtain⟨rfl,rfl,rfl⟩:=H
    go_enter Tryd.func74,Tryd.ntmps74
    try go_wp2_with (first|((with_reducible refine gate_dst (N:=2) rfl ?_);refine box_y 2 #[.int .i64 au,.int .i64 aw,.bool false] 60 (h:=?_);intro aG hg dD hbox hb;have ae:=am_ hbox;have aM:=gz_ hg HB;have ai:=gz_ hg HB;replace HB:=hb_ HB hb;clear hb hbox hg)|((with_reducible refine gate_dst (N:=3) rfl ?_);refine box_y 3 #[.int .i64 ay,.int .i64 az,.bool aA] 60 (h:=?_);intro aH hg dE hbox hb;have ag:=am_ hbox;have aN:=gz1_ hg HB ai;have ak:=gz1_ hg HB ai;replace HB:=hb1_ HB hb ai;have aq:=nb_ hg ae;replace ae:=bb_ ae hb;have ax:=ns_ aq;clear hb hbox hg)|((with_reducible refine gate_dst (N:=4) rfl ?_);refine box_y 4 #[.int .i64 0,.int .i64 0,.bool false] 60 (h:=?_);intro af hg dF hbox hb;have ah:=am_ hbox;have aI:=gz2_ hg HB ai ak;have ao:=gz2_ hg HB ai ak;replace HB:=hb2_ HB hb ai ak;have aa:=nb_ hg ae;replace ae:=bb_ ae hb;have aj:=ns_ aa;have ac:=nb_ hg ag;replace ag:=bb_ ag hb;have ap:=ns_ ac;clear hb hbox hg;have cV:=aq.out;have df:=ax.out;have cW:=aa.out;have dg:=aj.out;obtain⟨ba,bc,bf,bK,bL,bM⟩:=cz3_ ae)|((with_reducible refine gate_callee (f:=57) rfl ?_);refine gl_ 6 Tryd.func57 #[.agg #[.int .i64 au,.int .i64 aw,.bool false]] (h:=?_);(with_reducible refine(impl_ValOk.calls au aw false true _ ?ar A3.out).mono ?_);(case ar=>exact GL1.below HG1.out (sq_below3 HB.out ai.out ak.out ao.out));rintro e dG ⟨rfl,hb⟩;refine⟨_,rfl,?_⟩;replace ae:=bb_ ae hb;replace ag:=bb_ ag hb;replace ah:=bb_ ah hb;replace HB:=hb3_ HB hb ai ak ao;(try clear hb);have cX:=ac.out;have dh:=ap.out;obtain⟨bg,bh,bi,bN,bO,bP⟩:=cz3_ ag)|(go_at_call 57;(with_reducible refine(impl_ValOk.calls ay az aA true _ ?ar A5.out).mono ?_);(case ar=>exact GL1.below HG1.out (sq_below3 HB.out ai.out ak.out ao.out));rintro e dy ⟨rfl,hb⟩;replace ae:=bb_ ae hb;replace ag:=bb_ ag hb;replace ah:=bb_ ah hb;replace HB:=hb3_ HB hb ai ak ao;(try clear hb)))
    replace ae:=bd_ ae;replace ag:=bd_ ag;replace ah:=bd_ ah;replace HB:=hd_ HB;refine start_ (n:=13) (S:=fun w'=>w'.cell? ⟨aG,0,none⟩=some (.int .i64 au)∧w'.cell? ⟨aG,1,none⟩=some (.int .i64 aw)∧w'.cell? ⟨aG,2,none⟩=some (.bool false)∧w'.cell? ⟨aH,0,none⟩=some (.int .i64 ay)∧w'.cell? ⟨aH,1,none⟩=some (.int .i64 az)∧w'.cell? ⟨aH,2,none⟩=some (.bool aA)) (ds:=[]) #[false,false,false,false,false,false,false,false,false,false,false,false,false] (by kernel_rfl) rfl rfl ⟨cl_ ae 0,cl_ ae 1,cl_ ae 2,cl_ ag 0,cl_ ag 1,cl_ ag 2⟩ (fun hHeld=>?_);refine with_tabW impl_ValJoin.tab3 impl_ValJoin.bits3 (fun HT_ HW_=>?_);generalize dy.drew=dH at ae ag ah HB hHeld ⊢;refine py_ HT_ 0 14 ?_
    refine py_ HT_ 2 16 ?_
    refine py_ HT_ 5 19 ?_
    refine ty_ HT_ HW_ 1 15 rfl hHeld (by rintro w' ⟨s0,s1,s2,s3,s4,s5⟩;go_simp;with_reducible rfl) ?_
    refine ty_ HT_ HW_ 3 17 rfl hHeld (by rintro w' ⟨s0,s1,s2,s3,s4,s5⟩;go_simp;with_reducible rfl) ?_
    refine ty_ HT_ HW_ 6 20 rfl hHeld (by rintro w' ⟨s0,s1,s2,s3,s4,s5⟩;go_simp;with_reducible rfl) ?_
    refine oy_ HT_ 4 (some 18) (fun K hK=>?_);refine gs_ Tryd.func79 #[.agg #[.int .i64 au,.int .i64 aw],.agg #[.int .i64 ay,.int .i64 az]] (h:=?_);with_reducible refine(impl_RangeJoin.calls k au aw ay az aU aV _ ?ar A7.out).mono ?_
    (case ar=>exact GL1.below HG1.out (sq_below3 HB.out ai.out ak.out ao.out))
    rintro e cI ⟨rfl,hb⟩;refine⟨_,rfl,?_⟩;replace ae:=bb_ ae hb;replace ag:=bb_ ag hb;replace ah:=bb_ ah hb;replace HB:=hb3_ HB hb ai ak ao
    (try clear hb)
    (try clear hb2)
    (try clear hk)
    (try clear hi)
    refine hK.out _ _ ⟨cl_ ae 0,cl_ ae 1,cl_ ae 2,cl_ ag 0,cl_ ag 1,cl_ ag 2⟩ (fun hHeld=>?_);clear hK K;refine norm_y 18 (h:=?_)
    refine py_ HT_ 7 21 ?_
    refine pn_ HT_ 8 22 ?_
    refine pn_ HT_ 9 23 ?_
    refine py_ HT_ 10 24 ?_
    refine py_ HT_ 11 25 ?_
    refine oy_ HT_ 12 none (fun K hK=>?_);have dr:cI.cell? ⟨af,0,none⟩=some (.int .i64 0):=(blk_cell ah.out 0).trans rfl;have cP:=blk_frozen ah.out 0;have cA:=aa.out;have cB:=ac.out;have cg:=aj.out;have ch:=ap.out;have dt:cI.cell? ⟨af,1,none⟩=some (.int .i64 0):=(blk_cell ah.out 1).trans rfl;have cQ:=blk_frozen ah.out 1;have cC:=aa.out;have cD:=ac.out;have cj:=aj.out;have ck:=ap.out;have dw:cI.cell? ⟨af,2,none⟩=some (.bool false):=(blk_cell ah.out 2).trans rfl;have cR:=blk_frozen ah.out 2;have cF:=aa.out;have cG:=ac.out;have cl:=aj.out;have cn:=ap.out;refine skip_ (w1:=?_) (by rfl) rfl ?_ ?_;rotate_left
    ·
     go_simp;rfl
    refine hK.out _ _ ⟨((cell_far (p:=⟨af,_,none⟩) aa.out _).trans (((cell_far (p:=⟨af,_,none⟩) aa.out _).trans (((cell_far (p:=⟨af,_,none⟩) aa.out _).trans (hHeld.1)))))),((cell_far (p:=⟨af,_,none⟩) aa.out _).trans (((cell_far (p:=⟨af,_,none⟩) aa.out _).trans (((cell_far (p:=⟨af,_,none⟩) aa.out _).trans (hHeld.2.1)))))),((cell_far (p:=⟨af,_,none⟩) aa.out _).trans (((cell_far (p:=⟨af,_,none⟩) aa.out _).trans (((cell_far (p:=⟨af,_,none⟩) aa.out _).trans (hHeld.2.2.1)))))),((cell_far (p:=⟨af,_,none⟩) ac.out _).trans (((cell_far (p:=⟨af,_,none⟩) ac.out _).trans (((cell_far (p:=⟨af,_,none⟩) ac.out _).trans (hHeld.2.2.2.1)))))),((cell_far (p:=⟨af,_,none⟩) ac.out _).trans (((cell_far (p:=⟨af,_,none⟩) ac.out _).trans (((cell_far (p:=⟨af,_,none⟩) ac.out _).trans (hHeld.2.2.2.2.1)))))),((cell_far (p:=⟨af,_,none⟩) ac.out _).trans (((cell_far (p:=⟨af,_,none⟩) ac.out _).trans (((cell_far (p:=⟨af,_,none⟩) ac.out _).trans (hHeld.2.2.2.2.2))))))⟩ (fun hHeld=>?_);clear hK K;refine done_ (done_of HT_.out (by kernel_rfl)) ?_
    try go_wp2
    refine bodyPost_ret (results_cell_row rfl _ _ af 60 #[.int .i64 aU,.int .i64 aV,.bool false] (0,0) _ rfl (bp_ ah) Tryd.underlying60 rfl (by kernel_rfl)) rfl ?_;exact⟨lf_,sq_below3 HB.out ai.out ak.out ao.out⟩
  ·
   replace c6:=Bool.eq_false_iff.mpr c6;subst c6;have H1:=ifn_ H
   clear H;have H:=H1;clear H1;simp only [Option.some.injEq,Prod.mk.injEq]at H;obtain⟨rfl,rfl,rfl⟩:=H
   go_enter Tryd.func74,Tryd.ntmps74
   go_wp2_with (first|((with_reducible refine gate_dst (N:=2) rfl ?_);refine box_y 2 #[.int .i64 au,.int .i64 aw,.bool aC] 60 (h:=?_);intro aG hg dI hbox hb;have ae:=am_ hbox;have aM:=gz_ hg HB;have ai:=gz_ hg HB;replace HB:=hb_ HB hb;clear hb hbox hg)|((with_reducible refine gate_dst (N:=3) rfl ?_);refine box_y 3 #[.int .i64 ay,.int .i64 az,.bool aA] 60 (h:=?_);intro aH hg dJ hbox hb;have ag:=am_ hbox;have aN:=gz1_ hg HB ai;have ak:=gz1_ hg HB ai;replace HB:=hb1_ HB hb ai;have aq:=nb_ hg ae;replace ae:=bb_ ae hb;have ax:=ns_ aq;clear hb hbox hg)|((with_reducible refine gate_dst (N:=4) rfl ?_);refine box_y 4 #[.int .i64 0,.int .i64 0,.bool false] 60 (h:=?_);intro af hg dK hbox hb;have ah:=am_ hbox;have aI:=gz2_ hg HB ai ak;have ao:=gz2_ hg HB ai ak;replace HB:=hb2_ HB hb ai ak;have aa:=nb_ hg ae;replace ae:=bb_ ae hb;have aj:=ns_ aa;have ac:=nb_ hg ag;replace ag:=bb_ ag hb;have ap:=ns_ ac;clear hb hbox hg;have cY:=aq.out;have di:=ax.out;have cZ:=aa.out;have dj:=aj.out;obtain⟨bj,bk,bn,bQ,bR,bS⟩:=cz3_ ae)|((with_reducible refine gate_callee (f:=57) rfl ?_);refine gl_ 6 Tryd.func57 #[.agg #[.int .i64 au,.int .i64 aw,.bool aC]] (h:=?_);(with_reducible refine(impl_ValOk.calls au aw aC true _ ?ar A3.out).mono ?_);(case ar=>exact GL1.below HG1.out (sq_below2 HB.out ak.out ao.out));rintro e dL ⟨rfl,hb⟩;refine⟨_,rfl,?_⟩;replace ag:=bb_ ag hb;replace ah:=bb_ ah hb;replace HB:=hb2_ HB hb ak ao;(try clear hb);have da:=ac.out;have dk:=ap.out;obtain⟨bo,bp,bq,bT,bU,bV⟩:=cz3_ ag)|(go_at_call 57;(with_reducible refine(impl_ValOk.calls ay az aA false _ ?ar A5.out).mono ?_);(case ar=>exact GL1.below HG1.out (sq_below1 HB.out ao.out));rintro e cJ ⟨rfl,hb⟩;replace ah:=bb_ ah hb;replace HB:=hb1_ HB hb ao;(try clear hb);have hgl49_0:cJ.cell? ⟨0,0,none⟩=some (.int .i64 1):=GL0.c0 (GL0.below HG0.out HB.out);have hgl49_1:cJ.cell? ⟨0,1,none⟩=some (.int .i64 0):=GL0.c1 (GL0.below HG0.out HB.out);have hgl49_2:cJ.cell? ⟨0,2,none⟩=some (.bool true):=GL0.c2 (GL0.below HG0.out HB.out);have aJ:af≠0:=(by first|exact Nat.ne_of_gt (Nat.lt_of_lt_of_le (World.block_lt_of_cell? _ _ (GL0.c0 HG0.out)) ao.out)|exact Nat.ne_of_gt (Nat.lt_of_lt_of_le (World.block_lt_of_cell? _ _ (GL0.c0 HG0.out)) aI.out));have hnhgl49_450:=Ne.symm aJ;obtain⟨br,bu,bw,bW,bX,bY⟩:=cz3_ ah))
   refine bodyPost_ret (results_cell_row rfl _ _ af 60 #[.int .i64 1,.int .i64 0,.bool true] (0,0) _ rfl (bp_ ah) Tryd.underlying60 rfl (by kernel_rfl)) rfl ?_;exact⟨lf_,sq_below1 HB.out ao.out⟩
 ·
  replace c4:=Bool.eq_false_iff.mpr c4;subst c4;have H1:=ifn_ H
  clear H;have H:=H1;clear H1;simp only [Option.some.injEq,Prod.mk.injEq]at H;obtain⟨rfl,rfl,rfl⟩:=H
  go_enter Tryd.func74,Tryd.ntmps74
  go_wp2_with (first|((with_reducible refine gate_dst (N:=2) rfl ?_);refine box_y 2 #[.int .i64 au,.int .i64 aw,.bool aC] 60 (h:=?_);intro aG hg dM hbox hb;have ae:=am_ hbox;have aM:=gz_ hg HB;have ai:=gz_ hg HB;replace HB:=hb_ HB hb;clear hb hbox hg)|((with_reducible refine gate_dst (N:=3) rfl ?_);refine box_y 3 #[.int .i64 ay,.int .i64 az,.bool aA] 60 (h:=?_);intro aH hg dN hbox hb;have ag:=am_ hbox;have aN:=gz1_ hg HB ai;have ak:=gz1_ hg HB ai;replace HB:=hb1_ HB hb ai;have aq:=nb_ hg ae;replace ae:=bb_ ae hb;have ax:=ns_ aq;clear hb hbox hg)|((with_reducible refine gate_dst (N:=4) rfl ?_);refine box_y 4 #[.int .i64 0,.int .i64 0,.bool false] 60 (h:=?_);intro af hg dO hbox hb;have ah:=am_ hbox;have aI:=gz1_ hg HB ai;have ao:=gz1_ hg HB ai;replace HB:=hb1_ HB hb ai;have aa:=nb_ hg ae;replace ae:=bb_ ae hb;have aj:=ns_ aa;clear hb hbox hg;have db:=aa.out;have dl:=aj.out;obtain⟨bx,bz,bA,bZ,b3,b4⟩:=cz3_ ae)|((with_reducible refine gate_callee (f:=57) rfl ?_);refine gl_ 6 Tryd.func57 #[.agg #[.int .i64 au,.int .i64 aw,.bool aC]] (h:=?_);(with_reducible refine(impl_ValOk.calls au aw aC false _ ?ar A3.out).mono ?_);(case ar=>exact GL1.below HG1.out (sq_below1 HB.out ao.out));rintro e cK ⟨rfl,hb⟩;refine⟨_,rfl,?_⟩;replace ah:=bb_ ah hb;replace HB:=hb1_ HB hb ao;(try clear hb);have hgl57_0:cK.cell? ⟨0,0,none⟩=some (.int .i64 1):=GL0.c0 (GL0.below HG0.out HB.out);have hgl57_1:cK.cell? ⟨0,1,none⟩=some (.int .i64 0):=GL0.c1 (GL0.below HG0.out HB.out);have hgl57_2:cK.cell? ⟨0,2,none⟩=some (.bool true):=GL0.c2 (GL0.below HG0.out HB.out);have aK:af≠0:=(by first|exact Nat.ne_of_gt (Nat.lt_of_lt_of_le (World.block_lt_of_cell? _ _ (GL0.c0 HG0.out)) ao.out)|exact Nat.ne_of_gt (Nat.lt_of_lt_of_le (World.block_lt_of_cell? _ _ (GL0.c0 HG0.out)) aI.out));have hnhgl57_450:=Ne.symm aK;obtain⟨bB,bC,bD,b5,b6,b7⟩:=cz3_ ah))
  refine bodyPost_ret (results_cell_row rfl _ _ af 60 #[.int .i64 1,.int .i64 0,.bool true] (0,0) _ rfl (bp_ ah) Tryd.underlying60 rfl (by kernel_rfl)) rfl ?_;exact⟨lf_,sq_below1 HB.out ao.out⟩
end Go.Proofs.YtcdeojfeebmonaaDoor.Q
