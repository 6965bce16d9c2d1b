/- Functions of the translation as Lean functions, each with a proof that a call answers so; out of the seat, by this claim's own program prt.py. -/
import Derived.Test.YtcdeojfeebmonaaDoorWTab
import Derived.Test.YtcdeojfeebmonaaDoorWRepsOne
import Derived.Test.YtcdeojfeebmonaaDoorQx0
import Derived.Test.YtcdeojfeebmonaaDoorQx6
import Derived.Test.YtcdeojfeebmonaaDoorQx9
import Derived.Test.YtcdeojfeebmonaaDoorQx10
import Derived.Test.YtcdeojfeebmonaaDoorQStep3
namespace Go.Proofs.YtcdeojfeebmonaaDoor.Q
open Go.RowKit Go.Proofs.YtcdeojfeebmonaaDoorW.PrintWords Go.Proofs.YtcdeojfeebmonaaDoorW.PrintLast Go.Proofs.YtcdeojfeebmonaaDoorW.PrintMore
attribute [local go_sem] max2_int min2_int max_two min_two max_three min_three max_four min_four
set_option linter.unusedVariables false
set_option maxHeartbeats 8000000
set_option maxRecDepth 100000
set_option linter.unusedSimpArgs false
def spec_ValJoin.j0:Nat→Bool→Int→Int→Bool→Int→Int→Bool→Option (Int×Int×Bool)
 |0,_,_,_,_,_,_,_=>none
 |k+1,x12,bn,bo,bp,bq,br,bu=>if x12=true then((spec_l09None.f).bind fun aJ=>(some (aJ.1,aJ.2.1,aJ.2.2)))else((spec_RangeJoin.f k bn bo bq br).bind fun aG=>(if bp=true then(some (aG.1,aG.2,bu))else(some (aG.1,aG.2,false))))
def spec_ValJoin.f(k:Nat)(ao:Int)(ap:Int)(ax:Bool)(aq:Int)(ar:Int)(ay:Bool):Option (Int×Int×Bool):=(spec_ValOk.f ao ap ax).bind fun aK=>(if aK=true then((spec_ValOk.f aq ar ay).bind fun aI=>(spec_ValJoin.j0 k (!aI) ao ap ax aq ar ay))else(spec_ValJoin.j0 k true ao ap ax aq ar ay))
theorem spec_ValJoin.mono_l:∀ k,(∀ y0 y1 y2 y3 y4 y5 y6,LeO (spec_ValJoin.j0 k y0 y1 y2 y3 y4 y5 y6) (spec_ValJoin.j0 (k+1) y0 y1 y2 y3 y4 y5 y6))
 |0=>fun _ _ _ _ _ _ _ r h=>by simp [spec_ValJoin.j0]at h
 |k+1=>by
  have ih0:=spec_ValJoin.mono_l k
  ·
   intro y0 y1 y2 y3 y4 y5 y6;unfold spec_ValJoin.j0
   repeat' first
   |(with_reducible exact ih0 _ _ _ _ _ _ _)|(with_reducible exact spec_RangeJoin.mono _ _ _ _ _)|(with_reducible exact LeO.refl _)|(with_reducible exact LeO.none _)|(with_reducible refine LeO.ite ?_ ?_)|(with_reducible refine LeO.bind ?_ fun _=>?_)|exact ih0 _ _ _ _ _ _ _|exact spec_RangeJoin.mono _ _ _ _ _|exact LeO.none _|refine LeO.ite ?_ ?_|refine LeO.bind ?_ fun _=>?_
theorem spec_ValJoin.mono:∀ a0 a1 a2 a3 a4 a5 k,LeO (spec_ValJoin.f k a0 a1 a2 a3 a4 a5) (spec_ValJoin.f (k+1) a0 a1 a2 a3 a4 a5):=by
 intro a0 a1 a2 a3 a4 a5 k;have ih0:=spec_ValJoin.mono_l k;unfold spec_ValJoin.f
 repeat' first
   |(with_reducible exact ih0 _ _ _ _ _ _ _)|(with_reducible exact spec_RangeJoin.mono _ _ _ _ _)|(with_reducible exact LeO.refl _)|(with_reducible exact LeO.none _)|(with_reducible refine LeO.ite ?_ ?_)|(with_reducible refine LeO.bind ?_ fun _=>?_)|exact ih0 _ _ _ _ _ _ _|exact spec_RangeJoin.mono _ _ _ _ _|exact LeO.none _|refine LeO.ite ?_ ?_|refine LeO.bind ?_ fun _=>?_
def spec_ValJoin.T3:Bool×List (List Nat×List Nat):=(true,[([],[]),([0],[0]),([],[]),([2],[2]),([1,3],[1,3]),([],[]),([5],[5]),([6,4],[6]),([7],[7]),([8,7],[7,8]),([7,9],[7,9]),([4,10],[4,10]),([11,7,0,1,2,3,4,5,6,7,8,9,10,11],[11])])
def spec_ValJoin.B3:List Nat:=[0,1,0,4,15,0,32,127,255,511,1023,2047,4095]
theorem spec_ValJoin.tab3:rtab .any (opsOf Tryd.f67 3)=spec_ValJoin.T3:=by kernel_rfl
theorem spec_ValJoin.bits3:waitsOk spec_ValJoin.T3.2 spec_ValJoin.B3=true:=by kernel_rfl
theorem spec_ValJoin.calls(k:Nat)(ao:Int)(ap:Int)(ax:Bool)(aq:Int)(ar:Int)(ay:Bool)(r1:Int)(r2:Int)(r3:Bool)(w:World)(h:spec_ValJoin.f k ao ap ax aq ar ay=some (r1,r2,r3)) :
  Calls Tryd.prog 67 #[.agg #[.int .i64 ao,.int .i64 ap,.bool ax],.agg #[.int .i64 aq,.int .i64 ar,.bool ay]] w fun e w'=>e=.returned (.agg #[.int .i64 r1,.int .i64 r2,.bool r3])∧Below w.heap.size w w':=by
 have hu60:=Tryd.underlying60;have hu58:=Tryd.underlying58;have HB:=am_ (Below.refl w.heap.size w);have H:((spec_ValOk.f ao ap ax).bind fun aK=>(if aK=true then((spec_ValOk.f aq ar ay).bind fun aI=>(spec_ValJoin.j0 k (!aI) ao ap ax aq ar ay))else(spec_ValJoin.j0 k true ao ap ax aq ar ay)))=some (r1,r2,r3):=h;clear h;have b7:=am_ H;clear H
 go_enter Tryd.func67,Tryd.ntmps67
 go_upto_region 1 with(first|((with_reducible refine gate_dst (N:=2) rfl ?_);refine box_y 2 #[.int .i64 ao,.int .i64 ap,.bool ax] 60 (h:=?_);intro aA hg w4 hbox hb;have af:=am_ hbox;have ca:=gz_ hg HB;have ak:=gz_ hg HB;replace HB:=hb_ HB hb;clear hb hbox hg)|((with_reducible refine gate_dst (N:=3) rfl ?_);refine box_y 3 #[.int .i64 aq,.int .i64 ar,.bool ay] 60 (h:=?_);intro aC hg w5 hbox hb;have ah:=am_ hbox;have cb:=gz1_ hg HB ak;have au:=gz1_ hg HB ak;replace HB:=hb1_ HB hb ak;have az:=nb_ hg af;replace af:=bb_ af hb;have aD:=ns_ az;clear hb hbox hg)|((with_reducible refine gate_dst (N:=4) rfl ?_);refine box_y 4 #[.int .i64 0,.int .i64 0,.bool false] 60 (h:=?_);intro ae hg w6 hbox hb;have ag:=am_ hbox;have cd:=gz2_ hg HB ak au;have aw:=gz2_ hg HB ak au;replace HB:=hb2_ HB hb ak au;have aa:=nb_ hg af;replace af:=bb_ af hb;have ai:=ns_ aa;have ac:=nb_ hg ah;replace ah:=bb_ ah hb;have aj:=ns_ ac;clear hb hbox hg))
 (try simp only [Act.put,List.setIfInBounds_toArray,List.set_cons_zero,List.set_cons_succ])
 go_cut [12] (fun v12 wc=>∃ (kq:Nat) (aH:Bool),v12=.bool aH∧Aside0 (spec_ValJoin.j0 kq aH ao ap ax aq ar ay=some (r1,r2,r3))∧Aside0 (kq≤k)∧Aside0 (wc.heap[aA]?=some (.cells #[.int .i64 ao,.int .i64 ap,.bool ax] 60 (0,0)))∧Aside0 (wc.heap[aC]?=some (.cells #[.int .i64 aq,.int .i64 ar,.bool ay] 60 (0,0)))∧Aside0 (wc.heap[ae]?=some (.cells #[.int .i64 0,.int .i64 0,.bool false] 60 (0,0)))∧Aside0 (Below w.heap.size w wc))
 case first =>
  have H:=b7.out;clear b7;obtain⟨aK,A7,H⟩:=be_ H;(try dsimp only at H)
  by_cases c8:aK=true
  ·
   subst c8;have H1:=ifp_ H
   clear H;have H:=H1;clear H1;obtain⟨aI,A9,H⟩:=be_ H;(try dsimp only at H);have H':=am_ H;clear H;have cn:=az.out;have cy:=aD.out;have cp:=aa.out;have cz:=ai.out;obtain⟨aM,aN,aQ,aZ,a8,a9⟩:=cz3_ af
   go_wp2_with (first|((with_reducible refine gate_callee (f:=27) rfl ?_);refine gl_ 6 Tryd.func27 #[.agg #[.int .i64 ao,.int .i64 ap,.bool ax]] (h:=?_);(with_reducible refine(spec_ValOk.calls ao ap ax true _ A7.out).mono ?_);rintro e cM ⟨rfl,hb⟩;refine⟨_,rfl,?_⟩;replace af:=bb_ af hb;replace ah:=bb_ ah hb;replace ag:=bb_ ag hb;replace HB:=hb3_ HB hb ak au aw;(try clear hb);have cq:=ac.out;have cA:=aj.out;obtain⟨aT,aU,aV,ba,bc,bf⟩:=cz3_ ah)|(go_at_call 27;(with_reducible refine(spec_ValOk.calls aq ar ay aI _ A9.out).mono ?_);rintro e cN ⟨rfl,hb⟩;replace af:=bb_ af hb;replace ah:=bb_ ah hb;replace ag:=bb_ ag hb;replace HB:=hb3_ HB hb ak au aw;(try clear hb)))
   go_meet
   case rel=>exact⟨_,(!aI),sr_,H',om_,bk_ af,bk_ ah,bk_ ag,⟨sq_below3 HB.out ak.out au.out aw.out⟩⟩
  ·
   replace c8:=Bool.eq_false_iff.mpr c8;subst c8;have H1:=ifn_ H
   clear H;have H:=H1;clear H1;have H':=am_ H;clear H;have cr:=az.out;have cB:=aD.out;have cx:=aa.out;have cC:=ai.out;obtain⟨aW,aX,aY,bg,bh,bi⟩:=cz3_ af
   go_wp2_with (first|((with_reducible refine gate_callee (f:=27) rfl ?_);refine gl_ 6 Tryd.func27 #[.agg #[.int .i64 ao,.int .i64 ap,.bool ax]] (h:=?_);(with_reducible refine(spec_ValOk.calls ao ap ax false _ A7.out).mono ?_);rintro e cO ⟨rfl,hb⟩;refine⟨_,rfl,?_⟩;replace af:=bb_ af hb;replace ah:=bb_ ah hb;replace ag:=bb_ ag hb;replace HB:=hb3_ HB hb ak au aw;(try clear hb)))
   go_meet
   case rel=>exact⟨_,(true),sr_,H',om_,bk_ af,bk_ ah,bk_ ag,⟨sq_below3 HB.out ak.out au.out aw.out⟩⟩
 case rest =>
  clear b7
  obtain⟨kq,aH,rfl,HA,HJ2,af,ah,ag,HB⟩:=hcut;cases kq with
  |zero=>exact absurd HA.out (by simp [spec_ValJoin.j0])
  |succ cD =>
   have H:=HA.out;clear HA;simp only [spec_ValJoin.j0]at H
   by_cases c21:aH=true
   ·
    subst c21;have H1:=ifp_ H
    clear H;have H:=H1;clear H1;replace H:=Option.bind_eq_some_iff.mp H;obtain⟨⟨bw,bx,bz⟩,A220,H⟩:=H;replace H:(some (bw,bx,bz))=some (r1,r2,r3):=H;have A22:=am_ A220;clear A220;simp only [Option.some.injEq,Prod.mk.injEq]at H;obtain⟨rfl,rfl,rfl⟩:=H
    go_wp2_with (first|((with_reducible refine gate_callee (f:=66) rfl ?_);refine gl_ 13 Tryd.func66 #[] (h:=?_);(with_reducible refine(spec_l09None.calls bw bx bz _ A22.out).mono ?_);rintro e cP ⟨rfl,hb⟩;refine⟨_,rfl,?_⟩;replace ag:=bb_ ag hb;replace HB:=hb1_ HB hb aw;(try clear hb);obtain⟨bA,bB,bC,bD,bE,bF⟩:=cz3_ ag))
    refine bodyPost_ret (results_cell_row rfl _ _ ae 60 #[.int .i64 bw,.int .i64 bx,.bool bz] (0,0) _ rfl (bp_ ag) Tryd.underlying60 rfl (by kernel_rfl)) rfl ?_;exact⟨lf_,sq_below1 HB.out aw.out⟩
   ·
    replace c21:=Bool.eq_false_iff.mpr c21;subst c21;have H1:=ifn_ H
    clear H;have H:=H1;clear H1;replace H:=Option.bind_eq_some_iff.mp H;obtain⟨⟨bj,bk⟩,A250,H⟩:=H;(try dsimp only at H);have A25:=am_ A250;clear A250
    by_cases c26:ax=true
    ·
     subst c26;have H1:=ifp_ H
     clear H;have H:=H1;clear H1;simp only [Option.some.injEq,Prod.mk.injEq]at H;obtain⟨rfl,rfl,rfl⟩:=H
     try go_wp2
     replace af:=bd_ af;replace ah:=bd_ ah;replace ag:=bd_ ag;replace HB:=hd_ HB;refine start_ (n:=13) (S:=fun w'=>w'.cell? ⟨aA,0,none⟩=some (.int .i64 ao)∧w'.cell? ⟨aA,1,none⟩=some (.int .i64 ap)∧w'.cell? ⟨aA,2,none⟩=some (.bool true)∧w'.cell? ⟨aC,0,none⟩=some (.int .i64 aq)∧w'.cell? ⟨aC,1,none⟩=some (.int .i64 ar)∧w'.cell? ⟨aC,2,none⟩=some (.bool ay)) (ds:=[]) #[false,false,false,false,false,false,false,false,false,false,false,false,false] (by kernel_rfl) rfl rfl ⟨cl_ af 0,cl_ af 1,cl_ af 2,cl_ ah 0,cl_ ah 1,cl_ ah 2⟩ (fun hHeld=>?_);refine with_tabW spec_ValJoin.tab3 spec_ValJoin.bits3 (fun HT_ HW_=>?_);generalize wc.drew=cQ at af ah ag HB hHeld ⊢;refine py_ HT_ 0 14 ?_
     refine py_ HT_ 2 16 ?_
     refine py_ HT_ 5 19 ?_
     refine ty_ HT_ HW_ 1 15 rfl hHeld (by rintro w' ⟨s0,s1,s2,s3,s4,s5⟩;go_simp;with_reducible rfl) ?_
     refine ty_ HT_ HW_ 3 17 rfl hHeld (by rintro w' ⟨s0,s1,s2,s3,s4,s5⟩;go_simp;with_reducible rfl) ?_
     refine ty_ HT_ HW_ 6 20 rfl hHeld (by rintro w' ⟨s0,s1,s2,s3,s4,s5⟩;go_simp;with_reducible rfl) ?_
     refine oy_ HT_ 4 (some 18) (fun K hK=>?_);refine gs_ Tryd.func76 #[.agg #[.int .i64 ao,.int .i64 ap],.agg #[.int .i64 aq,.int .i64 ar]] (h:=?_);with_reducible refine(spec_RangeJoin.calls cD ao ap aq ar bj bk _ A25.out).mono ?_
     rintro e b8 ⟨rfl,hb⟩;refine⟨_,rfl,?_⟩;replace af:=bb_ af hb;replace ah:=bb_ ah hb;replace ag:=bb_ ag hb;replace HB:=hb3_ HB hb ak au aw
     (try clear hb)
     (try clear hb2)
     (try clear hk)
     (try clear hi)
     refine hK.out _ _ ⟨cl_ af 0,cl_ af 1,cl_ af 2,cl_ ah 0,cl_ ah 1,cl_ ah 2⟩ (fun hHeld=>?_);clear hK K;refine norm_y 18 (h:=?_)
     refine py_ HT_ 7 21 ?_
     refine py_ HT_ 8 22 ?_
     refine ty_ HT_ HW_ 9 23 rfl hHeld (by rintro w' ⟨s0,s1,s2,s3,s4,s5⟩;go_simp;with_reducible rfl) ?_
     refine py_ HT_ 10 24 ?_
     refine py_ HT_ 11 25 ?_
     refine oy_ HT_ 12 none (fun K hK=>?_);have cF:b8.cell? ⟨ae,0,none⟩=some (.int .i64 0):=(blk_cell ag.out 0).trans rfl;have cf:=blk_frozen ag.out 0;have bS:=aa.out;have bT:=ac.out;have bG:=ai.out;have bH:=aj.out;have cG:b8.cell? ⟨ae,1,none⟩=some (.int .i64 0):=(blk_cell ag.out 1).trans rfl;have cg:=blk_frozen ag.out 1;have bU:=aa.out;have bV:=ac.out;have bI:=ai.out;have bJ:=aj.out;have cH:b8.cell? ⟨ae,2,none⟩=some (.bool false):=(blk_cell ag.out 2).trans rfl;have ch:=blk_frozen ag.out 2;have bW:=aa.out;have bX:=ac.out;have bK:=ai.out;have bL:=aj.out;refine skip_ (w1:=?_) (by rfl) rfl ?_ ?_;rotate_left
     ·
      go_simp;rfl
     refine hK.out _ _ ⟨((cell_far (p:=⟨ae,_,none⟩) aa.out _).trans (((cell_far (p:=⟨ae,_,none⟩) aa.out _).trans (((cell_far (p:=⟨ae,_,none⟩) aa.out _).trans (hHeld.1)))))),((cell_far (p:=⟨ae,_,none⟩) aa.out _).trans (((cell_far (p:=⟨ae,_,none⟩) aa.out _).trans (((cell_far (p:=⟨ae,_,none⟩) aa.out _).trans (hHeld.2.1)))))),((cell_far (p:=⟨ae,_,none⟩) aa.out _).trans (((cell_far (p:=⟨ae,_,none⟩) aa.out _).trans (((cell_far (p:=⟨ae,_,none⟩) aa.out _).trans (hHeld.2.2.1)))))),((cell_far (p:=⟨ae,_,none⟩) ac.out _).trans (((cell_far (p:=⟨ae,_,none⟩) ac.out _).trans (((cell_far (p:=⟨ae,_,none⟩) ac.out _).trans (hHeld.2.2.2.1)))))),((cell_far (p:=⟨ae,_,none⟩) ac.out _).trans (((cell_far (p:=⟨ae,_,none⟩) ac.out _).trans (((cell_far (p:=⟨ae,_,none⟩) ac.out _).trans (hHeld.2.2.2.2.1)))))),((cell_far (p:=⟨ae,_,none⟩) ac.out _).trans (((cell_far (p:=⟨ae,_,none⟩) ac.out _).trans (((cell_far (p:=⟨ae,_,none⟩) ac.out _).trans (hHeld.2.2.2.2.2))))))⟩ (fun hHeld=>?_);clear hK K;refine done_ (done_of HT_.out (by kernel_rfl)) ?_
     try go_wp2
     refine bodyPost_ret (results_cell_row rfl _ _ ae 60 #[.int .i64 bj,.int .i64 bk,.bool ay] (0,0) _ rfl (bp_ ag) Tryd.underlying60 rfl (by kernel_rfl)) rfl ?_;exact⟨lf_,sq_below3 HB.out ak.out au.out aw.out⟩
    ·
     replace c26:=Bool.eq_false_iff.mpr c26;subst c26;have H1:=ifn_ H
     clear H;have H:=H1;clear H1;simp only [Option.some.injEq,Prod.mk.injEq]at H;obtain⟨rfl,rfl,rfl⟩:=H
     try go_wp2
     replace af:=bd_ af;replace ah:=bd_ ah;replace ag:=bd_ ag;replace HB:=hd_ HB;refine start_ (n:=13) (S:=fun w'=>w'.cell? ⟨aA,0,none⟩=some (.int .i64 ao)∧w'.cell? ⟨aA,1,none⟩=some (.int .i64 ap)∧w'.cell? ⟨aA,2,none⟩=some (.bool false)∧w'.cell? ⟨aC,0,none⟩=some (.int .i64 aq)∧w'.cell? ⟨aC,1,none⟩=some (.int .i64 ar)∧w'.cell? ⟨aC,2,none⟩=some (.bool ay)) (ds:=[]) #[false,false,false,false,false,false,false,false,false,false,false,false,false] (by kernel_rfl) rfl rfl ⟨cl_ af 0,cl_ af 1,cl_ af 2,cl_ ah 0,cl_ ah 1,cl_ ah 2⟩ (fun hHeld=>?_);refine with_tabW spec_ValJoin.tab3 spec_ValJoin.bits3 (fun HT_ HW_=>?_);generalize wc.drew=cR at af ah ag HB hHeld ⊢;refine py_ HT_ 0 14 ?_
     refine py_ HT_ 2 16 ?_
     refine py_ HT_ 5 19 ?_
     refine ty_ HT_ HW_ 1 15 rfl hHeld (by rintro w' ⟨s0,s1,s2,s3,s4,s5⟩;go_simp;with_reducible rfl) ?_
     refine ty_ HT_ HW_ 3 17 rfl hHeld (by rintro w' ⟨s0,s1,s2,s3,s4,s5⟩;go_simp;with_reducible rfl) ?_
     refine ty_ HT_ HW_ 6 20 rfl hHeld (by rintro w' ⟨s0,s1,s2,s3,s4,s5⟩;go_simp;with_reducible rfl) ?_
     refine oy_ HT_ 4 (some 18) (fun K hK=>?_);refine gs_ Tryd.func76 #[.agg #[.int .i64 ao,.int .i64 ap],.agg #[.int .i64 aq,.int .i64 ar]] (h:=?_);with_reducible refine(spec_RangeJoin.calls cD ao ap aq ar bj bk _ A25.out).mono ?_
     rintro e b9 ⟨rfl,hb⟩;refine⟨_,rfl,?_⟩;replace af:=bb_ af hb;replace ah:=bb_ ah hb;replace ag:=bb_ ag hb;replace HB:=hb3_ HB hb ak au aw
     (try clear hb)
     (try clear hb2)
     (try clear hk)
     (try clear hi)
     refine hK.out _ _ ⟨cl_ af 0,cl_ af 1,cl_ af 2,cl_ ah 0,cl_ ah 1,cl_ ah 2⟩ (fun hHeld=>?_);clear hK K;refine norm_y 18 (h:=?_)
     refine py_ HT_ 7 21 ?_
     refine pn_ HT_ 8 22 ?_
     refine pn_ HT_ 9 23 ?_
     refine py_ HT_ 10 24 ?_
     refine py_ HT_ 11 25 ?_
     refine oy_ HT_ 12 none (fun K hK=>?_);have cI:b9.cell? ⟨ae,0,none⟩=some (.int .i64 0):=(blk_cell ag.out 0).trans rfl;have cj:=blk_frozen ag.out 0;have bY:=aa.out;have bZ:=ac.out;have bM:=ai.out;have bN:=aj.out;have cJ:b9.cell? ⟨ae,1,none⟩=some (.int .i64 0):=(blk_cell ag.out 1).trans rfl;have ck:=blk_frozen ag.out 1;have b3:=aa.out;have b4:=ac.out;have bO:=ai.out;have bP:=aj.out;have cK:b9.cell? ⟨ae,2,none⟩=some (.bool false):=(blk_cell ag.out 2).trans rfl;have cl:=blk_frozen ag.out 2;have b5:=aa.out;have b6:=ac.out;have bQ:=ai.out;have bR:=aj.out;refine skip_ (w1:=?_) (by rfl) rfl ?_ ?_;rotate_left
     ·
      go_simp;rfl
     refine hK.out _ _ ⟨((cell_far (p:=⟨ae,_,none⟩) aa.out _).trans (((cell_far (p:=⟨ae,_,none⟩) aa.out _).trans (((cell_far (p:=⟨ae,_,none⟩) aa.out _).trans (hHeld.1)))))),((cell_far (p:=⟨ae,_,none⟩) aa.out _).trans (((cell_far (p:=⟨ae,_,none⟩) aa.out _).trans (((cell_far (p:=⟨ae,_,none⟩) aa.out _).trans (hHeld.2.1)))))),((cell_far (p:=⟨ae,_,none⟩) aa.out _).trans (((cell_far (p:=⟨ae,_,none⟩) aa.out _).trans (((cell_far (p:=⟨ae,_,none⟩) aa.out _).trans (hHeld.2.2.1)))))),((cell_far (p:=⟨ae,_,none⟩) ac.out _).trans (((cell_far (p:=⟨ae,_,none⟩) ac.out _).trans (((cell_far (p:=⟨ae,_,none⟩) ac.out _).trans (hHeld.2.2.2.1)))))),((cell_far (p:=⟨ae,_,none⟩) ac.out _).trans (((cell_far (p:=⟨ae,_,none⟩) ac.out _).trans (((cell_far (p:=⟨ae,_,none⟩) ac.out _).trans (hHeld.2.2.2.2.1)))))),((cell_far (p:=⟨ae,_,none⟩) ac.out _).trans (((cell_far (p:=⟨ae,_,none⟩) ac.out _).trans (((cell_far (p:=⟨ae,_,none⟩) ac.out _).trans (hHeld.2.2.2.2.2))))))⟩ (fun hHeld=>?_);clear hK K;refine done_ (done_of HT_.out (by kernel_rfl)) ?_
     try go_wp2
     refine bodyPost_ret (results_cell_row rfl _ _ ae 60 #[.int .i64 bj,.int .i64 bk,.bool false] (0,0) _ rfl (bp_ ag) Tryd.underlying60 rfl (by kernel_rfl)) rfl ?_;exact⟨lf_,sq_below3 HB.out ak.out au.out aw.out⟩
end Go.Proofs.YtcdeojfeebmonaaDoor.Q
