/- Functions of the translation as Lean functions, each with a proof that a call answers so; out of the seat, by this claim's own program prt.py. -/
import Derived.Test.YtcdeojfeebmonaaDoorWTab
import Derived.Test.YtcdeojfeebmonaaDoorWRepsOne
import Derived.Test.YtcdeojfeebmonaaDoorQx0
import Derived.Test.YtcdeojfeebmonaaDoorQx5
import Derived.Test.YtcdeojfeebmonaaDoorQx6
import Derived.Test.YtcdeojfeebmonaaDoorQx9
import Derived.Test.YtcdeojfeebmonaaDoorQStep3
namespace Go.Proofs.YtcdeojfeebmonaaDoor.Q
open Go.RowKit Go.Proofs.YtcdeojfeebmonaaDoorW.PrintWords Go.Proofs.YtcdeojfeebmonaaDoorW.PrintLast Go.Proofs.YtcdeojfeebmonaaDoorW.PrintMore
attribute [local go_sem] max2_int min2_int max_two min_two max_three min_three max_four min_four
set_option linter.unusedVariables false
set_option maxHeartbeats 8000000
set_option maxRecDepth 100000
set_option linter.unusedSimpArgs false
def spec_RangeJoin.j0:Nat→Bool→Int→Int→Int→Int→Option (Int×Int)
 |0,_,_,_,_,_=>none
 |k+1,x5,az,aA,aC,aD=>if x5=true then((spec_l06None.f).bind fun bf=>(some (bf.1,bf.2)))else((spec_l06Is.f az aA).bind fun bj=>(if bj=true then((spec_l06Is.f aC aD).bind fun bk=>(if bk=true then((spec_l06Min.f az aC).bind fun aK=>((spec_l06Max.f aA aD).bind fun aM=>((spec_l06Make.f aK aM).bind fun bg=>(some (bg.1,bg.2)))))else(some (az,aA))))else(some (aC,aD))))
def spec_RangeJoin.f(k:Nat)(aj:Int)(ak:Int)(aw:Int)(ax:Int):Option (Int×Int):=(spec_RangeOk.f aj ak).bind fun aJ=>(if aJ=true then((spec_RangeOk.f aw ax).bind fun aG=>(spec_RangeJoin.j0 k (!aG) aj ak aw ax))else(spec_RangeJoin.j0 k true aj ak aw ax))
theorem spec_RangeJoin.mono_l:∀ k,(∀ y0 y1 y2 y3 y4,LeO (spec_RangeJoin.j0 k y0 y1 y2 y3 y4) (spec_RangeJoin.j0 (k+1) y0 y1 y2 y3 y4))
 |0=>fun _ _ _ _ _ r h=>by simp [spec_RangeJoin.j0]at h
 |k+1=>by
  have ih0:=spec_RangeJoin.mono_l k
  ·
   intro y0 y1 y2 y3 y4;unfold spec_RangeJoin.j0
   repeat' first
   |(with_reducible exact ih0 _ _ _ _ _)|(with_reducible exact LeO.refl _)|(with_reducible exact LeO.none _)|(with_reducible refine LeO.ite ?_ ?_)|(with_reducible refine LeO.bind ?_ fun _=>?_)|exact ih0 _ _ _ _ _|exact LeO.none _|refine LeO.ite ?_ ?_|refine LeO.bind ?_ fun _=>?_
theorem spec_RangeJoin.mono:∀ a0 a1 a2 a3 k,LeO (spec_RangeJoin.f k a0 a1 a2 a3) (spec_RangeJoin.f (k+1) a0 a1 a2 a3):=by
 intro a0 a1 a2 a3 k;have ih0:=spec_RangeJoin.mono_l k;unfold spec_RangeJoin.f
 repeat' first
   |(with_reducible exact ih0 _ _ _ _ _)|(with_reducible exact LeO.refl _)|(with_reducible exact LeO.none _)|(with_reducible refine LeO.ite ?_ ?_)|(with_reducible refine LeO.bind ?_ fun _=>?_)|exact ih0 _ _ _ _ _|exact LeO.none _|refine LeO.ite ?_ ?_|refine LeO.bind ?_ fun _=>?_
def spec_RangeJoin.T7:Bool×List (List Nat×List Nat):=(true,[([],[]),([0],[0]),([],[]),([2],[2]),([1,3],[1,3]),([],[]),([5],[5]),([],[]),([7],[7]),([6,8,4],[6,8]),([4,9,9],[4,9]),([10,10,0,1,2,3,4,5,6,7,8,9,10],[10])])
def spec_RangeJoin.B7:List Nat:=[0,1,0,4,15,0,32,0,128,511,1023,2047]
theorem spec_RangeJoin.tab7:rtab .any (opsOf Tryd.f76 7)=spec_RangeJoin.T7:=by kernel_rfl
theorem spec_RangeJoin.bits7:waitsOk spec_RangeJoin.T7.2 spec_RangeJoin.B7=true:=by kernel_rfl
theorem spec_RangeJoin.calls(k:Nat)(aj:Int)(ak:Int)(aw:Int)(ax:Int)(r1:Int)(r2:Int)(w:World)(h:spec_RangeJoin.f k aj ak aw ax=some (r1,r2)) :
  Calls Tryd.prog 76 #[.agg #[.int .i64 aj,.int .i64 ak],.agg #[.int .i64 aw,.int .i64 ax]] w fun e w'=>e=.returned (.agg #[.int .i64 r1,.int .i64 r2])∧Below w.heap.size w w':=by
 have hu58:=Tryd.underlying58;have HB:=am_ (Below.refl w.heap.size w);have H:((spec_RangeOk.f aj ak).bind fun aJ=>(if aJ=true then((spec_RangeOk.f aw ax).bind fun aG=>(spec_RangeJoin.j0 k (!aG) aj ak aw ax))else(spec_RangeJoin.j0 k true aj ak aw ax)))=some (r1,r2):=h;clear h;have cl:=am_ H;clear H
 go_enter Tryd.func76,Tryd.ntmps76
 go_upto_region 1 with(first|((with_reducible refine gate_dst (N:=2) rfl ?_);refine box_y 2 #[.int .i64 aj,.int .i64 ak] 58 (h:=?_);intro aH hg w4 hbox hb;have aa:=am_ hbox;have cn:=gz_ hg HB;have ai:=gz_ hg HB;replace HB:=hb_ HB hb;clear hb hbox hg)|((with_reducible refine gate_dst (N:=3) rfl ?_);refine box_y 3 #[.int .i64 aw,.int .i64 ax] 58 (h:=?_);intro aI hg w5 hbox hb;have ac:=am_ hbox;have cp:=gz1_ hg HB ai;have au:=gz1_ hg HB ai;replace HB:=hb1_ HB hb ai;have ap:=nb_ hg aa;replace aa:=bb_ aa hb;have ay:=ns_ ap;clear hb hbox hg)|((with_reducible refine gate_dst (N:=4) rfl ?_);refine box_y 4 #[.int .i64 0,.int .i64 0] 58 (h:=?_);intro ar hg w6 hbox hb;have ae:=am_ hbox;have cq:=gz2_ hg HB ai au;have ao:=gz2_ hg HB ai au;replace HB:=hb2_ HB hb ai au;have af:=nb_ hg aa;replace aa:=bb_ aa hb;have ah:=ns_ af;have ag:=nb_ hg ac;replace ac:=bb_ ac hb;have aq:=ns_ ag;clear hb hbox hg))
 (try simp only [Act.put,List.setIfInBounds_toArray,List.set_cons_zero,List.set_cons_succ])
 go_cut [5] (fun v5 wc=>∃ (kq:Nat) (bc:Bool),v5=.bool bc∧Aside0 (spec_RangeJoin.j0 kq bc aj ak aw ax=some (r1,r2))∧Aside0 (kq≤k)∧Aside0 (wc.heap[aH]?=some (.cells #[.int .i64 aj,.int .i64 ak] 58 (0,0)))∧Aside0 (wc.heap[aI]?=some (.cells #[.int .i64 aw,.int .i64 ax] 58 (0,0)))∧Aside0 (wc.heap[ar]?=some (.cells #[.int .i64 0,.int .i64 0] 58 (0,0)))∧Aside0 (Below w.heap.size w wc))
 case first =>
  have H:=cl.out;clear cl;obtain⟨aJ,A7,H⟩:=be_ H;(try dsimp only at H)
  by_cases c8:aJ=true
  ·
   subst c8;have H1:=ifp_ H
   clear H;have H:=H1;clear H1;obtain⟨aG,A9,H⟩:=be_ H;(try dsimp only at H);have H':=am_ H;clear H;have cy:=ap.out;have cO:=ay.out;have cz:=af.out;have cP:=ah.out;obtain⟨aN,aQ,aX,aY⟩:=cz2_ aa
   go_wp2_with (first|((with_reducible refine gate_callee (f:=42) rfl ?_);refine gl_ 7 Tryd.func42 #[.agg #[.int .i64 aj,.int .i64 ak]] (h:=?_);(with_reducible refine(spec_RangeOk.calls aj ak true _ A7.out).mono ?_);rintro e dh ⟨rfl,hb⟩;refine⟨_,rfl,?_⟩;replace aa:=bb_ aa hb;replace ac:=bb_ ac hb;replace ae:=bb_ ae hb;replace HB:=hb3_ HB hb ai au ao;(try clear hb);have cA:=ag.out;have cQ:=aq.out;obtain⟨aT,aU,aZ,a8⟩:=cz2_ ac)|(go_at_call 42;(with_reducible refine(spec_RangeOk.calls aw ax aG _ A9.out).mono ?_);rintro e di ⟨rfl,hb⟩;replace aa:=bb_ aa hb;replace ac:=bb_ ac hb;replace ae:=bb_ ae hb;replace HB:=hb3_ HB hb ai au ao;(try clear hb)))
   go_meet
   case rel=>exact⟨_,(!aG),sr_,H',om_,bk_ aa,bk_ ac,bk_ ae,⟨sq_below3 HB.out ai.out au.out ao.out⟩⟩
  ·
   replace c8:=Bool.eq_false_iff.mpr c8;subst c8;have H1:=ifn_ H
   clear H;have H:=H1;clear H1;have H':=am_ H;clear H;have cB:=ap.out;have cR:=ay.out;have cC:=af.out;have cS:=ah.out;obtain⟨aV,aW,a9,ba⟩:=cz2_ aa
   go_wp2_with (first|((with_reducible refine gate_callee (f:=42) rfl ?_);refine gl_ 7 Tryd.func42 #[.agg #[.int .i64 aj,.int .i64 ak]] (h:=?_);(with_reducible refine(spec_RangeOk.calls aj ak false _ A7.out).mono ?_);rintro e dj ⟨rfl,hb⟩;refine⟨_,rfl,?_⟩;replace aa:=bb_ aa hb;replace ac:=bb_ ac hb;replace ae:=bb_ ae hb;replace HB:=hb3_ HB hb ai au ao;(try clear hb)))
   go_meet
   case rel=>exact⟨_,(true),sr_,H',om_,bk_ aa,bk_ ac,bk_ ae,⟨sq_below3 HB.out ai.out au.out ao.out⟩⟩
 case rest =>
  clear cl
  obtain⟨kq,bc,rfl,HA,HJ2,aa,ac,ae,HB⟩:=hcut;cases kq with
  |zero=>exact absurd HA.out (by simp [spec_RangeJoin.j0])
  |succ dg =>
   have H:=HA.out;clear HA;simp only [spec_RangeJoin.j0]at H
   by_cases c21:bc=true
   ·
    subst c21;have H1:=ifp_ H
    clear H;have H:=H1;clear H1;replace H:=Option.bind_eq_some_iff.mp H;obtain⟨⟨bh,bi⟩,A220,H⟩:=H;replace H:(some (bh,bi))=some (r1,r2):=H;have A22:=am_ A220;clear A220;simp only [Option.some.injEq,Prod.mk.injEq]at H;obtain⟨rfl,rfl⟩:=H
    go_wp2_with (first|((with_reducible refine gate_callee (f:=75) rfl ?_);refine gl_ 14 Tryd.func75 #[] (h:=?_);(with_reducible refine(spec_l06None.calls bh bi _ A22.out).mono ?_);rintro e dk ⟨rfl,hb⟩;refine⟨_,rfl,?_⟩;replace ae:=bb_ ae hb;replace HB:=hb1_ HB hb ao;(try clear hb);obtain⟨bp,bq,bN,bO⟩:=cz2_ ae))
    refine bodyPost_ret (results_cell_row rfl _ _ ar 58 #[.int .i64 bh,.int .i64 bi] (0,0) _ rfl (bp_ ae) Tryd.underlying58 rfl (by kernel_rfl)) rfl ?_;exact⟨lf_,sq_below1 HB.out ao.out⟩
   ·
    replace c21:=Bool.eq_false_iff.mpr c21;subst c21;have H1:=ifn_ H
    clear H;have H:=H1;clear H1;obtain⟨bj,A25,H⟩:=be_ H;(try dsimp only at H)
    by_cases c26:bj=true
    ·
     subst c26;have H1:=ifp_ H
     clear H;have H:=H1;clear H1;obtain⟨bk,A27,H⟩:=be_ H;(try dsimp only at H)
     by_cases c28:bk=true
     ·
      subst c28;have H1:=ifp_ H
      clear H;have H:=H1;clear H1;obtain⟨aK,A29,H⟩:=be_ H;(try dsimp only at H);obtain⟨aM,A30,H⟩:=be_ H;(try dsimp only at H);replace H:=Option.bind_eq_some_iff.mp H;obtain⟨⟨bn,bo⟩,A310,H⟩:=H;replace H:(some (bn,bo))=some (r1,r2):=H;have A31:=am_ A310;clear A310;simp only [Option.some.injEq,Prod.mk.injEq]at H;obtain⟨rfl,rfl⟩:=H;have cD:=ap.out;have cT:=ay.out;have cF:=af.out;have cU:=ah.out;obtain⟨br,bu,bP,bQ⟩:=cz2_ aa
      try go_wp2_with (first|((with_reducible refine gate_callee (f:=64) rfl ?_);refine gl_ 17 Tryd.func64 #[.agg #[.int .i64 aj,.int .i64 ak]] (h:=?_);(with_reducible refine(spec_l06Is.calls aj ak true _ A25.out).mono ?_);rintro e dl ⟨rfl,hb⟩;refine⟨_,rfl,?_⟩;replace aa:=bb_ aa hb;replace ac:=bb_ ac hb;replace ae:=bb_ ae hb;replace HB:=hb3_ HB hb ai au ao;(try clear hb);have cG:=ag.out;have cV:=aq.out;obtain⟨bw,bx,bR,bS⟩:=cz2_ ac)|((with_reducible refine gate_callee (f:=64) rfl ?_);refine gl_ 22 Tryd.func64 #[.agg #[.int .i64 aw,.int .i64 ax]] (h:=?_);(with_reducible refine(spec_l06Is.calls aw ax true _ A27.out).mono ?_);rintro e df ⟨rfl,hb⟩;refine⟨_,rfl,?_⟩;replace aa:=bb_ aa hb;replace ac:=bb_ ac hb;replace ae:=bb_ ae hb;replace HB:=hb3_ HB hb ai au ao;(try clear hb)))
      replace aa:=bd_ aa;replace ac:=bd_ ac;replace ae:=bd_ ae;replace HB:=hd_ HB;refine start_ (n:=12) (S:=fun w'=>w'.cell? ⟨aH,0,none⟩=some (.int .i64 aj)∧w'.cell? ⟨aH,1,none⟩=some (.int .i64 ak)∧w'.cell? ⟨aI,0,none⟩=some (.int .i64 aw)∧w'.cell? ⟨aI,1,none⟩=some (.int .i64 ax)) (ds:=[]) #[false,false,false,false,false,false,false,false,false,false,false,false] (by kernel_rfl) rfl rfl ⟨cl_ aa 0,cl_ aa 1,cl_ ac 0,cl_ ac 1⟩ (fun hHeld=>?_);refine with_tabW spec_RangeJoin.tab7 spec_RangeJoin.bits7 (fun HT_ HW_=>?_);generalize df.drew=dn at aa ac ae HB hHeld ⊢;refine py_ HT_ 0 25 ?_
      refine py_ HT_ 2 27 ?_
      refine py_ HT_ 5 30 ?_
      refine py_ HT_ 7 32 ?_
      refine ty_ HT_ HW_ 1 26 rfl hHeld (by rintro w' ⟨s0,s1,s2,s3⟩;go_simp;with_reducible rfl) ?_
      refine ty_ HT_ HW_ 3 28 rfl hHeld (by rintro w' ⟨s0,s1,s2,s3⟩;go_simp;with_reducible rfl) ?_
      refine ty_ HT_ HW_ 6 31 rfl hHeld (by rintro w' ⟨s0,s1,s2,s3⟩;go_simp;with_reducible rfl) ?_
      refine ty_ HT_ HW_ 8 33 rfl hHeld (by rintro w' ⟨s0,s1,s2,s3⟩;go_simp;with_reducible rfl) ?_
      refine oy_ HT_ 4 (some 29) (fun K hK=>?_);refine gs_ Tryd.func81 #[.int .i64 aj,.int .i64 aw] (h:=?_);with_reducible refine(spec_l06Min.calls aj aw aK _ A29.out).mono ?_
      rintro e w' ⟨rfl,⟨nd,rfl⟩⟩;refine⟨_,rfl,?_⟩;refine hK.out _ _ ⟨cl_ aa 0,cl_ aa 1,cl_ ac 0,cl_ ac 1⟩ (fun hHeld=>?_);clear hK K;refine norm_y 29 (h:=?_)
      refine oy_ HT_ 9 (some 34) (fun K hK=>?_);refine gs_ Tryd.func82 #[.int .i64 ak,.int .i64 ax] (h:=?_);with_reducible refine(spec_l06Max.calls ak ax aM _ A30.out).mono ?_
      rintro e w' ⟨rfl,⟨nd,rfl⟩⟩;refine⟨_,rfl,?_⟩;refine hK.out _ _ ⟨cl_ aa 0,cl_ aa 1,cl_ ac 0,cl_ ac 1⟩ (fun hHeld=>?_);clear hK K;refine norm_y 34 (h:=?_)
      refine oy_ HT_ 10 (some 35) (fun K hK=>?_);refine gs_ Tryd.func80 #[.int .i64 aK,.int .i64 aM] (h:=?_);with_reducible refine(spec_l06Make.calls aK aM bn bo _ A31.out).mono ?_
      rintro e dc ⟨rfl,hb⟩;refine⟨_,rfl,?_⟩;replace aa:=bb_ aa hb;replace ac:=bb_ ac hb;replace ae:=bb_ ae hb;replace HB:=hb3_ HB hb ai au ao
      (try clear hb)
      (try clear hb2)
      (try clear hk)
      (try clear hi)
      refine hK.out _ _ ⟨cl_ aa 0,cl_ aa 1,cl_ ac 0,cl_ ac 1⟩ (fun hHeld=>?_);clear hK K;refine norm_y 35 (h:=?_)
      refine oy_ HT_ 11 none (fun K hK=>?_);have dd:dc.cell? ⟨ar,0,none⟩=some (.int .i64 0):=(blk_cell ae.out 0).trans rfl;have cr:=blk_frozen ae.out 0;have cg:=af.out;have ch:=ag.out;have ca:=ah.out;have cb:=aq.out;have de:dc.cell? ⟨ar,1,none⟩=some (.int .i64 0):=(blk_cell ae.out 1).trans rfl;have cx:=blk_frozen ae.out 1;have cj:=af.out;have ck:=ag.out;have cd:=ah.out;have cf:=aq.out;refine skip_ (w1:=?_) (by rfl) rfl ?_ ?_;rotate_left
      ·
       go_simp;rfl
      refine hK.out _ _ ⟨((cell_far (p:=⟨ar,_,none⟩) af.out _).trans (((cell_far (p:=⟨ar,_,none⟩) af.out _).trans (hHeld.1)))),((cell_far (p:=⟨ar,_,none⟩) af.out _).trans (((cell_far (p:=⟨ar,_,none⟩) af.out _).trans (hHeld.2.1)))),((cell_far (p:=⟨ar,_,none⟩) ag.out _).trans (((cell_far (p:=⟨ar,_,none⟩) ag.out _).trans (hHeld.2.2.1)))),((cell_far (p:=⟨ar,_,none⟩) ag.out _).trans (((cell_far (p:=⟨ar,_,none⟩) ag.out _).trans (hHeld.2.2.2))))⟩ (fun hHeld=>?_);clear hK K;refine done_ (done_of HT_.out (by kernel_rfl)) ?_
      try go_wp2
      refine bodyPost_ret (results_cell_row rfl _ _ ar 58 #[.int .i64 bn,.int .i64 bo] (0,0) _ rfl (bp_ ae) Tryd.underlying58 rfl (by kernel_rfl)) rfl ?_;exact⟨lf_,sq_below3 HB.out ai.out au.out ao.out⟩
     ·
      replace c28:=Bool.eq_false_iff.mpr c28;subst c28;have H1:=ifn_ H
      clear H;have H:=H1;clear H1;simp only [Option.some.injEq,Prod.mk.injEq]at H;obtain⟨rfl,rfl⟩:=H;have cH:=ap.out;have cW:=ay.out;have cI:=af.out;have cX:=ah.out;obtain⟨bz,bA,bT,bU⟩:=cz2_ aa
      go_wp2_with (first|((with_reducible refine gate_callee (f:=64) rfl ?_);refine gl_ 17 Tryd.func64 #[.agg #[.int .i64 aj,.int .i64 ak]] (h:=?_);(with_reducible refine(spec_l06Is.calls aj ak true _ A25.out).mono ?_);rintro e dp ⟨rfl,hb⟩;refine⟨_,rfl,?_⟩;replace aa:=bb_ aa hb;replace ac:=bb_ ac hb;replace ae:=bb_ ae hb;replace HB:=hb3_ HB hb ai au ao;(try clear hb);have cJ:=ag.out;have cY:=aq.out;obtain⟨bB,bC,bV,bW⟩:=cz2_ ac)|((with_reducible refine gate_callee (f:=64) rfl ?_);refine gl_ 22 Tryd.func64 #[.agg #[.int .i64 aw,.int .i64 ax]] (h:=?_);(with_reducible refine(spec_l06Is.calls aw ax false _ A27.out).mono ?_);rintro e dq ⟨rfl,hb⟩;refine⟨_,rfl,?_⟩;replace aa:=bb_ aa hb;replace ae:=bb_ ae hb;replace HB:=hb2_ HB hb ai ao;(try clear hb);obtain⟨bD,bE,bX,bY⟩:=cz2_ aa;obtain⟨bF,bG,bZ,b3⟩:=cz2_ ae))
      refine bodyPost_ret (results_cell_row rfl _ _ ar 58 #[.int .i64 aj,.int .i64 ak] (0,0) _ rfl (bp_ ae) Tryd.underlying58 rfl (by kernel_rfl)) rfl ?_;exact⟨lf_,sq_below1 HB.out ao.out⟩
    ·
     replace c26:=Bool.eq_false_iff.mpr c26;subst c26;have H1:=ifn_ H
     clear H;have H:=H1;clear H1;simp only [Option.some.injEq,Prod.mk.injEq]at H;obtain⟨rfl,rfl⟩:=H;have cK:=ap.out;have cZ:=ay.out;have cM:=af.out;have da:=ah.out;obtain⟨bH,bI,b4,b5⟩:=cz2_ aa
     go_wp2_with (first|((with_reducible refine gate_callee (f:=64) rfl ?_);refine gl_ 17 Tryd.func64 #[.agg #[.int .i64 aj,.int .i64 ak]] (h:=?_);(with_reducible refine(spec_l06Is.calls aj ak false _ A25.out).mono ?_);rintro e dr ⟨rfl,hb⟩;refine⟨_,rfl,?_⟩;replace ac:=bb_ ac hb;replace ae:=bb_ ae hb;replace HB:=hb2_ HB hb au ao;(try clear hb);have cN:=ag.out;have db:=aq.out;obtain⟨bJ,bK,b6,b7⟩:=cz2_ ac;obtain⟨bL,bM,b8,b9⟩:=cz2_ ae))
     refine bodyPost_ret (results_cell_row rfl _ _ ar 58 #[.int .i64 aw,.int .i64 ax] (0,0) _ rfl (bp_ ae) Tryd.underlying58 rfl (by kernel_rfl)) rfl ?_;exact⟨lf_,sq_below1 HB.out ao.out⟩
end Go.Proofs.YtcdeojfeebmonaaDoor.Q
