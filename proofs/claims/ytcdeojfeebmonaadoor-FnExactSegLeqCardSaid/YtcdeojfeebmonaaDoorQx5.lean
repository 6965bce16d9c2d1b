/- Functions of the translation as Lean functions, each with a proof that a call answers so; out of the seat, by this claim's own program prt.py. -/
import Derived.Test.YtcdeojfeebmonaaDoorWTab
import Derived.Test.YtcdeojfeebmonaaDoorWRepsOne
import Derived.Test.YtcdeojfeebmonaaDoorQx0
import Derived.Test.YtcdeojfeebmonaaDoorQx3
import Derived.Test.YtcdeojfeebmonaaDoorQx4
import Derived.Test.YtcdeojfeebmonaaDoorQStep3
namespace Go.Proofs.YtcdeojfeebmonaaDoor.Q
open Go.RowKit Go.Proofs.YtcdeojfeebmonaaDoorW.PrintWords Go.Proofs.YtcdeojfeebmonaaDoorW.PrintLast Go.Proofs.YtcdeojfeebmonaaDoorW.PrintMore
attribute [local go_sem] max2_int min2_int max_two min_two max_three min_three max_four min_four
set_option linter.unusedVariables false
set_option maxHeartbeats 8000000
set_option maxRecDepth 100000
set_option linter.unusedSimpArgs false
def spec_l10In.l0:Nat→Int→List (List (S53))→List (S60)→List Bool→Int→Int→Option (Int)
 |0,_,_,_,_,_,_=>none
 |k+1,x5,aA,aZ,a8,aK,aM=>if x5<(aA.length:Int)then(if 0≤x5 then((spec_l10Find.f k (rd_L7 aA x5) aK aM).bind fun aJ=>(if aJ≥0 then(some x5)else(spec_l10In.l0 k (wrap64 (x5+1)) aA aZ a8 aK aM)))else(none))else(some (-1))
def spec_l10In.f(k:Nat)(af:List (List (S53)))(aq:List (S60))(ar:List Bool)(aj:Int)(ak:Int):Option (Int):=spec_l10In.l0 k 0 af aq ar aj ak
theorem spec_l10In.mono_l:∀ k,(∀ y0 y1 y2 y3 y4 y5,LeO (spec_l10In.l0 k y0 y1 y2 y3 y4 y5) (spec_l10In.l0 (k+1) y0 y1 y2 y3 y4 y5))
 |0=>fun _ _ _ _ _ _ r h=>by simp [spec_l10In.l0]at h
 |k+1=>by
  have ih0:=spec_l10In.mono_l k
  ·
   intro y0 y1 y2 y3 y4 y5;unfold spec_l10In.l0
   repeat' first
   |(with_reducible exact ih0 _ _ _ _ _ _)|(with_reducible exact spec_l10Find.mono _ _ _ _)|(with_reducible exact LeO.refl _)|(with_reducible exact LeO.none _)|(with_reducible refine LeO.ite ?_ ?_)|(with_reducible refine LeO.bind ?_ fun _=>?_)|exact ih0 _ _ _ _ _ _|exact spec_l10Find.mono _ _ _ _|exact LeO.none _|refine LeO.ite ?_ ?_|refine LeO.bind ?_ fun _=>?_
theorem spec_l10In.mono:∀ a0 a1 a2 a3 a4 k,LeO (spec_l10In.f k a0 a1 a2 a3 a4) (spec_l10In.f (k+1) a0 a1 a2 a3 a4):=by
 intro a0 a1 a2 a3 a4 k;have ih0:=spec_l10In.mono_l k;unfold spec_l10In.f
 repeat' first
   |(with_reducible exact ih0 _ _ _ _ _ _)|(with_reducible exact spec_l10Find.mono _ _ _ _)|(with_reducible exact LeO.refl _)|(with_reducible exact LeO.none _)|(with_reducible refine LeO.ite ?_ ?_)|(with_reducible refine LeO.bind ?_ fun _=>?_)|exact ih0 _ _ _ _ _ _|exact spec_l10Find.mono _ _ _ _|exact LeO.none _|refine LeO.ite ?_ ?_|refine LeO.bind ?_ fun _=>?_
def spec_l10In.T4:Bool×List (List Nat×List Nat):=(true,[([],[]),([0],[0]),([],[]),([1,2],[1,2]),([3],[3]),([],[]),([4,5],[4,5]),([6],[6])])
def spec_l10In.B4:List Nat:=[0,1,0,7,15,0,63,127]
theorem spec_l10In.tab4:rtab .any (opsOf Tryd.f26 4)=spec_l10In.T4:=by kernel_rfl
theorem spec_l10In.bits4:waitsOk spec_l10In.T4.2 spec_l10In.B4=true:=by kernel_rfl
theorem spec_l10In.calls(k:Nat)(aY:Option Addr)(aT:Nat)(af:List (List (S53)))(aN:Option Addr)(aU:Nat)(aq:List (S60))(aQ:Option Addr)(aV:Nat)(ar:List Bool)(aj:Int)(ak:Int)(r:Int)(w:World)(bg:Kd.C (Kd.slice 53 k53) w aY af.length af)(ba:af.length≤aT)(bh:Kd.C k60 w aN aq.length aq)(bc:aq.length≤aU)(bi:Kd.C Kd.bool w aQ ar.length ar)(bf:ar.length≤aV)(h:spec_l10In.f k af aq ar aj ak=some r) :
  Calls Tryd.prog 26 #[.agg #[.slice aY af.length aT,.slice aN aq.length aU,.slice aQ ar.length aV],.agg #[.int .i64 aj,.int .i64 ak]] w fun e w'=>e=.returned (.int .i64 r)∧Below w.heap.size w w':=by
 have hu32:=Tryd.underlying32;have hu53:=Tryd.underlying53;have a9:=am_ bg;have bM:=am_ ba;clear bg ba;have bP:=am_ bh;have bN:=am_ bc;clear bh bc;have bQ:=am_ bi;have bO:=am_ bf;clear bi bf;have HB:=am_ (Below.refl w.heap.size w);have H:(spec_l10In.l0 k 0 af aq ar aj ak)=some r:=h;clear h;have H':=am_ H;clear H
 go_enter Tryd.func26,Tryd.ntmps26
 go_wp2_with (first|((with_reducible refine gate_dst (N:=2) rfl ?_);refine box_y 2 #[.slice aY af.length aT,.slice aN aq.length aU,.slice aQ ar.length aV] 32 (h:=?_);intro ax hg w3 hbox hb;have aa:=am_ hbox;have bK:=gz_ hg HB;have ah:=gz_ hg HB;replace HB:=hb_ HB hb;clear hb hbox hg)|((with_reducible refine gate_dst (N:=3) rfl ?_);refine box_y 3 #[.int .i64 aj,.int .i64 ak] 53 (h:=?_);intro aG hg w4 hbox hb;have ac:=am_ hbox;have bL:=gz1_ hg HB ah;have aC:=gz1_ hg HB ah;replace HB:=hb1_ HB hb ah;have ap:=nb_ hg aa;replace aa:=bb_ aa hb;have ay:=ns_ ap;clear hb hbox hg))
 go_loopg [5] k (fun kq v5 w'=>∃ (ag:Int),v5=.int .i64 ag∧Aside0 (spec_l10In.l0 kq ag af aq ar aj ak=some r)∧Aside0 (kq≤k)∧Aside0 (w'.heap[ax]?=some (.cells #[(.slice aY af.length aT),(.slice aN aq.length aU),(.slice aQ ar.length aV)] 32 (0,0)))∧Aside0 (w'.heap[aG]?=some (.cells #[.int .i64 aj,.int .i64 ak] 53 (0,0)))∧Aside0 (Below w.heap.size w w'))
 case atStart=>exact⟨(0),sr_,H',⟨Nat.le_refl _⟩,bk_ aa,bk_ ac,⟨sq_below2 HB.out ah.out aC.out⟩⟩
 case round =>
  clear H'
  obtain⟨ag,rfl,HA,HK1,aa,ac,HB⟩:=hrel;cases gk with
  |zero=>exact absurd HA.out (by simp [spec_l10In.l0])
  |succ k1 =>
   have H:=HA.out;clear HA;simp only [spec_l10In.l0]at H
   by_cases c5:ag<(af.length:Int)
   ·
    rw [if_pos c5]at H;have bI:=decide_eq_true (p:=ag<(af.length:Int)) c5;clear c5
    by_cases c6:0≤ag
    ·
     rw [if_pos c6]at H;have bT:=decide_eq_true (p:=0≤ag) c6;clear c6;obtain⟨aJ,A7,H⟩:=be_ H;(try dsimp only at H)
     by_cases c8:aJ≥0
     ·
      rw [if_pos c8]at H;have bJ:=decide_eq_true (p:=0≤aJ) c8;clear c8;obtain rfl:=Option.some.inj H;have bU:=ap.out;have bV:=ay.out;obtain⟨bk,bn,bo,bz,bA,bB⟩:=cz3_ aa
      try go_wp2
      replace aa:=bd_ aa;replace ac:=bd_ ac;replace HB:=hd_ HB;have aH:0≤(ag:Int):=sq_dec;have aI:ag<(af.length:Int):=sq_dec;obtain⟨aD,au,aw,bj,ae,hl119_0,hi119_0⟩:=at_L7 a9.out ag aH aI;have ao:=ae;cases bj;replace ae:=cb_ HB ae;have ai:=am_ hi119_0;have az:=am_ hl119_0;clear hi119_0 hl119_0;replace aH:=eq_true aH;replace aI:=eq_true aI;refine start_ (n:=8) (S:=fun w'=>w'.cell? ⟨ax,0,none⟩=some (.slice (some aD) af.length aT)∧w'.cell? ⟨ax,1,none⟩=some (.slice aN aq.length aU)∧w'.cell? ⟨ax,2,none⟩=some (.slice aQ ar.length aV)∧w'.cell? ⟨aG,0,none⟩=some (.int .i64 aj)∧w'.cell? ⟨aG,1,none⟩=some (.int .i64 ak)∧w'.cell? (aD.add (ag).toNat)=some (.slice au (rd_L7 af ag).length aw)) (ds:=[]) #[false,false,false,false,false,false,false,false] (by kernel_rfl) rfl rfl ⟨cl_ aa 0,cl_ aa 1,cl_ aa 2,cl_ ac 0,cl_ ac 1,(cb_ HB ao)⟩ (fun hHeld=>?_);refine with_tabW spec_l10In.tab4 spec_l10In.bits4 (fun HT_ HW_=>?_);generalize wr.drew=bW at aa ac HB ai ae hHeld ⊢;refine py_ HT_ 0 13 ?_
      refine py_ HT_ 2 15 ?_
      refine ty_ HT_ HW_ 1 14 rfl hHeld (by rintro w' ⟨s0,s1,s2,s3,s4,s5⟩;go_simp;with_reducible rfl) ?_
      refine py_ HT_ 3 16 ?_
      refine ty_ HT_ HW_ 4 17 rfl hHeld (by rintro w' ⟨s0,s1,s2,s3,s4,s5⟩;go_simp;with_reducible rfl) ?_
      refine ty_ HT_ HW_ 5 18 rfl hHeld (by rintro w' ⟨s0,s1,s2,s3,s4,s5⟩;go_simp;with_reducible rfl) ?_
      refine oy_ HT_ 6 (some 19) (fun K hK=>?_);refine gs_ Tryd.func41 #[.slice au (rd_L7 af ag).length aw,.agg #[.int .i64 aj,.int .i64 ak]] (h:=?_);with_reducible refine(spec_l10Find.calls k1 _ _ (rd_L7 af ag) aj ak aJ _ ?aW ?aX A7.out).mono ?_
      (case aW=>exact sq_c (Kd.C_below ai.out HB.out))
      (case aX=>exact az.out)
      rintro e bX ⟨rfl,hb⟩;refine⟨_,rfl,?_⟩;replace aa:=bb_ aa hb;replace ac:=bb_ ac hb;replace HB:=hb2_ HB hb ah aC
      (try clear hb)
      (try clear hb2)
      (try clear hk)
      (try clear hi)
      refine hK.out _ _ ⟨cl_ aa 0,cl_ aa 1,cl_ aa 2,cl_ ac 0,cl_ ac 1,(cb_ HB ao)⟩ (fun hHeld=>?_);clear hK K;refine norm_y 19 (h:=?_)
      refine py_ HT_ 7 20 ?_
      refine done_ (done_of HT_.out (by kernel_rfl)) ?_
      try go_wp2
      go_ret
      exact⟨lf_,sq_below2 HB.out ah.out aC.out⟩
     ·
      rw [if_neg c8]at H;have bJ:=decide_eq_false (p:=0≤aJ) c8;clear c8;have H':=am_ H;clear H;have bR:=ap.out;have bS:=ay.out;obtain⟨bp,bq,br,bC,bD,bE⟩:=cz3_ aa
      try go_wp2
      replace aa:=bd_ aa;replace ac:=bd_ ac;replace HB:=hd_ HB;have aH:0≤(ag:Int):=sq_dec;have aI:ag<(af.length:Int):=sq_dec;obtain⟨aD,au,aw,bj,ae,hl119_0,hi119_0⟩:=at_L7 a9.out ag aH aI;have ao:=ae;cases bj;replace ae:=cb_ HB ae;have ai:=am_ hi119_0;have az:=am_ hl119_0;clear hi119_0 hl119_0;replace aH:=eq_true aH;replace aI:=eq_true aI;refine start_ (n:=8) (S:=fun w'=>w'.cell? ⟨ax,0,none⟩=some (.slice (some aD) af.length aT)∧w'.cell? ⟨ax,1,none⟩=some (.slice aN aq.length aU)∧w'.cell? ⟨ax,2,none⟩=some (.slice aQ ar.length aV)∧w'.cell? ⟨aG,0,none⟩=some (.int .i64 aj)∧w'.cell? ⟨aG,1,none⟩=some (.int .i64 ak)∧w'.cell? (aD.add (ag).toNat)=some (.slice au (rd_L7 af ag).length aw)) (ds:=[]) #[false,false,false,false,false,false,false,false] (by kernel_rfl) rfl rfl ⟨cl_ aa 0,cl_ aa 1,cl_ aa 2,cl_ ac 0,cl_ ac 1,(cb_ HB ao)⟩ (fun hHeld=>?_);refine with_tabW spec_l10In.tab4 spec_l10In.bits4 (fun HT_ HW_=>?_);generalize wr.drew=bY at aa ac HB ai ae hHeld ⊢;refine py_ HT_ 0 13 ?_
      refine py_ HT_ 2 15 ?_
      refine ty_ HT_ HW_ 1 14 rfl hHeld (by rintro w' ⟨s0,s1,s2,s3,s4,s5⟩;go_simp;with_reducible rfl) ?_
      refine py_ HT_ 3 16 ?_
      refine ty_ HT_ HW_ 4 17 rfl hHeld (by rintro w' ⟨s0,s1,s2,s3,s4,s5⟩;go_simp;with_reducible rfl) ?_
      refine ty_ HT_ HW_ 5 18 rfl hHeld (by rintro w' ⟨s0,s1,s2,s3,s4,s5⟩;go_simp;with_reducible rfl) ?_
      refine oy_ HT_ 6 (some 19) (fun K hK=>?_);refine gs_ Tryd.func41 #[.slice au (rd_L7 af ag).length aw,.agg #[.int .i64 aj,.int .i64 ak]] (h:=?_);with_reducible refine(spec_l10Find.calls k1 _ _ (rd_L7 af ag) aj ak aJ _ ?aW ?aX A7.out).mono ?_
      (case aW=>exact sq_c (Kd.C_below ai.out HB.out))
      (case aX=>exact az.out)
      rintro e bZ ⟨rfl,hb⟩;refine⟨_,rfl,?_⟩;replace aa:=bb_ aa hb;replace ac:=bb_ ac hb;replace HB:=hb2_ HB hb ah aC
      (try clear hb)
      (try clear hb2)
      (try clear hk)
      (try clear hi)
      refine hK.out _ _ ⟨cl_ aa 0,cl_ aa 1,cl_ aa 2,cl_ ac 0,cl_ ac 1,(cb_ HB ao)⟩ (fun hHeld=>?_);clear hK K;refine norm_y 19 (h:=?_)
      refine py_ HT_ 7 20 ?_
      refine done_ (done_of HT_.out (by kernel_rfl)) ?_
      try go_wp2
      go_roundg k1
      case measure=>have:=HK1.out;omega
      case rel=>exact⟨(wrap64 (ag+1)),sr_,H',⟨by have:=HK1.out;omega⟩,bk_ aa,bk_ ac,⟨sq_below2 HB.out ah.out aC.out⟩⟩
    ·
     rw [if_neg c6]at H;exact absurd H (by simp)
   ·
    rw [if_neg c5]at H;have bI:=decide_eq_false (p:=ag<(af.length:Int)) c5;clear c5;obtain rfl:=Option.some.inj H;obtain⟨bu,bw,bx,bF,bG,bH⟩:=cz3_ aa
    go_wp2
    go_ret
    exact⟨lf_,sq_below1 HB.out ah.out⟩
def spec_l06Is.f(aa:Int)(ac:Int):Option (Bool):=some (decide (aa≤ac))
theorem spec_l06Is.calls(aa:Int)(ac:Int)(r:Bool)(w:World)(h:spec_l06Is.f aa ac=some r) :
  Calls Tryd.prog 64 #[.agg #[.int .i64 aa,.int .i64 ac]] w fun e w'=>e=.returned (.bool r)∧Below w.heap.size w w':=by
 have hu58:=Tryd.underlying58;have HB:=am_ (Below.refl w.heap.size w);have H:(some (decide (aa≤ac)))=some r:=h;clear h;obtain rfl:=Option.some.inj H
 go_enter Tryd.func64,Tryd.ntmps64
 go_wp2_with (first|((with_reducible refine gate_dst (N:=1) rfl ?_);refine box_y 1 #[.int .i64 aa,.int .i64 ac] 58 (h:=?_);intro ao hg w2 hbox hb;have ae:=am_ hbox;have ak:=gz_ hg HB;have af:=gz_ hg HB;replace HB:=hb_ HB hb;clear hb hbox hg;obtain⟨ag,ah,ai,aj⟩:=cz2_ ae))
 go_ret
 exact⟨lf_,sq_below1 HB.out af.out⟩
def spec_l05Val.f(a0:Int):Option (Bool):=(spec_l01Between.f a0 (-1000000) 1000000).bind fun aa=>(some aa)
theorem spec_l05Val.calls(a0:Int)(r:Bool)(w:World)(h:spec_l05Val.f a0=some r) :
  Calls Tryd.prog 65 #[.int .i64 a0] w fun e w'=>e=.returned (.bool r)∧Drawn0 w w':=by
 have H:((spec_l01Between.f a0 (-1000000) 1000000).bind fun aa=>(some aa))=some r:=h;clear h;replace H:=Option.bind_eq_some_iff.mp H;obtain⟨aa,A20,H⟩:=H;replace H:(some aa)=some r:=H;have A2:=am_ A20;clear A20;obtain rfl:=Option.some.inj H
 go_enter Tryd.func65,Tryd.ntmps65
 go_wp2_with (first|((with_reducible refine gate_callee (f:=40) rfl ?_);refine gl_ 4 Tryd.func40 #[.int .i64 a0,.int .i64 (-1000000),.int .i64 1000000] (h:=?_);(with_reducible refine(spec_l01Between.calls a0 (-1000000) 1000000 aa _ A2.out).mono ?_);rintro e w' ⟨rfl,⟨nd,rfl⟩⟩;refine⟨_,rfl,?_⟩))
 go_ret
 exact⟨by first|rfl|(simp;done)|(simp [*];done),by repeat(first|exact Drawn0.refl _|apply Drawn0.step)⟩
end Go.Proofs.YtcdeojfeebmonaaDoor.Q
