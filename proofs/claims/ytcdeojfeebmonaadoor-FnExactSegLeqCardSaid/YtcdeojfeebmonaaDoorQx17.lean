/- Functions of the translation as Lean functions, each with a proof that a call answers so; out of the seat, by this claim's own program prt.py. -/
import Derived.Test.YtcdeojfeebmonaaDoorWRepsOne
import Derived.Test.YtcdeojfeebmonaaDoorQx0
import Derived.Test.YtcdeojfeebmonaaDoorQx16
import Derived.Test.YtcdeojfeebmonaaDoorQStep3
namespace Go.Proofs.YtcdeojfeebmonaaDoor.Q
open Go.RowKit Go.Proofs.YtcdeojfeebmonaaDoorW.PrintWords Go.Proofs.YtcdeojfeebmonaaDoorW.PrintLast Go.Proofs.YtcdeojfeebmonaaDoorW.PrintMore
attribute [local go_sem] max2_int min2_int max_two min_two max_three min_three max_four min_four
set_option linter.unusedVariables false
set_option maxHeartbeats 8000000
set_option maxRecDepth 100000
set_option linter.unusedSimpArgs false
def laws_toRange.f(ai:Int)(aj:Int):Option (Int×Int):=some (ai,aj)
theorem laws_toRange.calls(ai:Int)(aj:Int)(r1:Int)(r2:Int)(w:World)(h:laws_toRange.f ai aj=some (r1,r2)) :
  Calls Tryd.prog 47 #[.agg #[.int .i64 ai,.int .i64 aj]] w fun e w'=>e=.returned (.agg #[.int .i64 r1,.int .i64 r2])∧Below w.heap.size w w':=by
 have hu66:=Tryd.underlying66;have hu58:=Tryd.underlying58;have HB:=am_ (Below.refl w.heap.size w);have H:(some (ai,aj))=some (r1,r2):=h;clear h;simp only [Option.some.injEq,Prod.mk.injEq]at H;obtain⟨rfl,rfl⟩:=H
 go_enter Tryd.func47,Tryd.ntmps47
 go_wp2_with (first|((with_reducible refine gate_dst (N:=1) rfl ?_);refine box_y 1 #[.int .i64 ai,.int .i64 aj] 66 (h:=?_);intro aU hg w2 hbox hb;have ac:=am_ hbox;have aN:=gz_ hg HB;have ae:=gz_ hg HB;replace HB:=hb_ HB hb;clear hb hbox hg)|((with_reducible refine gate_dst (N:=2) rfl ?_);refine box_y 2 #[.int .i64 0,.int .i64 0] 58 (h:=?_);intro aw hg w3 hbox hb;have ah:=am_ hbox;have aQ:=gz1_ hg HB ae;have ak:=gz1_ hg HB ae;replace HB:=hb1_ HB hb ae;have af:=nb_ hg ac;replace ac:=bb_ ac hb;have ao:=ns_ af;clear hb hbox hg)|((with_reducible refine gate_dst (N:=3) rfl ?_);refine box_y 3 #[.int .i64 0,.int .i64 0] 58 (h:=?_);intro aV hg w4 hbox hb;have ar:=am_ hbox;have aT:=gz2_ hg HB ae ak;have au:=gz2_ hg HB ae ak;replace HB:=hb2_ HB hb ae ak;have ag:=nb_ hg ac;replace ac:=bb_ ac hb;have ap:=ns_ ag;have aa:=nb_ hg ah;replace ah:=bb_ ah hb;have aq:=ns_ aa;clear hb hbox hg;have aW:=af.out;have aZ:=ao.out;have aX:=ag.out;have a8:=ap.out;obtain⟨aC,aD,aI,aJ⟩:=cz2_ ac;have aY:=aq.out;have a9:=aa.out;obtain⟨aG,aH,aK,aM⟩:=cz2_ ar;obtain⟨ax,ay,az,aA⟩:=cz2_ ah))
 refine bodyPost_ret (results_cell_row rfl _ _ aw 58 #[.int .i64 ai,.int .i64 aj] (0,0) _ rfl (bp1_ ah aa) Tryd.underlying58 rfl (by kernel_rfl)) rfl ?_;exact⟨lf_,sq_below2 HB.out ak.out au.out⟩
def laws_toVal.f(aj:Int)(ak:Int)(ao:Bool):Option (Int×Int×Bool):=(laws_toRange.f aj ak).bind fun ap=>(some (ap.1,ap.2,ao))
theorem laws_toVal.calls(aj:Int)(ak:Int)(ao:Bool)(r1:Int)(r2:Int)(r3:Bool)(w:World)(h:laws_toVal.f aj ak ao=some (r1,r2,r3)) :
  Calls Tryd.prog 31 #[.agg #[.int .i64 aj,.int .i64 ak,.bool ao]] w fun e w'=>e=.returned (.agg #[.int .i64 r1,.int .i64 r2,.bool r3])∧Below w.heap.size w w':=by
 have hu68:=Tryd.underlying68;have hu60:=Tryd.underlying60;have hu66:=Tryd.underlying66;have hu58:=Tryd.underlying58;have HB:=am_ (Below.refl w.heap.size w);have H:((laws_toRange.f aj ak).bind fun ap=>(some (ap.1,ap.2,ao)))=some (r1,r2,r3):=h;clear h;replace H:=Option.bind_eq_some_iff.mp H;obtain⟨⟨ay,az⟩,A20,H⟩:=H;replace H:(some (ay,az,ao))=some (r1,r2,r3):=H;have A2:=am_ A20;clear A20;simp only [Option.some.injEq,Prod.mk.injEq]at H;obtain⟨rfl,rfl,rfl⟩:=H
 go_enter Tryd.func31,Tryd.ntmps31
 go_wp2_with (first|((with_reducible refine gate_dst (N:=1) rfl ?_);refine box_y 1 #[.int .i64 aj,.int .i64 ak,.bool ao] 68 (h:=?_);intro bn hg w3 hbox hb;have aa:=am_ hbox;have bi:=gz_ hg HB;have af:=gz_ hg HB;replace HB:=hb_ HB hb;clear hb hbox hg)|((with_reducible refine gate_dst (N:=2) rfl ?_);refine box_y 2 #[.int .i64 0,.int .i64 0,.bool false] 60 (h:=?_);intro aA hg w4 hbox hb;have ae:=am_ hbox;have bj:=gz1_ hg HB af;have ai:=gz1_ hg HB af;replace HB:=hb1_ HB hb af;have ag:=nb_ hg aa;replace aa:=bb_ aa hb;have aq:=ns_ ag;clear hb hbox hg)|((with_reducible refine gate_dst (N:=3) rfl ?_);refine box_y 3 #[.int .i64 0,.int .i64 0,.bool false] 60 (h:=?_);intro bo hg w5 hbox hb;have aw:=am_ hbox;have bk:=gz2_ hg HB af ai;have ax:=gz2_ hg HB af ai;replace HB:=hb2_ HB hb af ai;have ah:=nb_ hg aa;replace aa:=bb_ aa hb;have ar:=ns_ ah;have ac:=nb_ hg ae;replace ae:=bb_ ae hb;have au:=ns_ ac;clear hb hbox hg;have br:=ag.out;have bw:=aq.out;have bu:=ah.out;have bx:=ar.out;obtain⟨a9,ba,bc,bf,bg,bh⟩:=cz3_ aa)|((with_reducible refine gate_callee (f:=47) rfl ?_);refine gl_ 6 Tryd.func47 #[.agg #[.int .i64 aj,.int .i64 ak]] (h:=?_);(with_reducible refine(laws_toRange.calls aj ak ay az _ A2.out).mono ?_);rintro e w9 ⟨rfl,hb⟩;refine⟨_,rfl,?_⟩;replace aa:=bb_ aa hb;replace ae:=bb_ ae hb;replace aw:=bb_ aw hb;replace HB:=hb3_ HB hb af ai ax;(try clear hb);have bp:=au.out;have bq:=ac.out;obtain⟨aC,aD,aG,aQ,aT,aU⟩:=cz3_ aw;obtain⟨aH,aI,aJ,aV,aW,aX⟩:=cz3_ aa;obtain⟨aK,aM,aN,aY,aZ,a8⟩:=cz3_ ae))
 refine bodyPost_ret (results_cell_row rfl _ _ aA 60 #[.int .i64 ay,.int .i64 az,.bool ao] (0,0) _ rfl (bp1_ ae ac) Tryd.underlying60 rfl (by kernel_rfl)) rfl ?_;exact⟨lf_,sq_below2 HB.out ai.out ax.out⟩
def laws_toValS.l0:Nat→List (S68)→List (S60)→Int→Option ((List (S60)))
 |0,_,_,_=>none
 |k+1,x0,x3,x4=>if x4<(x0.length:Int)then(if 0≤x4 then((laws_toVal.f ((rd_T68 x0 x4).f0.f0) ((rd_T68 x0 x4).f0.f1) ((rd_T68 x0 x4).f1)).bind fun aq=>(if x4<(x3.length:Int)then(laws_toValS.l0 k x0 (x3.set (x4:Int).toNat (⟨(⟨aq.1,aq.2.1⟩:S58),aq.2.2⟩:S60)) (wrap64 (x4+1)))else(none)))else(none))else(some x3)
def laws_toValS.f(k:Nat)(l0:List (S68)):Option ((List (S60))):=if 0≤(l0.length:Int)then(if((l0.length:Int):Int).toNat≤11728124029610 then(laws_toValS.l0 k l0 (List.replicate ((l0.length:Int):Int).toNat z60) 0)else(none))else(none)
theorem laws_toValS.mono_l:∀ k,(∀ y0 y1 y2,LeO (laws_toValS.l0 k y0 y1 y2) (laws_toValS.l0 (k+1) y0 y1 y2))
 |0=>fun _ _ _ r h=>by simp [laws_toValS.l0]at h
 |k+1=>by
  have ih0:=laws_toValS.mono_l k
  ·
   intro y0 y1 y2;unfold laws_toValS.l0
   repeat' first
   |(with_reducible exact ih0 _ _ _)|(with_reducible exact LeO.refl _)|(with_reducible exact LeO.none _)|(with_reducible refine LeO.ite ?_ ?_)|(with_reducible refine LeO.bind ?_ fun _=>?_)|exact ih0 _ _ _|exact LeO.none _|refine LeO.ite ?_ ?_|refine LeO.bind ?_ fun _=>?_
theorem laws_toValS.mono:∀ a0 k,LeO (laws_toValS.f k a0) (laws_toValS.f (k+1) a0):=by
 intro a0 k;have ih0:=laws_toValS.mono_l k;unfold laws_toValS.f
 repeat' first
   |(with_reducible exact ih0 _ _ _)|(with_reducible exact LeO.refl _)|(with_reducible exact LeO.none _)|(with_reducible refine LeO.ite ?_ ?_)|(with_reducible refine LeO.bind ?_ fun _=>?_)|exact ih0 _ _ _|exact LeO.none _|refine LeO.ite ?_ ?_|refine LeO.bind ?_ fun _=>?_
theorem laws_toValS.calls(k:Nat)(A0:Option Addr)(c0:Nat)(l0:List (S68))(r:List (S60))(w:World)(hr0:Kd.C k68 w A0 l0.length l0)(hc0:l0.length≤c0)(h:laws_toValS.f k l0=some r) :
  Calls Tryd.prog 15 #[.slice A0 l0.length c0] w fun e w'=>∃ v0_:Value,e=.returned (v0_)∧Kd.R k60 60 w' w.heap.size (fun _=>True) v0_ r∧Below w.heap.size w w':=by
 have hu68:=Tryd.underlying68;have hu60:=Tryd.underlying60;have a9:=am_ hr0;have bf:=am_ hc0;clear hr0 hc0;have HB:=am_ (Below.refl w.heap.size w);have H:(if 0≤(l0.length:Int)then(if((l0.length:Int):Int).toNat≤11728124029610 then(laws_toValS.l0 k l0 (List.replicate ((l0.length:Int):Int).toNat z60) 0)else(none))else(none))=some r:=h;clear h
 by_cases c2:0≤(l0.length:Int)
 ·
  rw [if_pos c2]at H;have aM:=eq_true c2;have aN:=decide_eq_true (p:=0≤(l0.length:Int)) c2;clear c2
  by_cases c3:((l0.length:Int):Int).toNat≤11728124029610
  ·
   rw [if_pos c3]at H;have aQ:=eq_true c3;have aT:=decide_eq_true (p:=((l0.length:Int):Int).toNat≤11728124029610) c3;clear c3;obtain⟨aK,af⟩:∃ y_:List (S60),y_=(List.replicate ((l0.length:Int):Int).toNat z60):=⟨_,rfl⟩;replace H:(laws_toValS.l0 k l0 aK 0)=some r:=by first|(rw [af];with_reducible exact H)|(have H2_:=(Option.bind_some _ _).symm.trans H;rw [af];with_reducible exact H2_)|(have H2_:=(Option.bind_some _ _).symm.trans H;with_reducible exact H2_)|with_reducible exact H|(rw [af];exact H)|exact H
   have au:=am_ af;clear af;have H':=am_ H;clear H
   go_enter Tryd.func15,Tryd.ntmps15
   go_wp2_with (first|((with_reducible refine gate_dst (N:=7) rfl ?_);refine Kd.R_make k60 _ 60 rfl (N:=7) rfl 30 _ _ rfl (l0.length:Int) rfl rfl Tryd.underlying30 (.agg #[(.int .i64 0),(.int .i64 0),(.bool false)]) 24 info60 rfl (by decide) (by omega) z60 (ok:=fun _=>True) (okp:=fun _=>True) (k60_mkM _ _ _ z60 ) (fun _ hk=>hk) trivial (sq_dec) (Nat.le_trans (Nat.mul_le_mul_right _ (sq_dec:(l0.length:Int).toNat≤11728124029610)) (by omega)) (Below.refl _ _) (Nat.le_refl _) ?_;intro v349 w4 ho5 hb hg_ hnew_;clear hg_ hnew_;(first|rw [← au.out]at ho5|(simp only [Int.reduceToNat]at ho5;rw [← au.out]at ho5));have aD:=am_ (Kd.R_lower ho5 (below_size (sq_below HB.out)));replace HB:=hb_ HB hb;clear hb ho5))
   go_loopg [4] k (fun kq v4 w'=>∃ (ac:List (S60)) (aa:Int),v4=.int .i64 aa∧Aside0 (laws_toValS.l0 kq l0 ac aa=some r)∧Aside0 (kq≤k)∧Aside0 (Kd.R k60 60 w' w.heap.size (fun _=>True) v349 ac)∧Aside0 (Below w.heap.size w w'))
   case atStart=>exact⟨(aK),(0),sr_,H',⟨Nat.le_refl _⟩,⟨by(with_reducible repeat(first|apply Kd.R_alloc|apply Kd.R_drewN|apply Kd.R_drew));exact aD.out⟩,⟨sq_below HB.out⟩⟩
   case round =>
    clear H'
    obtain⟨ac,aa,rfl,HA,HK1,ae,HB⟩:=hrel;cases gk with
    |zero=>exact absurd HA.out (by simp [laws_toValS.l0])
    |succ k1 =>
     have H:=HA.out;clear HA;simp only [laws_toValS.l0]at H
     by_cases c6:aa<(l0.length:Int)
     ·
      rw [if_pos c6]at H;have aU:=decide_eq_true (p:=aa<(l0.length:Int)) c6;clear c6
      by_cases c7:0≤aa
      ·
       rw [if_pos c7]at H;have ba:=decide_eq_true (p:=0≤aa) c7;clear c7;replace H:=Option.bind_eq_some_iff.mp H;obtain⟨⟨ak,ao,ap⟩,A80,H⟩:=H;(try dsimp only at H);have A8:=am_ A80;clear A80
       by_cases c9:aa<(ac.length:Int)
       ·
        rw [if_pos c9]at H;have bc:=decide_eq_true (p:=aa<(ac.length:Int)) c9;clear c9;obtain⟨aC,ag⟩:∃ y_:List (S60),y_=(ac.set (aa:Int).toNat (⟨(⟨ak,ao⟩:S58),ap⟩:S60)):=⟨_,rfl⟩;replace H:(laws_toValS.l0 k1 l0 aC (wrap64 (aa+1)))=some r:=by first|(rw [ag];with_reducible exact H)|(have H2_:=(Option.bind_some _ _).symm.trans H;rw [ag];with_reducible exact H2_)|(have H2_:=(Option.bind_some _ _).symm.trans H;with_reducible exact H2_)|with_reducible exact H|(rw [ag];exact H)|exact H
        have aG:=am_ ag;clear ag;have H':=am_ H;clear H;have az:0≤(aa:Int):=sq_dec;have aA:aa<(l0.length:Int):=sq_dec;obtain⟨a8,aV,ah,ai,aj⟩:=at_T68 a9.out aa az aA;cases aV;replace ah:=cb_ HB ah;replace ai:=cb_ HB ai;replace aj:=cb_ HB aj;replace az:=eq_true az;replace aA:=eq_true aA
        go_wp2_with (first|((with_reducible refine gate_callee (f:=31) rfl ?_);refine gl_ 20 Tryd.func31 #[.agg #[.int .i64 ((rd_T68 l0 aa).f0.f0),.int .i64 ((rd_T68 l0 aa).f0.f1),.bool ((rd_T68 l0 aa).f1)]] (h:=?_);(with_reducible refine(laws_toVal.calls ((rd_T68 l0 aa).f0.f0) ((rd_T68 l0 aa).f0.f1) ((rd_T68 l0 aa).f1) ak ao ap _ A8.out).mono ?_);rintro e ar ⟨rfl,hb⟩;refine⟨_,rfl,?_⟩;replace ae:=rb_ ae hb;replace HB:=hb_ HB hb;(try clear hb);have p10:0≤(aa:Int):=sq_dec;have q10:(aa:Int)<((ac.length:Int):Int):=sq_dec;obtain⟨go10,aH,aI,aJ,gl10,cl10,HG10⟩:=Kd.R_form ae.out (by omega);(first|cases aI|(injection aI with ea_ en_ ec_;(first|subst ea_|(injection ea_ with ea_;subst ea_));subst ec_;clear en_));have GB10:=am_ aJ;have GG10:=am_ HG10;clear aJ gl10 HG10;obtain⟨ce10,hcl10,hM10,hcc10,hfr10⟩:=Kd.R_elem ae.out z60 (aa:Int) p10 q10;obtain rfl:=k60_openM hM10;have aW:ar.cell? ⟨go10,(aa:Int).toNat*3,none⟩=some (.int .i64 ((rd_T60 ac aa).f0.f0)):=hcc10 0 _ rfl;have aX:ar.cell? ⟨go10,(aa:Int).toNat*3+1,none⟩=some (.int .i64 ((rd_T60 ac aa).f0.f1)):=hcc10 1 _ rfl;have aY:ar.cell? ⟨go10,(aa:Int).toNat*3+2,none⟩=some (.bool ((rd_T60 ac aa).f1)):=hcc10 2 _ rfl;have hf10_0:ar.frozen? ⟨go10,(aa:Int).toNat*3,none⟩=false:=hfr10 0;have hf10_1:ar.frozen? ⟨go10,(aa:Int).toNat*3+1,none⟩=false:=hfr10 1;have hf10_2:ar.frozen? ⟨go10,(aa:Int).toNat*3+2,none⟩=false:=hfr10 2;clear hcl10 hcc10 hfr10 hM10;replace p10:=eq_true p10;replace q10:=eq_true q10;have HX12:=am_ (show Kd.R k60 60 ar w.heap.size (fun _=>True) (.slice (some ⟨go10,0,none⟩) ac.length aH) ac from(sq_row ae.out));obtain⟨ce12,hcl12,hM12,hcc12,hfr12⟩:=Kd.R_elem HX12.out z60 (aa:Int) (sq_dec) (by have h_:(aa:Int)<((ac.length:Int):Int):=sq_dec;first|exact h_|(have e_:=(Kd.R_reads' ae.out).1;omega)|simpa using h_);obtain rfl:=k60_openM hM12;have HP12:=Kd.R_seg HX12.out (aa:Int) (sq_dec) (by have h_:(aa:Int)<((ac.length:Int):Int):=sq_dec;first|exact h_|(have e_:=(Kd.R_reads' ae.out).1;omega)|simpa using h_) (seg:=[.int .i64 ak,.int .i64 ao,.bool ap]) (j:=0) hcl12 hcc12 (show 3≤3 from by decide) (x':=(⟨(⟨ak,ao⟩:S58),ap⟩:S60)) (k60_mkM _ _ _ (⟨(⟨ak,ao⟩:S58),ap⟩:S60)) (fun _ hk=>hk);have aw:=hcc12 0 _ rfl;(try simp only [show(k60).sz=3 from rfl,Nat.mul_one,Nat.add_zero]at aw);have hf12_0:=hfr12 0;(try simp only [show(k60).sz=3 from rfl,Nat.mul_one,Nat.add_zero]at hf12_0);have ax:=hcc12 1 _ rfl;(try simp only [show(k60).sz=3 from rfl,Nat.mul_one,Nat.add_zero]at ax);have hf12_1:=hfr12 1;(try simp only [show(k60).sz=3 from rfl,Nat.mul_one,Nat.add_zero]at hf12_1);have ay:=hcc12 2 _ rfl;(try simp only [show(k60).sz=3 from rfl,Nat.mul_one,Nat.add_zero]at ay);have hf12_2:=hfr12 2;(try simp only [show(k60).sz=3 from rfl,Nat.mul_one,Nat.add_zero]at hf12_2);clear hcl12 hcc12 hfr12 hM12)|((with_reducible refine gate_store (t:=60) (p:=21) rfl ?_);refine store_event (t:=60) (p:=21) (v:=?vo_w13) (w1:=(((ar.setCell ⟨go10,(aa:Int).toNat*3,none⟩ (.int .i64 ak)).setCell ⟨go10,(aa:Int).toNat*3+1,none⟩ (.int .i64 ao)).setCell ⟨go10,(aa:Int).toNat*3+2,none⟩ (.bool ap))) ?hg ?ho ?hn ?hr ?_;(case ho=>rfl);(case hg=>rfl);(case hn=>rfl);(case hr=>first|(go_simp;done)|(go_simp;rfl));intro aZ hw;have hg:ar.grownBy aZ (some go10):=(by rw [hw];exact HP12.2);have hp_:Kd.R k60 60 aZ w.heap.size (fun _=>True) (.slice (some ⟨go10,0,none⟩) ac.length aH) aC:=(by rw [hw,aG.out];exact HP12.1);clear HP12;replace ae:=am_ hp_;replace HB:=am_ ((by rw [hw];exact below_set (below_set (below_set (HB.out) GB10.out) GB10.out) GB10.out:Below w.heap.size w aZ));clear hg hw hp_))
        go_roundg k1
        case measure=>have:=HK1.out;omega
        case rel=>exact⟨(aC),(wrap64 (aa+1)),sr_,H',⟨by have:=HK1.out;omega⟩,⟨by(with_reducible repeat(first|apply Kd.R_alloc|apply Kd.R_drewN|apply Kd.R_drew));exact ae.out⟩,⟨sq_below HB.out⟩⟩
       ·
        rw [if_neg c9]at H;exact absurd H (by simp)
      ·
       rw [if_neg c7]at H;exact absurd H (by simp)
     ·
      rw [if_neg c6]at H;have aU:=decide_eq_false (p:=aa<(l0.length:Int)) c6;clear c6;obtain rfl:=Option.some.inj H
      go_wp2
      go_ret
      exact⟨_,by first|rfl|(simp [errW_none,errW_some]<;>rfl)|(simp [*,errW_none,errW_some]<;>rfl),by(with_reducible repeat(first|apply Kd.R_alloc|apply Kd.R_drewN|apply Kd.R_drew));exact ae.out,sq_below HB.out⟩
  ·
   rw [if_neg c3]at H;exact absurd H (by simp)
 ·
  rw [if_neg c2]at H;exact absurd H (by simp)
def laws_toBoolS.l0:Nat→List Bool→List Bool→Int→Option (List Bool)
 |0,_,_,_=>none
 |k+1,x0,x3,x4=>if x4<(x0.length:Int)then(if 0≤x4 then(if x4<(x3.length:Int)then(laws_toBoolS.l0 k x0 (x3.set (x4:Int).toNat (rdOf false x0 x4)) (wrap64 (x4+1)))else(none))else(none))else(some x3)
def laws_toBoolS.f(k:Nat)(l0:List Bool):Option (List Bool):=if 0≤(l0.length:Int)then(if((l0.length:Int):Int).toNat≤281474976710656 then(laws_toBoolS.l0 k l0 (List.replicate ((l0.length:Int):Int).toNat false) 0)else(none))else(none)
theorem laws_toBoolS.mono_l:∀ k,(∀ y0 y1 y2,LeO (laws_toBoolS.l0 k y0 y1 y2) (laws_toBoolS.l0 (k+1) y0 y1 y2))
 |0=>fun _ _ _ r h=>by simp [laws_toBoolS.l0]at h
 |k+1=>by
  have ih0:=laws_toBoolS.mono_l k
  ·
   intro y0 y1 y2;unfold laws_toBoolS.l0
   repeat' first
   |(with_reducible exact ih0 _ _ _)|(with_reducible exact LeO.refl _)|(with_reducible exact LeO.none _)|(with_reducible refine LeO.ite ?_ ?_)|(with_reducible refine LeO.bind ?_ fun _=>?_)|exact ih0 _ _ _|exact LeO.none _|refine LeO.ite ?_ ?_|refine LeO.bind ?_ fun _=>?_
theorem laws_toBoolS.mono:∀ a0 k,LeO (laws_toBoolS.f k a0) (laws_toBoolS.f (k+1) a0):=by
 intro a0 k;have ih0:=laws_toBoolS.mono_l k;unfold laws_toBoolS.f
 repeat' first
   |(with_reducible exact ih0 _ _ _)|(with_reducible exact LeO.refl _)|(with_reducible exact LeO.none _)|(with_reducible refine LeO.ite ?_ ?_)|(with_reducible refine LeO.bind ?_ fun _=>?_)|exact ih0 _ _ _|exact LeO.none _|refine LeO.ite ?_ ?_|refine LeO.bind ?_ fun _=>?_
theorem laws_toBoolS.calls(k:Nat)(A0:Option Addr)(c0:Nat)(l0:List Bool)(r:List Bool)(w:World)(hr0:Kd.C Kd.bool w A0 l0.length l0)(hc0:l0.length≤c0)(h:laws_toBoolS.f k l0=some r) :
  Calls Tryd.prog 16 #[.slice A0 l0.length c0] w fun e w'=>∃ v0_:Value,e=.returned (v0_)∧Kd.R Kd.bool 4 w' w.heap.size (fun _=>True) v0_ r∧Below w.heap.size w w':=by
 have aJ:=am_ hr0;have aQ:=am_ hc0;clear hr0 hc0;have HB:=am_ (Below.refl w.heap.size w);have H:(if 0≤(l0.length:Int)then(if((l0.length:Int):Int).toNat≤281474976710656 then(laws_toBoolS.l0 k l0 (List.replicate ((l0.length:Int):Int).toNat false) 0)else(none))else(none))=some r:=h;clear h
 by_cases c2:0≤(l0.length:Int)
 ·
  rw [if_pos c2]at H;have au:=eq_true c2;have aw:=decide_eq_true (p:=0≤(l0.length:Int)) c2;clear c2
  by_cases c3:((l0.length:Int):Int).toNat≤281474976710656
  ·
   rw [if_pos c3]at H;have ax:=eq_true c3;have ay:=decide_eq_true (p:=((l0.length:Int):Int).toNat≤281474976710656) c3;clear c3;obtain⟨ar,ac⟩:∃ y_:List Bool,y_=(List.replicate ((l0.length:Int):Int).toNat false):=⟨_,rfl⟩;replace H:(laws_toBoolS.l0 k l0 ar 0)=some r:=by first|(rw [ac];with_reducible exact H)|(have H2_:=(Option.bind_some _ _).symm.trans H;rw [ac];with_reducible exact H2_)|(have H2_:=(Option.bind_some _ _).symm.trans H;with_reducible exact H2_)|with_reducible exact H|(rw [ac];exact H)|exact H
   have ai:=am_ ac;clear ac;have H':=am_ H;clear H
   go_enter Tryd.func16,Tryd.ntmps16
   go_wp2_with (first|((with_reducible refine gate_dst (N:=7) rfl ?_);refine Kd.R_make Kd.bool _ 4 rfl (N:=7) rfl 24 _ _ rfl (l0.length:Int) rfl rfl Tryd.underlying24 (.bool false) 1 info4 rfl (by decide) (by omega) false (ok:=fun _=>True) (okp:=fun _=>True) rfl (fun _ hk=>hk) trivial (sq_dec) (Nat.le_trans (Nat.mul_le_mul_right _ (sq_dec:(l0.length:Int).toNat≤281474976710656)) (by omega)) (Below.refl _ _) (Nat.le_refl _) ?_;intro v357 w4 ho5 hb hg_ hnew_;clear hg_ hnew_;(first|rw [← ai.out]at ho5|(simp only [Int.reduceToNat]at ho5;rw [← ai.out]at ho5));have ap:=am_ (Kd.R_lower ho5 (below_size (sq_below HB.out)));replace HB:=hb_ HB hb;clear hb ho5))
   go_loopg [4] k (fun kq v4 w'=>∃ (af:List Bool) (aa:Int),v4=.int .i64 aa∧Aside0 (laws_toBoolS.l0 kq l0 af aa=some r)∧Aside0 (kq≤k)∧Aside0 (Kd.R Kd.bool 4 w' w.heap.size (fun _=>True) v357 af)∧Aside0 (Below w.heap.size w w'))
   case atStart=>exact⟨(ar),(0),sr_,H',⟨Nat.le_refl _⟩,⟨by(with_reducible repeat(first|apply Kd.R_alloc|apply Kd.R_drewN|apply Kd.R_drew));exact ap.out⟩,⟨sq_below HB.out⟩⟩
   case round =>
    clear H'
    obtain⟨af,aa,rfl,HA,HK1,ah,HB⟩:=hrel;cases gk with
    |zero=>exact absurd HA.out (by simp [laws_toBoolS.l0])
    |succ k1 =>
     have H:=HA.out;clear HA;simp only [laws_toBoolS.l0]at H
     by_cases c6:aa<(l0.length:Int)
     ·
      rw [if_pos c6]at H;have az:=decide_eq_true (p:=aa<(l0.length:Int)) c6;clear c6
      by_cases c7:0≤aa
      ·
       rw [if_pos c7]at H;have aK:=decide_eq_true (p:=0≤aa) c7;clear c7
       by_cases c8:aa<(af.length:Int)
       ·
        rw [if_pos c8]at H;have aM:=decide_eq_true (p:=aa<(af.length:Int)) c8;clear c8;obtain⟨ao,ae⟩:∃ y_:List Bool,y_=(af.set (aa:Int).toNat (rdOf false l0 aa)):=⟨_,rfl⟩;replace H:(laws_toBoolS.l0 k1 l0 ao (wrap64 (aa+1)))=some r:=by first|(rw [ae];with_reducible exact H)|(have H2_:=(Option.bind_some _ _).symm.trans H;rw [ae];with_reducible exact H2_)|(have H2_:=(Option.bind_some _ _).symm.trans H;with_reducible exact H2_)|with_reducible exact H|(rw [ae];exact H)|exact H
        have aq:=am_ ae;clear ae;have H':=am_ H;clear H;have aj:0≤(aa:Int):=sq_dec;have ak:aa<(l0.length:Int):=sq_dec;obtain⟨aD,aA,ag⟩:=Kd.at_bool aJ.out aa aj ak;cases aA;replace ag:=cb_ HB ag;replace aj:=eq_true aj;replace ak:=eq_true ak;have p9:0≤(aa:Int):=sq_dec;have q9:(aa:Int)<((af.length:Int):Int):=sq_dec;obtain⟨go9,aN,aG,aH,gl9,cl9,HG9⟩:=Kd.R_form ah.out (by omega)
        (first|cases aG|(injection aG with ea_ en_ ec_;(first|subst ea_|(injection ea_ with ea_;subst ea_));subst ec_;clear en_))
        have GB9:=am_ aH;have GG9:=am_ HG9;clear aH gl9 HG9;obtain⟨aI,hf9_0⟩:=Kd.R_celln false ah.out (aa:Int) p9 q9;replace p9:=eq_true p9;replace q9:=eq_true q9;have HP10:=Kd.R_putg ah.out (aa:Int) (rdOf false l0 aa)
        go_wp2_with (first|((with_reducible refine gate_store (t:=4) (p:=20) rfl ?_);refine store_event (t:=4) (p:=20) (v:=?vo_w11) (w1:=(wr.setCell ⟨go9,(aa:Int).toNat,none⟩ (.bool (rdOf false l0 aa)))) ?hg ?ho ?hn ?hr ?_;(case ho=>rfl);(case hg=>rfl);(case hn=>rfl);(case hr=>first|(go_simp;done)|(go_simp;rfl));intro aC hw;have hg:wr.grownBy aC (some go9):=(by rw [hw];exact HP10.2);have hp_:Kd.R Kd.bool 4 aC w.heap.size (fun _=>True) (.slice (some ⟨go9,0,none⟩) af.length aN) ao:=(by rw [hw,aq.out];exact HP10.1);clear HP10;replace ah:=am_ hp_;replace HB:=am_ ((by rw [hw];exact below_set (HB.out) GB9.out:Below w.heap.size w aC));clear hg hw hp_))
        go_roundg k1
        case measure=>have:=HK1.out;omega
        case rel=>exact⟨(ao),(wrap64 (aa+1)),sr_,H',⟨by have:=HK1.out;omega⟩,⟨by(with_reducible repeat(first|apply Kd.R_alloc|apply Kd.R_drewN|apply Kd.R_drew));exact ah.out⟩,⟨sq_below HB.out⟩⟩
       ·
        rw [if_neg c8]at H;exact absurd H (by simp)
      ·
       rw [if_neg c7]at H;exact absurd H (by simp)
     ·
      rw [if_neg c6]at H;have az:=decide_eq_false (p:=aa<(l0.length:Int)) c6;clear c6;obtain rfl:=Option.some.inj H
      go_wp2
      go_ret
      exact⟨_,by first|rfl|(simp [errW_none,errW_some]<;>rfl)|(simp [*,errW_none,errW_some]<;>rfl),by(with_reducible repeat(first|apply Kd.R_alloc|apply Kd.R_drewN|apply Kd.R_drew));exact ah.out,sq_below HB.out⟩
  ·
   rw [if_neg c3]at H;exact absurd H (by simp)
 ·
  rw [if_neg c2]at H;exact absurd H (by simp)
def laws_toSeg.f(k:Nat)(au:List (List (S82)))(aw:List (S68))(ax:List Bool):Option ((List (List (S53)))×(List (S60))×List Bool):=(laws_toSymSS.f k au).bind fun ao=>((laws_toValS.f k aw).bind fun ap=>((laws_toBoolS.f k ax).bind fun aq=>(some (ao,ap,aq))))
theorem laws_toSeg.mono:∀ a0 a1 a2 k,LeO (laws_toSeg.f k a0 a1 a2) (laws_toSeg.f (k+1) a0 a1 a2):=by
 intro a0 a1 a2 k;unfold laws_toSeg.f
 repeat' first
   |(with_reducible exact laws_toBoolS.mono _ _)|(with_reducible exact laws_toSymSS.mono _ _)|(with_reducible exact laws_toValS.mono _ _)|(with_reducible exact LeO.refl _)|(with_reducible exact LeO.none _)|(with_reducible refine LeO.ite ?_ ?_)|(with_reducible refine LeO.bind ?_ fun _=>?_)|exact laws_toBoolS.mono _ _|exact laws_toSymSS.mono _ _|exact laws_toValS.mono _ _|exact LeO.none _|refine LeO.ite ?_ ?_|refine LeO.bind ?_ fun _=>?_
theorem laws_toSeg.calls(k:Nat)(aU:Option Addr)(aX:Nat)(au:List (List (S82)))(aV:Option Addr)(aY:Nat)(aw:List (S68))(aW:Option Addr)(aZ:Nat)(ax:List Bool)(r1:List (List (S53)))(r2:List (S60))(r3:List Bool)(w:World)(bf:Kd.C (Kd.slice 82 k82) w aU au.length au)(a9:au.length≤aX)(bg:Kd.C k68 w aV aw.length aw)(ba:aw.length≤aY)(bh:Kd.C Kd.bool w aW ax.length ax)(bc:ax.length≤aZ)(h:laws_toSeg.f k au aw ax=some (r1,r2,r3)) :
  Calls Tryd.prog 6 #[.agg #[.slice aU au.length aX,.slice aV aw.length aY,.slice aW ax.length aZ]] w fun e w'=>∃ v0_ v1_ v2_:Value,e=.returned (.agg #[v0_,v1_,v2_])∧Kd.S (Kd.slice 53 k53) 50 w' w.heap.size (fun _=>True) v0_ r1∧Kd.R k60 60 w' w.heap.size (fun _=>True) v1_ r2∧Kd.R Kd.bool 4 w' w.heap.size (fun _=>True) v2_ r3∧Below w.heap.size w w':=by
 have hu26:=Tryd.underlying26;have hu32:=Tryd.underlying32;have bn:=am_ bf;have bi:=am_ a9;clear bf a9;have bo:=am_ bg;have bj:=am_ ba;clear bg ba;have bp:=am_ bh;have bk:=am_ bc;clear bh bc;have HB:=am_ (Below.refl w.heap.size w);have H:((laws_toSymSS.f k au).bind fun ao=>((laws_toValS.f k aw).bind fun ap=>((laws_toBoolS.f k ax).bind fun aq=>(some (ao,ap,aq)))))=some (r1,r2,r3):=h;clear h;obtain⟨ao,A2,H⟩:=be_ H;(try dsimp only at H);obtain⟨ap,A3,H⟩:=be_ H;(try dsimp only at H);replace H:=Option.bind_eq_some_iff.mp H;obtain⟨aq,A40,H⟩:=H;replace H:(some (ao,ap,aq))=some (r1,r2,r3):=H;have A4:=am_ A40;clear A40;simp only [Option.some.injEq,Prod.mk.injEq]at H;obtain⟨rfl,rfl,rfl⟩:=H
 go_enter Tryd.func6,Tryd.ntmps6
 go_wp2_with (first|((with_reducible refine gate_dst (N:=1) rfl ?_);refine box_y 1 #[.slice aU au.length aX,.slice aV aw.length aY,.slice aW ax.length aZ] 26 (h:=?_);intro bq hg w5 hbox hb;have ae:=am_ hbox;have ck:=gz_ hg HB;have ai:=gz_ hg HB;replace HB:=hb_ HB hb;clear hb hbox hg)|((with_reducible refine gate_dst (N:=2) rfl ?_);refine box_y 2 #[.slice none 0 0,.slice none 0 0,.slice none 0 0] 32 (h:=?_);intro ah hg w6 hbox hb;have ac:=am_ hbox;have cl:=gz1_ hg HB ai;have ag:=gz1_ hg HB ai;replace HB:=hb1_ HB hb ai;have az:=nb_ hg ae;replace ae:=bb_ ae hb;have aN:=ns_ az;clear hb hbox hg)|((with_reducible refine gate_dst (N:=3) rfl ?_);refine box_y 3 #[.slice none 0 0,.slice none 0 0,.slice none 0 0] 32 (h:=?_);intro ar hg w7 hbox hb;have aa:=am_ hbox;have cn:=gz2_ hg HB ai ag;have aj:=gz2_ hg HB ai ag;replace HB:=hb2_ HB hb ai ag;have ak:=nb_ hg ae;replace ae:=bb_ ae hb;have aQ:=ns_ ak;have af:=nb_ hg ac;replace ac:=bb_ ac hb;have aT:=ns_ af;clear hb hbox hg;have cr:=az.out;have cy:=aN.out;have cx:=ak.out;have cz:=aQ.out;obtain⟨br,bu,bw,bQ,bR,bS⟩:=cz3_ ae)|((with_reducible refine gate_callee (f:=14) rfl ?_);refine gl_ 6 Tryd.func14 #[.slice aU au.length aX] (h:=?_);(with_reducible refine(laws_toSymSS.calls k _ _ au ao _ ?aA ?aC A2.out).mono ?_);(case aA=>exact sq_c (Kd.C_below bn.out HB.out));(case aC=>exact bi.out);rintro e cA ⟨v365,rfl,ho0,hb⟩;refine⟨_,rfl,?_⟩;have ay:=am_ (Kd.S_lower ho0 (below_size (sq_below3 HB.out ai.out ag.out aj.out)));replace ae:=bb_ ae hb;replace ac:=bb_ ac hb;replace aa:=bb_ aa hb;replace HB:=hb3_ HB hb ai ag aj;(try clear hb);(try clear ho0);obtain⟨aD,aI,cg⟩:=Kd.S_slice ay.out;subst cg;have cp:=aT.out;have cq:=af.out;obtain⟨bx,bz,bA,bT,bU,bV⟩:=cz3_ aa;obtain⟨bB,bC,bD,bW,bX,bY⟩:=cz3_ ae)|((with_reducible refine gate_callee (f:=15) rfl ?_);refine gl_ 10 Tryd.func15 #[.slice aV aw.length aY] (h:=?_);(with_reducible refine(laws_toValS.calls k _ _ aw ap _ ?aA ?aC A3.out).mono ?_);(case aA=>exact Kd.C_below bo.out (sq_below3 HB.out ai.out ag.out aj.out));(case aC=>exact bj.out);rintro e cB ⟨v368,rfl,ho0,hb⟩;refine⟨_,rfl,?_⟩;replace ay:=am_ (Kd.S_below (by(with_reducible repeat(first|apply Kd.S_alloc|apply Kd.S_drewN|apply Kd.S_drew));exact(Kd.S_mono (Kd.S_far (p:=⟨ar,0,none⟩) (Kd.S_types ay.out aa.out (by decide)) (fun _ hk=>hk.2) (.slice aD ao.length aI)) (fun _ h_=>h_.1))) hb);have aM:=am_ (Kd.R_lower ho0 (below_size (sq_below3 HB.out ai.out ag.out aj.out)));replace ae:=am_ (blk_below (g:=bq) (o:=.cells #[.slice aU au.length aX,.slice aV aw.length aY,.slice aW ax.length aZ] 26 (0,0)) (bf_ ae ak).out hb);replace ac:=am_ (blk_below (g:=ah) (o:=.cells #[.slice none 0 0,.slice none 0 0,.slice none 0 0] 32 (0,0)) (bf_ ac af).out hb);replace aa:=am_ (blk_below (g:=ar) (o:=.cells #[.slice aD ao.length aI,.slice none 0 0,.slice none 0 0] 32 (0,0)) (bp_ aa) hb);replace HB:=hb3_ HB hb ai ag aj;(try clear hb);(try clear ho0);obtain⟨aG,aJ,ch⟩:=Kd.R_slice aM.out;subst ch;obtain⟨bE,bF,bG,bZ,b3,b4⟩:=cz3_ aa;obtain⟨bH,bI,bJ,b5,b6,b7⟩:=cz3_ ae)|((with_reducible refine gate_callee (f:=16) rfl ?_);refine gl_ 14 Tryd.func16 #[.slice aW ax.length aZ] (h:=?_);(with_reducible refine(laws_toBoolS.calls k _ _ ax aq _ ?aA ?aC A4.out).mono ?_);(case aA=>exact Kd.C_below bp.out (sq_below2 HB.out ag.out aj.out));(case aC=>exact bk.out);rintro e cC ⟨v371,rfl,ho0,hb⟩;refine⟨_,rfl,?_⟩;replace ay:=am_ (Kd.S_below (by(with_reducible repeat(first|apply Kd.S_alloc|apply Kd.S_drewN|apply Kd.S_drew));exact(Kd.S_mono (Kd.S_far (p:=⟨ar,1,none⟩) (Kd.S_types ay.out aa.out (by decide)) (fun _ hk=>hk.2) (.slice aG ap.length aJ)) (fun _ h_=>h_.1))) hb);replace aM:=am_ (Kd.R_below (by(with_reducible repeat(first|apply Kd.R_alloc|apply Kd.R_drewN|apply Kd.R_drew));exact(Kd.R_mono (Kd.R_far (p:=⟨ar,1,none⟩) (Kd.R_types aM.out aa.out (by decide)) (fun _ hk=>hk.2) (.slice aG ap.length aJ)) (fun _ h_=>h_.1))) hb);have a8:=am_ (Kd.R_lower ho0 (below_size (sq_below2 HB.out ag.out aj.out)));replace ac:=am_ (blk_below (g:=ah) (o:=.cells #[.slice none 0 0,.slice none 0 0,.slice none 0 0] 32 (0,0)) (bf_ ac af).out hb);replace aa:=am_ (blk_below (g:=ar) (o:=.cells #[.slice aD ao.length aI,.slice aG ap.length aJ,.slice none 0 0] 32 (0,0)) (bp_ aa) hb);replace HB:=hb2_ HB hb ag aj;(try clear hb);(try clear ho0);obtain⟨aH,aK,cj⟩:=Kd.R_slice a8.out;subst cj;obtain⟨bK,bL,bM,b8,b9,ca⟩:=cz3_ aa;obtain⟨bN,bO,bP,cb,cd,cf⟩:=cz3_ ac))
 refine bodyPost_ret (results_cell_row rfl _ _ ah 32 #[.slice aD ao.length aI,.slice aG ap.length aJ,.slice aH aq.length aK] (0,0) _ rfl (bp1_ ac af) Tryd.underlying32 rfl (by kernel_rfl)) rfl ?_;exact⟨_,_,_,by first|rfl|(simp [errW_none,errW_some]<;>rfl)|(simp [*,errW_none,errW_some]<;>rfl),by(with_reducible repeat(first|apply Kd.S_alloc|apply Kd.S_drewN|apply Kd.S_drew));exact Kd.S_mono (Kd.S_far (p:=⟨ah,2,none⟩) (Kd.S_far (p:=⟨ah,1,none⟩) (Kd.S_far (p:=⟨ah,0,none⟩) (Kd.S_far (p:=⟨ar,2,none⟩) (Kd.S_types (Kd.S_types ay.out aa.out (by decide)) ac.out (by decide)) (fun _ hk=>hk.1.2) (.slice aH aq.length aK)) (fun _ hk=>hk.2) (.slice aD ao.length aI)) (fun _ hk=>hk.2) (.slice aG ap.length aJ)) (fun _ hk=>hk.2) (.slice aH aq.length aK)) (fun _ hk=>trivial),by(with_reducible repeat(first|apply Kd.R_alloc|apply Kd.R_drewN|apply Kd.R_drew));exact Kd.R_mono (Kd.R_far (p:=⟨ah,2,none⟩) (Kd.R_far (p:=⟨ah,1,none⟩) (Kd.R_far (p:=⟨ah,0,none⟩) (Kd.R_far (p:=⟨ar,2,none⟩) (Kd.R_types (Kd.R_types aM.out aa.out (by decide)) ac.out (by decide)) (fun _ hk=>hk.1.2) (.slice aH aq.length aK)) (fun _ hk=>hk.2) (.slice aD ao.length aI)) (fun _ hk=>hk.2) (.slice aG ap.length aJ)) (fun _ hk=>hk.2) (.slice aH aq.length aK)) (fun _ hk=>trivial),by(with_reducible repeat(first|apply Kd.R_alloc|apply Kd.R_drewN|apply Kd.R_drew));exact Kd.R_mono (Kd.R_far (p:=⟨ah,2,none⟩) (Kd.R_far (p:=⟨ah,1,none⟩) (Kd.R_far (p:=⟨ah,0,none⟩) (Kd.R_far (p:=⟨ar,2,none⟩) (Kd.R_types (Kd.R_types a8.out aa.out (by decide)) ac.out (by decide)) (fun _ hk=>hk.1.2) (.slice aH aq.length aK)) (fun _ hk=>hk.2) (.slice aD ao.length aI)) (fun _ hk=>hk.2) (.slice aG ap.length aJ)) (fun _ hk=>hk.2) (.slice aH aq.length aK)) (fun _ hk=>trivial),sq_below2 HB.out ag.out aj.out⟩
def impl_inRange.f(a0:Int)(a1:Int)(a2:Int):Option (Bool):=if a1≤a0 then(some (decide (a0≤a2)))else(some false)
theorem impl_inRange.calls(a0:Int)(a1:Int)(a2:Int)(r:Bool)(w:World)(h:impl_inRange.f a0 a1 a2=some r) :
  Calls Tryd.prog 50 #[.int .i64 a0,.int .i64 a1,.int .i64 a2] w fun e w'=>e=.returned (.bool r)∧Drawn0 w w':=by
 have H:(if a1≤a0 then(some (decide (a0≤a2)))else(some false))=some r:=h;clear h
 by_cases c4:a1≤a0
 ·
  rw [if_pos c4]at H;have aa:=decide_eq_true (p:=a1≤a0) c4;clear c4;obtain rfl:=Option.some.inj H
  go_enter Tryd.func50,Tryd.ntmps50
  go_wp2
  go_ret
  exact⟨by first|rfl|(simp;done)|(simp [*];done),by repeat(first|exact Drawn0.refl _|apply Drawn0.step)⟩
 ·
  rw [if_neg c4]at H;have aa:=decide_eq_false (p:=a1≤a0) c4;clear c4;obtain rfl:=Option.some.inj H
  go_enter Tryd.func50,Tryd.ntmps50
  go_wp2
  go_ret
  exact⟨by first|rfl|(simp;done)|(simp [*];done),by repeat(first|exact Drawn0.refl _|apply Drawn0.step)⟩
end Go.Proofs.YtcdeojfeebmonaaDoor.Q
