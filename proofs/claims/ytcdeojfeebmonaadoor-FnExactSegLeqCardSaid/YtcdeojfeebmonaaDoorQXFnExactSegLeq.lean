/- Functions of the translation as Lean functions, each with a proof that a call answers so; out of the seat, by this claim's own program prt.py: the last of them, in one text. -/
import Derived.Test.YtcdeojfeebmonaaDoorWRepsOne
import Derived.Test.YtcdeojfeebmonaaDoorQx0
import Derived.Test.YtcdeojfeebmonaaDoorQStep3
import Derived.Test.YtcdeojfeebmonaaDoorWTab
import Derived.Test.YtcdeojfeebmonaaDoorQx3
import Derived.Test.YtcdeojfeebmonaaDoorQx16
import Derived.Test.YtcdeojfeebmonaaDoorQx17
import Derived.Test.YtcdeojfeebmonaaDoorQx24
namespace Go.Proofs.YtcdeojfeebmonaaDoor.Q
open Go.RowKit Go.Proofs.YtcdeojfeebmonaaDoorW.PrintWords Go.Proofs.YtcdeojfeebmonaaDoorW.PrintLast Go.Proofs.YtcdeojfeebmonaaDoorW.PrintMore
attribute [local go_sem] max2_int min2_int max_two min_two max_three min_three max_four min_four
set_option linter.unusedVariables false
set_option maxHeartbeats 8000000
set_option maxRecDepth 100000
set_option linter.unusedSimpArgs false
def laws_eqSym.f(ag:Int)(ah:Int)(ai:Int)(aj:Int):Option (Bool):=if ag=ai then(if ah=aj then(some true)else(some false))else(some false)
theorem laws_eqSym.calls(ag:Int)(ah:Int)(ai:Int)(aj:Int)(r:Bool)(w:World)(h:laws_eqSym.f ag ah ai aj=some r) :
  Calls Tryd.prog 62 #[.agg #[.int .i64 ag,.int .i64 ah],.agg #[.int .i64 ai,.int .i64 aj]] w fun e w'=>e=.returned (.bool r)∧Below w.heap.size w w':=by
 have hu53:=Tryd.underlying53;have HB:=am_ (Below.refl w.heap.size w);have H:(if ag=ai then(if ah=aj then(some true)else(some false))else(some false))=some r:=h;clear h
 by_cases c3:ag=ai
 ·
  rw [if_pos c3]at H;have aU:(ag == ai)=true:=beq_iff_eq.mpr c3;have aV:(ag != ai)=false:=bne_eq_false_iff_eq.mpr c3;clear c3
  by_cases c4:ah=aj
  ·
   rw [if_pos c4]at H;have aW:(ah == aj)=true:=beq_iff_eq.mpr c4;have aX:(ah != aj)=false:=bne_eq_false_iff_eq.mpr c4;clear c4;obtain rfl:=Option.some.inj H
   go_enter Tryd.func62,Tryd.ntmps62
   go_wp2_with (first|((with_reducible refine gate_dst (N:=2) rfl ?_);refine box_y 2 #[.int .i64 ag,.int .i64 ah] 53 (h:=?_);intro ar hg w5 hbox hb;have ac:=am_ hbox;have ap:=gz_ hg HB;have af:=gz_ hg HB;replace HB:=hb_ HB hb;clear hb hbox hg)|((with_reducible refine gate_dst (N:=3) rfl ?_);refine box_y 3 #[.int .i64 ai,.int .i64 aj] 53 (h:=?_);intro au hg w6 hbox hb;have ak:=am_ hbox;have aq:=gz1_ hg HB af;have ao:=gz1_ hg HB af;replace HB:=hb1_ HB hb af;have aa:=nb_ hg ac;replace ac:=bb_ ac hb;have ae:=ns_ aa;clear hb hbox hg;have bn:=aa.out;have bo:=ae.out;obtain⟨aY,aZ,ba,bc⟩:=cz2_ ac;obtain⟨a8,a9,bf,bg⟩:=cz2_ ak))
   go_ret
   exact⟨lf_,sq_below1 HB.out ao.out⟩
  ·
   rw [if_neg c4]at H;have aW:(ah == aj)=false:=beq_eq_false_iff_ne.mpr c4;have aX:(ah != aj)=true:=bne_iff_ne.mpr c4;obtain rfl:=Option.some.inj H
   go_enter Tryd.func62,Tryd.ntmps62
   go_wp2_with (first|((with_reducible refine gate_dst (N:=2) rfl ?_);refine box_y 2 #[.int .i64 ag,.int .i64 ah] 53 (h:=?_);intro ar hg bp hbox hb;have ac:=am_ hbox;have ap:=gz_ hg HB;have af:=gz_ hg HB;replace HB:=hb_ HB hb;clear hb hbox hg)|((with_reducible refine gate_dst (N:=3) rfl ?_);refine box_y 3 #[.int .i64 ai,.int .i64 aj] 53 (h:=?_);intro au hg bq hbox hb;have ak:=am_ hbox;have aq:=gz1_ hg HB af;have ao:=gz1_ hg HB af;replace HB:=hb1_ HB hb af;have aa:=nb_ hg ac;replace ac:=bb_ ac hb;have ae:=ns_ aa;clear hb hbox hg;have bh:=aa.out;have bj:=ae.out;obtain⟨aw,ax,aH,aI⟩:=cz2_ ac;obtain⟨ay,az,aJ,aK⟩:=cz2_ ak))
   go_ret
   exact⟨lf_,sq_below1 HB.out ao.out⟩
 ·
  rw [if_neg c3]at H;have aU:(ag == ai)=false:=beq_eq_false_iff_ne.mpr c3;have aV:(ag != ai)=true:=bne_iff_ne.mpr c3;obtain rfl:=Option.some.inj H
  go_enter Tryd.func62,Tryd.ntmps62
  go_wp2_with (first|((with_reducible refine gate_dst (N:=2) rfl ?_);refine box_y 2 #[.int .i64 ag,.int .i64 ah] 53 (h:=?_);intro ar hg br hbox hb;have ac:=am_ hbox;have ap:=gz_ hg HB;have af:=gz_ hg HB;replace HB:=hb_ HB hb;clear hb hbox hg)|((with_reducible refine gate_dst (N:=3) rfl ?_);refine box_y 3 #[.int .i64 ai,.int .i64 aj] 53 (h:=?_);intro au hg bu hbox hb;have ak:=am_ hbox;have aq:=gz1_ hg HB af;have ao:=gz1_ hg HB af;replace HB:=hb1_ HB hb af;have aa:=nb_ hg ac;replace ac:=bb_ ac hb;have ae:=ns_ aa;clear hb hbox hg;have bi:=aa.out;have bk:=ae.out;obtain⟨aA,aC,aM,aN⟩:=cz2_ ac;obtain⟨aD,aG,aQ,aT⟩:=cz2_ ak))
  go_ret
  exact⟨lf_,sq_below1 HB.out ao.out⟩
end Go.Proofs.YtcdeojfeebmonaaDoor.Q
namespace Go.Proofs.YtcdeojfeebmonaaDoor.Q
open Go.RowKit Go.Proofs.YtcdeojfeebmonaaDoorW.PrintWords Go.Proofs.YtcdeojfeebmonaaDoorW.PrintLast Go.Proofs.YtcdeojfeebmonaaDoorW.PrintMore
attribute [local go_sem] max2_int min2_int max_two min_two max_three min_three max_four min_four
set_option linter.unusedVariables false
set_option maxHeartbeats 8000000
set_option maxRecDepth 100000
set_option linter.unusedSimpArgs false
def laws_eqSymS.l0:Nat→List (S53)→List (S53)→Int→Option (Bool)
 |0,_,_,_=>none
 |k+1,x0,x1,x5=>if x5<(x0.length:Int)then(if 0≤x5 then(if x5<(x1.length:Int)then((laws_eqSym.f ((rd_T53 x0 x5).f0) ((rd_T53 x0 x5).f1) ((rd_T53 x1 x5).f0) ((rd_T53 x1 x5).f1)).bind fun az=>(if az=true then(laws_eqSymS.l0 k x0 x1 (wrap64 (x5+1)))else(some false)))else(none))else(none))else(some true)
def laws_eqSymS.f(k:Nat)(l0:List (S53))(l1:List (S53)):Option (Bool):=if(l0.length:Int)=(l1.length:Int)then(laws_eqSymS.l0 k l0 l1 0)else(some false)
theorem laws_eqSymS.mono_l:∀ k,(∀ y0 y1 y2,LeO (laws_eqSymS.l0 k y0 y1 y2) (laws_eqSymS.l0 (k+1) y0 y1 y2))
 |0=>fun _ _ _ r h=>by simp [laws_eqSymS.l0]at h
 |k+1=>by
  have ih0:=laws_eqSymS.mono_l k
  ·
   intro y0 y1 y2;unfold laws_eqSymS.l0
   repeat' first
   |(with_reducible exact ih0 _ _ _)|(with_reducible exact LeO.refl _)|(with_reducible exact LeO.none _)|(with_reducible refine LeO.ite ?_ ?_)|(with_reducible refine LeO.bind ?_ fun _=>?_)|exact ih0 _ _ _|exact LeO.none _|refine LeO.ite ?_ ?_|refine LeO.bind ?_ fun _=>?_
theorem laws_eqSymS.mono:∀ a0 a1 k,LeO (laws_eqSymS.f k a0 a1) (laws_eqSymS.f (k+1) a0 a1):=by
 intro a0 a1 k;have ih0:=laws_eqSymS.mono_l k;unfold laws_eqSymS.f
 repeat' first
   |(with_reducible exact ih0 _ _ _)|(with_reducible exact LeO.refl _)|(with_reducible exact LeO.none _)|(with_reducible refine LeO.ite ?_ ?_)|(with_reducible refine LeO.bind ?_ fun _=>?_)|exact ih0 _ _ _|exact LeO.none _|refine LeO.ite ?_ ?_|refine LeO.bind ?_ fun _=>?_
def laws_eqSymS.T6:Bool×List (List Nat×List Nat):=(true,[([],[]),([],[]),([0,1],[0,1]),([2],[2]),([],[]),([],[]),([4,5],[4,5]),([6],[6]),([3,7],[3,7]),([8],[8])])
def laws_eqSymS.B6:List Nat:=[0,0,3,7,0,0,48,112,255,511]
theorem laws_eqSymS.tab6:rtab .any (opsOf Tryd.f38 6)=laws_eqSymS.T6:=by kernel_rfl
theorem laws_eqSymS.bits6:waitsOk laws_eqSymS.T6.2 laws_eqSymS.B6=true:=by kernel_rfl
theorem laws_eqSymS.calls(k:Nat)(A0:Option Addr)(c0:Nat)(l0:List (S53))(A1:Option Addr)(c1:Nat)(l1:List (S53))(r:Bool)(w:World)(hr0:Kd.C k53 w A0 l0.length l0)(hc0:l0.length≤c0)(hr1:Kd.C k53 w A1 l1.length l1)(hc1:l1.length≤c1)(h:laws_eqSymS.f k l0 l1=some r) :
  Calls Tryd.prog 38 #[.slice A0 l0.length c0,.slice A1 l1.length c1] w fun e w'=>e=.returned (.bool r)∧Below w.heap.size w w':=by
 have hu53:=Tryd.underlying53;have aH:=am_ hr0;have aM:=am_ hc0;clear hr0 hc0;have aI:=am_ hr1;have aN:=am_ hc1;clear hr1 hc1;have HB:=am_ (Below.refl w.heap.size w);have H:(if(l0.length:Int)=(l1.length:Int)then(laws_eqSymS.l0 k l0 l1 0)else(some false))=some r:=h;clear h
 by_cases c3:(l0.length:Int)=(l1.length:Int)
 ·
  rw [if_pos c3]at H;have aA:((l0.length:Int) ==(l1.length:Int))=true:=beq_iff_eq.mpr c3;have aC:((l0.length:Int) !=(l1.length:Int))=false:=bne_eq_false_iff_eq.mpr c3;have aD:(l0.length == l1.length)=true:=by first|simpa using c3|(simp at c3 ⊢;omega)
  clear c3;have H':=am_ H;clear H
  go_enter Tryd.func38,Tryd.ntmps38
  go_wp2
  go_loopg [5] k (fun kq v5 w'=>∃ (aa:Int),v5=.int .i64 aa∧Aside0 (laws_eqSymS.l0 kq l0 l1 aa=some r)∧Aside0 (kq≤k)∧Aside0 (Below w.heap.size w w'))
  case atStart=>exact⟨(0),sr_,H',⟨Nat.le_refl _⟩,⟨sq_below HB.out⟩⟩
  case round =>
   clear H'
   obtain⟨aa,rfl,HA,HK1,HB⟩:=hrel;cases gk with
   |zero=>exact absurd HA.out (by simp [laws_eqSymS.l0])
   |succ k1 =>
    have H:=HA.out;clear HA;simp only [laws_eqSymS.l0]at H
    by_cases c4:aa<(l0.length:Int)
    ·
     rw [if_pos c4]at H;have aG:=decide_eq_true (p:=aa<(l0.length:Int)) c4;clear c4
     by_cases c5:0≤aa
     ·
      rw [if_pos c5]at H;have aJ:=decide_eq_true (p:=0≤aa) c5;clear c5
      by_cases c6:aa<(l1.length:Int)
      ·
       rw [if_pos c6]at H;have aK:=decide_eq_true (p:=aa<(l1.length:Int)) c6;clear c6;obtain⟨az,A7,H⟩:=be_ H;(try dsimp only at H)
       by_cases c8:az=true
       ·
        subst c8;have H1:=ifp_ H
        clear H;have H:=H1;clear H1;have H':=am_ H;clear H
        try go_wp2
        replace HB:=hd_ HB;have aq:0≤(aa:Int):=sq_dec;have au:aa<(l0.length:Int):=sq_dec;obtain⟨ao,ax,ac,ae⟩:=at_T53 aH.out aa aq au;have ai:=ae;have ah:=ac;cases ax;replace ac:=cb_ HB ac;replace ae:=cb_ HB ae;replace aq:=eq_true aq;replace au:=eq_true au;have ar:0≤(aa:Int):=sq_dec;have aw:aa<(l1.length:Int):=sq_dec;obtain⟨ap,ay,af,ag⟩:=at_T53 aI.out aa ar aw;have ak:=ag;have aj:=af;cases ay;replace af:=cb_ HB af;replace ag:=cb_ HB ag;replace ar:=eq_true ar;replace aw:=eq_true aw;refine start_ (n:=10) (S:=fun w'=>w'.cell? (ao.add ((aa).toNat*2))=some (.int .i64 ((rd_T53 l0 aa).f0))∧w'.cell? ⟨(ao.add ((aa).toNat*2)).block,(ao.add ((aa).toNat*2)).off+1,none⟩=some (.int .i64 ((rd_T53 l0 aa).f1))∧w'.cell? (ap.add ((aa).toNat*2))=some (.int .i64 ((rd_T53 l1 aa).f0))∧w'.cell? ⟨(ap.add ((aa).toNat*2)).block,(ap.add ((aa).toNat*2)).off+1,none⟩=some (.int .i64 ((rd_T53 l1 aa).f1))) (ds:=[]) #[false,false,false,false,false,false,false,false,false,false] (by kernel_rfl) rfl rfl ⟨(cb_ HB ah),(cb_ HB ai),(cb_ HB aj),(cb_ HB ak)⟩ (fun hHeld=>?_);refine with_tabW laws_eqSymS.tab6 laws_eqSymS.bits6 (fun HT_ HW_=>?_);generalize wr.drew=w9 at HB ac ae af ag hHeld ⊢;refine py_ HT_ 0 17 ?_
        refine py_ HT_ 1 18 ?_
        refine py_ HT_ 2 19 ?_
        refine py_ HT_ 4 21 ?_
        refine py_ HT_ 5 22 ?_
        refine py_ HT_ 6 23 ?_
        refine ty_ HT_ HW_ 3 20 rfl hHeld (by rintro w' ⟨s0,s1,s2,s3⟩;go_simp;with_reducible rfl) ?_
        refine ty_ HT_ HW_ 7 24 rfl hHeld (by rintro w' ⟨s0,s1,s2,s3⟩;go_simp;with_reducible rfl) ?_
        refine oy_ HT_ 8 (some 25) (fun K hK=>?_);refine gs_ Tryd.func62 #[.agg #[.int .i64 ((rd_T53 l0 aa).f0),.int .i64 ((rd_T53 l0 aa).f1)],.agg #[.int .i64 ((rd_T53 l1 aa).f0),.int .i64 ((rd_T53 l1 aa).f1)]] (h:=?_);with_reducible refine(laws_eqSym.calls ((rd_T53 l0 aa).f0) ((rd_T53 l0 aa).f1) ((rd_T53 l1 aa).f0) ((rd_T53 l1 aa).f1) true _ A7.out).mono ?_
        rintro e aQ ⟨rfl,hb⟩;refine⟨_,rfl,?_⟩;replace HB:=hb_ HB hb
        (try clear hb)
        (try clear hb2)
        (try clear hk)
        (try clear hi)
        refine hK.out _ _ ⟨(cb_ HB ah),(cb_ HB ai),(cb_ HB aj),(cb_ HB ak)⟩ (fun hHeld=>?_);clear hK K;refine norm_y 25 (h:=?_)
        refine py_ HT_ 9 26 ?_
        refine done_ (done_of HT_.out (by kernel_rfl)) ?_
        try go_wp2
        go_roundg k1
        case measure=>have:=HK1.out;omega
        case rel=>exact⟨(wrap64 (aa+1)),sr_,H',⟨by have:=HK1.out;omega⟩,⟨sq_below HB.out⟩⟩
       ·
        replace c8:=Bool.eq_false_iff.mpr c8;subst c8;have H1:=ifn_ H
        clear H;have H:=H1;clear H1;obtain rfl:=Option.some.inj H
        try go_wp2
        replace HB:=hd_ HB;have aq:0≤(aa:Int):=sq_dec;have au:aa<(l0.length:Int):=sq_dec;obtain⟨ao,ax,ac,ae⟩:=at_T53 aH.out aa aq au;have ai:=ae;have ah:=ac;cases ax;replace ac:=cb_ HB ac;replace ae:=cb_ HB ae;replace aq:=eq_true aq;replace au:=eq_true au;have ar:0≤(aa:Int):=sq_dec;have aw:aa<(l1.length:Int):=sq_dec;obtain⟨ap,ay,af,ag⟩:=at_T53 aI.out aa ar aw;have ak:=ag;have aj:=af;cases ay;replace af:=cb_ HB af;replace ag:=cb_ HB ag;replace ar:=eq_true ar;replace aw:=eq_true aw;refine start_ (n:=10) (S:=fun w'=>w'.cell? (ao.add ((aa).toNat*2))=some (.int .i64 ((rd_T53 l0 aa).f0))∧w'.cell? ⟨(ao.add ((aa).toNat*2)).block,(ao.add ((aa).toNat*2)).off+1,none⟩=some (.int .i64 ((rd_T53 l0 aa).f1))∧w'.cell? (ap.add ((aa).toNat*2))=some (.int .i64 ((rd_T53 l1 aa).f0))∧w'.cell? ⟨(ap.add ((aa).toNat*2)).block,(ap.add ((aa).toNat*2)).off+1,none⟩=some (.int .i64 ((rd_T53 l1 aa).f1))) (ds:=[]) #[false,false,false,false,false,false,false,false,false,false] (by kernel_rfl) rfl rfl ⟨(cb_ HB ah),(cb_ HB ai),(cb_ HB aj),(cb_ HB ak)⟩ (fun hHeld=>?_);refine with_tabW laws_eqSymS.tab6 laws_eqSymS.bits6 (fun HT_ HW_=>?_);generalize wr.drew=aT at HB ac ae af ag hHeld ⊢;refine py_ HT_ 0 17 ?_
        refine py_ HT_ 1 18 ?_
        refine py_ HT_ 2 19 ?_
        refine py_ HT_ 4 21 ?_
        refine py_ HT_ 5 22 ?_
        refine py_ HT_ 6 23 ?_
        refine ty_ HT_ HW_ 3 20 rfl hHeld (by rintro w' ⟨s0,s1,s2,s3⟩;go_simp;with_reducible rfl) ?_
        refine ty_ HT_ HW_ 7 24 rfl hHeld (by rintro w' ⟨s0,s1,s2,s3⟩;go_simp;with_reducible rfl) ?_
        refine oy_ HT_ 8 (some 25) (fun K hK=>?_);refine gs_ Tryd.func62 #[.agg #[.int .i64 ((rd_T53 l0 aa).f0),.int .i64 ((rd_T53 l0 aa).f1)],.agg #[.int .i64 ((rd_T53 l1 aa).f0),.int .i64 ((rd_T53 l1 aa).f1)]] (h:=?_);with_reducible refine(laws_eqSym.calls ((rd_T53 l0 aa).f0) ((rd_T53 l0 aa).f1) ((rd_T53 l1 aa).f0) ((rd_T53 l1 aa).f1) false _ A7.out).mono ?_
        rintro e aU ⟨rfl,hb⟩;refine⟨_,rfl,?_⟩;replace HB:=hb_ HB hb
        (try clear hb)
        (try clear hb2)
        (try clear hk)
        (try clear hi)
        refine hK.out _ _ ⟨(cb_ HB ah),(cb_ HB ai),(cb_ HB aj),(cb_ HB ak)⟩ (fun hHeld=>?_);clear hK K;refine norm_y 25 (h:=?_)
        refine py_ HT_ 9 26 ?_
        refine done_ (done_of HT_.out (by kernel_rfl)) ?_
        try go_wp2
        go_ret
        exact⟨lf_,sq_below HB.out⟩
      ·
       rw [if_neg c6]at H;exact absurd H (by simp)
     ·
      rw [if_neg c5]at H;exact absurd H (by simp)
    ·
     rw [if_neg c4]at H;have aG:=decide_eq_false (p:=aa<(l0.length:Int)) c4;clear c4;obtain rfl:=Option.some.inj H
     go_wp2
     go_ret
     exact⟨lf_,sq_below HB.out⟩
 ·
  rw [if_neg c3]at H;have aA:((l0.length:Int) ==(l1.length:Int))=false:=beq_eq_false_iff_ne.mpr c3;have aC:((l0.length:Int) !=(l1.length:Int))=true:=bne_iff_ne.mpr c3;have aD:(l0.length == l1.length)=false:=by first|simpa using c3|(simp at c3 ⊢;omega)
  obtain rfl:=Option.some.inj H
  go_enter Tryd.func38,Tryd.ntmps38
  go_wp2
  go_ret
  exact⟨lf_,sq_below HB.out⟩
end Go.Proofs.YtcdeojfeebmonaaDoor.Q
namespace Go.Proofs.YtcdeojfeebmonaaDoor.Q
open Go.RowKit Go.Proofs.YtcdeojfeebmonaaDoorW.PrintWords Go.Proofs.YtcdeojfeebmonaaDoorW.PrintLast Go.Proofs.YtcdeojfeebmonaaDoorW.PrintMore
attribute [local go_sem] max2_int min2_int max_two min_two max_three min_three max_four min_four
set_option linter.unusedVariables false
set_option maxHeartbeats 8000000
set_option maxRecDepth 100000
set_option linter.unusedSimpArgs false
def laws_eqSymSS.l0:Nat→List (List (S53))→List (List (S53))→Int→Option (Bool)
 |0,_,_,_=>none
 |k+1,x0,x1,x5=>if x5<(x0.length:Int)then(if 0≤x5 then(if x5<(x1.length:Int)then((laws_eqSymS.f k (rd_L7 x0 x5) (rd_L7 x1 x5)).bind fun aK=>(if aK=true then(laws_eqSymSS.l0 k x0 x1 (wrap64 (x5+1)))else(some false)))else(none))else(none))else(some true)
def laws_eqSymSS.f(k:Nat)(l0:List (List (S53)))(l1:List (List (S53))):Option (Bool):=if(l0.length:Int)=(l1.length:Int)then(laws_eqSymSS.l0 k l0 l1 0)else(some false)
theorem laws_eqSymSS.mono_l:∀ k,(∀ y0 y1 y2,LeO (laws_eqSymSS.l0 k y0 y1 y2) (laws_eqSymSS.l0 (k+1) y0 y1 y2))
 |0=>fun _ _ _ r h=>by simp [laws_eqSymSS.l0]at h
 |k+1=>by
  have ih0:=laws_eqSymSS.mono_l k
  ·
   intro y0 y1 y2;unfold laws_eqSymSS.l0
   repeat' first
   |(with_reducible exact ih0 _ _ _)|(with_reducible exact laws_eqSymS.mono _ _ _)|(with_reducible exact LeO.refl _)|(with_reducible exact LeO.none _)|(with_reducible refine LeO.ite ?_ ?_)|(with_reducible refine LeO.bind ?_ fun _=>?_)|exact ih0 _ _ _|exact laws_eqSymS.mono _ _ _|exact LeO.none _|refine LeO.ite ?_ ?_|refine LeO.bind ?_ fun _=>?_
theorem laws_eqSymSS.mono:∀ a0 a1 k,LeO (laws_eqSymSS.f k a0 a1) (laws_eqSymSS.f (k+1) a0 a1):=by
 intro a0 a1 k;have ih0:=laws_eqSymSS.mono_l k;unfold laws_eqSymSS.f
 repeat' first
   |(with_reducible exact ih0 _ _ _)|(with_reducible exact laws_eqSymS.mono _ _ _)|(with_reducible exact LeO.refl _)|(with_reducible exact LeO.none _)|(with_reducible refine LeO.ite ?_ ?_)|(with_reducible refine LeO.bind ?_ fun _=>?_)|exact ih0 _ _ _|exact laws_eqSymS.mono _ _ _|exact LeO.none _|refine LeO.ite ?_ ?_|refine LeO.bind ?_ fun _=>?_
def laws_eqSymSS.T6:Bool×List (List Nat×List Nat):=(true,[([],[]),([],[]),([0,1],[0,1]),([2],[2]),([],[]),([],[]),([4,5],[4,5]),([6],[6]),([3,7],[3,7]),([8],[8])])
def laws_eqSymSS.B6:List Nat:=[0,0,3,7,0,0,48,112,255,511]
theorem laws_eqSymSS.tab6:rtab .any (opsOf Tryd.f19 6)=laws_eqSymSS.T6:=by kernel_rfl
theorem laws_eqSymSS.bits6:waitsOk laws_eqSymSS.T6.2 laws_eqSymSS.B6=true:=by kernel_rfl
theorem laws_eqSymSS.calls(k:Nat)(A0:Option Addr)(c0:Nat)(l0:List (List (S53)))(A1:Option Addr)(c1:Nat)(l1:List (List (S53)))(r:Bool)(w:World)(hr0:Kd.C (Kd.slice 53 k53) w A0 l0.length l0)(hc0:l0.length≤c0)(hr1:Kd.C (Kd.slice 53 k53) w A1 l1.length l1)(hc1:l1.length≤c1)(h:laws_eqSymSS.f k l0 l1=some r) :
  Calls Tryd.prog 19 #[.slice A0 l0.length c0,.slice A1 l1.length c1] w fun e w'=>e=.returned (.bool r)∧Below w.heap.size w w':=by
 have aU:=am_ hr0;have aY:=am_ hc0;clear hr0 hc0;have aV:=am_ hr1;have aZ:=am_ hc1;clear hr1 hc1;have HB:=am_ (Below.refl w.heap.size w);have H:(if(l0.length:Int)=(l1.length:Int)then(laws_eqSymSS.l0 k l0 l1 0)else(some false))=some r:=h;clear h
 by_cases c3:(l0.length:Int)=(l1.length:Int)
 ·
  rw [if_pos c3]at H;have aM:((l0.length:Int) ==(l1.length:Int))=true:=beq_iff_eq.mpr c3;have aN:((l0.length:Int) !=(l1.length:Int))=false:=bne_eq_false_iff_eq.mpr c3;have aQ:(l0.length == l1.length)=true:=by first|simpa using c3|(simp at c3 ⊢;omega)
  clear c3;have H':=am_ H;clear H
  go_enter Tryd.func19,Tryd.ntmps19
  go_wp2
  go_loopg [5] k (fun kq v5 w'=>∃ (aa:Int),v5=.int .i64 aa∧Aside0 (laws_eqSymSS.l0 kq l0 l1 aa=some r)∧Aside0 (kq≤k)∧Aside0 (Below w.heap.size w w'))
  case atStart=>exact⟨(0),sr_,H',⟨Nat.le_refl _⟩,⟨sq_below HB.out⟩⟩
  case round =>
   clear H'
   obtain⟨aa,rfl,HA,HK1,HB⟩:=hrel;cases gk with
   |zero=>exact absurd HA.out (by simp [laws_eqSymSS.l0])
   |succ k1 =>
    have H:=HA.out;clear HA;simp only [laws_eqSymSS.l0]at H
    by_cases c4:aa<(l0.length:Int)
    ·
     rw [if_pos c4]at H;have aT:=decide_eq_true (p:=aa<(l0.length:Int)) c4;clear c4
     by_cases c5:0≤aa
     ·
      rw [if_pos c5]at H;have aW:=decide_eq_true (p:=0≤aa) c5;clear c5
      by_cases c6:aa<(l1.length:Int)
      ·
       rw [if_pos c6]at H;have aX:=decide_eq_true (p:=aa<(l1.length:Int)) c6;clear c6;obtain⟨aK,A7,H⟩:=be_ H;(try dsimp only at H)
       by_cases c8:aK=true
       ·
        subst c8;have H1:=ifp_ H
        clear H;have H:=H1;clear H1;have H':=am_ H;clear H
        try go_wp2
        replace HB:=hd_ HB;have au:0≤(aa:Int):=sq_dec;have ax:aa<(l0.length:Int):=sq_dec;obtain⟨az,aj,ao,aI,ac,hl460_0,hi460_0⟩:=at_L7 aU.out aa au ax;have ah:=ac;cases aI;replace ac:=cb_ HB ac;have af:=am_ hi460_0;have aq:=am_ hl460_0;clear hi460_0 hl460_0;replace au:=eq_true au;replace ax:=eq_true ax;have aw:0≤(aa:Int):=sq_dec;have ay:aa<(l1.length:Int):=sq_dec;obtain⟨aA,ak,ap,aJ,ae,hl461_0,hi461_0⟩:=at_L7 aV.out aa aw ay;have ai:=ae;cases aJ;replace ae:=cb_ HB ae;have ag:=am_ hi461_0;have ar:=am_ hl461_0;clear hi461_0 hl461_0;replace aw:=eq_true aw;replace ay:=eq_true ay;refine start_ (n:=10) (S:=fun w'=>w'.cell? (az.add (aa).toNat)=some (.slice aj (rd_L7 l0 aa).length ao)∧w'.cell? (aA.add (aa).toNat)=some (.slice ak (rd_L7 l1 aa).length ap)) (ds:=[]) #[false,false,false,false,false,false,false,false,false,false] (by kernel_rfl) rfl rfl ⟨(cb_ HB ah),(cb_ HB ai)⟩ (fun hHeld=>?_);refine with_tabW laws_eqSymSS.tab6 laws_eqSymSS.bits6 (fun HT_ HW_=>?_);generalize wr.drew=w9 at HB af ag ac ae hHeld ⊢;refine py_ HT_ 0 17 ?_
        refine py_ HT_ 1 18 ?_
        refine py_ HT_ 2 19 ?_
        refine py_ HT_ 4 21 ?_
        refine py_ HT_ 5 22 ?_
        refine py_ HT_ 6 23 ?_
        refine ty_ HT_ HW_ 3 20 rfl hHeld (by rintro w' ⟨s0,s1⟩;go_simp;with_reducible rfl) ?_
        refine ty_ HT_ HW_ 7 24 rfl hHeld (by rintro w' ⟨s0,s1⟩;go_simp;with_reducible rfl) ?_
        refine oy_ HT_ 8 (some 25) (fun K hK=>?_);refine gs_ Tryd.func38 #[.slice aj (rd_L7 l0 aa).length ao,.slice ak (rd_L7 l1 aa).length ap] (h:=?_);with_reducible refine(laws_eqSymS.calls k1 _ _ (rd_L7 l0 aa) _ _ (rd_L7 l1 aa) true _ ?aC ?aD ?aG ?aH A7.out).mono ?_
        (case aC=>exact sq_c (Kd.C_below af.out HB.out))
        (case aD=>exact aq.out)
        (case aG=>exact sq_c (Kd.C_below ag.out HB.out))
        (case aH=>exact ar.out)
        rintro e a8 ⟨rfl,hb⟩;refine⟨_,rfl,?_⟩;replace HB:=hb_ HB hb
        (try clear hb)
        (try clear hb2)
        (try clear hk)
        (try clear hi)
        refine hK.out _ _ ⟨(cb_ HB ah),(cb_ HB ai)⟩ (fun hHeld=>?_);clear hK K;refine norm_y 25 (h:=?_)
        refine py_ HT_ 9 26 ?_
        refine done_ (done_of HT_.out (by kernel_rfl)) ?_
        try go_wp2
        go_roundg k1
        case measure=>have:=HK1.out;omega
        case rel=>exact⟨(wrap64 (aa+1)),sr_,H',⟨by have:=HK1.out;omega⟩,⟨sq_below HB.out⟩⟩
       ·
        replace c8:=Bool.eq_false_iff.mpr c8;subst c8;have H1:=ifn_ H
        clear H;have H:=H1;clear H1;obtain rfl:=Option.some.inj H
        try go_wp2
        replace HB:=hd_ HB;have au:0≤(aa:Int):=sq_dec;have ax:aa<(l0.length:Int):=sq_dec;obtain⟨az,aj,ao,aI,ac,hl460_0,hi460_0⟩:=at_L7 aU.out aa au ax;have ah:=ac;cases aI;replace ac:=cb_ HB ac;have af:=am_ hi460_0;have aq:=am_ hl460_0;clear hi460_0 hl460_0;replace au:=eq_true au;replace ax:=eq_true ax;have aw:0≤(aa:Int):=sq_dec;have ay:aa<(l1.length:Int):=sq_dec;obtain⟨aA,ak,ap,aJ,ae,hl461_0,hi461_0⟩:=at_L7 aV.out aa aw ay;have ai:=ae;cases aJ;replace ae:=cb_ HB ae;have ag:=am_ hi461_0;have ar:=am_ hl461_0;clear hi461_0 hl461_0;replace aw:=eq_true aw;replace ay:=eq_true ay;refine start_ (n:=10) (S:=fun w'=>w'.cell? (az.add (aa).toNat)=some (.slice aj (rd_L7 l0 aa).length ao)∧w'.cell? (aA.add (aa).toNat)=some (.slice ak (rd_L7 l1 aa).length ap)) (ds:=[]) #[false,false,false,false,false,false,false,false,false,false] (by kernel_rfl) rfl rfl ⟨(cb_ HB ah),(cb_ HB ai)⟩ (fun hHeld=>?_);refine with_tabW laws_eqSymSS.tab6 laws_eqSymSS.bits6 (fun HT_ HW_=>?_);generalize wr.drew=a9 at HB af ag ac ae hHeld ⊢;refine py_ HT_ 0 17 ?_
        refine py_ HT_ 1 18 ?_
        refine py_ HT_ 2 19 ?_
        refine py_ HT_ 4 21 ?_
        refine py_ HT_ 5 22 ?_
        refine py_ HT_ 6 23 ?_
        refine ty_ HT_ HW_ 3 20 rfl hHeld (by rintro w' ⟨s0,s1⟩;go_simp;with_reducible rfl) ?_
        refine ty_ HT_ HW_ 7 24 rfl hHeld (by rintro w' ⟨s0,s1⟩;go_simp;with_reducible rfl) ?_
        refine oy_ HT_ 8 (some 25) (fun K hK=>?_);refine gs_ Tryd.func38 #[.slice aj (rd_L7 l0 aa).length ao,.slice ak (rd_L7 l1 aa).length ap] (h:=?_);with_reducible refine(laws_eqSymS.calls k1 _ _ (rd_L7 l0 aa) _ _ (rd_L7 l1 aa) false _ ?aC ?aD ?aG ?aH A7.out).mono ?_
        (case aC=>exact sq_c (Kd.C_below af.out HB.out))
        (case aD=>exact aq.out)
        (case aG=>exact sq_c (Kd.C_below ag.out HB.out))
        (case aH=>exact ar.out)
        rintro e ba ⟨rfl,hb⟩;refine⟨_,rfl,?_⟩;replace HB:=hb_ HB hb
        (try clear hb)
        (try clear hb2)
        (try clear hk)
        (try clear hi)
        refine hK.out _ _ ⟨(cb_ HB ah),(cb_ HB ai)⟩ (fun hHeld=>?_);clear hK K;refine norm_y 25 (h:=?_)
        refine py_ HT_ 9 26 ?_
        refine done_ (done_of HT_.out (by kernel_rfl)) ?_
        try go_wp2
        go_ret
        exact⟨lf_,sq_below HB.out⟩
      ·
       rw [if_neg c6]at H;exact absurd H (by simp)
     ·
      rw [if_neg c5]at H;exact absurd H (by simp)
    ·
     rw [if_neg c4]at H;have aT:=decide_eq_false (p:=aa<(l0.length:Int)) c4;clear c4;obtain rfl:=Option.some.inj H
     go_wp2
     go_ret
     exact⟨lf_,sq_below HB.out⟩
 ·
  rw [if_neg c3]at H;have aM:((l0.length:Int) ==(l1.length:Int))=false:=beq_eq_false_iff_ne.mpr c3;have aN:((l0.length:Int) !=(l1.length:Int))=true:=bne_iff_ne.mpr c3;have aQ:(l0.length == l1.length)=false:=by first|simpa using c3|(simp at c3 ⊢;omega)
  obtain rfl:=Option.some.inj H
  go_enter Tryd.func19,Tryd.ntmps19
  go_wp2
  go_ret
  exact⟨lf_,sq_below HB.out⟩
end Go.Proofs.YtcdeojfeebmonaaDoor.Q
namespace Go.Proofs.YtcdeojfeebmonaaDoor.Q
open Go.RowKit Go.Proofs.YtcdeojfeebmonaaDoorW.PrintWords Go.Proofs.YtcdeojfeebmonaaDoorW.PrintLast Go.Proofs.YtcdeojfeebmonaaDoorW.PrintMore
attribute [local go_sem] max2_int min2_int max_two min_two max_three min_three max_four min_four
set_option linter.unusedVariables false
set_option maxHeartbeats 8000000
set_option maxRecDepth 100000
set_option linter.unusedSimpArgs false
def laws_eqRange.f(ag:Int)(ah:Int)(ai:Int)(aj:Int):Option (Bool):=if ag=ai then(if ah=aj then(some true)else(some false))else(some false)
theorem laws_eqRange.calls(ag:Int)(ah:Int)(ai:Int)(aj:Int)(r:Bool)(w:World)(h:laws_eqRange.f ag ah ai aj=some r) :
  Calls Tryd.prog 63 #[.agg #[.int .i64 ag,.int .i64 ah],.agg #[.int .i64 ai,.int .i64 aj]] w fun e w'=>e=.returned (.bool r)∧Below w.heap.size w w':=by
 have hu58:=Tryd.underlying58;have HB:=am_ (Below.refl w.heap.size w);have H:(if ag=ai then(if ah=aj then(some true)else(some false))else(some false))=some r:=h;clear h
 by_cases c3:ag=ai
 ·
  rw [if_pos c3]at H;have aU:(ag == ai)=true:=beq_iff_eq.mpr c3;have aV:(ag != ai)=false:=bne_eq_false_iff_eq.mpr c3;clear c3
  by_cases c4:ah=aj
  ·
   rw [if_pos c4]at H;have aW:(ah == aj)=true:=beq_iff_eq.mpr c4;have aX:(ah != aj)=false:=bne_eq_false_iff_eq.mpr c4;clear c4;obtain rfl:=Option.some.inj H
   go_enter Tryd.func63,Tryd.ntmps63
   go_wp2_with (first|((with_reducible refine gate_dst (N:=2) rfl ?_);refine box_y 2 #[.int .i64 ag,.int .i64 ah] 58 (h:=?_);intro ar hg w5 hbox hb;have ac:=am_ hbox;have ap:=gz_ hg HB;have af:=gz_ hg HB;replace HB:=hb_ HB hb;clear hb hbox hg)|((with_reducible refine gate_dst (N:=3) rfl ?_);refine box_y 3 #[.int .i64 ai,.int .i64 aj] 58 (h:=?_);intro au hg w6 hbox hb;have ak:=am_ hbox;have aq:=gz1_ hg HB af;have ao:=gz1_ hg HB af;replace HB:=hb1_ HB hb af;have aa:=nb_ hg ac;replace ac:=bb_ ac hb;have ae:=ns_ aa;clear hb hbox hg;have bn:=aa.out;have bo:=ae.out;obtain⟨aY,aZ,ba,bc⟩:=cz2_ ac;obtain⟨a8,a9,bf,bg⟩:=cz2_ ak))
   go_ret
   exact⟨lf_,sq_below1 HB.out ao.out⟩
  ·
   rw [if_neg c4]at H;have aW:(ah == aj)=false:=beq_eq_false_iff_ne.mpr c4;have aX:(ah != aj)=true:=bne_iff_ne.mpr c4;obtain rfl:=Option.some.inj H
   go_enter Tryd.func63,Tryd.ntmps63
   go_wp2_with (first|((with_reducible refine gate_dst (N:=2) rfl ?_);refine box_y 2 #[.int .i64 ag,.int .i64 ah] 58 (h:=?_);intro ar hg bp hbox hb;have ac:=am_ hbox;have ap:=gz_ hg HB;have af:=gz_ hg HB;replace HB:=hb_ HB hb;clear hb hbox hg)|((with_reducible refine gate_dst (N:=3) rfl ?_);refine box_y 3 #[.int .i64 ai,.int .i64 aj] 58 (h:=?_);intro au hg bq hbox hb;have ak:=am_ hbox;have aq:=gz1_ hg HB af;have ao:=gz1_ hg HB af;replace HB:=hb1_ HB hb af;have aa:=nb_ hg ac;replace ac:=bb_ ac hb;have ae:=ns_ aa;clear hb hbox hg;have bh:=aa.out;have bj:=ae.out;obtain⟨aw,ax,aH,aI⟩:=cz2_ ac;obtain⟨ay,az,aJ,aK⟩:=cz2_ ak))
   go_ret
   exact⟨lf_,sq_below1 HB.out ao.out⟩
 ·
  rw [if_neg c3]at H;have aU:(ag == ai)=false:=beq_eq_false_iff_ne.mpr c3;have aV:(ag != ai)=true:=bne_iff_ne.mpr c3;obtain rfl:=Option.some.inj H
  go_enter Tryd.func63,Tryd.ntmps63
  go_wp2_with (first|((with_reducible refine gate_dst (N:=2) rfl ?_);refine box_y 2 #[.int .i64 ag,.int .i64 ah] 58 (h:=?_);intro ar hg br hbox hb;have ac:=am_ hbox;have ap:=gz_ hg HB;have af:=gz_ hg HB;replace HB:=hb_ HB hb;clear hb hbox hg)|((with_reducible refine gate_dst (N:=3) rfl ?_);refine box_y 3 #[.int .i64 ai,.int .i64 aj] 58 (h:=?_);intro au hg bu hbox hb;have ak:=am_ hbox;have aq:=gz1_ hg HB af;have ao:=gz1_ hg HB af;replace HB:=hb1_ HB hb af;have aa:=nb_ hg ac;replace ac:=bb_ ac hb;have ae:=ns_ aa;clear hb hbox hg;have bi:=aa.out;have bk:=ae.out;obtain⟨aA,aC,aM,aN⟩:=cz2_ ac;obtain⟨aD,aG,aQ,aT⟩:=cz2_ ak))
  go_ret
  exact⟨lf_,sq_below1 HB.out ao.out⟩
def laws_eqVal.f(aj:Int)(ak:Int)(ah:Bool)(ao:Int)(ap:Int)(ai:Bool):Option (Bool):=(laws_eqRange.f aj ak ao ap).bind fun ar=>(if ar=true then(if(ah != ai)=true then(some false)else(some true))else(some false))
theorem laws_eqVal.calls(aj:Int)(ak:Int)(ah:Bool)(ao:Int)(ap:Int)(ai:Bool)(r:Bool)(w:World)(h:laws_eqVal.f aj ak ah ao ap ai=some r) :
  Calls Tryd.prog 39 #[.agg #[.int .i64 aj,.int .i64 ak,.bool ah],.agg #[.int .i64 ao,.int .i64 ap,.bool ai]] w fun e w'=>e=.returned (.bool r)∧Below w.heap.size w w':=by
 have hu60:=Tryd.underlying60;have hu58:=Tryd.underlying58;have HB:=am_ (Below.refl w.heap.size w);have H:((laws_eqRange.f aj ak ao ap).bind fun ar=>(if ar=true then(if(ah != ai)=true then(some false)else(some true))else(some false)))=some r:=h;clear h;obtain⟨ar,A3,H⟩:=be_ H;(try dsimp only at H)
 by_cases c4:ar=true
 ·
  subst c4;have H1:=ifp_ H
  clear H;have H:=H1;clear H1
  by_cases c5:(ah != ai)=true
  ·
   rw [if_pos c5]at H;have bQ:(ah != ai)=true:=c5
   (try(have bR:decide (ah=ai)=false:=by simpa using c5))
   (try(have bS:(ah == ai)=false:=by simpa using c5))
   (try(have b6:¬(ah=ai):=by simpa using c5))
   clear c5;obtain rfl:=Option.some.inj H
   go_enter Tryd.func39,Tryd.ntmps39
   go_wp2_with (first|((with_reducible refine gate_dst (N:=2) rfl ?_);refine box_y 2 #[.int .i64 aj,.int .i64 ak,.bool ah] 60 (h:=?_);intro ax hg w6 hbox hb;have aa:=am_ hbox;have au:=gz_ hg HB;have ae:=gz_ hg HB;replace HB:=hb_ HB hb;clear hb hbox hg)|((with_reducible refine gate_dst (N:=3) rfl ?_);refine box_y 3 #[.int .i64 ao,.int .i64 ap,.bool ai] 60 (h:=?_);intro ay hg w7 hbox hb;have ag:=am_ hbox;have aw:=gz1_ hg HB ae;have aq:=gz1_ hg HB ae;replace HB:=hb1_ HB hb ae;have ac:=nb_ hg aa;replace aa:=bb_ aa hb;have af:=ns_ ac;clear hb hbox hg;have b7:=ac.out;have b8:=af.out;obtain⟨bT,bU,bV,bW,bX,bY⟩:=cz3_ aa;obtain⟨az,aA,aC,bj,bk,bn⟩:=cz3_ ag)|((with_reducible refine gate_callee (f:=63) rfl ?_);refine gl_ 9 Tryd.func63 #[.agg #[.int .i64 aj,.int .i64 ak],.agg #[.int .i64 ao,.int .i64 ap]] (h:=?_);(with_reducible refine(laws_eqRange.calls aj ak ao ap true _ A3.out).mono ?_);rintro e b9 ⟨rfl,hb⟩;refine⟨_,rfl,?_⟩;replace aa:=bb_ aa hb;replace ag:=bb_ ag hb;replace HB:=hb2_ HB hb ae aq;(try clear hb);obtain⟨aD,aG,aH,bo,bp,bq⟩:=cz3_ aa;obtain⟨aI,aJ,aK,br,bu,bw⟩:=cz3_ ag))
   go_ret
   exact⟨lf_,sq_below1 HB.out aq.out⟩
  ·
   rw [if_neg c5]at H;have bQ:(ah != ai)=false:=by simpa using c5
   (try(have bR:decide (ah=ai)=true:=by simpa using c5))
   (try(have bS:(ah == ai)=true:=by simpa using c5))
   clear c5;obtain rfl:=Option.some.inj H
   go_enter Tryd.func39,Tryd.ntmps39
   go_wp2_with (first|((with_reducible refine gate_dst (N:=2) rfl ?_);refine box_y 2 #[.int .i64 aj,.int .i64 ak,.bool ah] 60 (h:=?_);intro ax hg ca hbox hb;have aa:=am_ hbox;have au:=gz_ hg HB;have ae:=gz_ hg HB;replace HB:=hb_ HB hb;clear hb hbox hg)|((with_reducible refine gate_dst (N:=3) rfl ?_);refine box_y 3 #[.int .i64 ao,.int .i64 ap,.bool ai] 60 (h:=?_);intro ay hg cb hbox hb;have ag:=am_ hbox;have aw:=gz1_ hg HB ae;have aq:=gz1_ hg HB ae;replace HB:=hb1_ HB hb ae;have ac:=nb_ hg aa;replace aa:=bb_ aa hb;have af:=ns_ ac;clear hb hbox hg;have bZ:=ac.out;have b4:=af.out;obtain⟨aM,aN,aQ,bx,bz,bA⟩:=cz3_ aa;obtain⟨aT,aU,aV,bB,bC,bD⟩:=cz3_ ag)|((with_reducible refine gate_callee (f:=63) rfl ?_);refine gl_ 9 Tryd.func63 #[.agg #[.int .i64 aj,.int .i64 ak],.agg #[.int .i64 ao,.int .i64 ap]] (h:=?_);(with_reducible refine(laws_eqRange.calls aj ak ao ap true _ A3.out).mono ?_);rintro e cd ⟨rfl,hb⟩;refine⟨_,rfl,?_⟩;replace aa:=bb_ aa hb;replace ag:=bb_ ag hb;replace HB:=hb2_ HB hb ae aq;(try clear hb);obtain⟨aW,aX,aY,bE,bF,bG⟩:=cz3_ aa;obtain⟨aZ,a8,a9,bH,bI,bJ⟩:=cz3_ ag))
   go_ret
   exact⟨lf_,sq_below1 HB.out aq.out⟩
 ·
  replace c4:=Bool.eq_false_iff.mpr c4;subst c4;have H1:=ifn_ H
  clear H;have H:=H1;clear H1;obtain rfl:=Option.some.inj H
  go_enter Tryd.func39,Tryd.ntmps39
  go_wp2_with (first|((with_reducible refine gate_dst (N:=2) rfl ?_);refine box_y 2 #[.int .i64 aj,.int .i64 ak,.bool ah] 60 (h:=?_);intro ax hg cf hbox hb;have aa:=am_ hbox;have au:=gz_ hg HB;have ae:=gz_ hg HB;replace HB:=hb_ HB hb;clear hb hbox hg)|((with_reducible refine gate_dst (N:=3) rfl ?_);refine box_y 3 #[.int .i64 ao,.int .i64 ap,.bool ai] 60 (h:=?_);intro ay hg cg hbox hb;have ag:=am_ hbox;have aw:=gz1_ hg HB ae;have aq:=gz1_ hg HB ae;replace HB:=hb1_ HB hb ae;have ac:=nb_ hg aa;replace aa:=bb_ aa hb;have af:=ns_ ac;clear hb hbox hg;have b3:=ac.out;have b5:=af.out;obtain⟨ba,bc,bf,bK,bL,bM⟩:=cz3_ aa;obtain⟨bg,bh,bi,bN,bO,bP⟩:=cz3_ ag)|((with_reducible refine gate_callee (f:=63) rfl ?_);refine gl_ 9 Tryd.func63 #[.agg #[.int .i64 aj,.int .i64 ak],.agg #[.int .i64 ao,.int .i64 ap]] (h:=?_);(with_reducible refine(laws_eqRange.calls aj ak ao ap false _ A3.out).mono ?_);rintro e ch ⟨rfl,hb⟩;refine⟨_,rfl,?_⟩;replace HB:=hb_ HB hb;(try clear hb)))
  go_ret
  exact⟨lf_,sq_below HB.out⟩
end Go.Proofs.YtcdeojfeebmonaaDoor.Q
namespace Go.Proofs.YtcdeojfeebmonaaDoor.Q
open Go.RowKit Go.Proofs.YtcdeojfeebmonaaDoorW.PrintWords Go.Proofs.YtcdeojfeebmonaaDoorW.PrintLast Go.Proofs.YtcdeojfeebmonaaDoorW.PrintMore
attribute [local go_sem] max2_int min2_int max_two min_two max_three min_three max_four min_four
set_option linter.unusedVariables false
set_option maxHeartbeats 8000000
set_option maxRecDepth 100000
set_option linter.unusedSimpArgs false
def laws_eqValS.l0:Nat→List (S60)→List (S60)→Int→Option (Bool)
 |0,_,_,_=>none
 |k+1,x0,x1,x5=>if x5<(x0.length:Int)then(if 0≤x5 then(if x5<(x1.length:Int)then((laws_eqVal.f ((rd_T60 x0 x5).f0.f0) ((rd_T60 x0 x5).f0.f1) ((rd_T60 x0 x5).f1) ((rd_T60 x1 x5).f0.f0) ((rd_T60 x1 x5).f0.f1) ((rd_T60 x1 x5).f1)).bind fun aG=>(if aG=true then(laws_eqValS.l0 k x0 x1 (wrap64 (x5+1)))else(some false)))else(none))else(none))else(some true)
def laws_eqValS.f(k:Nat)(l0:List (S60))(l1:List (S60)):Option (Bool):=if(l0.length:Int)=(l1.length:Int)then(laws_eqValS.l0 k l0 l1 0)else(some false)
theorem laws_eqValS.mono_l:∀ k,(∀ y0 y1 y2,LeO (laws_eqValS.l0 k y0 y1 y2) (laws_eqValS.l0 (k+1) y0 y1 y2))
 |0=>fun _ _ _ r h=>by simp [laws_eqValS.l0]at h
 |k+1=>by
  have ih0:=laws_eqValS.mono_l k
  ·
   intro y0 y1 y2;unfold laws_eqValS.l0
   repeat' first
   |(with_reducible exact ih0 _ _ _)|(with_reducible exact LeO.refl _)|(with_reducible exact LeO.none _)|(with_reducible refine LeO.ite ?_ ?_)|(with_reducible refine LeO.bind ?_ fun _=>?_)|exact ih0 _ _ _|exact LeO.none _|refine LeO.ite ?_ ?_|refine LeO.bind ?_ fun _=>?_
theorem laws_eqValS.mono:∀ a0 a1 k,LeO (laws_eqValS.f k a0 a1) (laws_eqValS.f (k+1) a0 a1):=by
 intro a0 a1 k;have ih0:=laws_eqValS.mono_l k;unfold laws_eqValS.f
 repeat' first
   |(with_reducible exact ih0 _ _ _)|(with_reducible exact LeO.refl _)|(with_reducible exact LeO.none _)|(with_reducible refine LeO.ite ?_ ?_)|(with_reducible refine LeO.bind ?_ fun _=>?_)|exact ih0 _ _ _|exact LeO.none _|refine LeO.ite ?_ ?_|refine LeO.bind ?_ fun _=>?_
def laws_eqValS.T6:Bool×List (List Nat×List Nat):=(true,[([],[]),([],[]),([0,1],[0,1]),([2],[2]),([],[]),([],[]),([4,5],[4,5]),([6],[6]),([3,7],[3,7]),([8],[8])])
def laws_eqValS.B6:List Nat:=[0,0,3,7,0,0,48,112,255,511]
theorem laws_eqValS.tab6:rtab .any (opsOf Tryd.f20 6)=laws_eqValS.T6:=by kernel_rfl
theorem laws_eqValS.bits6:waitsOk laws_eqValS.T6.2 laws_eqValS.B6=true:=by kernel_rfl
theorem laws_eqValS.calls(k:Nat)(A0:Option Addr)(c0:Nat)(l0:List (S60))(A1:Option Addr)(c1:Nat)(l1:List (S60))(r:Bool)(w:World)(hr0:Kd.C k60 w A0 l0.length l0)(hc0:l0.length≤c0)(hr1:Kd.C k60 w A1 l1.length l1)(hc1:l1.length≤c1)(h:laws_eqValS.f k l0 l1=some r) :
  Calls Tryd.prog 20 #[.slice A0 l0.length c0,.slice A1 l1.length c1] w fun e w'=>e=.returned (.bool r)∧Below w.heap.size w w':=by
 have hu60:=Tryd.underlying60;have aM:=am_ hr0;have aU:=am_ hc0;clear hr0 hc0;have aN:=am_ hr1;have aV:=am_ hc1;clear hr1 hc1;have HB:=am_ (Below.refl w.heap.size w);have H:(if(l0.length:Int)=(l1.length:Int)then(laws_eqValS.l0 k l0 l1 0)else(some false))=some r:=h;clear h
 by_cases c3:(l0.length:Int)=(l1.length:Int)
 ·
  rw [if_pos c3]at H;have aH:((l0.length:Int) ==(l1.length:Int))=true:=beq_iff_eq.mpr c3;have aI:((l0.length:Int) !=(l1.length:Int))=false:=bne_eq_false_iff_eq.mpr c3;have aJ:(l0.length == l1.length)=true:=by first|simpa using c3|(simp at c3 ⊢;omega)
  clear c3;have H':=am_ H;clear H
  go_enter Tryd.func20,Tryd.ntmps20
  go_wp2
  go_loopg [5] k (fun kq v5 w'=>∃ (aa:Int),v5=.int .i64 aa∧Aside0 (laws_eqValS.l0 kq l0 l1 aa=some r)∧Aside0 (kq≤k)∧Aside0 (Below w.heap.size w w'))
  case atStart=>exact⟨(0),sr_,H',⟨Nat.le_refl _⟩,⟨sq_below HB.out⟩⟩
  case round =>
   clear H'
   obtain⟨aa,rfl,HA,HK1,HB⟩:=hrel;cases gk with
   |zero=>exact absurd HA.out (by simp [laws_eqValS.l0])
   |succ k1 =>
    have H:=HA.out;clear HA;simp only [laws_eqValS.l0]at H
    by_cases c4:aa<(l0.length:Int)
    ·
     rw [if_pos c4]at H;have aK:=decide_eq_true (p:=aa<(l0.length:Int)) c4;clear c4
     by_cases c5:0≤aa
     ·
      rw [if_pos c5]at H;have aQ:=decide_eq_true (p:=0≤aa) c5;clear c5
      by_cases c6:aa<(l1.length:Int)
      ·
       rw [if_pos c6]at H;have aT:=decide_eq_true (p:=aa<(l1.length:Int)) c6;clear c6;obtain⟨aG,A7,H⟩:=be_ H;(try dsimp only at H)
       by_cases c8:aG=true
       ·
        subst c8;have H1:=ifp_ H
        clear H;have H:=H1;clear H1;have H':=am_ H;clear H
        try go_wp2
        replace HB:=hd_ HB;have ax:0≤(aa:Int):=sq_dec;have az:aa<(l0.length:Int):=sq_dec;obtain⟨aj,aC,ac,ae,af⟩:=at_T60 aM.out aa ax az;have aq:=af;have ap:=ae;have ao:=ac;cases aC;replace ac:=cb_ HB ac;replace ae:=cb_ HB ae;replace af:=cb_ HB af;replace ax:=eq_true ax;replace az:=eq_true az;have ay:0≤(aa:Int):=sq_dec;have aA:aa<(l1.length:Int):=sq_dec;obtain⟨ak,aD,ag,ah,ai⟩:=at_T60 aN.out aa ay aA;have aw:=ai;have au:=ah;have ar:=ag;cases aD;replace ag:=cb_ HB ag;replace ah:=cb_ HB ah;replace ai:=cb_ HB ai;replace ay:=eq_true ay;replace aA:=eq_true aA;refine start_ (n:=10) (S:=fun w'=>w'.cell? (aj.add ((aa).toNat*3))=some (.int .i64 ((rd_T60 l0 aa).f0.f0))∧w'.cell? ⟨(aj.add ((aa).toNat*3)).block,(aj.add ((aa).toNat*3)).off+1,none⟩=some (.int .i64 ((rd_T60 l0 aa).f0.f1))∧w'.cell? ⟨(aj.add ((aa).toNat*3)).block,(aj.add ((aa).toNat*3)).off+2,none⟩=some (.bool ((rd_T60 l0 aa).f1))∧w'.cell? (ak.add ((aa).toNat*3))=some (.int .i64 ((rd_T60 l1 aa).f0.f0))∧w'.cell? ⟨(ak.add ((aa).toNat*3)).block,(ak.add ((aa).toNat*3)).off+1,none⟩=some (.int .i64 ((rd_T60 l1 aa).f0.f1))∧w'.cell? ⟨(ak.add ((aa).toNat*3)).block,(ak.add ((aa).toNat*3)).off+2,none⟩=some (.bool ((rd_T60 l1 aa).f1))) (ds:=[]) #[false,false,false,false,false,false,false,false,false,false] (by kernel_rfl) rfl rfl ⟨(cb_ HB ao),(cb_ HB ap),(cb_ HB aq),(cb_ HB ar),(cb_ HB au),(cb_ HB aw)⟩ (fun hHeld=>?_);refine with_tabW laws_eqValS.tab6 laws_eqValS.bits6 (fun HT_ HW_=>?_);generalize wr.drew=w9 at HB ac ae af ag ah ai hHeld ⊢;refine py_ HT_ 0 17 ?_
        refine py_ HT_ 1 18 ?_
        refine py_ HT_ 2 19 ?_
        refine py_ HT_ 4 21 ?_
        refine py_ HT_ 5 22 ?_
        refine py_ HT_ 6 23 ?_
        refine ty_ HT_ HW_ 3 20 rfl hHeld (by rintro w' ⟨s0,s1,s2,s3,s4,s5⟩;go_simp;with_reducible rfl) ?_
        refine ty_ HT_ HW_ 7 24 rfl hHeld (by rintro w' ⟨s0,s1,s2,s3,s4,s5⟩;go_simp;with_reducible rfl) ?_
        refine oy_ HT_ 8 (some 25) (fun K hK=>?_);refine gs_ Tryd.func39 #[.agg #[.int .i64 ((rd_T60 l0 aa).f0.f0),.int .i64 ((rd_T60 l0 aa).f0.f1),.bool ((rd_T60 l0 aa).f1)],.agg #[.int .i64 ((rd_T60 l1 aa).f0.f0),.int .i64 ((rd_T60 l1 aa).f0.f1),.bool ((rd_T60 l1 aa).f1)]] (h:=?_);with_reducible refine(laws_eqVal.calls ((rd_T60 l0 aa).f0.f0) ((rd_T60 l0 aa).f0.f1) ((rd_T60 l0 aa).f1) ((rd_T60 l1 aa).f0.f0) ((rd_T60 l1 aa).f0.f1) ((rd_T60 l1 aa).f1) true _ A7.out).mono ?_
        rintro e aW ⟨rfl,hb⟩;refine⟨_,rfl,?_⟩;replace HB:=hb_ HB hb
        (try clear hb)
        (try clear hb2)
        (try clear hk)
        (try clear hi)
        refine hK.out _ _ ⟨(cb_ HB ao),(cb_ HB ap),(cb_ HB aq),(cb_ HB ar),(cb_ HB au),(cb_ HB aw)⟩ (fun hHeld=>?_);clear hK K;refine norm_y 25 (h:=?_)
        refine py_ HT_ 9 26 ?_
        refine done_ (done_of HT_.out (by kernel_rfl)) ?_
        try go_wp2
        go_roundg k1
        case measure=>have:=HK1.out;omega
        case rel=>exact⟨(wrap64 (aa+1)),sr_,H',⟨by have:=HK1.out;omega⟩,⟨sq_below HB.out⟩⟩
       ·
        replace c8:=Bool.eq_false_iff.mpr c8;subst c8;have H1:=ifn_ H
        clear H;have H:=H1;clear H1;obtain rfl:=Option.some.inj H
        try go_wp2
        replace HB:=hd_ HB;have ax:0≤(aa:Int):=sq_dec;have az:aa<(l0.length:Int):=sq_dec;obtain⟨aj,aC,ac,ae,af⟩:=at_T60 aM.out aa ax az;have aq:=af;have ap:=ae;have ao:=ac;cases aC;replace ac:=cb_ HB ac;replace ae:=cb_ HB ae;replace af:=cb_ HB af;replace ax:=eq_true ax;replace az:=eq_true az;have ay:0≤(aa:Int):=sq_dec;have aA:aa<(l1.length:Int):=sq_dec;obtain⟨ak,aD,ag,ah,ai⟩:=at_T60 aN.out aa ay aA;have aw:=ai;have au:=ah;have ar:=ag;cases aD;replace ag:=cb_ HB ag;replace ah:=cb_ HB ah;replace ai:=cb_ HB ai;replace ay:=eq_true ay;replace aA:=eq_true aA;refine start_ (n:=10) (S:=fun w'=>w'.cell? (aj.add ((aa).toNat*3))=some (.int .i64 ((rd_T60 l0 aa).f0.f0))∧w'.cell? ⟨(aj.add ((aa).toNat*3)).block,(aj.add ((aa).toNat*3)).off+1,none⟩=some (.int .i64 ((rd_T60 l0 aa).f0.f1))∧w'.cell? ⟨(aj.add ((aa).toNat*3)).block,(aj.add ((aa).toNat*3)).off+2,none⟩=some (.bool ((rd_T60 l0 aa).f1))∧w'.cell? (ak.add ((aa).toNat*3))=some (.int .i64 ((rd_T60 l1 aa).f0.f0))∧w'.cell? ⟨(ak.add ((aa).toNat*3)).block,(ak.add ((aa).toNat*3)).off+1,none⟩=some (.int .i64 ((rd_T60 l1 aa).f0.f1))∧w'.cell? ⟨(ak.add ((aa).toNat*3)).block,(ak.add ((aa).toNat*3)).off+2,none⟩=some (.bool ((rd_T60 l1 aa).f1))) (ds:=[]) #[false,false,false,false,false,false,false,false,false,false] (by kernel_rfl) rfl rfl ⟨(cb_ HB ao),(cb_ HB ap),(cb_ HB aq),(cb_ HB ar),(cb_ HB au),(cb_ HB aw)⟩ (fun hHeld=>?_);refine with_tabW laws_eqValS.tab6 laws_eqValS.bits6 (fun HT_ HW_=>?_);generalize wr.drew=aX at HB ac ae af ag ah ai hHeld ⊢;refine py_ HT_ 0 17 ?_
        refine py_ HT_ 1 18 ?_
        refine py_ HT_ 2 19 ?_
        refine py_ HT_ 4 21 ?_
        refine py_ HT_ 5 22 ?_
        refine py_ HT_ 6 23 ?_
        refine ty_ HT_ HW_ 3 20 rfl hHeld (by rintro w' ⟨s0,s1,s2,s3,s4,s5⟩;go_simp;with_reducible rfl) ?_
        refine ty_ HT_ HW_ 7 24 rfl hHeld (by rintro w' ⟨s0,s1,s2,s3,s4,s5⟩;go_simp;with_reducible rfl) ?_
        refine oy_ HT_ 8 (some 25) (fun K hK=>?_);refine gs_ Tryd.func39 #[.agg #[.int .i64 ((rd_T60 l0 aa).f0.f0),.int .i64 ((rd_T60 l0 aa).f0.f1),.bool ((rd_T60 l0 aa).f1)],.agg #[.int .i64 ((rd_T60 l1 aa).f0.f0),.int .i64 ((rd_T60 l1 aa).f0.f1),.bool ((rd_T60 l1 aa).f1)]] (h:=?_);with_reducible refine(laws_eqVal.calls ((rd_T60 l0 aa).f0.f0) ((rd_T60 l0 aa).f0.f1) ((rd_T60 l0 aa).f1) ((rd_T60 l1 aa).f0.f0) ((rd_T60 l1 aa).f0.f1) ((rd_T60 l1 aa).f1) false _ A7.out).mono ?_
        rintro e aY ⟨rfl,hb⟩;refine⟨_,rfl,?_⟩;replace HB:=hb_ HB hb
        (try clear hb)
        (try clear hb2)
        (try clear hk)
        (try clear hi)
        refine hK.out _ _ ⟨(cb_ HB ao),(cb_ HB ap),(cb_ HB aq),(cb_ HB ar),(cb_ HB au),(cb_ HB aw)⟩ (fun hHeld=>?_);clear hK K;refine norm_y 25 (h:=?_)
        refine py_ HT_ 9 26 ?_
        refine done_ (done_of HT_.out (by kernel_rfl)) ?_
        try go_wp2
        go_ret
        exact⟨lf_,sq_below HB.out⟩
      ·
       rw [if_neg c6]at H;exact absurd H (by simp)
     ·
      rw [if_neg c5]at H;exact absurd H (by simp)
    ·
     rw [if_neg c4]at H;have aK:=decide_eq_false (p:=aa<(l0.length:Int)) c4;clear c4;obtain rfl:=Option.some.inj H
     go_wp2
     go_ret
     exact⟨lf_,sq_below HB.out⟩
 ·
  rw [if_neg c3]at H;have aH:((l0.length:Int) ==(l1.length:Int))=false:=beq_eq_false_iff_ne.mpr c3;have aI:((l0.length:Int) !=(l1.length:Int))=true:=bne_iff_ne.mpr c3;have aJ:(l0.length == l1.length)=false:=by first|simpa using c3|(simp at c3 ⊢;omega)
  obtain rfl:=Option.some.inj H
  go_enter Tryd.func20,Tryd.ntmps20
  go_wp2
  go_ret
  exact⟨lf_,sq_below HB.out⟩
end Go.Proofs.YtcdeojfeebmonaaDoor.Q
namespace Go.Proofs.YtcdeojfeebmonaaDoor.Q
open Go.RowKit Go.Proofs.YtcdeojfeebmonaaDoorW.PrintWords Go.Proofs.YtcdeojfeebmonaaDoorW.PrintLast Go.Proofs.YtcdeojfeebmonaaDoorW.PrintMore
attribute [local go_sem] max2_int min2_int max_two min_two max_three min_three max_four min_four
set_option linter.unusedVariables false
set_option maxHeartbeats 8000000
set_option maxRecDepth 100000
set_option linter.unusedSimpArgs false
def laws_eqBoolS.l0:Nat→List Bool→List Bool→Int→Option (Bool)
 |0,_,_,_=>none
 |k+1,x0,x1,x5=>if x5<(x0.length:Int)then(if 0≤x5 then(if x5<(x1.length:Int)then(if((rdOf false x0 x5) !=(rdOf false x1 x5))=true then(some false)else(laws_eqBoolS.l0 k x0 x1 (wrap64 (x5+1))))else(none))else(none))else(some true)
def laws_eqBoolS.f(k:Nat)(l0:List Bool)(l1:List Bool):Option (Bool):=if(l0.length:Int)=(l1.length:Int)then(laws_eqBoolS.l0 k l0 l1 0)else(some false)
theorem laws_eqBoolS.mono_l:∀ k,(∀ y0 y1 y2,LeO (laws_eqBoolS.l0 k y0 y1 y2) (laws_eqBoolS.l0 (k+1) y0 y1 y2))
 |0=>fun _ _ _ r h=>by simp [laws_eqBoolS.l0]at h
 |k+1=>by
  have ih0:=laws_eqBoolS.mono_l k
  ·
   intro y0 y1 y2;unfold laws_eqBoolS.l0
   repeat' first
   |(with_reducible exact ih0 _ _ _)|(with_reducible exact LeO.refl _)|(with_reducible exact LeO.none _)|(with_reducible refine LeO.ite ?_ ?_)|(with_reducible refine LeO.bind ?_ fun _=>?_)|exact ih0 _ _ _|exact LeO.none _|refine LeO.ite ?_ ?_|refine LeO.bind ?_ fun _=>?_
theorem laws_eqBoolS.mono:∀ a0 a1 k,LeO (laws_eqBoolS.f k a0 a1) (laws_eqBoolS.f (k+1) a0 a1):=by
 intro a0 a1 k;have ih0:=laws_eqBoolS.mono_l k;unfold laws_eqBoolS.f
 repeat' first
   |(with_reducible exact ih0 _ _ _)|(with_reducible exact LeO.refl _)|(with_reducible exact LeO.none _)|(with_reducible refine LeO.ite ?_ ?_)|(with_reducible refine LeO.bind ?_ fun _=>?_)|exact ih0 _ _ _|exact LeO.none _|refine LeO.ite ?_ ?_|refine LeO.bind ?_ fun _=>?_
theorem laws_eqBoolS.calls(k:Nat)(A0:Option Addr)(c0:Nat)(l0:List Bool)(A1:Option Addr)(c1:Nat)(l1:List Bool)(r:Bool)(w:World)(hr0:Kd.C Kd.bool w A0 l0.length l0)(hc0:l0.length≤c0)(hr1:Kd.C Kd.bool w A1 l1.length l1)(hc1:l1.length≤c1)(h:laws_eqBoolS.f k l0 l1=some r) :
  Calls Tryd.prog 21 #[.slice A0 l0.length c0,.slice A1 l1.length c1] w fun e w'=>e=.returned (.bool r)∧Drawn0 w w':=by
 have aA:=am_ hr0;have aI:=am_ hc0;clear hr0 hc0;have aC:=am_ hr1;have aJ:=am_ hc1;clear hr1 hc1;have H:(if(l0.length:Int)=(l1.length:Int)then(laws_eqBoolS.l0 k l0 l1 0)else(some false))=some r:=h;clear h
 by_cases c3:(l0.length:Int)=(l1.length:Int)
 ·
  rw [if_pos c3]at H;have aq:((l0.length:Int) ==(l1.length:Int))=true:=beq_iff_eq.mpr c3;have ar:((l0.length:Int) !=(l1.length:Int))=false:=bne_eq_false_iff_eq.mpr c3;have au:(l0.length == l1.length)=true:=by first|simpa using c3|(simp at c3 ⊢;omega)
  clear c3;have H':=am_ H;clear H
  go_enter Tryd.func21,Tryd.ntmps21
  go_wp2
  repeat(go_quiet (fail);try go_wp2)
  go_loopg [5] k (fun kq v5 w'=>∃ (aa:Int),v5=.int .i64 aa∧Aside0 (laws_eqBoolS.l0 kq l0 l1 aa=some r)∧Aside0 (kq≤k)∧Drawn0 w w')
  case atStart=>exact⟨(0),sr_,H',⟨Nat.le_refl _⟩,by repeat(first|exact Drawn0.refl _|apply Drawn0.step)⟩
  case round =>
   clear H'
   obtain⟨aa,rfl,HA,HK1,⟨m1,rfl⟩⟩:=hrel;cases gk with
   |zero=>exact absurd HA.out (by simp [laws_eqBoolS.l0])
   |succ k1 =>
    have H:=HA.out;clear HA;simp only [laws_eqBoolS.l0]at H
    by_cases c4:aa<(l0.length:Int)
    ·
     rw [if_pos c4]at H;have aw:=decide_eq_true (p:=aa<(l0.length:Int)) c4;clear c4
     by_cases c5:0≤aa
     ·
      rw [if_pos c5]at H;have aD:=decide_eq_true (p:=0≤aa) c5;clear c5
      by_cases c6:aa<(l1.length:Int)
      ·
       rw [if_pos c6]at H;have aG:=decide_eq_true (p:=aa<(l1.length:Int)) c6;clear c6
       by_cases c7:((rdOf false l0 aa) !=(rdOf false l1 aa))=true
       ·
        rw [if_pos c7]at H;have ax:((rdOf false l0 aa) !=(rdOf false l1 aa))=true:=c7
        (try(have ay:decide ((rdOf false l0 aa)=(rdOf false l1 aa))=false:=by simpa using c7))
        (try(have az:((rdOf false l0 aa) ==(rdOf false l1 aa))=false:=by simpa using c7))
        (try(have aH:¬((rdOf false l0 aa)=(rdOf false l1 aa)):=by simpa using c7))
        clear c7;obtain rfl:=Option.some.inj H;have ac:0≤(aa:Int):=sq_dec;have af:aa<(l0.length:Int):=sq_dec;obtain⟨ao,aj,ah⟩:=Kd.at_bool aA.out aa ac af;cases aj;replace ac:=eq_true ac;replace af:=eq_true af;have ae:0≤(aa:Int):=sq_dec;have ag:aa<(l1.length:Int):=sq_dec;obtain⟨ap,ak,ai⟩:=Kd.at_bool aC.out aa ae ag;cases ak;replace ae:=eq_true ae;replace ag:=eq_true ag
        go_wp2
        repeat(go_quiet (fail);try go_wp2)
        go_ret
        exact⟨by first|rfl|(simp;done)|(simp [*];done),by repeat(first|exact Drawn0.refl _|apply Drawn0.step)⟩
       ·
        rw [if_neg c7]at H;have ax:((rdOf false l0 aa) !=(rdOf false l1 aa))=false:=by simpa using c7
        (try(have ay:decide ((rdOf false l0 aa)=(rdOf false l1 aa))=true:=by simpa using c7))
        (try(have az:((rdOf false l0 aa) ==(rdOf false l1 aa))=true:=by simpa using c7))
        clear c7;have H':=am_ H;clear H;have ac:0≤(aa:Int):=sq_dec;have af:aa<(l0.length:Int):=sq_dec;obtain⟨ao,aj,ah⟩:=Kd.at_bool aA.out aa ac af;cases aj;replace ac:=eq_true ac;replace af:=eq_true af;have ae:0≤(aa:Int):=sq_dec;have ag:aa<(l1.length:Int):=sq_dec;obtain⟨ap,ak,ai⟩:=Kd.at_bool aC.out aa ae ag;cases ak;replace ae:=eq_true ae;replace ag:=eq_true ag
        go_wp2
        repeat(go_quiet (fail);try go_wp2)
        go_roundg k1
        case measure=>have:=HK1.out;omega
        case rel=>exact⟨(wrap64 (aa+1)),sr_,H',⟨by have:=HK1.out;omega⟩,by repeat(first|exact Drawn0.refl _|apply Drawn0.step)⟩
      ·
       rw [if_neg c6]at H;exact absurd H (by simp)
     ·
      rw [if_neg c5]at H;exact absurd H (by simp)
    ·
     rw [if_neg c4]at H;have aw:=decide_eq_false (p:=aa<(l0.length:Int)) c4;clear c4;obtain rfl:=Option.some.inj H
     go_wp2
     repeat(go_quiet (fail);try go_wp2)
     go_ret
     exact⟨by first|rfl|(simp;done)|(simp [*];done),by repeat(first|exact Drawn0.refl _|apply Drawn0.step)⟩
 ·
  rw [if_neg c3]at H;have aq:((l0.length:Int) ==(l1.length:Int))=false:=beq_eq_false_iff_ne.mpr c3;have ar:((l0.length:Int) !=(l1.length:Int))=true:=bne_iff_ne.mpr c3;have au:(l0.length == l1.length)=false:=by first|simpa using c3|(simp at c3 ⊢;omega)
  obtain rfl:=Option.some.inj H
  go_enter Tryd.func21,Tryd.ntmps21
  go_wp2
  repeat(go_quiet (fail);try go_wp2)
  go_ret
  exact⟨by first|rfl|(simp;done)|(simp [*];done),by repeat(first|exact Drawn0.refl _|apply Drawn0.step)⟩
def laws_eqSeg.f(k:Nat)(ao:List (List (S53)))(aq:List (S60))(au:List Bool)(ap:List (List (S53)))(ar:List (S60))(aw:List Bool):Option (Bool):=(laws_eqSymSS.f k ao ap).bind fun bf=>(if bf=true then((laws_eqValS.f k aq ar).bind fun bg=>(if bg=true then((laws_eqBoolS.f k au aw).bind fun bh=>(if bh=true then(some true)else(some false)))else(some false)))else(some false))
theorem laws_eqSeg.mono:∀ a0 a1 a2 a3 a4 a5 k,LeO (laws_eqSeg.f k a0 a1 a2 a3 a4 a5) (laws_eqSeg.f (k+1) a0 a1 a2 a3 a4 a5):=by
 intro a0 a1 a2 a3 a4 a5 k;unfold laws_eqSeg.f
 repeat' first
   |(with_reducible exact laws_eqBoolS.mono _ _ _)|(with_reducible exact laws_eqSymSS.mono _ _ _)|(with_reducible exact laws_eqValS.mono _ _ _)|(with_reducible exact LeO.refl _)|(with_reducible exact LeO.none _)|(with_reducible refine LeO.ite ?_ ?_)|(with_reducible refine LeO.bind ?_ fun _=>?_)|exact laws_eqBoolS.mono _ _ _|exact laws_eqSymSS.mono _ _ _|exact laws_eqValS.mono _ _ _|exact LeO.none _|refine LeO.ite ?_ ?_|refine LeO.bind ?_ fun _=>?_
theorem laws_eqSeg.calls(k:Nat)(ay:Option Addr)(aA:Nat)(ao:List (List (S53)))(aD:Option Addr)(aH:Nat)(aq:List (S60))(aJ:Option Addr)(aM:Nat)(au:List Bool)(az:Option Addr)(aC:Nat)(ap:List (List (S53)))(aG:Option Addr)(aI:Nat)(ar:List (S60))(aK:Option Addr)(aN:Nat)(aw:List Bool)(r:Bool)(w:World)(bx:Kd.C (Kd.slice 53 k53) w ay ao.length ao)(bo:ao.length≤aA)(bz:Kd.C k60 w aD aq.length aq)(bp:aq.length≤aH)(bA:Kd.C Kd.bool w aJ au.length au)(bq:au.length≤aM)(bB:Kd.C (Kd.slice 53 k53) w az ap.length ap)(br:ap.length≤aC)(bC:Kd.C k60 w aG ar.length ar)(bu:ar.length≤aI)(bD:Kd.C Kd.bool w aK aw.length aw)(bw:aw.length≤aN)(h:laws_eqSeg.f k ao aq au ap ar aw=some r) :
  Calls Tryd.prog 8 #[.agg #[.slice ay ao.length aA,.slice aD aq.length aH,.slice aJ au.length aM],.agg #[.slice az ap.length aC,.slice aG ar.length aI,.slice aK aw.length aN]] w fun e w'=>e=.returned (.bool r)∧Below w.heap.size w w':=by
 have hu32:=Tryd.underlying32;have aU:=am_ bx;have aQ:=am_ bo;clear bx bo;have a8:=am_ bz;have aY:=am_ bp;clear bz bp;have bk:=am_ bA;have bi:=am_ bq;clear bA bq;have aV:=am_ bB;have aT:=am_ br;clear bB br;have a9:=am_ bC;have aZ:=am_ bu;clear bC bu;have bn:=am_ bD;have bj:=am_ bw;clear bD bw;have HB:=am_ (Below.refl w.heap.size w);have H:((laws_eqSymSS.f k ao ap).bind fun bf=>(if bf=true then((laws_eqValS.f k aq ar).bind fun bg=>(if bg=true then((laws_eqBoolS.f k au aw).bind fun bh=>(if bh=true then(some true)else(some false)))else(some false)))else(some false)))=some r:=h;clear h;obtain⟨bf,A3,H⟩:=be_ H;(try dsimp only at H)
 by_cases c4:bf=true
 ·
  subst c4;have H1:=ifp_ H
  clear H;have H:=H1;clear H1;obtain⟨bg,A5,H⟩:=be_ H;(try dsimp only at H)
  by_cases c6:bg=true
  ·
   subst c6;have H1:=ifp_ H
   clear H;have H:=H1;clear H1;obtain⟨bh,A7,H⟩:=be_ H;(try dsimp only at H)
   by_cases c8:bh=true
   ·
    subst c8;have H1:=ifp_ H
    clear H;have H:=H1;clear H1;obtain rfl:=Option.some.inj H
    go_enter Tryd.func8,Tryd.ntmps8
    go_wp2_with (first|((with_reducible refine gate_dst (N:=2) rfl ?_);refine box_y 2 #[.slice ay ao.length aA,.slice aD aq.length aH,.slice aJ au.length aM] 32 (h:=?_);intro ba hg w9 hbox hb;have aa:=am_ hbox;have aW:=gz_ hg HB;have af:=gz_ hg HB;replace HB:=hb_ HB hb;clear hb hbox hg)|((with_reducible refine gate_dst (N:=3) rfl ?_);refine box_y 3 #[.slice az ap.length aC,.slice aG ar.length aI,.slice aK aw.length aN] 32 (h:=?_);intro bc hg d5 hbox hb;have ae:=am_ hbox;have aX:=gz1_ hg HB af;have ax:=gz1_ hg HB af;replace HB:=hb1_ HB hb af;have ac:=nb_ hg aa;replace aa:=bb_ aa hb;have ag:=ns_ ac;clear hb hbox hg;have dS:=ac.out;have dW:=ag.out;obtain⟨bE,bF,bG,cK,cM,cN⟩:=cz3_ aa;obtain⟨bH,bI,bJ,cO,cP,cQ⟩:=cz3_ ae)|((with_reducible refine gate_callee (f:=19) rfl ?_);refine gl_ 9 Tryd.func19 #[.slice ay ao.length aA,.slice az ap.length aC] (h:=?_);(with_reducible refine(laws_eqSymSS.calls k _ _ ao _ _ ap true _ ?ah ?ai ?aj ?ak A3.out).mono ?_);(case ah=>exact sq_c (Kd.C_below aU.out HB.out));(case ai=>exact aQ.out);(case aj=>exact sq_c (Kd.C_below aV.out HB.out));(case ak=>exact aT.out);rintro e d6 ⟨rfl,hb⟩;refine⟨_,rfl,?_⟩;replace aa:=bb_ aa hb;replace ae:=bb_ ae hb;replace HB:=hb2_ HB hb af ax;(try clear hb);obtain⟨bK,bL,bM,cR,cS,cT⟩:=cz3_ aa;obtain⟨bN,bO,bP,cU,cV,cW⟩:=cz3_ ae)|((with_reducible refine gate_callee (f:=20) rfl ?_);refine gl_ 15 Tryd.func20 #[.slice aD aq.length aH,.slice aG ar.length aI] (h:=?_);(with_reducible refine(laws_eqValS.calls k _ _ aq _ _ ar true _ ?ah ?ai ?aj ?ak A5.out).mono ?_);(case ah=>exact sq_c (Kd.C_below a8.out HB.out));(case ai=>exact aY.out);(case aj=>exact sq_c (Kd.C_below a9.out HB.out));(case ak=>exact aZ.out);rintro e d7 ⟨rfl,hb⟩;refine⟨_,rfl,?_⟩;replace aa:=bb_ aa hb;replace ae:=bb_ ae hb;replace HB:=hb2_ HB hb af ax;(try clear hb);obtain⟨bQ,bR,bS,cX,cY,cZ⟩:=cz3_ aa;obtain⟨bT,bU,bV,da,db,dc⟩:=cz3_ ae)|((with_reducible refine gate_callee (f:=21) rfl ?_);refine gl_ 21 Tryd.func21 #[.slice aJ au.length aM,.slice aK aw.length aN] (h:=?_);(with_reducible refine(laws_eqBoolS.calls k _ _ au _ _ aw true _ ?ah ?ai ?aj ?ak A7.out).mono ?_);(case ah=>exact sq_c (Kd.C_below bk.out HB.out));(case ai=>exact bi.out);(case aj=>exact sq_c (Kd.C_below bn.out HB.out));(case ak=>exact bj.out);rintro e w' ⟨rfl,⟨nd,rfl⟩⟩;refine⟨_,rfl,?_⟩))
    go_ret
    exact⟨lf_,sq_below HB.out⟩
   ·
    replace c8:=Bool.eq_false_iff.mpr c8;subst c8;have H1:=ifn_ H
    clear H;have H:=H1;clear H1;obtain rfl:=Option.some.inj H
    go_enter Tryd.func8,Tryd.ntmps8
    go_wp2_with (first|((with_reducible refine gate_dst (N:=2) rfl ?_);refine box_y 2 #[.slice ay ao.length aA,.slice aD aq.length aH,.slice aJ au.length aM] 32 (h:=?_);intro ba hg d8 hbox hb;have aa:=am_ hbox;have aW:=gz_ hg HB;have af:=gz_ hg HB;replace HB:=hb_ HB hb;clear hb hbox hg)|((with_reducible refine gate_dst (N:=3) rfl ?_);refine box_y 3 #[.slice az ap.length aC,.slice aG ar.length aI,.slice aK aw.length aN] 32 (h:=?_);intro bc hg d9 hbox hb;have ae:=am_ hbox;have aX:=gz1_ hg HB af;have ax:=gz1_ hg HB af;replace HB:=hb1_ HB hb af;have ac:=nb_ hg aa;replace aa:=bb_ aa hb;have ag:=ns_ ac;clear hb hbox hg;have dT:=ac.out;have dX:=ag.out;obtain⟨bW,bX,bY,dd,de,df⟩:=cz3_ aa;obtain⟨bZ,b3,b4,dg,dh,di⟩:=cz3_ ae)|((with_reducible refine gate_callee (f:=19) rfl ?_);refine gl_ 9 Tryd.func19 #[.slice ay ao.length aA,.slice az ap.length aC] (h:=?_);(with_reducible refine(laws_eqSymSS.calls k _ _ ao _ _ ap true _ ?ah ?ai ?aj ?ak A3.out).mono ?_);(case ah=>exact sq_c (Kd.C_below aU.out HB.out));(case ai=>exact aQ.out);(case aj=>exact sq_c (Kd.C_below aV.out HB.out));(case ak=>exact aT.out);rintro e ec ⟨rfl,hb⟩;refine⟨_,rfl,?_⟩;replace aa:=bb_ aa hb;replace ae:=bb_ ae hb;replace HB:=hb2_ HB hb af ax;(try clear hb);obtain⟨b5,b6,b7,dj,dk,dl⟩:=cz3_ aa;obtain⟨b8,b9,ca,dn,dp,dq⟩:=cz3_ ae)|((with_reducible refine gate_callee (f:=20) rfl ?_);refine gl_ 15 Tryd.func20 #[.slice aD aq.length aH,.slice aG ar.length aI] (h:=?_);(with_reducible refine(laws_eqValS.calls k _ _ aq _ _ ar true _ ?ah ?ai ?aj ?ak A5.out).mono ?_);(case ah=>exact sq_c (Kd.C_below a8.out HB.out));(case ai=>exact aY.out);(case aj=>exact sq_c (Kd.C_below a9.out HB.out));(case ak=>exact aZ.out);rintro e ed ⟨rfl,hb⟩;refine⟨_,rfl,?_⟩;replace aa:=bb_ aa hb;replace ae:=bb_ ae hb;replace HB:=hb2_ HB hb af ax;(try clear hb);obtain⟨cb,cd,cf,dr,dt,dw⟩:=cz3_ aa;obtain⟨cg,ch,cj,dx,dy,dz⟩:=cz3_ ae)|((with_reducible refine gate_callee (f:=21) rfl ?_);refine gl_ 21 Tryd.func21 #[.slice aJ au.length aM,.slice aK aw.length aN] (h:=?_);(with_reducible refine(laws_eqBoolS.calls k _ _ au _ _ aw false _ ?ah ?ai ?aj ?ak A7.out).mono ?_);(case ah=>exact sq_c (Kd.C_below bk.out HB.out));(case ai=>exact bi.out);(case aj=>exact sq_c (Kd.C_below bn.out HB.out));(case ak=>exact bj.out);rintro e w' ⟨rfl,⟨nd,rfl⟩⟩;refine⟨_,rfl,?_⟩))
    go_ret
    exact⟨lf_,sq_below HB.out⟩
  ·
   replace c6:=Bool.eq_false_iff.mpr c6;subst c6;have H1:=ifn_ H
   clear H;have H:=H1;clear H1;obtain rfl:=Option.some.inj H
   go_enter Tryd.func8,Tryd.ntmps8
   go_wp2_with (first|((with_reducible refine gate_dst (N:=2) rfl ?_);refine box_y 2 #[.slice ay ao.length aA,.slice aD aq.length aH,.slice aJ au.length aM] 32 (h:=?_);intro ba hg ee hbox hb;have aa:=am_ hbox;have aW:=gz_ hg HB;have af:=gz_ hg HB;replace HB:=hb_ HB hb;clear hb hbox hg)|((with_reducible refine gate_dst (N:=3) rfl ?_);refine box_y 3 #[.slice az ap.length aC,.slice aG ar.length aI,.slice aK aw.length aN] 32 (h:=?_);intro bc hg ef hbox hb;have ae:=am_ hbox;have aX:=gz1_ hg HB af;have ax:=gz1_ hg HB af;replace HB:=hb1_ HB hb af;have ac:=nb_ hg aa;replace aa:=bb_ aa hb;have ag:=ns_ ac;clear hb hbox hg;have dU:=ac.out;have dY:=ag.out;obtain⟨ck,cl,cn,dA,dB,dC⟩:=cz3_ aa;obtain⟨cp,cq,cr,dD,dE,dF⟩:=cz3_ ae)|((with_reducible refine gate_callee (f:=19) rfl ?_);refine gl_ 9 Tryd.func19 #[.slice ay ao.length aA,.slice az ap.length aC] (h:=?_);(with_reducible refine(laws_eqSymSS.calls k _ _ ao _ _ ap true _ ?ah ?ai ?aj ?ak A3.out).mono ?_);(case ah=>exact sq_c (Kd.C_below aU.out HB.out));(case ai=>exact aQ.out);(case aj=>exact sq_c (Kd.C_below aV.out HB.out));(case ak=>exact aT.out);rintro e eh ⟨rfl,hb⟩;refine⟨_,rfl,?_⟩;replace aa:=bb_ aa hb;replace ae:=bb_ ae hb;replace HB:=hb2_ HB hb af ax;(try clear hb);obtain⟨cx,cy,cz,dG,dH,dI⟩:=cz3_ aa;obtain⟨cA,cB,cC,dJ,dK,dL⟩:=cz3_ ae)|((with_reducible refine gate_callee (f:=20) rfl ?_);refine gl_ 15 Tryd.func20 #[.slice aD aq.length aH,.slice aG ar.length aI] (h:=?_);(with_reducible refine(laws_eqValS.calls k _ _ aq _ _ ar false _ ?ah ?ai ?aj ?ak A5.out).mono ?_);(case ah=>exact sq_c (Kd.C_below a8.out HB.out));(case ai=>exact aY.out);(case aj=>exact sq_c (Kd.C_below a9.out HB.out));(case ak=>exact aZ.out);rintro e ej ⟨rfl,hb⟩;refine⟨_,rfl,?_⟩;replace HB:=hb_ HB hb;(try clear hb)))
   go_ret
   exact⟨lf_,sq_below HB.out⟩
 ·
  replace c4:=Bool.eq_false_iff.mpr c4;subst c4;have H1:=ifn_ H
  clear H;have H:=H1;clear H1;obtain rfl:=Option.some.inj H
  go_enter Tryd.func8,Tryd.ntmps8
  go_wp2_with (first|((with_reducible refine gate_dst (N:=2) rfl ?_);refine box_y 2 #[.slice ay ao.length aA,.slice aD aq.length aH,.slice aJ au.length aM] 32 (h:=?_);intro ba hg ek hbox hb;have aa:=am_ hbox;have aW:=gz_ hg HB;have af:=gz_ hg HB;replace HB:=hb_ HB hb;clear hb hbox hg)|((with_reducible refine gate_dst (N:=3) rfl ?_);refine box_y 3 #[.slice az ap.length aC,.slice aG ar.length aI,.slice aK aw.length aN] 32 (h:=?_);intro bc hg el hbox hb;have ae:=am_ hbox;have aX:=gz1_ hg HB af;have ax:=gz1_ hg HB af;replace HB:=hb1_ HB hb af;have ac:=nb_ hg aa;replace aa:=bb_ aa hb;have ag:=ns_ ac;clear hb hbox hg;have dV:=ac.out;have dZ:=ag.out;obtain⟨cD,cF,cG,dM,dN,dO⟩:=cz3_ aa;obtain⟨cH,cI,cJ,dP,dQ,dR⟩:=cz3_ ae)|((with_reducible refine gate_callee (f:=19) rfl ?_);refine gl_ 9 Tryd.func19 #[.slice ay ao.length aA,.slice az ap.length aC] (h:=?_);(with_reducible refine(laws_eqSymSS.calls k _ _ ao _ _ ap false _ ?ah ?ai ?aj ?ak A3.out).mono ?_);(case ah=>exact sq_c (Kd.C_below aU.out HB.out));(case ai=>exact aQ.out);(case aj=>exact sq_c (Kd.C_below aV.out HB.out));(case ak=>exact aT.out);rintro e em ⟨rfl,hb⟩;refine⟨_,rfl,?_⟩;replace HB:=hb_ HB hb;(try clear hb)))
  go_ret
  exact⟨lf_,sq_below HB.out⟩
end Go.Proofs.YtcdeojfeebmonaaDoor.Q
namespace Go.Proofs.YtcdeojfeebmonaaDoor.Q
open Go.RowKit Go.Proofs.YtcdeojfeebmonaaDoorW.PrintWords Go.Proofs.YtcdeojfeebmonaaDoorW.PrintLast Go.Proofs.YtcdeojfeebmonaaDoorW.PrintMore
attribute [local go_sem] max2_int min2_int max_two min_two max_three min_three max_four min_four
set_option linter.unusedVariables false
set_option maxHeartbeats 8000000
set_option maxRecDepth 100000
set_option linter.unusedSimpArgs false
noncomputable def laws_FnExactSegLeq.f(k:Nat)(a0:Int)(a1:Int)(aM:List (List (S82)))(aN:List (S68))(aQ:List Bool)(aT:List (List (S82)))(aU:List (S68))(aV:List Bool):Option (Bool):=(laws_szSeg.f k aM aN aQ 1048576).bind fun bE=>(if bE<0 then(some true)else((laws_szSeg.f k aT aU aV bE).bind fun cn=>(if cn<0 then(some true)else((laws_toSeg.f k aM aN aQ).bind fun b6=>((laws_toSeg.f k aT aU aV).bind fun b7=>((spec_SegLeq.f k a0 a1 b6.1 b6.2.1 b6.2.2 b7.1 b7.2.1 b7.2.2).bind fun b4=>((laws_toSeg.f k aM aN aQ).bind fun bB=>((laws_toSeg.f k aT aU aV).bind fun bC=>((impl_SegLeq.f k a0 a1 bB.1 bB.2.1 bB.2.2 bC.1 bC.2.1 bC.2.2).bind fun b5=>(if(b5 != b4)=true then(some false)else((laws_toSeg.f k aM aN aQ).bind fun b8=>((laws_eqSeg.f k bB.1 bB.2.1 bB.2.2 b8.1 b8.2.1 b8.2.2).bind fun cQ=>(if cQ=true then((laws_toSeg.f k aT aU aV).bind fun b9=>((laws_eqSeg.f k bC.1 bC.2.1 bC.2.2 b9.1 b9.2.1 b9.2.2).bind fun cR=>(if cR=true then(some true)else(some false))))else(some false))))))))))))))
theorem laws_FnExactSegLeq.mono:∀ a0 a1 a2 a3 a4 a5 a6 a7 k,LeO (laws_FnExactSegLeq.f k a0 a1 a2 a3 a4 a5 a6 a7) (laws_FnExactSegLeq.f (k+1) a0 a1 a2 a3 a4 a5 a6 a7):=by
 intro a0 a1 a2 a3 a4 a5 a6 a7 k;unfold laws_FnExactSegLeq.f
 repeat' first
   |(with_reducible exact impl_SegLeq.mono _ _ _ _ _ _ _ _ _)|(with_reducible exact laws_eqSeg.mono _ _ _ _ _ _ _)|(with_reducible exact laws_szSeg.mono _ _ _ _ _)|(with_reducible exact laws_toSeg.mono _ _ _ _)|(with_reducible exact spec_SegLeq.mono _ _ _ _ _ _ _ _ _)|(with_reducible exact LeO.refl _)|(with_reducible exact LeO.none _)|(with_reducible refine LeO.ite ?_ ?_)|(with_reducible refine LeO.bind ?_ fun _=>?_)|exact impl_SegLeq.mono _ _ _ _ _ _ _ _ _|exact laws_eqSeg.mono _ _ _ _ _ _ _|exact laws_szSeg.mono _ _ _ _ _|exact laws_toSeg.mono _ _ _ _|exact spec_SegLeq.mono _ _ _ _ _ _ _ _ _|exact LeO.none _|refine LeO.ite ?_ ?_|refine LeO.bind ?_ fun _=>?_
def laws_FnExactSegLeq.T8:Bool×List (List Nat×List Nat):=(true,[([],[]),([],[]),([],[]),([2],[2]),([],[]),([4,3],[4]),([0,1,3,5,5],[0,1,3,5]),([6,6,0,1,2,3,4,5,6],[6])])
def laws_FnExactSegLeq.B8:List Nat:=[0,0,0,4,0,28,63,127]
theorem laws_FnExactSegLeq.tab8:rtab .any (opsOf Tryd.f3 8)=laws_FnExactSegLeq.T8:=by kernel_rfl
theorem laws_FnExactSegLeq.bits8:waitsOk laws_FnExactSegLeq.T8.2 laws_FnExactSegLeq.B8=true:=by kernel_rfl
theorem laws_FnExactSegLeq.calls(k:Nat)(a0:Int)(a1:Int)(bH:Option Addr)(bK:Nat)(aM:List (List (S82)))(bI:Option Addr)(bL:Nat)(aN:List (S68))(bJ:Option Addr)(bM:Nat)(aQ:List Bool)(bQ:Option Addr)(bT:Nat)(aT:List (List (S82)))(bR:Option Addr)(bU:Nat)(aU:List (S68))(bS:Option Addr)(bV:Nat)(aV:List Bool)(r:Bool)(w:World)(hG0:GL0 w)(hG1:GL1 w)(da:Kd.C (Kd.slice 82 k82) w bH aM.length aM)(cU:aM.length≤bK)(db:Kd.C k68 w bI aN.length aN)(cV:aN.length≤bL)(dc:Kd.C Kd.bool w bJ aQ.length aQ)(cW:aQ.length≤bM)(dd:Kd.C (Kd.slice 82 k82) w bQ aT.length aT)(cX:aT.length≤bT)(de:Kd.C k68 w bR aU.length aU)(cY:aU.length≤bU)(df:Kd.C Kd.bool w bS aV.length aV)(cZ:aV.length≤bV)(h:laws_FnExactSegLeq.f k a0 a1 aM aN aQ aT aU aV=some r)(hr_:r=true) :
  Calls Tryd.prog 3 #[.int .i64 a0,.int .i64 a1,.agg #[.slice bH aM.length bK,.slice bI aN.length bL,.slice bJ aQ.length bM],.agg #[.slice bQ aT.length bT,.slice bR aU.length bU,.slice bS aV.length bV]] w fun e w'=>e=.returned (.bool r)∧Below w.heap.size w w':=by
 have hu26:=Tryd.underlying26;have hu32:=Tryd.underlying32;have cj:=am_ da;have cf:=am_ cU;clear da cU;have ck:=am_ db;have cg:=am_ cV;clear db cV;have cl:=am_ dc;have ch:=am_ cW;clear dc cW;have cA:=am_ dd;have cp:=am_ cX;clear dd cX;have cB:=am_ de;have cq:=am_ cY;clear de cY;have cC:=am_ df;have cr:=am_ cZ;clear df cZ;have HB:=am_ (Below.refl w.heap.size w);have HG0:=am_ hG0;clear hG0;have HG1:=am_ hG1;clear hG1;have H:((laws_szSeg.f k aM aN aQ 1048576).bind fun bE=>(if bE<0 then(some true)else((laws_szSeg.f k aT aU aV bE).bind fun cn=>(if cn<0 then(some true)else((laws_toSeg.f k aM aN aQ).bind fun b6=>((laws_toSeg.f k aT aU aV).bind fun b7=>((spec_SegLeq.f k a0 a1 b6.1 b6.2.1 b6.2.2 b7.1 b7.2.1 b7.2.2).bind fun b4=>((laws_toSeg.f k aM aN aQ).bind fun bB=>((laws_toSeg.f k aT aU aV).bind fun bC=>((impl_SegLeq.f k a0 a1 bB.1 bB.2.1 bB.2.2 bC.1 bC.2.1 bC.2.2).bind fun b5=>(if(b5 != b4)=true then(some false)else((laws_toSeg.f k aM aN aQ).bind fun b8=>((laws_eqSeg.f k bB.1 bB.2.1 bB.2.2 b8.1 b8.2.1 b8.2.2).bind fun cQ=>(if cQ=true then((laws_toSeg.f k aT aU aV).bind fun b9=>((laws_eqSeg.f k bC.1 bC.2.1 bC.2.2 b9.1 b9.2.1 b9.2.2).bind fun cR=>(if cR=true then(some true)else(some false))))else(some false)))))))))))))))=some r:=h;clear h;obtain⟨bE,A5,H⟩:=be_ H;(try dsimp only at H)
 by_cases c6:bE<0
 ·
  rw [if_pos c6]at H;have fa:=decide_eq_true (p:=bE<0) c6;clear c6;obtain rfl:=Option.some.inj H
  go_enter Tryd.func3,Tryd.ntmps3
  go_wp2_with (first|((with_reducible refine gate_dst (N:=6) rfl ?_);refine box_y 6 #[.slice bH aM.length bK,.slice bI aN.length bL,.slice bJ aQ.length bM] 26 (h:=?_);intro bF hg w7 hbox hb;have aa:=am_ hbox;have cS:=gz_ hg HB;have ag:=gz_ hg HB;replace HB:=hb_ HB hb;clear hb hbox hg)|((with_reducible refine gate_dst (N:=7) rfl ?_);refine box_y 7 #[.slice bQ aT.length bT,.slice bR aU.length bU,.slice bS aV.length bV] 26 (h:=?_);intro bG hg w8 hbox hb;have ac:=am_ hbox;have cT:=gz1_ hg HB ag;have ah:=gz1_ hg HB ag;replace HB:=hb1_ HB hb ag;have a8:=nb_ hg aa;replace aa:=bb_ aa hb;have bD:=ns_ a8;clear hb hbox hg;obtain⟨fo,fp,fq,ft,fu,fv⟩:=cz3_ aa)|((with_reducible refine gate_callee (f:=4) rfl ?_);refine gl_ 16 Tryd.func4 #[.agg #[.slice bH aM.length bK,.slice bI aN.length bL,.slice bJ aQ.length bM],.int .i64 1048576] (h:=?_);(with_reducible refine(laws_szSeg.calls k _ _ aM _ _ aN _ _ aQ 1048576 bE _ ?az ?aA ?aC ?aD ?aG ?aH A5.out).mono ?_);(case az=>exact sq_c (Kd.C_below cj.out HB.out));(case aA=>exact cf.out);(case aC=>exact sq_c (Kd.C_below ck.out HB.out));(case aD=>exact cg.out);(case aG=>exact sq_c (Kd.C_below cl.out HB.out));(case aH=>exact ch.out);rintro e fQ ⟨rfl,hb⟩;refine⟨_,rfl,?_⟩;replace HB:=hb_ HB hb;(try clear hb)))
  go_ret
  exact⟨lf_,sq_below HB.out⟩
 ·
  rw [if_neg c6]at H;have fa:=decide_eq_false (p:=bE<0) c6;clear c6;obtain⟨cn,A11,H⟩:=be_ H;(try dsimp only at H)
  by_cases c12:cn<0
  ·
   rw [if_pos c12]at H;have dF:=decide_eq_true (p:=cn<0) c12;clear c12;obtain rfl:=Option.some.inj H
   go_enter Tryd.func3,Tryd.ntmps3
   go_wp2_with (first|((with_reducible refine gate_dst (N:=6) rfl ?_);refine box_y 6 #[.slice bH aM.length bK,.slice bI aN.length bL,.slice bJ aQ.length bM] 26 (h:=?_);intro bF hg fR hbox hb;have aa:=am_ hbox;have cS:=gz_ hg HB;have ag:=gz_ hg HB;replace HB:=hb_ HB hb;clear hb hbox hg)|((with_reducible refine gate_dst (N:=7) rfl ?_);refine box_y 7 #[.slice bQ aT.length bT,.slice bR aU.length bU,.slice bS aV.length bV] 26 (h:=?_);intro bG hg fS hbox hb;have ac:=am_ hbox;have cT:=gz1_ hg HB ag;have ah:=gz1_ hg HB ag;replace HB:=hb1_ HB hb ag;have a8:=nb_ hg aa;replace aa:=bb_ aa hb;have bD:=ns_ a8;clear hb hbox hg;have fz:=a8.out;have fG:=bD.out;obtain⟨dV,dW,dX,ev,ew,ex⟩:=cz3_ aa)|((with_reducible refine gate_callee (f:=4) rfl ?_);refine gl_ 16 Tryd.func4 #[.agg #[.slice bH aM.length bK,.slice bI aN.length bL,.slice bJ aQ.length bM],.int .i64 1048576] (h:=?_);(with_reducible refine(laws_szSeg.calls k _ _ aM _ _ aN _ _ aQ 1048576 bE _ ?az ?aA ?aC ?aD ?aG ?aH A5.out).mono ?_);(case az=>exact sq_c (Kd.C_below cj.out HB.out));(case aA=>exact cf.out);(case aC=>exact sq_c (Kd.C_below ck.out HB.out));(case aD=>exact cg.out);(case aG=>exact sq_c (Kd.C_below cl.out HB.out));(case aH=>exact ch.out);rintro e fT ⟨rfl,hb⟩;refine⟨_,rfl,?_⟩;replace ac:=bb_ ac hb;replace HB:=hb1_ HB hb ah;(try clear hb);obtain⟨dY,dZ,d5,ey,ez,eA⟩:=cz3_ ac)|((with_reducible refine gate_callee (f:=4) rfl ?_);refine gl_ 21 Tryd.func4 #[.agg #[.slice bQ aT.length bT,.slice bR aU.length bU,.slice bS aV.length bV],.int .i64 bE] (h:=?_);(with_reducible refine(laws_szSeg.calls k _ _ aT _ _ aU _ _ aV bE cn _ ?az ?aA ?aC ?aD ?aG ?aH A11.out).mono ?_);(case az=>exact sq_c (Kd.C_below cA.out HB.out));(case aA=>exact cp.out);(case aC=>exact sq_c (Kd.C_below cB.out HB.out));(case aD=>exact cq.out);(case aG=>exact sq_c (Kd.C_below cC.out HB.out));(case aH=>exact cr.out);rintro e fU ⟨rfl,hb⟩;refine⟨_,rfl,?_⟩;replace HB:=hb_ HB hb;(try clear hb)))
   go_ret
   exact⟨lf_,sq_below HB.out⟩
  ·
   rw [if_neg c12]at H;have dF:=decide_eq_false (p:=cn<0) c12;clear c12;replace H:=Option.bind_eq_some_iff.mp H;obtain⟨⟨cJ,cK,cM⟩,A200,H⟩:=H;(try dsimp only at H);have A20:=am_ A200;clear A200;replace H:=Option.bind_eq_some_iff.mp H;obtain⟨⟨cN,cO,cP⟩,A210,H⟩:=H;(try dsimp only at H);have A21:=am_ A210;clear A210;obtain⟨b4,A22,H⟩:=be_ H;(try dsimp only at H);replace H:=Option.bind_eq_some_iff.mp H;obtain⟨⟨aW,aX,aY⟩,A230,H⟩:=H;(try dsimp only at H);have A23:=am_ A230;clear A230;replace H:=Option.bind_eq_some_iff.mp H;obtain⟨⟨a9,ba,bc⟩,A240,H⟩:=H;(try dsimp only at H);have A24:=am_ A240;clear A240;obtain⟨b5,A25,H⟩:=be_ H;(try dsimp only at H)
   by_cases c26:(b5 != b4)=true
   ·
    rw [if_pos c26]at H;have dG:(b5 != b4)=true:=c26
    (try(have dH:decide (b5=b4)=false:=by simpa using c26))
    (try(have dI:(b5 == b4)=false:=by simpa using c26))
    (try(have fy:¬(b5=b4):=by simpa using c26))
    clear c26;exact absurd ((Option.some.inj H).trans hr_) Bool.false_ne_true
   ·
    rw [if_neg c26]at H;have dG:(b5 != b4)=false:=by simpa using c26
    (try(have dH:decide (b5=b4)=true:=by simpa using c26))
    (try(have dI:(b5 == b4)=true:=by simpa using c26))
    clear c26;replace H:=Option.bind_eq_some_iff.mp H;obtain⟨⟨dz,dA,dB⟩,A270,H⟩:=H;(try dsimp only at H);have A27:=am_ A270;clear A270;obtain⟨cQ,A28,H⟩:=be_ H;(try dsimp only at H)
    by_cases c29:cQ=true
    ·
     subst c29;have H1:=ifp_ H
     clear H;have H:=H1;clear H1;replace H:=Option.bind_eq_some_iff.mp H;obtain⟨⟨dC,dD,dE⟩,A300,H⟩:=H;(try dsimp only at H);have A30:=am_ A300;clear A300;obtain⟨cR,A31,H⟩:=be_ H;(try dsimp only at H)
     by_cases c32:cR=true
     ·
      subst c32;have H1:=ifp_ H
      clear H;have H:=H1;clear H1;obtain rfl:=Option.some.inj H
      go_enter Tryd.func3,Tryd.ntmps3
      try go_wp2_with (first|((with_reducible refine gate_dst (N:=6) rfl ?_);refine box_y 6 #[.slice bH aM.length bK,.slice bI aN.length bL,.slice bJ aQ.length bM] 26 (h:=?_);intro bF hg fV hbox hb;have aa:=am_ hbox;have cS:=gz_ hg HB;have ag:=gz_ hg HB;replace HB:=hb_ HB hb;clear hb hbox hg)|((with_reducible refine gate_dst (N:=7) rfl ?_);refine box_y 7 #[.slice bQ aT.length bT,.slice bR aU.length bU,.slice bS aV.length bV] 26 (h:=?_);intro bG hg fW hbox hb;have ac:=am_ hbox;have cT:=gz1_ hg HB ag;have ah:=gz1_ hg HB ag;replace HB:=hb1_ HB hb ag;have a8:=nb_ hg aa;replace aa:=bb_ aa hb;have bD:=ns_ a8;clear hb hbox hg;have fA:=a8.out;have fH:=bD.out;obtain⟨d6,d7,d8,eB,eC,eD⟩:=cz3_ aa)|((with_reducible refine gate_callee (f:=4) rfl ?_);refine gl_ 16 Tryd.func4 #[.agg #[.slice bH aM.length bK,.slice bI aN.length bL,.slice bJ aQ.length bM],.int .i64 1048576] (h:=?_);(with_reducible refine(laws_szSeg.calls k _ _ aM _ _ aN _ _ aQ 1048576 bE _ ?az ?aA ?aC ?aD ?aG ?aH A5.out).mono ?_);(case az=>exact sq_c (Kd.C_below cj.out HB.out));(case aA=>exact cf.out);(case aC=>exact sq_c (Kd.C_below ck.out HB.out));(case aD=>exact cg.out);(case aG=>exact sq_c (Kd.C_below cl.out HB.out));(case aH=>exact ch.out);rintro e fX ⟨rfl,hb⟩;refine⟨_,rfl,?_⟩;replace aa:=bb_ aa hb;replace ac:=bb_ ac hb;replace HB:=hb2_ HB hb ag ah;(try clear hb);obtain⟨d9,ec,ed,eE,eF,eG⟩:=cz3_ ac)|((with_reducible refine gate_callee (f:=4) rfl ?_);refine gl_ 21 Tryd.func4 #[.agg #[.slice bQ aT.length bT,.slice bR aU.length bU,.slice bS aV.length bV],.int .i64 bE] (h:=?_);(with_reducible refine(laws_szSeg.calls k _ _ aT _ _ aU _ _ aV bE cn _ ?az ?aA ?aC ?aD ?aG ?aH A11.out).mono ?_);(case az=>exact sq_c (Kd.C_below cA.out HB.out));(case aA=>exact cp.out);(case aC=>exact sq_c (Kd.C_below cB.out HB.out));(case aD=>exact cq.out);(case aG=>exact sq_c (Kd.C_below cC.out HB.out));(case aH=>exact cr.out);rintro e fN ⟨rfl,hb⟩;refine⟨_,rfl,?_⟩;replace aa:=bb_ aa hb;replace ac:=bb_ ac hb;replace HB:=hb2_ HB hb ag ah;(try clear hb)))
      replace aa:=bd_ aa;replace ac:=bd_ ac;replace HB:=hd_ HB;refine start_ (n:=8) (S:=fun w'=>w'.cell? ⟨bF,0,none⟩=some (.slice bH aM.length bK)∧w'.cell? ⟨bF,1,none⟩=some (.slice bI aN.length bL)∧w'.cell? ⟨bF,2,none⟩=some (.slice bJ aQ.length bM)∧w'.cell? ⟨bG,0,none⟩=some (.slice bQ aT.length bT)∧w'.cell? ⟨bG,1,none⟩=some (.slice bR aU.length bU)∧w'.cell? ⟨bG,2,none⟩=some (.slice bS aV.length bV)) (ds:=[]) #[false,false,false,false,false,false,false,false] (by kernel_rfl) rfl rfl ⟨cl_ aa 0,cl_ aa 1,cl_ aa 2,cl_ ac 0,cl_ ac 1,cl_ ac 2⟩ (fun hHeld=>?_);refine with_tabW laws_FnExactSegLeq.tab8 laws_FnExactSegLeq.bits8 (fun HT_ HW_=>?_);generalize fN.drew=fY at aa ac HB hHeld ⊢;refine py_ HT_ 0 24 ?_
      refine py_ HT_ 1 25 ?_
      refine ty_ HT_ HW_ 2 26 rfl hHeld (by rintro w' ⟨s0,s1,s2,s3,s4,s5⟩;go_simp;with_reducible rfl) ?_
      refine ty_ HT_ HW_ 4 28 rfl hHeld (by rintro w' ⟨s0,s1,s2,s3,s4,s5⟩;go_simp;with_reducible rfl) ?_
      refine oy_ HT_ 3 (some 27) (fun K hK=>?_);refine gs_ Tryd.func6 #[.agg #[.slice bH aM.length bK,.slice bI aN.length bL,.slice bJ aQ.length bM]] (h:=?_);with_reducible refine(laws_toSeg.calls k _ _ aM _ _ aN _ _ aQ cJ cK cM _ ?az ?aA ?aC ?aD ?aG ?aH A20.out).mono ?_
      (case az=>exact sq_c (Kd.C_below cj.out HB.out))
      (case aA=>exact cf.out)
      (case aC=>exact sq_c (Kd.C_below ck.out HB.out))
      (case aD=>exact cg.out)
      (case aG=>exact sq_c (Kd.C_below cl.out HB.out))
      (case aH=>exact ch.out)
      rintro e fZ ⟨v483,v486,v489,rfl,ho0,ho1,ho2,hb⟩;refine⟨_,rfl,?_⟩;have ak:=am_ (Kd.S_lower ho0 (below_size (sq_below2 HB.out ag.out ah.out)));have ao:=am_ (Kd.R_lower ho1 (below_size (sq_below2 HB.out ag.out ah.out)));have ap:=am_ (Kd.R_lower ho2 (below_size (sq_below2 HB.out ag.out ah.out)));replace aa:=bb_ aa hb;replace ac:=bb_ ac hb;replace HB:=hb2_ HB hb ag ah
      (try clear hb)
      (try clear hb2)
      (try clear hk)
      (try clear hi)
      (try clear ho0)
      (try clear ho1)
      (try clear ho2)
      refine hK.out _ _ ⟨cl_ aa 0,cl_ aa 1,cl_ aa 2,cl_ ac 0,cl_ ac 1,cl_ ac 2⟩ (fun hHeld=>?_);clear hK K;refine norm_y 27 (h:=?_)
      refine oy_ HT_ 5 (some 29) (fun K hK=>?_);refine gs_ Tryd.func6 #[.agg #[.slice bQ aT.length bT,.slice bR aU.length bU,.slice bS aV.length bV]] (h:=?_);with_reducible refine(laws_toSeg.calls k _ _ aT _ _ aU _ _ aV cN cO cP _ ?az ?aA ?aC ?aD ?aG ?aH A21.out).mono ?_
      (case az=>exact sq_c (Kd.C_below cA.out HB.out))
      (case aA=>exact cp.out)
      (case aC=>exact sq_c (Kd.C_below cB.out HB.out))
      (case aD=>exact cq.out)
      (case aG=>exact sq_c (Kd.C_below cC.out HB.out))
      (case aH=>exact cr.out)
      rintro e f7 ⟨v492,v495,v498,rfl,ho0,ho1,ho2,hb⟩;refine⟨_,rfl,?_⟩;have aq:=am_ (Kd.S_lower (Kd.S_new' ho0 (Kd.S_lt (by(with_reducible repeat(first|apply Kd.S_alloc|apply Kd.S_drewN|apply Kd.S_drew));exact ak.out))) (below_size (sq_below2 HB.out ag.out ah.out)));replace ak:=am_ (Kd.S_elder' (by(with_reducible repeat(first|apply Kd.S_alloc|apply Kd.S_drewN|apply Kd.S_drew));exact ak.out) (Kd.S_base ho0) hb);have ar:=am_ (Kd.R_lower (Kd.R_new' ho1 (Kd.R_lt (sq_row ao.out))) (below_size (sq_below2 HB.out ag.out ah.out)));replace ao:=am_ (Kd.R_elder' (sq_row ao.out) (Kd.R_base ho1) hb);have au:=am_ (Kd.R_lower (Kd.R_new' ho2 (Kd.R_lt (sq_row ap.out))) (below_size (sq_below2 HB.out ag.out ah.out)));replace ap:=am_ (Kd.R_elder' (sq_row ap.out) (Kd.R_base ho2) hb);replace aa:=bb_ aa hb;replace ac:=bb_ ac hb;replace HB:=hb2_ HB hb ag ah
      (try clear hb)
      (try clear hb2)
      (try clear hk)
      (try clear hi)
      (try clear ho0)
      (try clear ho1)
      (try clear ho2)
      obtain⟨dg,dn,dJ⟩:=Kd.S_slice ak.out
      (first|subst dJ|(injection dJ with f1_ f2_ f3_;have f4_:=f1_.symm;have f5_:=f3_.symm;clear f1_ f2_ f3_;subst f4_;subst f5_))
      obtain⟨dh,dp,dK⟩:=Kd.R_slice ao.out
      (first|subst dK|(injection dK with f1_ f2_ f3_;have f4_:=f1_.symm;have f5_:=f3_.symm;clear f1_ f2_ f3_;subst f4_;subst f5_))
      obtain⟨di,dq,dL⟩:=Kd.R_slice ap.out
      (first|subst dL|(injection dL with f1_ f2_ f3_;have f4_:=f1_.symm;have f5_:=f3_.symm;clear f1_ f2_ f3_;subst f4_;subst f5_))
      obtain⟨dj,dr,dM⟩:=Kd.S_slice aq.out
      (first|subst dM|(injection dM with f1_ f2_ f3_;have f4_:=f1_.symm;have f5_:=f3_.symm;clear f1_ f2_ f3_;subst f4_;subst f5_))
      obtain⟨dk,dt,dN⟩:=Kd.R_slice ar.out
      (first|subst dN|(injection dN with f1_ f2_ f3_;have f4_:=f1_.symm;have f5_:=f3_.symm;clear f1_ f2_ f3_;subst f4_;subst f5_))
      obtain⟨dl,dw,dO⟩:=Kd.R_slice au.out
      (first|subst dO|(injection dO with f1_ f2_ f3_;have f4_:=f1_.symm;have f5_:=f3_.symm;clear f1_ f2_ f3_;subst f4_;subst f5_))
      refine hK.out _ _ ⟨cl_ aa 0,cl_ aa 1,cl_ aa 2,cl_ ac 0,cl_ ac 1,cl_ ac 2⟩ (fun hHeld=>?_);clear hK K;refine norm_y 29 (h:=?_)
      refine oy_ HT_ 6 (some 30) (fun K hK=>?_);refine gs_ Tryd.func5 #[.int .i64 a0,.int .i64 a1,.agg #[.slice dg cJ.length dn,.slice dh cK.length dp,.slice di cM.length dq],.agg #[.slice dj cN.length dr,.slice dk cO.length dt,.slice dl cP.length dw]] (h:=?_);with_reducible refine(spec_SegLeq.calls k a0 a1 _ _ cJ _ _ cK _ _ cM _ _ cN _ _ cO _ _ cP b4 _ ?az ?aA ?aC ?aD ?aG ?aH ?ca ?cb ?cd ?bN ?bO ?bP A22.out).mono ?_
      (case az=>exact sq_c ((Kd.S_reads' ak.out).2.2))
      (case aA=>exact(Kd.S_reads' ak.out).2.1)
      (case aC=>exact sq_c ((Kd.R_reads' ao.out).2.2))
      (case aD=>exact(Kd.R_reads' ao.out).2.1)
      (case aG=>exact sq_c ((Kd.R_reads' ap.out).2.2))
      (case aH=>exact(Kd.R_reads' ap.out).2.1)
      (case ca=>exact sq_c ((Kd.S_reads' aq.out).2.2))
      (case cb=>exact(Kd.S_reads' aq.out).2.1)
      (case cd=>exact sq_c ((Kd.R_reads' ar.out).2.2))
      (case bN=>exact(Kd.R_reads' ar.out).2.1)
      (case bO=>exact sq_c ((Kd.R_reads' au.out).2.2))
      (case bP=>exact(Kd.R_reads' au.out).2.1)
      rintro e f9 ⟨rfl,hb⟩;refine⟨_,rfl,?_⟩;replace ak:=am_ (Kd.S_below (by(with_reducible repeat(first|apply Kd.S_alloc|apply Kd.S_drewN|apply Kd.S_drew));exact ak.out) hb);replace ao:=rb_ ao hb;replace ap:=rb_ ap hb;replace aq:=am_ (Kd.S_below (by(with_reducible repeat(first|apply Kd.S_alloc|apply Kd.S_drewN|apply Kd.S_drew));exact aq.out) hb);replace ar:=rb_ ar hb;replace au:=rb_ au hb;replace aa:=bb_ aa hb;replace ac:=bb_ ac hb;replace HB:=hb2_ HB hb ag ah
      (try clear hb)
      (try clear hb2)
      (try clear hk)
      (try clear hi)
      refine hK.out _ _ ⟨cl_ aa 0,cl_ aa 1,cl_ aa 2,cl_ ac 0,cl_ ac 1,cl_ ac 2⟩ (fun hHeld=>?_);clear hK K;refine norm_y 30 (h:=?_)
      refine py_ HT_ 7 10 ?_
      refine done_ (done_of HT_.out (by kernel_rfl)) ?_;obtain⟨ee,ef,eh,eH,eI,eJ⟩:=cz3_ aa
      try go_wp2_with (first|((with_reducible refine gate_callee (f:=6) rfl ?_);refine gl_ 32 Tryd.func6 #[.agg #[.slice bH aM.length bK,.slice bI aN.length bL,.slice bJ aQ.length bM]] (h:=?_);(with_reducible refine(laws_toSeg.calls k _ _ aM _ _ aN _ _ aQ aW aX aY _ ?az ?aA ?aC ?aD ?aG ?aH A23.out).mono ?_);(case az=>exact sq_c (Kd.C_below cj.out HB.out));(case aA=>exact cf.out);(case aC=>exact sq_c (Kd.C_below ck.out HB.out));(case aD=>exact cg.out);(case aG=>exact sq_c (Kd.C_below cl.out HB.out));(case aH=>exact ch.out);rintro e gc ⟨v502,v505,v508,rfl,ho0,ho1,ho2,hb⟩;refine⟨_,rfl,?_⟩;have aw:=am_ (Kd.S_lower (Kd.S_new' (Kd.S_new' ho0 (Kd.S_lt (by(with_reducible repeat(first|apply Kd.S_alloc|apply Kd.S_drewN|apply Kd.S_drew));exact ak.out))) (Kd.S_lt (by(with_reducible repeat(first|apply Kd.S_alloc|apply Kd.S_drewN|apply Kd.S_drew));exact aq.out))) (below_size (sq_below2 HB.out ag.out ah.out)));replace ak:=am_ (Kd.S_elder' (by(with_reducible repeat(first|apply Kd.S_alloc|apply Kd.S_drewN|apply Kd.S_drew));exact ak.out) (Kd.S_base ho0) hb);replace aq:=am_ (Kd.S_elder' (by(with_reducible repeat(first|apply Kd.S_alloc|apply Kd.S_drewN|apply Kd.S_drew));exact aq.out) (Kd.S_base ho0) hb);have ax:=am_ (Kd.R_lower (Kd.R_new' (Kd.R_new' ho1 (Kd.R_lt (sq_row ao.out))) (Kd.R_lt (sq_row ar.out))) (below_size (sq_below2 HB.out ag.out ah.out)));replace ao:=am_ (Kd.R_elder' (sq_row ao.out) (Kd.R_base ho1) hb);replace ar:=am_ (Kd.R_elder' (sq_row ar.out) (Kd.R_base ho1) hb);have ay:=am_ (Kd.R_lower (Kd.R_new' (Kd.R_new' ho2 (Kd.R_lt (sq_row ap.out))) (Kd.R_lt (sq_row au.out))) (below_size (sq_below2 HB.out ag.out ah.out)));replace ap:=am_ (Kd.R_elder' (sq_row ap.out) (Kd.R_base ho2) hb);replace au:=am_ (Kd.R_elder' (sq_row au.out) (Kd.R_base ho2) hb);replace aa:=bb_ aa hb;replace ac:=bb_ ac hb;replace HB:=hb2_ HB hb ag ah;(try clear hb);(try clear ho0);(try clear ho1);(try clear ho2))|((with_reducible refine gate_dst (N:=11) rfl ?_);refine box_y 11 #[.slice none 0 0,.slice none 0 0,.slice none 0 0] 32 (h:=?_);intro ae hg ge hbox hb;replace ak:=am_ (Kd.S_below (by(with_reducible repeat(first|apply Kd.S_alloc|apply Kd.S_drewN|apply Kd.S_drew));exact ak.out) hb);replace ao:=rb_ ao hb;replace ap:=rb_ ap hb;replace aq:=am_ (Kd.S_below (by(with_reducible repeat(first|apply Kd.S_alloc|apply Kd.S_drewN|apply Kd.S_drew));exact aq.out) hb);replace ar:=rb_ ar hb;replace au:=rb_ au hb;replace aw:=am_ (Kd.S_below (by(with_reducible repeat(first|apply Kd.S_alloc|apply Kd.S_drewN|apply Kd.S_drew));exact aw.out) hb);replace ax:=rb_ ax hb;replace ay:=rb_ ay hb;have aj:=am_ hbox;have fw:=gz2_ hg HB ag ah;have aZ:=gz2_ hg HB ag ah;replace HB:=hb2_ HB hb ag ah;have bW:=nb_ hg aa;replace aa:=bb_ aa hb;have cD:=ns_ bW;have bY:=nb_ hg ac;replace ac:=bb_ ac hb;have cF:=ns_ bY;clear hb hbox hg;obtain⟨bi,bf,fh⟩:=Kd.S_slice aw.out;subst fh;have fB:=cD.out;have fI:=bW.out;have fC:=cF.out;have fJ:=bY.out;obtain⟨ej,ek,el,eK,eL,eM⟩:=cz3_ aj;obtain⟨bj,bg,fi⟩:=Kd.R_slice ax.out;subst fi;obtain⟨bk,bh,fj⟩:=Kd.R_slice ay.out;subst fj;obtain⟨em,en,eo,eN,eO,eP⟩:=cz3_ ac)|((with_reducible refine gate_callee (f:=6) rfl ?_);refine gl_ 34 Tryd.func6 #[.agg #[.slice bQ aT.length bT,.slice bR aU.length bU,.slice bS aV.length bV]] (h:=?_);(with_reducible refine(laws_toSeg.calls k _ _ aT _ _ aU _ _ aV a9 ba bc _ ?az ?aA ?aC ?aD ?aG ?aH A24.out).mono ?_);(case az=>exact Kd.C_below cA.out (sq_below3 HB.out ag.out ah.out aZ.out));(case aA=>exact cp.out);(case aC=>exact Kd.C_below cB.out (sq_below3 HB.out ag.out ah.out aZ.out));(case aD=>exact cq.out);(case aG=>exact Kd.C_below cC.out (sq_below3 HB.out ag.out ah.out aZ.out));(case aH=>exact cr.out);rintro e gf ⟨v512,v515,v518,rfl,ho0,ho1,ho2,hb⟩;refine⟨_,rfl,?_⟩;have aI:=am_ (Kd.S_lower (Kd.S_new' (Kd.S_new' (Kd.S_new' ho0 (Kd.S_lt (by(with_reducible repeat(first|apply Kd.S_alloc|apply Kd.S_drewN|apply Kd.S_drew));exact(Kd.S_mono (Kd.S_far (p:=⟨ae,2,none⟩) (Kd.S_far (p:=⟨ae,1,none⟩) (Kd.S_far (p:=⟨ae,0,none⟩) (Kd.S_types ak.out aj.out (by decide)) (fun _ hk=>hk.2) (.slice bi aW.length bf)) (fun _ hk=>hk.2) (.slice bj aX.length bg)) (fun _ hk=>hk.2) (.slice bk aY.length bh)) (fun _ h_=>h_.1))))) (Kd.S_lt (by(with_reducible repeat(first|apply Kd.S_alloc|apply Kd.S_drewN|apply Kd.S_drew));exact(Kd.S_mono (Kd.S_far (p:=⟨ae,2,none⟩) (Kd.S_far (p:=⟨ae,1,none⟩) (Kd.S_far (p:=⟨ae,0,none⟩) (Kd.S_types aq.out aj.out (by decide)) (fun _ hk=>hk.2) (.slice bi aW.length bf)) (fun _ hk=>hk.2) (.slice bj aX.length bg)) (fun _ hk=>hk.2) (.slice bk aY.length bh)) (fun _ h_=>h_.1))))) (Kd.S_lt (by(with_reducible repeat(first|apply Kd.S_alloc|apply Kd.S_drewN|apply Kd.S_drew));exact(Kd.S_mono (Kd.S_far (p:=⟨ae,2,none⟩) (Kd.S_far (p:=⟨ae,1,none⟩) (Kd.S_far (p:=⟨ae,0,none⟩) (Kd.S_types aw.out aj.out (by decide)) (fun _ hk=>hk.2) (.slice bi aW.length bf)) (fun _ hk=>hk.2) (.slice bj aX.length bg)) (fun _ hk=>hk.2) (.slice bk aY.length bh)) (fun _ h_=>h_.1))))) (below_size (sq_below3 HB.out ag.out ah.out aZ.out)));replace ak:=am_ (Kd.S_elder' (by(with_reducible repeat(first|apply Kd.S_alloc|apply Kd.S_drewN|apply Kd.S_drew));exact(Kd.S_mono (Kd.S_far (p:=⟨ae,2,none⟩) (Kd.S_far (p:=⟨ae,1,none⟩) (Kd.S_far (p:=⟨ae,0,none⟩) (Kd.S_types ak.out aj.out (by decide)) (fun _ hk=>hk.2) (.slice bi aW.length bf)) (fun _ hk=>hk.2) (.slice bj aX.length bg)) (fun _ hk=>hk.2) (.slice bk aY.length bh)) (fun _ h_=>h_.1))) (Kd.S_base ho0) hb);replace aq:=am_ (Kd.S_elder' (by(with_reducible repeat(first|apply Kd.S_alloc|apply Kd.S_drewN|apply Kd.S_drew));exact(Kd.S_mono (Kd.S_far (p:=⟨ae,2,none⟩) (Kd.S_far (p:=⟨ae,1,none⟩) (Kd.S_far (p:=⟨ae,0,none⟩) (Kd.S_types aq.out aj.out (by decide)) (fun _ hk=>hk.2) (.slice bi aW.length bf)) (fun _ hk=>hk.2) (.slice bj aX.length bg)) (fun _ hk=>hk.2) (.slice bk aY.length bh)) (fun _ h_=>h_.1))) (Kd.S_base ho0) hb);replace aw:=am_ (Kd.S_elder' (by(with_reducible repeat(first|apply Kd.S_alloc|apply Kd.S_drewN|apply Kd.S_drew));exact(Kd.S_mono (Kd.S_far (p:=⟨ae,2,none⟩) (Kd.S_far (p:=⟨ae,1,none⟩) (Kd.S_far (p:=⟨ae,0,none⟩) (Kd.S_types aw.out aj.out (by decide)) (fun _ hk=>hk.2) (.slice bi aW.length bf)) (fun _ hk=>hk.2) (.slice bj aX.length bg)) (fun _ hk=>hk.2) (.slice bk aY.length bh)) (fun _ h_=>h_.1))) (Kd.S_base ho0) hb);have aJ:=am_ (Kd.R_lower (Kd.R_new' (Kd.R_new' (Kd.R_new' ho1 (Kd.R_lt (by(with_reducible repeat(first|apply Kd.R_alloc|apply Kd.R_drewN|apply Kd.R_drew));exact(Kd.R_mono (Kd.R_far (p:=⟨ae,2,none⟩) (Kd.R_far (p:=⟨ae,1,none⟩) (Kd.R_far (p:=⟨ae,0,none⟩) (Kd.R_types ao.out aj.out (by decide)) (fun _ hk=>hk.2) (.slice bi aW.length bf)) (fun _ hk=>hk.2) (.slice bj aX.length bg)) (fun _ hk=>hk.2) (.slice bk aY.length bh)) (fun _ h_=>h_.1))))) (Kd.R_lt (by(with_reducible repeat(first|apply Kd.R_alloc|apply Kd.R_drewN|apply Kd.R_drew));exact(Kd.R_mono (Kd.R_far (p:=⟨ae,2,none⟩) (Kd.R_far (p:=⟨ae,1,none⟩) (Kd.R_far (p:=⟨ae,0,none⟩) (Kd.R_types ar.out aj.out (by decide)) (fun _ hk=>hk.2) (.slice bi aW.length bf)) (fun _ hk=>hk.2) (.slice bj aX.length bg)) (fun _ hk=>hk.2) (.slice bk aY.length bh)) (fun _ h_=>h_.1))))) (Kd.R_lt (by(with_reducible repeat(first|apply Kd.R_alloc|apply Kd.R_drewN|apply Kd.R_drew));exact(Kd.R_mono (Kd.R_far (p:=⟨ae,2,none⟩) (Kd.R_far (p:=⟨ae,1,none⟩) (Kd.R_far (p:=⟨ae,0,none⟩) (Kd.R_types ax.out aj.out (by decide)) (fun _ hk=>hk.2) (.slice bi aW.length bf)) (fun _ hk=>hk.2) (.slice bj aX.length bg)) (fun _ hk=>hk.2) (.slice bk aY.length bh)) (fun _ h_=>h_.1))))) (below_size (sq_below3 HB.out ag.out ah.out aZ.out)));replace ao:=am_ (Kd.R_elder' (by(with_reducible repeat(first|apply Kd.R_alloc|apply Kd.R_drewN|apply Kd.R_drew));exact(Kd.R_mono (Kd.R_far (p:=⟨ae,2,none⟩) (Kd.R_far (p:=⟨ae,1,none⟩) (Kd.R_far (p:=⟨ae,0,none⟩) (Kd.R_types ao.out aj.out (by decide)) (fun _ hk=>hk.2) (.slice bi aW.length bf)) (fun _ hk=>hk.2) (.slice bj aX.length bg)) (fun _ hk=>hk.2) (.slice bk aY.length bh)) (fun _ h_=>h_.1))) (Kd.R_base ho1) hb);replace ar:=am_ (Kd.R_elder' (by(with_reducible repeat(first|apply Kd.R_alloc|apply Kd.R_drewN|apply Kd.R_drew));exact(Kd.R_mono (Kd.R_far (p:=⟨ae,2,none⟩) (Kd.R_far (p:=⟨ae,1,none⟩) (Kd.R_far (p:=⟨ae,0,none⟩) (Kd.R_types ar.out aj.out (by decide)) (fun _ hk=>hk.2) (.slice bi aW.length bf)) (fun _ hk=>hk.2) (.slice bj aX.length bg)) (fun _ hk=>hk.2) (.slice bk aY.length bh)) (fun _ h_=>h_.1))) (Kd.R_base ho1) hb);replace ax:=am_ (Kd.R_elder' (by(with_reducible repeat(first|apply Kd.R_alloc|apply Kd.R_drewN|apply Kd.R_drew));exact(Kd.R_mono (Kd.R_far (p:=⟨ae,2,none⟩) (Kd.R_far (p:=⟨ae,1,none⟩) (Kd.R_far (p:=⟨ae,0,none⟩) (Kd.R_types ax.out aj.out (by decide)) (fun _ hk=>hk.2) (.slice bi aW.length bf)) (fun _ hk=>hk.2) (.slice bj aX.length bg)) (fun _ hk=>hk.2) (.slice bk aY.length bh)) (fun _ h_=>h_.1))) (Kd.R_base ho1) hb);have aK:=am_ (Kd.R_lower (Kd.R_new' (Kd.R_new' (Kd.R_new' ho2 (Kd.R_lt (by(with_reducible repeat(first|apply Kd.R_alloc|apply Kd.R_drewN|apply Kd.R_drew));exact(Kd.R_mono (Kd.R_far (p:=⟨ae,2,none⟩) (Kd.R_far (p:=⟨ae,1,none⟩) (Kd.R_far (p:=⟨ae,0,none⟩) (Kd.R_types ap.out aj.out (by decide)) (fun _ hk=>hk.2) (.slice bi aW.length bf)) (fun _ hk=>hk.2) (.slice bj aX.length bg)) (fun _ hk=>hk.2) (.slice bk aY.length bh)) (fun _ h_=>h_.1))))) (Kd.R_lt (by(with_reducible repeat(first|apply Kd.R_alloc|apply Kd.R_drewN|apply Kd.R_drew));exact(Kd.R_mono (Kd.R_far (p:=⟨ae,2,none⟩) (Kd.R_far (p:=⟨ae,1,none⟩) (Kd.R_far (p:=⟨ae,0,none⟩) (Kd.R_types au.out aj.out (by decide)) (fun _ hk=>hk.2) (.slice bi aW.length bf)) (fun _ hk=>hk.2) (.slice bj aX.length bg)) (fun _ hk=>hk.2) (.slice bk aY.length bh)) (fun _ h_=>h_.1))))) (Kd.R_lt (by(with_reducible repeat(first|apply Kd.R_alloc|apply Kd.R_drewN|apply Kd.R_drew));exact(Kd.R_mono (Kd.R_far (p:=⟨ae,2,none⟩) (Kd.R_far (p:=⟨ae,1,none⟩) (Kd.R_far (p:=⟨ae,0,none⟩) (Kd.R_types ay.out aj.out (by decide)) (fun _ hk=>hk.2) (.slice bi aW.length bf)) (fun _ hk=>hk.2) (.slice bj aX.length bg)) (fun _ hk=>hk.2) (.slice bk aY.length bh)) (fun _ h_=>h_.1))))) (below_size (sq_below3 HB.out ag.out ah.out aZ.out)));replace ap:=am_ (Kd.R_elder' (by(with_reducible repeat(first|apply Kd.R_alloc|apply Kd.R_drewN|apply Kd.R_drew));exact(Kd.R_mono (Kd.R_far (p:=⟨ae,2,none⟩) (Kd.R_far (p:=⟨ae,1,none⟩) (Kd.R_far (p:=⟨ae,0,none⟩) (Kd.R_types ap.out aj.out (by decide)) (fun _ hk=>hk.2) (.slice bi aW.length bf)) (fun _ hk=>hk.2) (.slice bj aX.length bg)) (fun _ hk=>hk.2) (.slice bk aY.length bh)) (fun _ h_=>h_.1))) (Kd.R_base ho2) hb);replace au:=am_ (Kd.R_elder' (by(with_reducible repeat(first|apply Kd.R_alloc|apply Kd.R_drewN|apply Kd.R_drew));exact(Kd.R_mono (Kd.R_far (p:=⟨ae,2,none⟩) (Kd.R_far (p:=⟨ae,1,none⟩) (Kd.R_far (p:=⟨ae,0,none⟩) (Kd.R_types au.out aj.out (by decide)) (fun _ hk=>hk.2) (.slice bi aW.length bf)) (fun _ hk=>hk.2) (.slice bj aX.length bg)) (fun _ hk=>hk.2) (.slice bk aY.length bh)) (fun _ h_=>h_.1))) (Kd.R_base ho2) hb);replace ay:=am_ (Kd.R_elder' (by(with_reducible repeat(first|apply Kd.R_alloc|apply Kd.R_drewN|apply Kd.R_drew));exact(Kd.R_mono (Kd.R_far (p:=⟨ae,2,none⟩) (Kd.R_far (p:=⟨ae,1,none⟩) (Kd.R_far (p:=⟨ae,0,none⟩) (Kd.R_types ay.out aj.out (by decide)) (fun _ hk=>hk.2) (.slice bi aW.length bf)) (fun _ hk=>hk.2) (.slice bj aX.length bg)) (fun _ hk=>hk.2) (.slice bk aY.length bh)) (fun _ h_=>h_.1))) (Kd.R_base ho2) hb);replace aa:=am_ (blk_below (g:=bF) (o:=.cells #[.slice bH aM.length bK,.slice bI aN.length bL,.slice bJ aQ.length bM] 26 (0,0)) (bf_ aa bW).out hb);replace ac:=am_ (blk_below (g:=bG) (o:=.cells #[.slice bQ aT.length bT,.slice bR aU.length bU,.slice bS aV.length bV] 26 (0,0)) (bf_ ac bY).out hb);replace aj:=am_ (blk_below (g:=ae) (o:=.cells #[.slice bi aW.length bf,.slice bj aX.length bg,.slice bk aY.length bh] 32 (0,0)) (bp_ aj) hb);replace HB:=hb3_ HB hb ag ah aZ;(try clear hb);(try clear ho0);(try clear ho1);(try clear ho2))|((with_reducible refine gate_dst (N:=12) rfl ?_);refine box_y 12 #[.slice none 0 0,.slice none 0 0,.slice none 0 0] 32 (h:=?_);intro af hg gh hbox hb;replace ak:=am_ (Kd.S_below (by(with_reducible repeat(first|apply Kd.S_alloc|apply Kd.S_drewN|apply Kd.S_drew));exact ak.out) hb);replace ao:=rb_ ao hb;replace ap:=rb_ ap hb;replace aq:=am_ (Kd.S_below (by(with_reducible repeat(first|apply Kd.S_alloc|apply Kd.S_drewN|apply Kd.S_drew));exact aq.out) hb);replace ar:=rb_ ar hb;replace au:=rb_ au hb;replace aw:=am_ (Kd.S_below (by(with_reducible repeat(first|apply Kd.S_alloc|apply Kd.S_drewN|apply Kd.S_drew));exact aw.out) hb);replace ax:=rb_ ax hb;replace ay:=rb_ ay hb;replace aI:=am_ (Kd.S_below (by(with_reducible repeat(first|apply Kd.S_alloc|apply Kd.S_drewN|apply Kd.S_drew));exact aI.out) hb);replace aJ:=rb_ aJ hb;replace aK:=rb_ aK hb;have ai:=am_ hbox;have fx:=gz3_ hg HB ag ah aZ;have bw:=gz3_ hg HB ag ah aZ;replace HB:=hb3_ HB hb ag ah aZ;have bX:=nb_ hg aa;replace aa:=bb_ aa hb;have cG:=ns_ bX;have bZ:=nb_ hg ac;replace ac:=bb_ ac hb;have cH:=ns_ bZ;have b3:=nb_ hg aj;replace aj:=bb_ aj hb;have cI:=ns_ b3;clear hb hbox hg;obtain⟨bq,bn,fk⟩:=Kd.S_slice aI.out;subst fk;have fD:=cG.out;have fK:=bX.out;have fE:=cH.out;have fL:=bZ.out;have fF:=cI.out;have fM:=b3.out;obtain⟨ep,eq,er,eQ,eR,eS⟩:=cz3_ ai;obtain⟨br,bo,fl⟩:=Kd.R_slice aJ.out;subst fl;obtain⟨bu,bp,fm⟩:=Kd.R_slice aK.out;subst fm;obtain⟨es,et,eu,eT,eU,eV⟩:=cz3_ aj)|((with_reducible refine gate_callee (f:=7) rfl ?_);refine gl_ 39 Tryd.func7 #[.int .i64 a0,.int .i64 a1,.agg #[.slice bi aW.length bf,.slice bj aX.length bg,.slice bk aY.length bh],.agg #[.slice bq a9.length bn,.slice br ba.length bo,.slice bu bc.length bp]] (h:=?_);(with_reducible refine(impl_SegLeq.calls k a0 a1 _ _ aW _ _ aX _ _ aY _ _ a9 _ _ ba _ _ bc b5 _ ?dx ?dy ?az ?aA ?aC ?aD ?aG ?aH ?ca ?cb ?cd ?bN ?bO ?bP A25.out).mono ?_);(case az=>refine(Kd.S_reads' (e:=50) (base:=w.heap.size) (ok:=fun k_=>(((True∧some k_≠(.slice dg cJ.length dn:Value).ownBlock)∧some k_≠(.slice dj cN.length dr:Value).ownBlock)∧some k_≠(.slice bq a9.length bn:Value).ownBlock)) (n:=aW.length) (c:=bf) ?_).2.2;exact(by(with_reducible repeat(first|apply Kd.S_alloc|apply Kd.S_drewN|apply Kd.S_drew));exact(Kd.S_mono (Kd.S_far (p:=⟨af,2,none⟩) (Kd.S_far (p:=⟨af,1,none⟩) (Kd.S_far (p:=⟨af,0,none⟩) (Kd.S_types aw.out ai.out (by decide)) (fun _ hk=>hk.2) (.slice bq a9.length bn)) (fun _ hk=>hk.2) (.slice br ba.length bo)) (fun _ hk=>hk.2) (.slice bu bc.length bp)) (fun _ h_=>h_.1))));(case aA=>exact(Kd.S_reads' aw.out).2.1);(case aC=>refine(Kd.R_reads' (e:=60) (base:=w.heap.size) (ok:=fun k_=>(((True∧some k_≠(.slice dh cK.length dp:Value).ownBlock)∧some k_≠(.slice dk cO.length dt:Value).ownBlock)∧some k_≠(.slice br ba.length bo:Value).ownBlock)) (n:=aX.length) (c:=bg) ?_).2.2;exact(by(with_reducible repeat(first|apply Kd.R_alloc|apply Kd.R_drewN|apply Kd.R_drew));exact(Kd.R_mono (Kd.R_far (p:=⟨af,2,none⟩) (Kd.R_far (p:=⟨af,1,none⟩) (Kd.R_far (p:=⟨af,0,none⟩) (Kd.R_types ax.out ai.out (by decide)) (fun _ hk=>hk.2) (.slice bq a9.length bn)) (fun _ hk=>hk.2) (.slice br ba.length bo)) (fun _ hk=>hk.2) (.slice bu bc.length bp)) (fun _ h_=>h_.1))));(case aD=>exact(Kd.R_reads' ax.out).2.1);(case aG=>refine(Kd.R_reads' (e:=4) (base:=w.heap.size) (ok:=fun k_=>(((True∧some k_≠(.slice di cM.length dq:Value).ownBlock)∧some k_≠(.slice dl cP.length dw:Value).ownBlock)∧some k_≠(.slice bu bc.length bp:Value).ownBlock)) (n:=aY.length) (c:=bh) ?_).2.2;exact(by(with_reducible repeat(first|apply Kd.R_alloc|apply Kd.R_drewN|apply Kd.R_drew));exact(Kd.R_mono (Kd.R_far (p:=⟨af,2,none⟩) (Kd.R_far (p:=⟨af,1,none⟩) (Kd.R_far (p:=⟨af,0,none⟩) (Kd.R_types ay.out ai.out (by decide)) (fun _ hk=>hk.2) (.slice bq a9.length bn)) (fun _ hk=>hk.2) (.slice br ba.length bo)) (fun _ hk=>hk.2) (.slice bu bc.length bp)) (fun _ h_=>h_.1))));(case aH=>exact(Kd.R_reads' ay.out).2.1);(case ca=>refine(Kd.S_reads' (e:=50) (base:=w.heap.size) (ok:=fun k_=>(((True∧some k_≠(.slice dg cJ.length dn:Value).ownBlock)∧some k_≠(.slice dj cN.length dr:Value).ownBlock)∧some k_≠(.slice bi aW.length bf:Value).ownBlock)) (n:=a9.length) (c:=bn) ?_).2.2;exact(by(with_reducible repeat(first|apply Kd.S_alloc|apply Kd.S_drewN|apply Kd.S_drew));exact(Kd.S_mono (Kd.S_far (p:=⟨af,2,none⟩) (Kd.S_far (p:=⟨af,1,none⟩) (Kd.S_far (p:=⟨af,0,none⟩) (Kd.S_types aI.out ai.out (by decide)) (fun _ hk=>hk.2) (.slice bq a9.length bn)) (fun _ hk=>hk.2) (.slice br ba.length bo)) (fun _ hk=>hk.2) (.slice bu bc.length bp)) (fun _ h_=>h_.1))));(case cb=>exact(Kd.S_reads' aI.out).2.1);(case cd=>refine(Kd.R_reads' (e:=60) (base:=w.heap.size) (ok:=fun k_=>(((True∧some k_≠(.slice dh cK.length dp:Value).ownBlock)∧some k_≠(.slice dk cO.length dt:Value).ownBlock)∧some k_≠(.slice bj aX.length bg:Value).ownBlock)) (n:=ba.length) (c:=bo) ?_).2.2;exact(by(with_reducible repeat(first|apply Kd.R_alloc|apply Kd.R_drewN|apply Kd.R_drew));exact(Kd.R_mono (Kd.R_far (p:=⟨af,2,none⟩) (Kd.R_far (p:=⟨af,1,none⟩) (Kd.R_far (p:=⟨af,0,none⟩) (Kd.R_types aJ.out ai.out (by decide)) (fun _ hk=>hk.2) (.slice bq a9.length bn)) (fun _ hk=>hk.2) (.slice br ba.length bo)) (fun _ hk=>hk.2) (.slice bu bc.length bp)) (fun _ h_=>h_.1))));(case bN=>exact(Kd.R_reads' aJ.out).2.1);(case bO=>refine(Kd.R_reads' (e:=4) (base:=w.heap.size) (ok:=fun k_=>(((True∧some k_≠(.slice di cM.length dq:Value).ownBlock)∧some k_≠(.slice dl cP.length dw:Value).ownBlock)∧some k_≠(.slice bk aY.length bh:Value).ownBlock)) (n:=bc.length) (c:=bp) ?_).2.2;exact(by(with_reducible repeat(first|apply Kd.R_alloc|apply Kd.R_drewN|apply Kd.R_drew));exact(Kd.R_mono (Kd.R_far (p:=⟨af,2,none⟩) (Kd.R_far (p:=⟨af,1,none⟩) (Kd.R_far (p:=⟨af,0,none⟩) (Kd.R_types aK.out ai.out (by decide)) (fun _ hk=>hk.2) (.slice bq a9.length bn)) (fun _ hk=>hk.2) (.slice br ba.length bo)) (fun _ hk=>hk.2) (.slice bu bc.length bp)) (fun _ h_=>h_.1))));(case bP=>exact(Kd.R_reads' aK.out).2.1);(case dx=>exact GL0.below HG0.out (sq_below4 HB.out ag.out ah.out aZ.out bw.out));(case dy=>exact GL1.below HG1.out (sq_below4 HB.out ag.out ah.out aZ.out bw.out));rintro e fO ⟨rfl,hb⟩;refine⟨_,rfl,?_⟩;replace ak:=am_ (Kd.S_below (by(with_reducible repeat(first|apply Kd.S_alloc|apply Kd.S_drewN|apply Kd.S_drew));exact(Kd.S_mono (Kd.S_far (p:=⟨af,2,none⟩) (Kd.S_far (p:=⟨af,1,none⟩) (Kd.S_far (p:=⟨af,0,none⟩) (Kd.S_types ak.out ai.out (by decide)) (fun _ hk=>hk.2) (.slice bq a9.length bn)) (fun _ hk=>hk.2) (.slice br ba.length bo)) (fun _ hk=>hk.2) (.slice bu bc.length bp)) (fun _ h_=>h_.1))) hb);replace ao:=am_ (Kd.R_below (by(with_reducible repeat(first|apply Kd.R_alloc|apply Kd.R_drewN|apply Kd.R_drew));exact(Kd.R_mono (Kd.R_far (p:=⟨af,2,none⟩) (Kd.R_far (p:=⟨af,1,none⟩) (Kd.R_far (p:=⟨af,0,none⟩) (Kd.R_types ao.out ai.out (by decide)) (fun _ hk=>hk.2) (.slice bq a9.length bn)) (fun _ hk=>hk.2) (.slice br ba.length bo)) (fun _ hk=>hk.2) (.slice bu bc.length bp)) (fun _ h_=>h_.1))) hb);replace ap:=am_ (Kd.R_below (by(with_reducible repeat(first|apply Kd.R_alloc|apply Kd.R_drewN|apply Kd.R_drew));exact(Kd.R_mono (Kd.R_far (p:=⟨af,2,none⟩) (Kd.R_far (p:=⟨af,1,none⟩) (Kd.R_far (p:=⟨af,0,none⟩) (Kd.R_types ap.out ai.out (by decide)) (fun _ hk=>hk.2) (.slice bq a9.length bn)) (fun _ hk=>hk.2) (.slice br ba.length bo)) (fun _ hk=>hk.2) (.slice bu bc.length bp)) (fun _ h_=>h_.1))) hb);replace aq:=am_ (Kd.S_below (by(with_reducible repeat(first|apply Kd.S_alloc|apply Kd.S_drewN|apply Kd.S_drew));exact(Kd.S_mono (Kd.S_far (p:=⟨af,2,none⟩) (Kd.S_far (p:=⟨af,1,none⟩) (Kd.S_far (p:=⟨af,0,none⟩) (Kd.S_types aq.out ai.out (by decide)) (fun _ hk=>hk.2) (.slice bq a9.length bn)) (fun _ hk=>hk.2) (.slice br ba.length bo)) (fun _ hk=>hk.2) (.slice bu bc.length bp)) (fun _ h_=>h_.1))) hb);replace ar:=am_ (Kd.R_below (by(with_reducible repeat(first|apply Kd.R_alloc|apply Kd.R_drewN|apply Kd.R_drew));exact(Kd.R_mono (Kd.R_far (p:=⟨af,2,none⟩) (Kd.R_far (p:=⟨af,1,none⟩) (Kd.R_far (p:=⟨af,0,none⟩) (Kd.R_types ar.out ai.out (by decide)) (fun _ hk=>hk.2) (.slice bq a9.length bn)) (fun _ hk=>hk.2) (.slice br ba.length bo)) (fun _ hk=>hk.2) (.slice bu bc.length bp)) (fun _ h_=>h_.1))) hb);replace au:=am_ (Kd.R_below (by(with_reducible repeat(first|apply Kd.R_alloc|apply Kd.R_drewN|apply Kd.R_drew));exact(Kd.R_mono (Kd.R_far (p:=⟨af,2,none⟩) (Kd.R_far (p:=⟨af,1,none⟩) (Kd.R_far (p:=⟨af,0,none⟩) (Kd.R_types au.out ai.out (by decide)) (fun _ hk=>hk.2) (.slice bq a9.length bn)) (fun _ hk=>hk.2) (.slice br ba.length bo)) (fun _ hk=>hk.2) (.slice bu bc.length bp)) (fun _ h_=>h_.1))) hb);replace aw:=am_ (Kd.S_below (by(with_reducible repeat(first|apply Kd.S_alloc|apply Kd.S_drewN|apply Kd.S_drew));exact(Kd.S_mono (Kd.S_far (p:=⟨af,2,none⟩) (Kd.S_far (p:=⟨af,1,none⟩) (Kd.S_far (p:=⟨af,0,none⟩) (Kd.S_types aw.out ai.out (by decide)) (fun _ hk=>hk.2) (.slice bq a9.length bn)) (fun _ hk=>hk.2) (.slice br ba.length bo)) (fun _ hk=>hk.2) (.slice bu bc.length bp)) (fun _ h_=>h_.1))) hb);replace ax:=am_ (Kd.R_below (by(with_reducible repeat(first|apply Kd.R_alloc|apply Kd.R_drewN|apply Kd.R_drew));exact(Kd.R_mono (Kd.R_far (p:=⟨af,2,none⟩) (Kd.R_far (p:=⟨af,1,none⟩) (Kd.R_far (p:=⟨af,0,none⟩) (Kd.R_types ax.out ai.out (by decide)) (fun _ hk=>hk.2) (.slice bq a9.length bn)) (fun _ hk=>hk.2) (.slice br ba.length bo)) (fun _ hk=>hk.2) (.slice bu bc.length bp)) (fun _ h_=>h_.1))) hb);replace ay:=am_ (Kd.R_below (by(with_reducible repeat(first|apply Kd.R_alloc|apply Kd.R_drewN|apply Kd.R_drew));exact(Kd.R_mono (Kd.R_far (p:=⟨af,2,none⟩) (Kd.R_far (p:=⟨af,1,none⟩) (Kd.R_far (p:=⟨af,0,none⟩) (Kd.R_types ay.out ai.out (by decide)) (fun _ hk=>hk.2) (.slice bq a9.length bn)) (fun _ hk=>hk.2) (.slice br ba.length bo)) (fun _ hk=>hk.2) (.slice bu bc.length bp)) (fun _ h_=>h_.1))) hb);replace aI:=am_ (Kd.S_below (by(with_reducible repeat(first|apply Kd.S_alloc|apply Kd.S_drewN|apply Kd.S_drew));exact(Kd.S_mono (Kd.S_far (p:=⟨af,2,none⟩) (Kd.S_far (p:=⟨af,1,none⟩) (Kd.S_far (p:=⟨af,0,none⟩) (Kd.S_types aI.out ai.out (by decide)) (fun _ hk=>hk.2) (.slice bq a9.length bn)) (fun _ hk=>hk.2) (.slice br ba.length bo)) (fun _ hk=>hk.2) (.slice bu bc.length bp)) (fun _ h_=>h_.1))) hb);replace aJ:=am_ (Kd.R_below (by(with_reducible repeat(first|apply Kd.R_alloc|apply Kd.R_drewN|apply Kd.R_drew));exact(Kd.R_mono (Kd.R_far (p:=⟨af,2,none⟩) (Kd.R_far (p:=⟨af,1,none⟩) (Kd.R_far (p:=⟨af,0,none⟩) (Kd.R_types aJ.out ai.out (by decide)) (fun _ hk=>hk.2) (.slice bq a9.length bn)) (fun _ hk=>hk.2) (.slice br ba.length bo)) (fun _ hk=>hk.2) (.slice bu bc.length bp)) (fun _ h_=>h_.1))) hb);replace aK:=am_ (Kd.R_below (by(with_reducible repeat(first|apply Kd.R_alloc|apply Kd.R_drewN|apply Kd.R_drew));exact(Kd.R_mono (Kd.R_far (p:=⟨af,2,none⟩) (Kd.R_far (p:=⟨af,1,none⟩) (Kd.R_far (p:=⟨af,0,none⟩) (Kd.R_types aK.out ai.out (by decide)) (fun _ hk=>hk.2) (.slice bq a9.length bn)) (fun _ hk=>hk.2) (.slice br ba.length bo)) (fun _ hk=>hk.2) (.slice bu bc.length bp)) (fun _ h_=>h_.1))) hb);replace aa:=am_ (blk_below (g:=bF) (o:=.cells #[.slice bH aM.length bK,.slice bI aN.length bL,.slice bJ aQ.length bM] 26 (0,0)) (bf_ aa bX).out hb);replace ac:=am_ (blk_below (g:=bG) (o:=.cells #[.slice bQ aT.length bT,.slice bR aU.length bU,.slice bS aV.length bV] 26 (0,0)) (bf_ ac bZ).out hb);replace aj:=am_ (blk_below (g:=ae) (o:=.cells #[.slice bi aW.length bf,.slice bj aX.length bg,.slice bk aY.length bh] 32 (0,0)) (bf_ aj b3).out hb);replace ai:=am_ (blk_below (g:=af) (o:=.cells #[.slice bq a9.length bn,.slice br ba.length bo,.slice bu bc.length bp] 32 (0,0)) (bp_ ai) hb);replace HB:=hb4_ HB hb ag ah aZ bw;(try clear hb)))
      replace ak:=am_ (Kd.S_drew ak.out);replace ao:=rd_ ao;replace ap:=rd_ ap;replace aq:=am_ (Kd.S_drew aq.out);replace ar:=rd_ ar;replace au:=rd_ au;replace aw:=am_ (Kd.S_drew aw.out);replace ax:=rd_ ax;replace ay:=rd_ ay;replace aI:=am_ (Kd.S_drew aI.out);replace aJ:=rd_ aJ;replace aK:=rd_ aK;replace aa:=bd_ aa;replace ac:=bd_ ac;replace aj:=bd_ aj;replace ai:=bd_ ai;replace HB:=hd_ HB;refine start_ (n:=5) (S:=fun w'=>w'.cell? ⟨ae,0,none⟩=some (.slice bi aW.length bf)∧w'.cell? ⟨ae,1,none⟩=some (.slice bj aX.length bg)∧w'.cell? ⟨ae,2,none⟩=some (.slice bk aY.length bh)∧w'.cell? ⟨bF,0,none⟩=some (.slice bH aM.length bK)∧w'.cell? ⟨bF,1,none⟩=some (.slice bI aN.length bL)∧w'.cell? ⟨bF,2,none⟩=some (.slice bJ aQ.length bM)) (ds:=[]) #[false,false,false,false,false] (by kernel_rfl) rfl rfl ⟨cl_ aj 0,cl_ aj 1,cl_ aj 2,cl_ aa 0,cl_ aa 1,cl_ aa 2⟩ (fun hHeld=>?_);generalize fO.drew=gi at ak ao ap aq ar au aw ax ay aI aJ aK aa ac aj ai HB hHeld ⊢;refine take_ (i:=0) (N:=some 43) (v:=?_) (a':=?_) #[true,false,false,false,false] rfl rfl (by kernel_rfl) (fun _ _ _ h=>h) (Or.inl ⟨by rfl,?_⟩) hHeld ?_ ?_;rotate_left
      ·
       rintro w' ⟨s0,s1,s2,s3,s4,s5⟩;go_simp;with_reducible rfl
      rotate_left
      ·
       simp only [Act.put,List.setIfInBounds_toArray,List.set_cons_zero,List.set_cons_succ,i64_w,i32_w];rfl
      refine take_ (i:=1) (N:=some 44) (v:=?_) (a':=?_) #[true,true,false,false,false] rfl rfl (by kernel_rfl) (fun _ _ _ h=>h) (Or.inl ⟨by rfl,?_⟩) hHeld ?_ ?_;rotate_left
      ·
       rintro w' ⟨s0,s1,s2,s3,s4,s5⟩;go_simp;with_reducible rfl
      rotate_left
      ·
       simp only [Act.put,List.setIfInBounds_toArray,List.set_cons_zero,List.set_cons_succ,i64_w,i32_w];rfl
      refine one_ (i:=2) (N:=some 45) #[true,true,true,false,false] rfl rfl (by kernel_rfl) (by decide) (fun K hK=>?_);refine gs_ Tryd.func6 #[.agg #[.slice bH aM.length bK,.slice bI aN.length bL,.slice bJ aQ.length bM]] (h:=?_);with_reducible refine(laws_toSeg.calls k _ _ aM _ _ aN _ _ aQ dz dA dB _ ?az ?aA ?aC ?aD ?aG ?aH A27.out).mono ?_
      (case az=>exact sq_c (Kd.C_below cj.out HB.out))
      (case aA=>exact cf.out)
      (case aC=>exact sq_c (Kd.C_below ck.out HB.out))
      (case aD=>exact cg.out)
      (case aG=>exact sq_c (Kd.C_below cl.out HB.out))
      (case aH=>exact ch.out)
      rintro e gj ⟨v523,v526,v529,rfl,ho0,ho1,ho2,hb⟩;refine⟨_,rfl,?_⟩;have bx:=am_ (Kd.S_lower (Kd.S_new' (Kd.S_new' (Kd.S_new' (Kd.S_new' ho0 (Kd.S_lt (by(with_reducible repeat(first|apply Kd.S_alloc|apply Kd.S_drewN|apply Kd.S_drew));exact ak.out))) (Kd.S_lt (by(with_reducible repeat(first|apply Kd.S_alloc|apply Kd.S_drewN|apply Kd.S_drew));exact aq.out))) (Kd.S_lt (by(with_reducible repeat(first|apply Kd.S_alloc|apply Kd.S_drewN|apply Kd.S_drew));exact aw.out))) (Kd.S_lt (by(with_reducible repeat(first|apply Kd.S_alloc|apply Kd.S_drewN|apply Kd.S_drew));exact aI.out))) (below_size (sq_below4 HB.out ag.out ah.out aZ.out bw.out)));replace ak:=am_ (Kd.S_elder' (by(with_reducible repeat(first|apply Kd.S_alloc|apply Kd.S_drewN|apply Kd.S_drew));exact ak.out) (Kd.S_base ho0) hb);replace aq:=am_ (Kd.S_elder' (by(with_reducible repeat(first|apply Kd.S_alloc|apply Kd.S_drewN|apply Kd.S_drew));exact aq.out) (Kd.S_base ho0) hb);replace aw:=am_ (Kd.S_elder' (by(with_reducible repeat(first|apply Kd.S_alloc|apply Kd.S_drewN|apply Kd.S_drew));exact aw.out) (Kd.S_base ho0) hb);replace aI:=am_ (Kd.S_elder' (by(with_reducible repeat(first|apply Kd.S_alloc|apply Kd.S_drewN|apply Kd.S_drew));exact aI.out) (Kd.S_base ho0) hb);have bz:=am_ (Kd.R_lower (Kd.R_new' (Kd.R_new' (Kd.R_new' (Kd.R_new' ho1 (Kd.R_lt (sq_row ao.out))) (Kd.R_lt (sq_row ar.out))) (Kd.R_lt (sq_row ax.out))) (Kd.R_lt (sq_row aJ.out))) (below_size (sq_below4 HB.out ag.out ah.out aZ.out bw.out)));replace ao:=am_ (Kd.R_elder' (sq_row ao.out) (Kd.R_base ho1) hb);replace ar:=am_ (Kd.R_elder' (sq_row ar.out) (Kd.R_base ho1) hb);replace ax:=am_ (Kd.R_elder' (sq_row ax.out) (Kd.R_base ho1) hb);replace aJ:=am_ (Kd.R_elder' (sq_row aJ.out) (Kd.R_base ho1) hb);have bA:=am_ (Kd.R_lower (Kd.R_new' (Kd.R_new' (Kd.R_new' (Kd.R_new' ho2 (Kd.R_lt (sq_row ap.out))) (Kd.R_lt (sq_row au.out))) (Kd.R_lt (sq_row ay.out))) (Kd.R_lt (sq_row aK.out))) (below_size (sq_below4 HB.out ag.out ah.out aZ.out bw.out)));replace ap:=am_ (Kd.R_elder' (sq_row ap.out) (Kd.R_base ho2) hb);replace au:=am_ (Kd.R_elder' (sq_row au.out) (Kd.R_base ho2) hb);replace ay:=am_ (Kd.R_elder' (sq_row ay.out) (Kd.R_base ho2) hb);replace aK:=am_ (Kd.R_elder' (sq_row aK.out) (Kd.R_base ho2) hb);replace aa:=bb_ aa hb;replace ac:=bb_ ac hb;replace aj:=bb_ aj hb;replace ai:=bb_ ai hb;replace HB:=hb4_ HB hb ag ah aZ bw
      (try clear hb)
      (try clear hb2)
      (try clear hk)
      (try clear hi)
      (try clear ho0)
      (try clear ho1)
      (try clear ho2)
      obtain⟨eW,fb,dP⟩:=Kd.S_slice bx.out
      (first|subst dP|(injection dP with f1_ f2_ f3_;have f4_:=f1_.symm;have f5_:=f3_.symm;clear f1_ f2_ f3_;subst f4_;subst f5_))
      obtain⟨eX,fc,dQ⟩:=Kd.R_slice bz.out
      (first|subst dQ|(injection dQ with f1_ f2_ f3_;have f4_:=f1_.symm;have f5_:=f3_.symm;clear f1_ f2_ f3_;subst f4_;subst f5_))
      obtain⟨eY,fd,dR⟩:=Kd.R_slice bA.out
      (first|subst dR|(injection dR with f1_ f2_ f3_;have f4_:=f1_.symm;have f5_:=f3_.symm;clear f1_ f2_ f3_;subst f4_;subst f5_))
      refine hK.out _ _ ⟨cl_ aj 0,cl_ aj 1,cl_ aj 2,cl_ aa 0,cl_ aa 1,cl_ aa 2⟩ (fun hHeld=>?_);clear hK K;refine norm_y 45 (h:=?_)
      refine one_ (i:=3) (N:=some 46) #[true,true,true,true,false] rfl rfl (by kernel_rfl) (by decide) (fun K hK=>?_);refine gs_ Tryd.func8 #[.agg #[.slice bi aW.length bf,.slice bj aX.length bg,.slice bk aY.length bh],.agg #[.slice eW dz.length fb,.slice eX dA.length fc,.slice eY dB.length fd]] (h:=?_);with_reducible refine(laws_eqSeg.calls k _ _ aW _ _ aX _ _ aY _ _ dz _ _ dA _ _ dB true _ ?az ?aA ?aC ?aD ?aG ?aH ?ca ?cb ?cd ?bN ?bO ?bP A28.out).mono ?_
      (case az=>exact sq_c ((Kd.S_reads' aw.out).2.2))
      (case aA=>exact(Kd.S_reads' aw.out).2.1)
      (case aC=>exact sq_c ((Kd.R_reads' ax.out).2.2))
      (case aD=>exact(Kd.R_reads' ax.out).2.1)
      (case aG=>exact sq_c ((Kd.R_reads' ay.out).2.2))
      (case aH=>exact(Kd.R_reads' ay.out).2.1)
      (case ca=>exact sq_c ((Kd.S_reads' bx.out).2.2))
      (case cb=>exact(Kd.S_reads' bx.out).2.1)
      (case cd=>exact sq_c ((Kd.R_reads' bz.out).2.2))
      (case bN=>exact(Kd.R_reads' bz.out).2.1)
      (case bO=>exact sq_c ((Kd.R_reads' bA.out).2.2))
      (case bP=>exact(Kd.R_reads' bA.out).2.1)
      rintro e fP ⟨rfl,hb⟩;refine⟨_,rfl,?_⟩;replace ak:=am_ (Kd.S_below (by(with_reducible repeat(first|apply Kd.S_alloc|apply Kd.S_drewN|apply Kd.S_drew));exact ak.out) hb);replace ao:=rb_ ao hb;replace ap:=rb_ ap hb;replace aq:=am_ (Kd.S_below (by(with_reducible repeat(first|apply Kd.S_alloc|apply Kd.S_drewN|apply Kd.S_drew));exact aq.out) hb);replace ar:=rb_ ar hb;replace au:=rb_ au hb;replace aw:=am_ (Kd.S_below (by(with_reducible repeat(first|apply Kd.S_alloc|apply Kd.S_drewN|apply Kd.S_drew));exact aw.out) hb);replace ax:=rb_ ax hb;replace ay:=rb_ ay hb;replace aI:=am_ (Kd.S_below (by(with_reducible repeat(first|apply Kd.S_alloc|apply Kd.S_drewN|apply Kd.S_drew));exact aI.out) hb);replace aJ:=rb_ aJ hb;replace aK:=rb_ aK hb;replace bx:=am_ (Kd.S_below (by(with_reducible repeat(first|apply Kd.S_alloc|apply Kd.S_drewN|apply Kd.S_drew));exact bx.out) hb);replace bz:=rb_ bz hb;replace bA:=rb_ bA hb;replace aa:=bb_ aa hb;replace ac:=bb_ ac hb;replace aj:=bb_ aj hb;replace ai:=bb_ ai hb;replace HB:=hb4_ HB hb ag ah aZ bw
      (try clear hb)
      (try clear hb2)
      (try clear hk)
      (try clear hi)
      refine hK.out _ _ ⟨cl_ aj 0,cl_ aj 1,cl_ aj 2,cl_ aa 0,cl_ aa 1,cl_ aa 2⟩ (fun hHeld=>?_);clear hK K;refine norm_y 46 (h:=?_)
      refine pure_ (i:=4) (N:=some 47) (v:=?_) (a':=?_) #[true,true,true,true,true] rfl rfl (by kernel_rfl) (fun _ _ _ h=>h) (Or.inl ⟨by rfl,?_⟩) ?_ ?_;rotate_left
      ·
       intro w';go_simp;with_reducible rfl
      rotate_left
      ·
       simp only [Act.put,List.setIfInBounds_toArray,List.set_cons_zero,List.set_cons_succ,i64_w,i32_w];rfl
      refine done_ (by kernel_rfl) ?_
      try go_wp2
      replace ak:=am_ (Kd.S_drew ak.out);replace ao:=rd_ ao;replace ap:=rd_ ap;replace aq:=am_ (Kd.S_drew aq.out);replace ar:=rd_ ar;replace au:=rd_ au;replace aw:=am_ (Kd.S_drew aw.out);replace ax:=rd_ ax;replace ay:=rd_ ay;replace aI:=am_ (Kd.S_drew aI.out);replace aJ:=rd_ aJ;replace aK:=rd_ aK;replace bx:=am_ (Kd.S_drew bx.out);replace bz:=rd_ bz;replace bA:=rd_ bA;replace ac:=bd_ ac;replace ai:=bd_ ai;replace HB:=hd_ HB;refine start_ (n:=5) (S:=fun w'=>w'.cell? ⟨af,0,none⟩=some (.slice bq a9.length bn)∧w'.cell? ⟨af,1,none⟩=some (.slice br ba.length bo)∧w'.cell? ⟨af,2,none⟩=some (.slice bu bc.length bp)∧w'.cell? ⟨bG,0,none⟩=some (.slice bQ aT.length bT)∧w'.cell? ⟨bG,1,none⟩=some (.slice bR aU.length bU)∧w'.cell? ⟨bG,2,none⟩=some (.slice bS aV.length bV)) (ds:=[]) #[false,false,false,false,false] (by kernel_rfl) rfl rfl ⟨cl_ ai 0,cl_ ai 1,cl_ ai 2,cl_ ac 0,cl_ ac 1,cl_ ac 2⟩ (fun hHeld=>?_);generalize fP.drew=gl at ak ao ap aq ar au aw ax ay aI aJ aK bx bz bA ac ai HB hHeld ⊢;refine take_ (i:=0) (N:=some 48) (v:=?_) (a':=?_) #[true,false,false,false,false] rfl rfl (by kernel_rfl) (fun _ _ _ h=>h) (Or.inl ⟨by rfl,?_⟩) hHeld ?_ ?_;rotate_left
      ·
       rintro w' ⟨s0,s1,s2,s3,s4,s5⟩;go_simp;with_reducible rfl
      rotate_left
      ·
       simp only [Act.put,List.setIfInBounds_toArray,List.set_cons_zero,List.set_cons_succ,i64_w,i32_w];rfl
      refine take_ (i:=1) (N:=some 49) (v:=?_) (a':=?_) #[true,true,false,false,false] rfl rfl (by kernel_rfl) (fun _ _ _ h=>h) (Or.inl ⟨by rfl,?_⟩) hHeld ?_ ?_;rotate_left
      ·
       rintro w' ⟨s0,s1,s2,s3,s4,s5⟩;go_simp;with_reducible rfl
      rotate_left
      ·
       simp only [Act.put,List.setIfInBounds_toArray,List.set_cons_zero,List.set_cons_succ,i64_w,i32_w];rfl
      refine one_ (i:=2) (N:=some 50) #[true,true,true,false,false] rfl rfl (by kernel_rfl) (by decide) (fun K hK=>?_);refine gs_ Tryd.func6 #[.agg #[.slice bQ aT.length bT,.slice bR aU.length bU,.slice bS aV.length bV]] (h:=?_);with_reducible refine(laws_toSeg.calls k _ _ aT _ _ aU _ _ aV dC dD dE _ ?az ?aA ?aC ?aD ?aG ?aH A30.out).mono ?_
      (case az=>exact sq_c (Kd.C_below cA.out HB.out))
      (case aA=>exact cp.out)
      (case aC=>exact sq_c (Kd.C_below cB.out HB.out))
      (case aD=>exact cq.out)
      (case aG=>exact sq_c (Kd.C_below cC.out HB.out))
      (case aH=>exact cr.out)
      rintro e gm ⟨v533,v536,v539,rfl,ho0,ho1,ho2,hb⟩;refine⟨_,rfl,?_⟩;have cx:=am_ (Kd.S_lower (Kd.S_new' (Kd.S_new' (Kd.S_new' (Kd.S_new' (Kd.S_new' ho0 (Kd.S_lt (by(with_reducible repeat(first|apply Kd.S_alloc|apply Kd.S_drewN|apply Kd.S_drew));exact ak.out))) (Kd.S_lt (by(with_reducible repeat(first|apply Kd.S_alloc|apply Kd.S_drewN|apply Kd.S_drew));exact aq.out))) (Kd.S_lt (by(with_reducible repeat(first|apply Kd.S_alloc|apply Kd.S_drewN|apply Kd.S_drew));exact aw.out))) (Kd.S_lt (by(with_reducible repeat(first|apply Kd.S_alloc|apply Kd.S_drewN|apply Kd.S_drew));exact aI.out))) (Kd.S_lt (by(with_reducible repeat(first|apply Kd.S_alloc|apply Kd.S_drewN|apply Kd.S_drew));exact bx.out))) (below_size (sq_below2 HB.out ah.out bw.out)));replace ak:=am_ (Kd.S_elder' (by(with_reducible repeat(first|apply Kd.S_alloc|apply Kd.S_drewN|apply Kd.S_drew));exact ak.out) (Kd.S_base ho0) hb);replace aq:=am_ (Kd.S_elder' (by(with_reducible repeat(first|apply Kd.S_alloc|apply Kd.S_drewN|apply Kd.S_drew));exact aq.out) (Kd.S_base ho0) hb);replace aw:=am_ (Kd.S_elder' (by(with_reducible repeat(first|apply Kd.S_alloc|apply Kd.S_drewN|apply Kd.S_drew));exact aw.out) (Kd.S_base ho0) hb);replace aI:=am_ (Kd.S_elder' (by(with_reducible repeat(first|apply Kd.S_alloc|apply Kd.S_drewN|apply Kd.S_drew));exact aI.out) (Kd.S_base ho0) hb);replace bx:=am_ (Kd.S_elder' (by(with_reducible repeat(first|apply Kd.S_alloc|apply Kd.S_drewN|apply Kd.S_drew));exact bx.out) (Kd.S_base ho0) hb);have cy:=am_ (Kd.R_lower (Kd.R_new' (Kd.R_new' (Kd.R_new' (Kd.R_new' (Kd.R_new' ho1 (Kd.R_lt (sq_row ao.out))) (Kd.R_lt (sq_row ar.out))) (Kd.R_lt (sq_row ax.out))) (Kd.R_lt (sq_row aJ.out))) (Kd.R_lt (sq_row bz.out))) (below_size (sq_below2 HB.out ah.out bw.out)));replace ao:=am_ (Kd.R_elder' (sq_row ao.out) (Kd.R_base ho1) hb);replace ar:=am_ (Kd.R_elder' (sq_row ar.out) (Kd.R_base ho1) hb);replace ax:=am_ (Kd.R_elder' (sq_row ax.out) (Kd.R_base ho1) hb);replace aJ:=am_ (Kd.R_elder' (sq_row aJ.out) (Kd.R_base ho1) hb);replace bz:=am_ (Kd.R_elder' (sq_row bz.out) (Kd.R_base ho1) hb);have cz:=am_ (Kd.R_lower (Kd.R_new' (Kd.R_new' (Kd.R_new' (Kd.R_new' (Kd.R_new' ho2 (Kd.R_lt (sq_row ap.out))) (Kd.R_lt (sq_row au.out))) (Kd.R_lt (sq_row ay.out))) (Kd.R_lt (sq_row aK.out))) (Kd.R_lt (sq_row bA.out))) (below_size (sq_below2 HB.out ah.out bw.out)));replace ap:=am_ (Kd.R_elder' (sq_row ap.out) (Kd.R_base ho2) hb);replace au:=am_ (Kd.R_elder' (sq_row au.out) (Kd.R_base ho2) hb);replace ay:=am_ (Kd.R_elder' (sq_row ay.out) (Kd.R_base ho2) hb);replace aK:=am_ (Kd.R_elder' (sq_row aK.out) (Kd.R_base ho2) hb);replace bA:=am_ (Kd.R_elder' (sq_row bA.out) (Kd.R_base ho2) hb);replace ac:=bb_ ac hb;replace ai:=bb_ ai hb;replace HB:=hb2_ HB hb ah bw
      (try clear hb)
      (try clear hb2)
      (try clear hk)
      (try clear hi)
      (try clear ho0)
      (try clear ho1)
      (try clear ho2)
      obtain⟨eZ,fe,dS⟩:=Kd.S_slice cx.out
      (first|subst dS|(injection dS with f1_ f2_ f3_;have f4_:=f1_.symm;have f5_:=f3_.symm;clear f1_ f2_ f3_;subst f4_;subst f5_))
      obtain⟨e7,ff,dT⟩:=Kd.R_slice cy.out
      (first|subst dT|(injection dT with f1_ f2_ f3_;have f4_:=f1_.symm;have f5_:=f3_.symm;clear f1_ f2_ f3_;subst f4_;subst f5_))
      obtain⟨e8,fg,dU⟩:=Kd.R_slice cz.out
      (first|subst dU|(injection dU with f1_ f2_ f3_;have f4_:=f1_.symm;have f5_:=f3_.symm;clear f1_ f2_ f3_;subst f4_;subst f5_))
      refine hK.out _ _ ⟨cl_ ai 0,cl_ ai 1,cl_ ai 2,cl_ ac 0,cl_ ac 1,cl_ ac 2⟩ (fun hHeld=>?_);clear hK K;refine norm_y 50 (h:=?_)
      refine one_ (i:=3) (N:=some 51) #[true,true,true,true,false] rfl rfl (by kernel_rfl) (by decide) (fun K hK=>?_);refine gs_ Tryd.func8 #[.agg #[.slice bq a9.length bn,.slice br ba.length bo,.slice bu bc.length bp],.agg #[.slice eZ dC.length fe,.slice e7 dD.length ff,.slice e8 dE.length fg]] (h:=?_);with_reducible refine(laws_eqSeg.calls k _ _ a9 _ _ ba _ _ bc _ _ dC _ _ dD _ _ dE true _ ?az ?aA ?aC ?aD ?aG ?aH ?ca ?cb ?cd ?bN ?bO ?bP A31.out).mono ?_
      (case az=>exact sq_c ((Kd.S_reads' aI.out).2.2))
      (case aA=>exact(Kd.S_reads' aI.out).2.1)
      (case aC=>exact sq_c ((Kd.R_reads' aJ.out).2.2))
      (case aD=>exact(Kd.R_reads' aJ.out).2.1)
      (case aG=>exact sq_c ((Kd.R_reads' aK.out).2.2))
      (case aH=>exact(Kd.R_reads' aK.out).2.1)
      (case ca=>exact sq_c ((Kd.S_reads' cx.out).2.2))
      (case cb=>exact(Kd.S_reads' cx.out).2.1)
      (case cd=>exact sq_c ((Kd.R_reads' cy.out).2.2))
      (case bN=>exact(Kd.R_reads' cy.out).2.1)
      (case bO=>exact sq_c ((Kd.R_reads' cz.out).2.2))
      (case bP=>exact(Kd.R_reads' cz.out).2.1)
      rintro e gn ⟨rfl,hb⟩;refine⟨_,rfl,?_⟩;replace ak:=am_ (Kd.S_below (by(with_reducible repeat(first|apply Kd.S_alloc|apply Kd.S_drewN|apply Kd.S_drew));exact ak.out) hb);replace ao:=rb_ ao hb;replace ap:=rb_ ap hb;replace aq:=am_ (Kd.S_below (by(with_reducible repeat(first|apply Kd.S_alloc|apply Kd.S_drewN|apply Kd.S_drew));exact aq.out) hb);replace ar:=rb_ ar hb;replace au:=rb_ au hb;replace aw:=am_ (Kd.S_below (by(with_reducible repeat(first|apply Kd.S_alloc|apply Kd.S_drewN|apply Kd.S_drew));exact aw.out) hb);replace ax:=rb_ ax hb;replace ay:=rb_ ay hb;replace aI:=am_ (Kd.S_below (by(with_reducible repeat(first|apply Kd.S_alloc|apply Kd.S_drewN|apply Kd.S_drew));exact aI.out) hb);replace aJ:=rb_ aJ hb;replace aK:=rb_ aK hb;replace bx:=am_ (Kd.S_below (by(with_reducible repeat(first|apply Kd.S_alloc|apply Kd.S_drewN|apply Kd.S_drew));exact bx.out) hb);replace bz:=rb_ bz hb;replace bA:=rb_ bA hb;replace cx:=am_ (Kd.S_below (by(with_reducible repeat(first|apply Kd.S_alloc|apply Kd.S_drewN|apply Kd.S_drew));exact cx.out) hb);replace cy:=rb_ cy hb;replace cz:=rb_ cz hb;replace ac:=bb_ ac hb;replace ai:=bb_ ai hb;replace HB:=hb2_ HB hb ah bw
      (try clear hb)
      (try clear hb2)
      (try clear hk)
      (try clear hi)
      refine hK.out _ _ ⟨cl_ ai 0,cl_ ai 1,cl_ ai 2,cl_ ac 0,cl_ ac 1,cl_ ac 2⟩ (fun hHeld=>?_);clear hK K;refine norm_y 51 (h:=?_)
      refine pure_ (i:=4) (N:=some 52) (v:=?_) (a':=?_) #[true,true,true,true,true] rfl rfl (by kernel_rfl) (fun _ _ _ h=>h) (Or.inl ⟨by rfl,?_⟩) ?_ ?_;rotate_left
      ·
       intro w';go_simp;with_reducible rfl
      rotate_left
      ·
       simp only [Act.put,List.setIfInBounds_toArray,List.set_cons_zero,List.set_cons_succ,i64_w,i32_w];rfl
      refine done_ (by kernel_rfl) ?_
      try go_wp2
      go_ret
      exact⟨lf_,sq_below2 HB.out ah.out bw.out⟩
     ·
      replace c32:=Bool.eq_false_iff.mpr c32;subst c32;exact(no_ H hr_).elim
    ·
     replace c29:=Bool.eq_false_iff.mpr c29;subst c29;exact(no_ H hr_).elim
end Go.Proofs.YtcdeojfeebmonaaDoor.Q
