/- Functions of the translation as Lean functions, each with a proof that a call answers so; out of the seat, by this claim's own program prt.py. -/
import Derived.Test.YtcdeojfeebmonaaDoorWTab
import Derived.Test.YtcdeojfeebmonaaDoorWRepsOne
import Derived.Test.YtcdeojfeebmonaaDoorQx0
import Derived.Test.YtcdeojfeebmonaaDoorQx5
import Derived.Test.YtcdeojfeebmonaaDoorQx13
import Derived.Test.YtcdeojfeebmonaaDoorQx14
import Derived.Test.YtcdeojfeebmonaaDoorQStep3
namespace Go.Proofs.YtcdeojfeebmonaaDoor.Q
open Go.RowKit Go.Proofs.YtcdeojfeebmonaaDoorW.PrintWords Go.Proofs.YtcdeojfeebmonaaDoorW.PrintLast Go.Proofs.YtcdeojfeebmonaaDoorW.PrintMore
attribute [local go_sem] max2_int min2_int max_two min_two max_three min_three max_four min_four
set_option linter.unusedVariables false
set_option maxHeartbeats 8000000
set_option maxRecDepth 100000
set_option linter.unusedSimpArgs false
mutual
def spec_l11Leq.l0:Nat→Int→List (List (S53))→List (S60)→List Bool→List (List (S53))→List (S60)→List Bool→List (List (S53))→List (S60)→List Bool→Option (Bool)
 |0,_,_,_,_,_,_,_,_,_,_=>none
 |k+1,x7,bG,cl,cn,bO,aX,br,bH,aU,bi=>if x7<(bG.length:Int)then(spec_l11Leq.l1 k x7 0 bG cl cn bO aX br bH aU bi)else(spec_l11Leq.l2 k 0 bO aX br bH aU bi)
def spec_l11Leq.l1:Nat→Int→Int→List (List (S53))→List (S60)→List Bool→List (List (S53))→List (S60)→List Bool→List (List (S53))→List (S60)→List Bool→Option (Bool)
 |0,_,_,_,_,_,_,_,_,_,_,_=>none
 |k+1,x7,x8,bG,cl,cn,bO,aX,br,bH,aU,bi=>if 0≤x7 then(if x7<(bG.length:Int)then(if x8<((rd_L7 bG x7).length:Int)then(if 0≤x8 then((spec_l10In.f k bH aU bi ((rd_T53 (rd_L7 bG x7) x8).f0) ((rd_T53 (rd_L7 bG x7) x8).f1)).bind fun dL=>(if dL<0 then(some false)else(spec_l11Leq.l1 k x7 (wrap64 (x8+1)) bG cl cn bO aX br bH aU bi)))else(none))else(spec_l11Leq.l0 k (wrap64 (x7+1)) bG cl cn bO aX br bH aU bi))else(none))else(none)
def spec_l11Leq.l2:Nat→Int→List (List (S53))→List (S60)→List Bool→List (List (S53))→List (S60)→List Bool→Option (Bool)
 |0,_,_,_,_,_,_,_=>none
 |k+1,x9,bO,aX,br,bH,aU,bi=>if x9<(aX.length:Int)then(if 0≤x9 then(if x9<(aU.length:Int)then((spec_ValLeq.f ((rd_T60 aX x9).f0.f0) ((rd_T60 aX x9).f0.f1) ((rd_T60 aX x9).f1) ((rd_T60 aU x9).f0.f0) ((rd_T60 aU x9).f0.f1) ((rd_T60 aU x9).f1)).bind fun eW=>(if eW=true then(if x9<(br.length:Int)then(if rdOf false br x9=true then(if x9<(bi.length:Int)then(if rdOf false bi x9=true then(spec_l11Leq.l2 k (wrap64 (x9+1)) bO aX br bH aU bi)else(some false))else(none))else(spec_l11Leq.l2 k (wrap64 (x9+1)) bO aX br bH aU bi))else(none))else(some false)))else(none))else(none))else(some true)
end
def spec_l11Leq.f(k:Nat)(bV:List (List (S53)))(bW:List (S60))(bX:List Bool)(ax:List (List (S53)))(bM:List (S60))(bN:List Bool):Option (Bool):=(spec_l11Align.f k bV bW bX ax bM bN).bind fun bT=>(spec_l11Leq.l0 k 0 ax bM bN bT.1 bT.2.1 bT.2.2.1 bT.2.2.2.1 bT.2.2.2.2.1 bT.2.2.2.2.2)
theorem spec_l11Leq.mono_l:∀ k,(∀ y0 y1 y2 y3 y4 y5 y6 y7 y8 y9,LeO (spec_l11Leq.l0 k y0 y1 y2 y3 y4 y5 y6 y7 y8 y9) (spec_l11Leq.l0 (k+1) y0 y1 y2 y3 y4 y5 y6 y7 y8 y9))∧(∀ y0 y1 y2 y3 y4 y5 y6 y7 y8 y9 iz,LeO (spec_l11Leq.l1 k y0 y1 y2 y3 y4 y5 y6 y7 y8 y9 iz) (spec_l11Leq.l1 (k+1) y0 y1 y2 y3 y4 y5 y6 y7 y8 y9 iz))∧(∀ y0 y1 y2 y3 y4 y5 y6,LeO (spec_l11Leq.l2 k y0 y1 y2 y3 y4 y5 y6) (spec_l11Leq.l2 (k+1) y0 y1 y2 y3 y4 y5 y6))
 |0=>⟨fun _ _ _ _ _ _ _ _ _ _ r h=>by simp [spec_l11Leq.l0]at h,fun _ _ _ _ _ _ _ _ _ _ _ r h=>by simp [spec_l11Leq.l1]at h,fun _ _ _ _ _ _ _ r h=>by simp [spec_l11Leq.l2]at h⟩
 |k+1=>by
  obtain⟨ih0,ih1,ih2⟩:=spec_l11Leq.mono_l k;refine⟨?_,?_,?_⟩
  all_goals (intros;first|unfold spec_l11Leq.l0|unfold spec_l11Leq.l1|unfold spec_l11Leq.l2)
  all_goals repeat' first
   |(with_reducible exact ih0 _ _ _ _ _ _ _ _ _ _)|(with_reducible exact ih1 _ _ _ _ _ _ _ _ _ _ _)|(with_reducible exact ih2 _ _ _ _ _ _ _)|(with_reducible exact spec_l10In.mono _ _ _ _ _ _)|(with_reducible exact spec_l11Align.mono _ _ _ _ _ _ _)|(with_reducible exact LeO.refl _)|(with_reducible exact LeO.none _)|(with_reducible refine LeO.ite ?_ ?_)|(with_reducible refine LeO.bind ?_ fun _=>?_)|exact ih0 _ _ _ _ _ _ _ _ _ _|exact ih1 _ _ _ _ _ _ _ _ _ _ _|exact ih2 _ _ _ _ _ _ _|exact spec_l10In.mono _ _ _ _ _ _|exact spec_l11Align.mono _ _ _ _ _ _ _|exact LeO.none _|refine LeO.ite ?_ ?_|refine LeO.bind ?_ fun _=>?_
theorem spec_l11Leq.mono:∀ a0 a1 a2 a3 a4 a5 k,LeO (spec_l11Leq.f k a0 a1 a2 a3 a4 a5) (spec_l11Leq.f (k+1) a0 a1 a2 a3 a4 a5):=by
 intro a0 a1 a2 a3 a4 a5 k;obtain⟨ih0,ih1,ih2⟩:=spec_l11Leq.mono_l k;unfold spec_l11Leq.f
 repeat' first
   |(with_reducible exact ih0 _ _ _ _ _ _ _ _ _ _)|(with_reducible exact ih1 _ _ _ _ _ _ _ _ _ _ _)|(with_reducible exact ih2 _ _ _ _ _ _ _)|(with_reducible exact spec_l10In.mono _ _ _ _ _ _)|(with_reducible exact spec_l11Align.mono _ _ _ _ _ _ _)|(with_reducible exact LeO.refl _)|(with_reducible exact LeO.none _)|(with_reducible refine LeO.ite ?_ ?_)|(with_reducible refine LeO.bind ?_ fun _=>?_)|exact ih0 _ _ _ _ _ _ _ _ _ _|exact ih1 _ _ _ _ _ _ _ _ _ _ _|exact ih2 _ _ _ _ _ _ _|exact spec_l10In.mono _ _ _ _ _ _|exact spec_l11Align.mono _ _ _ _ _ _ _|exact LeO.none _|refine LeO.ite ?_ ?_|refine LeO.bind ?_ fun _=>?_
def spec_l11Leq.T8:Bool×List (List Nat×List Nat):=(true,[([],[]),([],[]),([1],[1]),([],[]),([2,3],[2,3]),([4],[4]),([],[]),([5,6],[5,6]),([7],[7]),([0,8],[0,8]),([9],[9])])
def spec_l11Leq.B8:List Nat:=[0,0,2,0,14,30,0,126,254,511,1023]
theorem spec_l11Leq.tab8:rtab .any (opsOf Tryd.f13 8)=spec_l11Leq.T8:=by kernel_rfl
theorem spec_l11Leq.bits8:waitsOk spec_l11Leq.T8.2 spec_l11Leq.B8=true:=by kernel_rfl
def spec_l11Leq.T13:Bool×List (List Nat×List Nat):=(true,[([],[]),([0],[0]),([],[]),([1,2],[1,2]),([3],[3]),([],[]),([5],[5]),([],[]),([6,7],[6,7]),([8],[8]),([4,9],[4,9]),([10],[10]),([11,10],[11]),([12],[12]),([13,12],[12,13]),([12],[12]),([14,15,12],[12,14,15]),([16,12],[12,16]),([17,12,12],[12,17]),([18],[18]),([19,18],[18,19]),([18],[18]),([20,21,18],[18,20,21]),([22,18],[18,22]),([23,18],[18,23]),([18,24,12],[12,18,24]),([12,25],[12,25])])
def spec_l11Leq.B13:List Nat:=[0,1,0,7,15,0,32,0,224,480,1023,2047,4095,8191,16383,8191,65535,131071,262143,524287,1048575,524287,4194303,8388607,16777215,33554431,67108863]
theorem spec_l11Leq.tab13:rtab .any (opsOf Tryd.f13 13)=spec_l11Leq.T13:=by kernel_rfl
theorem spec_l11Leq.bits13:waitsOk spec_l11Leq.T13.2 spec_l11Leq.B13=true:=by kernel_rfl
theorem spec_l11Leq.calls(k:Nat)(cJ:Option Addr)(cO:Nat)(bV:List (List (S53)))(cK:Option Addr)(cP:Nat)(bW:List (S60))(cM:Option Addr)(cQ:Nat)(bX:List Bool)(cN:Option Addr)(cr:Nat)(ax:List (List (S53)))(cp:Option Addr)(cx:Nat)(bM:List (S60))(cq:Option Addr)(cy:Nat)(bN:List Bool)(r:Bool)(w:World)(eJ:Kd.C (Kd.slice 53 k53) w cJ bV.length bV)(eD:bV.length≤cO)(eK:Kd.C k60 w cK bW.length bW)(eE:bW.length≤cP)(eL:Kd.C Kd.bool w cM bX.length bX)(eF:bX.length≤cQ)(eM:Kd.C (Kd.slice 53 k53) w cN ax.length ax)(eG:ax.length≤cr)(eN:Kd.C k60 w cp bM.length bM)(eH:bM.length≤cx)(eO:Kd.C Kd.bool w cq bN.length bN)(eI:bN.length≤cy)(h:spec_l11Leq.f k bV bW bX ax bM bN=some r) :
  Calls Tryd.prog 13 #[.agg #[.slice cJ bV.length cO,.slice cK bW.length cP,.slice cM bX.length cQ],.agg #[.slice cN ax.length cr,.slice cp bM.length cx,.slice cq bN.length cy]] w fun e w'=>e=.returned (.bool r)∧Below w.heap.size w w':=by
 have hu32:=Tryd.underlying32;have hu53:=Tryd.underlying53;have hu60:=Tryd.underlying60;have fb:=am_ eJ;have eX:=am_ eD;clear eJ eD;have fc:=am_ eK;have eY:=am_ eE;clear eK eE;have fd:=am_ eL;have eZ:=am_ eF;clear eL eF;have cI:=am_ eM;have e7:=am_ eG;clear eM eG;have fe:=am_ eN;have e8:=am_ eH;clear eN eH;have ff:=am_ eO;have fa:=am_ eI;clear eO eI;have HB:=am_ (Below.refl w.heap.size w);have H:((spec_l11Align.f k bV bW bX ax bM bN).bind fun bT=>(spec_l11Leq.l0 k 0 ax bM bN bT.1 bT.2.1 bT.2.2.1 bT.2.2.2.1 bT.2.2.2.2.1 bT.2.2.2.2.2))=some r:=h;clear h;replace H:=Option.bind_eq_some_iff.mp H;obtain⟨⟨aY,aq,aI,aN,ap,ay⟩,A30,H⟩:=H;(try dsimp only at H);have A3:=am_ A30;clear A30;have H':=am_ H;clear H
 go_enter Tryd.func13,Tryd.ntmps13
 go_wp2_with (first|((with_reducible refine gate_dst (N:=2) rfl ?_);refine box_y 2 #[.slice cJ bV.length cO,.slice cK bW.length cP,.slice cM bX.length cQ] 32 (h:=?_);intro bU hg w4 hbox hb;have aw:=am_ hbox;have gc:=gz_ hg HB;have aJ:=gz_ hg HB;replace HB:=hb_ HB hb;clear hb hbox hg)|((with_reducible refine gate_dst (N:=3) rfl ?_);refine box_y 3 #[.slice cN ax.length cr,.slice cp bM.length cx,.slice cq bN.length cy] 32 (h:=?_);intro ba hg w5 hbox hb;have ao:=am_ hbox;have ge:=gz1_ hg HB aJ;have aK:=gz1_ hg HB aJ;replace HB:=hb1_ HB hb aJ;have bI:=nb_ hg aw;replace aw:=bb_ aw hb;have bS:=ns_ bI;clear hb hbox hg;have iA:=bI.out;have iB:=bS.out;obtain⟨dx,dy,dz,dD,dE,dF⟩:=cz3_ aw;obtain⟨dA,dB,dC,dG,dH,dI⟩:=cz3_ ao)|((with_reducible refine gate_callee (f:=28) rfl ?_);refine gl_ 13 Tryd.func28 #[.agg #[.slice cJ bV.length cO,.slice cK bW.length cP,.slice cM bX.length cQ],.agg #[.slice cN ax.length cr,.slice cp bM.length cx,.slice cq bN.length cy]] (h:=?_);(with_reducible refine(spec_l11Align.calls k _ _ bV _ _ bW _ _ bX _ _ ax _ _ bM _ _ bN aY aq aI aN ap ay _ ?dj ?dk ?dl ?dn ?dp ?dq ?fm ?fo ?fp ?eT ?eU ?eV A3.out).mono ?_);(case dj=>exact sq_c (Kd.C_below fb.out HB.out));(case dk=>exact eX.out);(case dl=>exact sq_c (Kd.C_below fc.out HB.out));(case dn=>exact eY.out);(case dp=>exact sq_c (Kd.C_below fd.out HB.out));(case dq=>exact eZ.out);(case fm=>exact sq_c (Kd.C_below cI.out HB.out));(case fo=>exact e7.out);(case fp=>exact sq_c (Kd.C_below fe.out HB.out));(case eT=>exact e8.out);(case eU=>exact sq_c (Kd.C_below ff.out HB.out));(case eV=>exact fa.out);rintro e w9 ⟨v289,v292,v295,v298,v301,v304,rfl,ho0,ho1,ho2,ho3,ho4,ho5,hb⟩;refine⟨_,rfl,?_⟩;have cB:=am_ (Kd.N_lower (Kd.N_mono (ok':=fun k_=>some k_≠(v292:Value).ownBlock∧some k_≠(v295:Value).ownBlock∧some k_≠(v298:Value).ownBlock∧some k_≠(v301:Value).ownBlock∧some k_≠(v304:Value).ownBlock∧k_≠bU∧k_≠ba) ho0 (fun k_ hk_=>⟨hk_.2.1,hk_.2.2.1,hk_.2.2.2.1,hk_.2.2.2.2.1,hk_.2.2.2.2.2,(Kd.freshB (g:=bU) (o:=.cells #[.slice cJ bV.length cO,.slice cK bW.length cP,.slice cM bX.length cQ] 32 (0,0)) (sq_blk aw.out) k_ hk_.1),(Kd.freshB (g:=ba) (o:=.cells #[.slice cN ax.length cr,.slice cp bM.length cx,.slice cq bN.length cy] 32 (0,0)) (sq_blk ao.out) k_ hk_.1)⟩)) (below_size (sq_below2 HB.out aJ.out aK.out)));have cC:=am_ (Kd.R_lower (Kd.R_mono (ok':=fun k_=>some k_≠(v301:Value).ownBlock) ho1 (fun _ hk_=>hk_.2)) (below_size (sq_below2 HB.out aJ.out aK.out)));have cD:=am_ (Kd.R_lower (Kd.R_mono (ok':=fun k_=>some k_≠(v304:Value).ownBlock) ho2 (fun _ hk_=>hk_.2)) (below_size (sq_below2 HB.out aJ.out aK.out)));have cF:=am_ (Kd.N_lower (Kd.N_mono (ok':=fun k_=>some k_≠(v289:Value).ownBlock∧some k_≠(v292:Value).ownBlock∧some k_≠(v295:Value).ownBlock∧some k_≠(v301:Value).ownBlock∧some k_≠(v304:Value).ownBlock∧k_≠bU∧k_≠ba) ho3 (fun k_ hk_=>⟨hk_.2.1,hk_.2.2.1,hk_.2.2.2.1,hk_.2.2.2.2.1,hk_.2.2.2.2.2,(Kd.freshB (g:=bU) (o:=.cells #[.slice cJ bV.length cO,.slice cK bW.length cP,.slice cM bX.length cQ] 32 (0,0)) (sq_blk aw.out) k_ hk_.1),(Kd.freshB (g:=ba) (o:=.cells #[.slice cN ax.length cr,.slice cp bM.length cx,.slice cq bN.length cy] 32 (0,0)) (sq_blk ao.out) k_ hk_.1)⟩)) (below_size (sq_below2 HB.out aJ.out aK.out)));have cG:=am_ (Kd.R_lower (Kd.R_mono (ok':=fun k_=>some k_≠(v292:Value).ownBlock) ho4 (fun _ hk_=>hk_.2)) (below_size (sq_below2 HB.out aJ.out aK.out)));have cH:=am_ (Kd.R_lower (Kd.R_mono (ok':=fun k_=>some k_≠(v295:Value).ownBlock) ho5 (fun _ hk_=>hk_.2)) (below_size (sq_below2 HB.out aJ.out aK.out)));replace aw:=bb_ aw hb;replace ao:=bb_ ao hb;replace HB:=hb2_ HB hb aJ aK;(try clear hb);(try clear ho0);(try clear ho1);(try clear ho2);(try clear ho3);(try clear ho4);(try clear ho5))|((with_reducible refine gate_dst (N:=5) rfl ?_);refine box_y 5 #[.slice none 0 0,.slice none 0 0,.slice none 0 0] 32 (h:=?_);intro au hg iC hbox hb;replace cB:=am_ (Kd.N_below (Kd.N_elderB (by(with_reducible repeat(first|apply Kd.N_alloc|apply Kd.N_drewN|apply Kd.N_drew));exact cB.out) au (Nat.le_of_eq hg.symm)) hb);replace cC:=rb_ cC hb;replace cD:=rb_ cD hb;replace cF:=am_ (Kd.N_below (Kd.N_elderB (by(with_reducible repeat(first|apply Kd.N_alloc|apply Kd.N_drewN|apply Kd.N_drew));exact cF.out) au (Nat.le_of_eq hg.symm)) hb);replace cG:=rb_ cG hb;replace cH:=rb_ cH hb;have ak:=am_ hbox;have gf:=gz2_ hg HB aJ aK;have bw:=gz2_ hg HB aJ aK;replace HB:=hb2_ HB hb aJ aK;have bk:=nb_ hg aw;replace aw:=bb_ aw hb;have ca:=ns_ bk;have aD:=nb_ hg ao;replace ao:=bb_ ao hb;have bn:=ns_ aD;clear hb hbox hg)|((with_reducible refine gate_dst (N:=6) rfl ?_);refine box_y 6 #[.slice none 0 0,.slice none 0 0,.slice none 0 0] 32 (h:=?_);intro ar hg iD hbox hb;replace cB:=am_ (Kd.N_below (Kd.N_elderB (by(with_reducible repeat(first|apply Kd.N_alloc|apply Kd.N_drewN|apply Kd.N_drew));exact cB.out) ar (Nat.le_of_eq hg.symm)) hb);replace cC:=rb_ cC hb;replace cD:=rb_ cD hb;replace cF:=am_ (Kd.N_below (Kd.N_elderB (by(with_reducible repeat(first|apply Kd.N_alloc|apply Kd.N_drewN|apply Kd.N_drew));exact cF.out) ar (Nat.le_of_eq hg.symm)) hb);replace cG:=rb_ cG hb;replace cH:=rb_ cH hb;have aj:=am_ hbox;have gh:=gz3_ hg HB aJ aK bw;have bC:=gz3_ hg HB aJ aK bw;replace HB:=hb3_ HB hb aJ aK bw;have bR:=nb_ hg aw;replace aw:=bb_ aw hb;have dU:=ns_ bR;have aM:=nb_ hg ao;replace ao:=bb_ ao hb;have bJ:=ns_ aM;have aQ:=nb_ hg ak;replace ak:=bb_ ak hb;have aZ:=ns_ aQ;clear hb hbox hg;obtain⟨bP,bQ,fW⟩:=Kd.N_slice cB.out;subst fW;have gn:=ca.out;have gX:=bk.out;have gp:=bn.out;have gY:=aD.out;have gr:=aQ.out;have gZ:=aZ.out;obtain⟨cR,cS,cT,cX,cY,cZ⟩:=cz3_ ak;obtain⟨bK,bx,fX⟩:=Kd.R_slice cC.out;subst fX;obtain⟨bL,bA,fY⟩:=Kd.R_slice cD.out;subst fY;obtain⟨bz,bB,fZ⟩:=Kd.N_slice cF.out;subst fZ;have gu:=dU.out;have hD:=bR.out;have gv:=bJ.out;have hJ:=aM.out;obtain⟨cU,cV,cW,da,db,dc⟩:=cz3_ aj;obtain⟨bu,a8,f7⟩:=Kd.R_slice cG.out;subst f7;obtain⟨bj,a9,f9⟩:=Kd.R_slice cH.out;subst f9))
 go_loopg [7] k (fun kq v7 w'=>∃ (az:Int),v7=.int .i64 az∧Aside0 (spec_l11Leq.l0 kq az ax bM bN aY aq aI aN ap ay=some r)∧Aside0 (kq≤k)∧Aside0 (Kd.N (Kd.slice 53 k53) 50 w' w.heap.size (fun k_=>some k_≠((.slice bK aq.length bx):Value).ownBlock∧some k_≠((.slice bL aI.length bA):Value).ownBlock∧some k_≠((.slice bz aN.length bB):Value).ownBlock∧some k_≠((.slice bu ap.length a8):Value).ownBlock∧some k_≠((.slice bj ay.length a9):Value).ownBlock∧k_≠bU∧k_≠ba∧k_≠au∧k_≠ar) (.slice bP aY.length bQ) aY)∧Aside0 (Kd.R k60 60 w' w.heap.size (fun k_=>some k_≠((.slice bu ap.length a8):Value).ownBlock) (.slice bK aq.length bx) aq)∧Aside0 (Kd.R Kd.bool 4 w' w.heap.size (fun k_=>some k_≠((.slice bj ay.length a9):Value).ownBlock) (.slice bL aI.length bA) aI)∧Aside0 (Kd.N (Kd.slice 53 k53) 50 w' w.heap.size (fun k_=>some k_≠((.slice bP aY.length bQ):Value).ownBlock∧some k_≠((.slice bK aq.length bx):Value).ownBlock∧some k_≠((.slice bL aI.length bA):Value).ownBlock∧some k_≠((.slice bu ap.length a8):Value).ownBlock∧some k_≠((.slice bj ay.length a9):Value).ownBlock∧k_≠bU∧k_≠ba∧k_≠au∧k_≠ar) (.slice bz aN.length bB) aN)∧Aside0 (Kd.R k60 60 w' w.heap.size (fun k_=>some k_≠((.slice bK aq.length bx):Value).ownBlock) (.slice bu ap.length a8) ap)∧Aside0 (Kd.R Kd.bool 4 w' w.heap.size (fun k_=>some k_≠((.slice bL aI.length bA):Value).ownBlock) (.slice bj ay.length a9) ay)∧Aside0 (w'.heap[bU]?=some (.cells #[(.slice cJ bV.length cO),(.slice cK bW.length cP),(.slice cM bX.length cQ)] 32 (0,0)))∧Aside0 (w'.heap[ba]?=some (.cells #[(.slice cN ax.length cr),(.slice cp bM.length cx),(.slice cq bN.length cy)] 32 (0,0)))∧Aside0 (w'.heap[au]?=some (.cells #[(.slice bP aY.length bQ),(.slice bK aq.length bx),(.slice bL aI.length bA)] 32 (0,0)))∧Aside0 (w'.heap[ar]?=some (.cells #[(.slice bz aN.length bB),(.slice bu ap.length a8),(.slice bj ay.length a9)] 32 (0,0)))∧Aside0 (Below w.heap.size w w'))
 case atStart=>exact⟨(0),sr_,H',⟨Nat.le_refl _⟩,⟨by(with_reducible repeat(first|apply Kd.N_alloc|apply Kd.N_drewN|apply Kd.N_drew));exact Kd.N_mono (Kd.N_far (p:=⟨ar,2,none⟩) (Kd.N_far (p:=⟨ar,1,none⟩) (Kd.N_far (p:=⟨ar,0,none⟩) (Kd.N_far (p:=⟨au,2,none⟩) (Kd.N_far (p:=⟨au,1,none⟩) (Kd.N_far (p:=⟨au,0,none⟩) (Kd.N_mono (Kd.N_mono cB.out (fun k_ hk=>(⟨hk,hk.1.2⟩:_∧k_≠au))) (fun k_ hk=>(⟨hk,hk.1.2⟩:_∧k_≠ar))) (fun _ hk=>hk.1.2) (.slice bP aY.length bQ)) (fun _ hk=>hk.1.2) (.slice bK aq.length bx)) (fun _ hk=>hk.1.2) (.slice bL aI.length bA)) (fun _ hk=>hk.2) (.slice bz aN.length bB)) (fun _ hk=>hk.2) (.slice bu ap.length a8)) (fun _ hk=>hk.2) (.slice bj ay.length a9)) (fun _ hk=>⟨hk.1.1.1.1.1,⟨hk.1.1.1.1.2.1,⟨hk.1.1.1.1.2.2.1,⟨hk.1.1.1.1.2.2.2.1,⟨hk.1.1.1.1.2.2.2.2.1,⟨hk.1.1.1.1.2.2.2.2.2.1,⟨hk.1.1.1.1.2.2.2.2.2.2,⟨hk.1.1.1.2,hk.1.1.2⟩⟩⟩⟩⟩⟩⟩⟩)⟩,⟨by(with_reducible repeat(first|apply Kd.R_alloc|apply Kd.R_drewN|apply Kd.R_drew));exact Kd.R_mono (Kd.R_far (p:=⟨ar,2,none⟩) (Kd.R_far (p:=⟨ar,1,none⟩) (Kd.R_far (p:=⟨ar,0,none⟩) (Kd.R_far (p:=⟨au,2,none⟩) (Kd.R_far (p:=⟨au,1,none⟩) (Kd.R_far (p:=⟨au,0,none⟩) (Kd.R_types (Kd.R_types cC.out ak.out (by decide)) aj.out (by decide)) (fun _ hk=>hk.1.2) (.slice bP aY.length bQ)) (fun _ hk=>hk.1.2) (.slice bK aq.length bx)) (fun _ hk=>hk.1.2) (.slice bL aI.length bA)) (fun _ hk=>hk.2) (.slice bz aN.length bB)) (fun _ hk=>hk.2) (.slice bu ap.length a8)) (fun _ hk=>hk.2) (.slice bj ay.length a9)) (fun _ hk=>hk.1.1)⟩,⟨by(with_reducible repeat(first|apply Kd.R_alloc|apply Kd.R_drewN|apply Kd.R_drew));exact Kd.R_mono (Kd.R_far (p:=⟨ar,2,none⟩) (Kd.R_far (p:=⟨ar,1,none⟩) (Kd.R_far (p:=⟨ar,0,none⟩) (Kd.R_far (p:=⟨au,2,none⟩) (Kd.R_far (p:=⟨au,1,none⟩) (Kd.R_far (p:=⟨au,0,none⟩) (Kd.R_types (Kd.R_types cD.out ak.out (by decide)) aj.out (by decide)) (fun _ hk=>hk.1.2) (.slice bP aY.length bQ)) (fun _ hk=>hk.1.2) (.slice bK aq.length bx)) (fun _ hk=>hk.1.2) (.slice bL aI.length bA)) (fun _ hk=>hk.2) (.slice bz aN.length bB)) (fun _ hk=>hk.2) (.slice bu ap.length a8)) (fun _ hk=>hk.2) (.slice bj ay.length a9)) (fun _ hk=>hk.1.1)⟩,⟨by(with_reducible repeat(first|apply Kd.N_alloc|apply Kd.N_drewN|apply Kd.N_drew));exact Kd.N_mono (Kd.N_far (p:=⟨ar,2,none⟩) (Kd.N_far (p:=⟨ar,1,none⟩) (Kd.N_far (p:=⟨ar,0,none⟩) (Kd.N_far (p:=⟨au,2,none⟩) (Kd.N_far (p:=⟨au,1,none⟩) (Kd.N_far (p:=⟨au,0,none⟩) (Kd.N_mono (Kd.N_mono cF.out (fun k_ hk=>(⟨hk,hk.1.2⟩:_∧k_≠au))) (fun k_ hk=>(⟨hk,hk.1.2⟩:_∧k_≠ar))) (fun _ hk=>hk.1.2) (.slice bP aY.length bQ)) (fun _ hk=>hk.1.2) (.slice bK aq.length bx)) (fun _ hk=>hk.1.2) (.slice bL aI.length bA)) (fun _ hk=>hk.2) (.slice bz aN.length bB)) (fun _ hk=>hk.2) (.slice bu ap.length a8)) (fun _ hk=>hk.2) (.slice bj ay.length a9)) (fun _ hk=>⟨hk.1.1.1.1.1,⟨hk.1.1.1.1.2.1,⟨hk.1.1.1.1.2.2.1,⟨hk.1.1.1.1.2.2.2.1,⟨hk.1.1.1.1.2.2.2.2.1,⟨hk.1.1.1.1.2.2.2.2.2.1,⟨hk.1.1.1.1.2.2.2.2.2.2,⟨hk.1.1.1.2,hk.1.1.2⟩⟩⟩⟩⟩⟩⟩⟩)⟩,⟨by(with_reducible repeat(first|apply Kd.R_alloc|apply Kd.R_drewN|apply Kd.R_drew));exact Kd.R_mono (Kd.R_far (p:=⟨ar,2,none⟩) (Kd.R_far (p:=⟨ar,1,none⟩) (Kd.R_far (p:=⟨ar,0,none⟩) (Kd.R_far (p:=⟨au,2,none⟩) (Kd.R_far (p:=⟨au,1,none⟩) (Kd.R_far (p:=⟨au,0,none⟩) (Kd.R_types (Kd.R_types cG.out ak.out (by decide)) aj.out (by decide)) (fun _ hk=>hk.1.2) (.slice bP aY.length bQ)) (fun _ hk=>hk.1.2) (.slice bK aq.length bx)) (fun _ hk=>hk.1.2) (.slice bL aI.length bA)) (fun _ hk=>hk.2) (.slice bz aN.length bB)) (fun _ hk=>hk.2) (.slice bu ap.length a8)) (fun _ hk=>hk.2) (.slice bj ay.length a9)) (fun _ hk=>hk.1.1)⟩,⟨by(with_reducible repeat(first|apply Kd.R_alloc|apply Kd.R_drewN|apply Kd.R_drew));exact Kd.R_mono (Kd.R_far (p:=⟨ar,2,none⟩) (Kd.R_far (p:=⟨ar,1,none⟩) (Kd.R_far (p:=⟨ar,0,none⟩) (Kd.R_far (p:=⟨au,2,none⟩) (Kd.R_far (p:=⟨au,1,none⟩) (Kd.R_far (p:=⟨au,0,none⟩) (Kd.R_types (Kd.R_types cH.out ak.out (by decide)) aj.out (by decide)) (fun _ hk=>hk.1.2) (.slice bP aY.length bQ)) (fun _ hk=>hk.1.2) (.slice bK aq.length bx)) (fun _ hk=>hk.1.2) (.slice bL aI.length bA)) (fun _ hk=>hk.2) (.slice bz aN.length bB)) (fun _ hk=>hk.2) (.slice bu ap.length a8)) (fun _ hk=>hk.2) (.slice bj ay.length a9)) (fun _ hk=>hk.1.1)⟩,⟨by(with_reducible repeat(first|refine blk_drewN ?_ _|refine blk_drew ?_|refine blk_alloc ?_ _));refine blk_far ?_ bR.out _;(with_reducible repeat(first|refine blk_drewN ?_ _|refine blk_drew ?_|refine blk_alloc ?_ _));refine blk_far ?_ bR.out _;(with_reducible repeat(first|refine blk_drewN ?_ _|refine blk_drew ?_|refine blk_alloc ?_ _));refine blk_far ?_ bR.out _;(with_reducible repeat(first|refine blk_drewN ?_ _|refine blk_drew ?_|refine blk_alloc ?_ _));refine blk_far ?_ bk.out _;(with_reducible repeat(first|refine blk_drewN ?_ _|refine blk_drew ?_|refine blk_alloc ?_ _));refine blk_far ?_ bk.out _;(with_reducible repeat(first|refine blk_drewN ?_ _|refine blk_drew ?_|refine blk_alloc ?_ _));refine blk_far ?_ bk.out _;(with_reducible repeat(first|refine blk_drewN ?_ _|refine blk_drew ?_|refine blk_alloc ?_ _));exact aw.out⟩,⟨by(with_reducible repeat(first|refine blk_drewN ?_ _|refine blk_drew ?_|refine blk_alloc ?_ _));refine blk_far ?_ aM.out _;(with_reducible repeat(first|refine blk_drewN ?_ _|refine blk_drew ?_|refine blk_alloc ?_ _));refine blk_far ?_ aM.out _;(with_reducible repeat(first|refine blk_drewN ?_ _|refine blk_drew ?_|refine blk_alloc ?_ _));refine blk_far ?_ aM.out _;(with_reducible repeat(first|refine blk_drewN ?_ _|refine blk_drew ?_|refine blk_alloc ?_ _));refine blk_far ?_ aD.out _;(with_reducible repeat(first|refine blk_drewN ?_ _|refine blk_drew ?_|refine blk_alloc ?_ _));refine blk_far ?_ aD.out _;(with_reducible repeat(first|refine blk_drewN ?_ _|refine blk_drew ?_|refine blk_alloc ?_ _));refine blk_far ?_ aD.out _;(with_reducible repeat(first|refine blk_drewN ?_ _|refine blk_drew ?_|refine blk_alloc ?_ _));exact ao.out⟩,⟨by(with_reducible repeat(first|refine blk_drewN ?_ _|refine blk_drew ?_|refine blk_alloc ?_ _));refine blk_far ?_ aQ.out _;(with_reducible repeat(first|refine blk_drewN ?_ _|refine blk_drew ?_|refine blk_alloc ?_ _));refine blk_far ?_ aQ.out _;(with_reducible repeat(first|refine blk_drewN ?_ _|refine blk_drew ?_|refine blk_alloc ?_ _));refine blk_far ?_ aQ.out _;(with_reducible repeat(first|refine blk_drewN ?_ _|refine blk_drew ?_|refine blk_alloc ?_ _));refine blk_put (cs:=#[.slice bP aY.length bQ,.slice bK aq.length bx,.slice none 0 0]) ?_ 2 _ rfl;(with_reducible repeat(first|refine blk_drewN ?_ _|refine blk_drew ?_|refine blk_alloc ?_ _));refine blk_put (cs:=#[.slice bP aY.length bQ,.slice none 0 0,.slice none 0 0]) ?_ 1 _ rfl;(with_reducible repeat(first|refine blk_drewN ?_ _|refine blk_drew ?_|refine blk_alloc ?_ _));refine blk_put (cs:=#[.slice none 0 0,.slice none 0 0,.slice none 0 0]) ?_ 0 _ rfl;(with_reducible repeat(first|refine blk_drewN ?_ _|refine blk_drew ?_|refine blk_alloc ?_ _));exact ak.out⟩,⟨by(with_reducible repeat(first|refine blk_drewN ?_ _|refine blk_drew ?_|refine blk_alloc ?_ _));refine blk_put (cs:=#[.slice bz aN.length bB,.slice bu ap.length a8,.slice none 0 0]) ?_ 2 _ rfl;(with_reducible repeat(first|refine blk_drewN ?_ _|refine blk_drew ?_|refine blk_alloc ?_ _));refine blk_put (cs:=#[.slice bz aN.length bB,.slice none 0 0,.slice none 0 0]) ?_ 1 _ rfl;(with_reducible repeat(first|refine blk_drewN ?_ _|refine blk_drew ?_|refine blk_alloc ?_ _));refine blk_put (cs:=#[.slice none 0 0,.slice none 0 0,.slice none 0 0]) ?_ 0 _ rfl;(with_reducible repeat(first|refine blk_drewN ?_ _|refine blk_drew ?_|refine blk_alloc ?_ _));refine blk_far ?_ aZ.out _;(with_reducible repeat(first|refine blk_drewN ?_ _|refine blk_drew ?_|refine blk_alloc ?_ _));refine blk_far ?_ aZ.out _;(with_reducible repeat(first|refine blk_drewN ?_ _|refine blk_drew ?_|refine blk_alloc ?_ _));refine blk_far ?_ aZ.out _;(with_reducible repeat(first|refine blk_drewN ?_ _|refine blk_drew ?_|refine blk_alloc ?_ _));exact aj.out⟩,⟨sq_below4 HB.out aJ.out aK.out bw.out bC.out⟩⟩
 case round =>
  clear H'
  obtain⟨az,rfl,HA,HK1,ai,af,ah,ag,ac,ae,aw,ao,ak,aj,HB⟩:=hrel;cases gk with
  |zero=>exact absurd HA.out (by simp [spec_l11Leq.l0])
  |succ k1 =>
   have H:=HA.out;clear HA;simp only [spec_l11Leq.l0]at H
   by_cases c25:az<(ax.length:Int)
   ·
    rw [if_pos c25]at H;have dX:=decide_eq_true (p:=az<(ax.length:Int)) c25;clear c25;have H':=am_ H;clear H;have gw:=bS.out;have hU:=bI.out;have gy:=aD.out;have hZ:=bn.out;have gz:=aM.out;have ia:=bJ.out;obtain⟨dO,dP,dQ,dR,dS,dT⟩:=cz3_ ao
    go_wp2
    go_loopg [8] k1 (fun kq v8 w'=>∃ (aW:Int),v8=.int .i64 aW∧Aside0 (spec_l11Leq.l1 kq az aW ax bM bN aY aq aI aN ap ay=some r)∧Aside0 (kq≤k1)∧Aside0 (Kd.N (Kd.slice 53 k53) 50 w' w.heap.size (fun k_=>some k_≠((.slice bK aq.length bx):Value).ownBlock∧some k_≠((.slice bL aI.length bA):Value).ownBlock∧some k_≠((.slice bz aN.length bB):Value).ownBlock∧some k_≠((.slice bu ap.length a8):Value).ownBlock∧some k_≠((.slice bj ay.length a9):Value).ownBlock∧k_≠bU∧k_≠ba∧k_≠au∧k_≠ar) (.slice bP aY.length bQ) aY)∧Aside0 (Kd.R k60 60 w' w.heap.size (fun k_=>some k_≠((.slice bu ap.length a8):Value).ownBlock) (.slice bK aq.length bx) aq)∧Aside0 (Kd.R Kd.bool 4 w' w.heap.size (fun k_=>some k_≠((.slice bj ay.length a9):Value).ownBlock) (.slice bL aI.length bA) aI)∧Aside0 (Kd.N (Kd.slice 53 k53) 50 w' w.heap.size (fun k_=>some k_≠((.slice bP aY.length bQ):Value).ownBlock∧some k_≠((.slice bK aq.length bx):Value).ownBlock∧some k_≠((.slice bL aI.length bA):Value).ownBlock∧some k_≠((.slice bu ap.length a8):Value).ownBlock∧some k_≠((.slice bj ay.length a9):Value).ownBlock∧k_≠bU∧k_≠ba∧k_≠au∧k_≠ar) (.slice bz aN.length bB) aN)∧Aside0 (Kd.R k60 60 w' w.heap.size (fun k_=>some k_≠((.slice bK aq.length bx):Value).ownBlock) (.slice bu ap.length a8) ap)∧Aside0 (Kd.R Kd.bool 4 w' w.heap.size (fun k_=>some k_≠((.slice bL aI.length bA):Value).ownBlock) (.slice bj ay.length a9) ay)∧Aside0 (w'.heap[bU]?=some (.cells #[(.slice cJ bV.length cO),(.slice cK bW.length cP),(.slice cM bX.length cQ)] 32 (0,0)))∧Aside0 (w'.heap[ba]?=some (.cells #[(.slice cN ax.length cr),(.slice cp bM.length cx),(.slice cq bN.length cy)] 32 (0,0)))∧Aside0 (w'.heap[au]?=some (.cells #[(.slice bP aY.length bQ),(.slice bK aq.length bx),(.slice bL aI.length bA)] 32 (0,0)))∧Aside0 (w'.heap[ar]?=some (.cells #[(.slice bz aN.length bB),(.slice bu ap.length a8),(.slice bj ay.length a9)] 32 (0,0)))∧Aside0 (Below w.heap.size w w'))
    case atStart=>exact⟨(0),sr_,H',⟨Nat.le_refl _⟩,⟨by(with_reducible repeat(first|apply Kd.N_alloc|apply Kd.N_drewN|apply Kd.N_drew));exact ai.out⟩,⟨by(with_reducible repeat(first|apply Kd.R_alloc|apply Kd.R_drewN|apply Kd.R_drew));exact af.out⟩,⟨by(with_reducible repeat(first|apply Kd.R_alloc|apply Kd.R_drewN|apply Kd.R_drew));exact ah.out⟩,⟨by(with_reducible repeat(first|apply Kd.N_alloc|apply Kd.N_drewN|apply Kd.N_drew));exact ag.out⟩,⟨by(with_reducible repeat(first|apply Kd.R_alloc|apply Kd.R_drewN|apply Kd.R_drew));exact ac.out⟩,⟨by(with_reducible repeat(first|apply Kd.R_alloc|apply Kd.R_drewN|apply Kd.R_drew));exact ae.out⟩,bk_ aw,bk_ ao,bk_ ak,bk_ aj,⟨sq_below4 HB.out aJ.out aK.out bw.out bC.out⟩⟩
    case round =>
     clear H'
     obtain⟨aW,rfl,HA,HK2,ai,af,ah,ag,ac,ae,aw,ao,ak,aj,HB⟩:=hrel;cases gk with
     |zero=>exact absurd HA.out (by simp [spec_l11Leq.l1])
     |succ k2 =>
      have H:=HA.out;clear HA;simp only [spec_l11Leq.l1]at H
      by_cases c30:0≤az
      ·
       rw [if_pos c30]at H;have fi:=decide_eq_true (p:=0≤az) c30;clear c30
       by_cases c31:az<(ax.length:Int)
       ·
        rw [if_pos c31]at H;have fj:=decide_eq_true (p:=az<(ax.length:Int)) c31;clear c31
        by_cases c32:aW<((rd_L7 ax az).length:Int)
        ·
         rw [if_pos c32]at H;have eB:=decide_eq_true (p:=aW<((rd_L7 ax az).length:Int)) c32;clear c32
         by_cases c33:0≤aW
         ·
          rw [if_pos c33]at H;have fk:=decide_eq_true (p:=0≤aW) c33;clear c33;obtain⟨dL,A34,H⟩:=be_ H;(try dsimp only at H)
          by_cases c35:dL<0
          ·
           rw [if_pos c35]at H;have eC:=decide_eq_true (p:=dL<0) c35;clear c35;obtain rfl:=Option.some.inj H;have gE:=aM.out;have ib:=bJ.out;obtain⟨d9,ec,ed,ep,eq,er⟩:=cz3_ ao;have cf:0≤(az:Int):=sq_dec;have cg:az<(ax.length:Int):=sq_dec;obtain⟨cb,dV,dY,dZ,bE,hl308_0,hi308_0⟩:=at_L7 cI.out az cf cg;cases dZ;replace bE:=cb_ HB bE;have dN:=am_ hi308_0;have dM:=am_ hl308_0;clear hi308_0 hl308_0;replace cf:=eq_true cf;replace cg:=eq_true cg
           try go_wp2
           replace ai:=am_ (Kd.N_drew ai.out);replace af:=rd_ af;replace ah:=rd_ ah;replace ag:=am_ (Kd.N_drew ag.out);replace ac:=rd_ ac;replace ae:=rd_ ae;replace ao:=bd_ ao;replace aj:=bd_ aj;replace HB:=hd_ HB;have df:0≤(az:Int):=sq_dec;have dh:az<(ax.length:Int):=sq_dec;obtain⟨dW,eP,dr,eQ,bo,hl309_0,hi309_0⟩:=at_L7 cI.out az df dh;have b7:=bo;obtain rfl:cb=dW:=(by injection eQ);replace bo:=cb_ HB bo;have b5:=am_ hi309_0;have d8:=am_ hl309_0;clear hi309_0 hl309_0;replace df:=eq_true df;replace dh:=eq_true dh;have dg:0≤(aW:Int):=sq_dec;have di:aW<((rd_L7 ax az).length:Int):=sq_dec;obtain⟨b6,eR,bp,bq⟩:=at_T53 b5.out aW dg di;have b9:=bq;have b8:=bp;cases eR;replace bp:=cb_ HB bp;replace bq:=cb_ HB bq;replace dg:=eq_true dg;replace di:=eq_true di;refine start_ (n:=11) (S:=fun w'=>w'.cell? ⟨ar,0,none⟩=some (.slice bz aN.length bB)∧w'.cell? ⟨ar,1,none⟩=some (.slice bu ap.length a8)∧w'.cell? ⟨ar,2,none⟩=some (.slice bj ay.length a9)∧w'.cell? ⟨ba,0,none⟩=some (.slice (some cb) ax.length cr)∧w'.cell? ⟨ba,1,none⟩=some (.slice cp bM.length cx)∧w'.cell? ⟨ba,2,none⟩=some (.slice cq bN.length cy)∧w'.cell? (cb.add (az).toNat)=some (.slice (some b6) (rd_L7 ax az).length dr)∧w'.cell? (b6.add ((aW).toNat*2))=some (.int .i64 ((rd_T53 (rd_L7 ax az) aW).f0))∧w'.cell? ⟨(b6.add ((aW).toNat*2)).block,(b6.add ((aW).toNat*2)).off+1,none⟩=some (.int .i64 ((rd_T53 (rd_L7 ax az) aW).f1))) (ds:=[]) #[false,false,false,false,false,false,false,false,false,false,false] (by kernel_rfl) rfl rfl ⟨cl_ aj 0,cl_ aj 1,cl_ aj 2,cl_ ao 0,cl_ ao 1,cl_ ao 2,(cb_ HB b7),(cb_ HB b8),(cb_ HB b9)⟩ (fun hHeld=>?_);refine with_tabW spec_l11Leq.tab8 spec_l11Leq.bits8 (fun HT_ HW_=>?_);generalize wr.drew=iE at ai af ah ag ac ae ao aj HB b5 bo bp bq hHeld ⊢;refine py_ HT_ 1 34 ?_
           refine py_ HT_ 3 36 ?_
           refine py_ HT_ 6 39 ?_
           refine ty_ HT_ HW_ 0 33 rfl hHeld (by rintro w' ⟨s0,s1,s2,s3,s4,s5,s6,s7,s8⟩;go_simp;with_reducible rfl) ?_
           refine ty_ HT_ HW_ 2 35 rfl hHeld (by rintro w' ⟨s0,s1,s2,s3,s4,s5,s6,s7,s8⟩;go_simp;with_reducible rfl) ?_
           refine py_ HT_ 4 37 ?_
           refine ty_ HT_ HW_ 5 38 rfl hHeld (by rintro w' ⟨s0,s1,s2,s3,s4,s5,s6,s7,s8⟩;go_simp;with_reducible rfl) ?_
           refine py_ HT_ 7 40 ?_
           refine ty_ HT_ HW_ 8 41 rfl hHeld (by rintro w' ⟨s0,s1,s2,s3,s4,s5,s6,s7,s8⟩;go_simp;with_reducible rfl) ?_
           refine oy_ HT_ 9 (some 42) (fun K hK=>?_);refine gs_ Tryd.func26 #[.agg #[.slice bz aN.length bB,.slice bu ap.length a8,.slice bj ay.length a9],.agg #[.int .i64 ((rd_T53 (rd_L7 ax az) aW).f0),.int .i64 ((rd_T53 (rd_L7 ax az) aW).f1)]] (h:=?_);with_reducible refine(spec_l10In.calls k2 _ _ aN _ _ ap _ _ ay ((rd_T53 (rd_L7 ax az) aW).f0) ((rd_T53 (rd_L7 ax az) aW).f1) dL _ ?dj ?dk ?dl ?dn ?dp ?dq A34.out).mono ?_
           (case dj=>exact sq_c ((Kd.N_reads' ag.out).2.2))
           (case dk=>exact(Kd.N_reads' ag.out).2.1)
           (case dl=>exact sq_c ((Kd.R_reads' ac.out).2.2))
           (case dn=>exact(Kd.R_reads' ac.out).2.1)
           (case dp=>exact sq_c ((Kd.R_reads' ae.out).2.2))
           (case dq=>exact(Kd.R_reads' ae.out).2.1)
           rintro e iF ⟨rfl,hb⟩;refine⟨_,rfl,?_⟩;replace ai:=am_ (Kd.N_below (by(with_reducible repeat(first|apply Kd.N_alloc|apply Kd.N_drewN|apply Kd.N_drew));exact ai.out) hb);replace af:=rb_ af hb;replace ah:=rb_ ah hb;replace ag:=am_ (Kd.N_below (by(with_reducible repeat(first|apply Kd.N_alloc|apply Kd.N_drewN|apply Kd.N_drew));exact ag.out) hb);replace ac:=rb_ ac hb;replace ae:=rb_ ae hb;replace ao:=bb_ ao hb;replace aj:=bb_ aj hb;replace HB:=hb2_ HB hb aK bC
           (try clear hb)
           (try clear hb2)
           (try clear hk)
           (try clear hi)
           refine hK.out _ _ ⟨cl_ aj 0,cl_ aj 1,cl_ aj 2,cl_ ao 0,cl_ ao 1,cl_ ao 2,(cb_ HB b7),(cb_ HB b8),(cb_ HB b9)⟩ (fun hHeld=>?_);clear hK K;refine norm_y 42 (h:=?_)
           refine py_ HT_ 10 43 ?_
           refine done_ (done_of HT_.out (by kernel_rfl)) ?_
           try go_wp2
           go_ret
           exact⟨lf_,sq_below2 HB.out aK.out bC.out⟩
          ·
           rw [if_neg c35]at H;have eC:=decide_eq_false (p:=dL<0) c35;clear c35;have H':=am_ H;clear H;have gG:=bS.out;have ic:=bI.out;have gH:=aD.out;have ie:=bn.out;have gI:=aM.out;have ig:=bJ.out;obtain⟨ee,ef,eh,es,et,eu⟩:=cz3_ ao;have cf:0≤(az:Int):=sq_dec;have cg:az<(ax.length:Int):=sq_dec;obtain⟨cb,dV,dY,dZ,bE,hl308_0,hi308_0⟩:=at_L7 cI.out az cf cg;cases dZ;replace bE:=cb_ HB bE;have dN:=am_ hi308_0;have dM:=am_ hl308_0;clear hi308_0 hl308_0;replace cf:=eq_true cf;replace cg:=eq_true cg
           try go_wp2
           replace ai:=am_ (Kd.N_drew ai.out);replace af:=rd_ af;replace ah:=rd_ ah;replace ag:=am_ (Kd.N_drew ag.out);replace ac:=rd_ ac;replace ae:=rd_ ae;replace aw:=bd_ aw;replace ao:=bd_ ao;replace ak:=bd_ ak;replace aj:=bd_ aj;replace HB:=hd_ HB;have df:0≤(az:Int):=sq_dec;have dh:az<(ax.length:Int):=sq_dec;obtain⟨dW,eP,dr,eQ,bo,hl309_0,hi309_0⟩:=at_L7 cI.out az df dh;have b7:=bo;obtain rfl:cb=dW:=(by injection eQ);replace bo:=cb_ HB bo;have b5:=am_ hi309_0;have d8:=am_ hl309_0;clear hi309_0 hl309_0;replace df:=eq_true df;replace dh:=eq_true dh;have dg:0≤(aW:Int):=sq_dec;have di:aW<((rd_L7 ax az).length:Int):=sq_dec;obtain⟨b6,eR,bp,bq⟩:=at_T53 b5.out aW dg di;have b9:=bq;have b8:=bp;cases eR;replace bp:=cb_ HB bp;replace bq:=cb_ HB bq;replace dg:=eq_true dg;replace di:=eq_true di;refine start_ (n:=11) (S:=fun w'=>w'.cell? ⟨ar,0,none⟩=some (.slice bz aN.length bB)∧w'.cell? ⟨ar,1,none⟩=some (.slice bu ap.length a8)∧w'.cell? ⟨ar,2,none⟩=some (.slice bj ay.length a9)∧w'.cell? ⟨ba,0,none⟩=some (.slice (some cb) ax.length cr)∧w'.cell? ⟨ba,1,none⟩=some (.slice cp bM.length cx)∧w'.cell? ⟨ba,2,none⟩=some (.slice cq bN.length cy)∧w'.cell? (cb.add (az).toNat)=some (.slice (some b6) (rd_L7 ax az).length dr)∧w'.cell? (b6.add ((aW).toNat*2))=some (.int .i64 ((rd_T53 (rd_L7 ax az) aW).f0))∧w'.cell? ⟨(b6.add ((aW).toNat*2)).block,(b6.add ((aW).toNat*2)).off+1,none⟩=some (.int .i64 ((rd_T53 (rd_L7 ax az) aW).f1))) (ds:=[]) #[false,false,false,false,false,false,false,false,false,false,false] (by kernel_rfl) rfl rfl ⟨cl_ aj 0,cl_ aj 1,cl_ aj 2,cl_ ao 0,cl_ ao 1,cl_ ao 2,(cb_ HB b7),(cb_ HB b8),(cb_ HB b9)⟩ (fun hHeld=>?_);refine with_tabW spec_l11Leq.tab8 spec_l11Leq.bits8 (fun HT_ HW_=>?_);generalize wr.drew=iG at ai af ah ag ac ae aw ao ak aj HB b5 bo bp bq hHeld ⊢;refine py_ HT_ 1 34 ?_
           refine py_ HT_ 3 36 ?_
           refine py_ HT_ 6 39 ?_
           refine ty_ HT_ HW_ 0 33 rfl hHeld (by rintro w' ⟨s0,s1,s2,s3,s4,s5,s6,s7,s8⟩;go_simp;with_reducible rfl) ?_
           refine ty_ HT_ HW_ 2 35 rfl hHeld (by rintro w' ⟨s0,s1,s2,s3,s4,s5,s6,s7,s8⟩;go_simp;with_reducible rfl) ?_
           refine py_ HT_ 4 37 ?_
           refine ty_ HT_ HW_ 5 38 rfl hHeld (by rintro w' ⟨s0,s1,s2,s3,s4,s5,s6,s7,s8⟩;go_simp;with_reducible rfl) ?_
           refine py_ HT_ 7 40 ?_
           refine ty_ HT_ HW_ 8 41 rfl hHeld (by rintro w' ⟨s0,s1,s2,s3,s4,s5,s6,s7,s8⟩;go_simp;with_reducible rfl) ?_
           refine oy_ HT_ 9 (some 42) (fun K hK=>?_);refine gs_ Tryd.func26 #[.agg #[.slice bz aN.length bB,.slice bu ap.length a8,.slice bj ay.length a9],.agg #[.int .i64 ((rd_T53 (rd_L7 ax az) aW).f0),.int .i64 ((rd_T53 (rd_L7 ax az) aW).f1)]] (h:=?_);with_reducible refine(spec_l10In.calls k2 _ _ aN _ _ ap _ _ ay ((rd_T53 (rd_L7 ax az) aW).f0) ((rd_T53 (rd_L7 ax az) aW).f1) dL _ ?dj ?dk ?dl ?dn ?dp ?dq A34.out).mono ?_
           (case dj=>exact sq_c ((Kd.N_reads' ag.out).2.2))
           (case dk=>exact(Kd.N_reads' ag.out).2.1)
           (case dl=>exact sq_c ((Kd.R_reads' ac.out).2.2))
           (case dn=>exact(Kd.R_reads' ac.out).2.1)
           (case dp=>exact sq_c ((Kd.R_reads' ae.out).2.2))
           (case dq=>exact(Kd.R_reads' ae.out).2.1)
           rintro e iH ⟨rfl,hb⟩;refine⟨_,rfl,?_⟩;replace ai:=am_ (Kd.N_below (by(with_reducible repeat(first|apply Kd.N_alloc|apply Kd.N_drewN|apply Kd.N_drew));exact ai.out) hb);replace af:=rb_ af hb;replace ah:=rb_ ah hb;replace ag:=am_ (Kd.N_below (by(with_reducible repeat(first|apply Kd.N_alloc|apply Kd.N_drewN|apply Kd.N_drew));exact ag.out) hb);replace ac:=rb_ ac hb;replace ae:=rb_ ae hb;replace aw:=bb_ aw hb;replace ao:=bb_ ao hb;replace ak:=bb_ ak hb;replace aj:=bb_ aj hb;replace HB:=hb4_ HB hb aJ aK bw bC
           (try clear hb)
           (try clear hb2)
           (try clear hk)
           (try clear hi)
           refine hK.out _ _ ⟨cl_ aj 0,cl_ aj 1,cl_ aj 2,cl_ ao 0,cl_ ao 1,cl_ ao 2,(cb_ HB b7),(cb_ HB b8),(cb_ HB b9)⟩ (fun hHeld=>?_);clear hK K;refine norm_y 42 (h:=?_)
           refine py_ HT_ 10 43 ?_
           refine done_ (done_of HT_.out (by kernel_rfl)) ?_
           try go_wp2
           go_roundg k2
           case measure=>have:=HK1.out;have:=HK2.out;omega
           case rel=>exact⟨(wrap64 (aW+1)),sr_,H',⟨by have:=HK1.out;have:=HK2.out;omega⟩,⟨by(with_reducible repeat(first|apply Kd.N_alloc|apply Kd.N_drewN|apply Kd.N_drew));exact ai.out⟩,⟨by(with_reducible repeat(first|apply Kd.R_alloc|apply Kd.R_drewN|apply Kd.R_drew));exact af.out⟩,⟨by(with_reducible repeat(first|apply Kd.R_alloc|apply Kd.R_drewN|apply Kd.R_drew));exact ah.out⟩,⟨by(with_reducible repeat(first|apply Kd.N_alloc|apply Kd.N_drewN|apply Kd.N_drew));exact ag.out⟩,⟨by(with_reducible repeat(first|apply Kd.R_alloc|apply Kd.R_drewN|apply Kd.R_drew));exact ac.out⟩,⟨by(with_reducible repeat(first|apply Kd.R_alloc|apply Kd.R_drewN|apply Kd.R_drew));exact ae.out⟩,bk_ aw,bk_ ao,bk_ ak,bk_ aj,⟨sq_below4 HB.out aJ.out aK.out bw.out bC.out⟩⟩
         ·
          rw [if_neg c33]at H;exact absurd H (by simp)
        ·
         rw [if_neg c32]at H;have eB:=decide_eq_false (p:=aW<((rd_L7 ax az).length:Int)) c32;clear c32;have H':=am_ H;clear H;have gJ:=bS.out;have ii:=bI.out;have gK:=aD.out;have ij:=bn.out;have gL:=aM.out;have ik:=bJ.out;obtain⟨ej,ek,el,ev,ew,ex⟩:=cz3_ ao;have cf:0≤(az:Int):=sq_dec;have cg:az<(ax.length:Int):=sq_dec;obtain⟨cb,dV,dY,dZ,bE,hl308_0,hi308_0⟩:=at_L7 cI.out az cf cg;cases dZ;replace bE:=cb_ HB bE;have dN:=am_ hi308_0;have dM:=am_ hl308_0;clear hi308_0 hl308_0;replace cf:=eq_true cf;replace cg:=eq_true cg
         go_wp2
         go_roundg k2
         case measure=>have:=HK1.out;have:=HK2.out;omega
         case rel=>exact⟨(wrap64 (az+1)),sr_,H',⟨by have:=HK1.out;have:=HK2.out;omega⟩,⟨by(with_reducible repeat(first|apply Kd.N_alloc|apply Kd.N_drewN|apply Kd.N_drew));exact ai.out⟩,⟨by(with_reducible repeat(first|apply Kd.R_alloc|apply Kd.R_drewN|apply Kd.R_drew));exact af.out⟩,⟨by(with_reducible repeat(first|apply Kd.R_alloc|apply Kd.R_drewN|apply Kd.R_drew));exact ah.out⟩,⟨by(with_reducible repeat(first|apply Kd.N_alloc|apply Kd.N_drewN|apply Kd.N_drew));exact ag.out⟩,⟨by(with_reducible repeat(first|apply Kd.R_alloc|apply Kd.R_drewN|apply Kd.R_drew));exact ac.out⟩,⟨by(with_reducible repeat(first|apply Kd.R_alloc|apply Kd.R_drewN|apply Kd.R_drew));exact ae.out⟩,bk_ aw,bk_ ao,bk_ ak,bk_ aj,⟨sq_below4 HB.out aJ.out aK.out bw.out bC.out⟩⟩
       ·
        rw [if_neg c31]at H;exact absurd H (by simp)
      ·
       rw [if_neg c30]at H;exact absurd H (by simp)
   ·
    rw [if_neg c25]at H;have dX:=decide_eq_false (p:=az<(ax.length:Int)) c25;clear c25;have H':=am_ H;clear H;have gM:=bS.out;have il:=bI.out;have gN:=aD.out;have im:=bn.out;have gO:=aM.out;have io:=bJ.out;obtain⟨em,en,eo,ey,ez,eA⟩:=cz3_ ao
    go_wp2
    go_loopg [9] k1 (fun kq v9 w'=>∃ (aa:Int),v9=.int .i64 aa∧Aside0 (spec_l11Leq.l2 kq aa aY aq aI aN ap ay=some r)∧Aside0 (kq≤k1)∧Aside0 (Kd.N (Kd.slice 53 k53) 50 w' w.heap.size (fun k_=>some k_≠((.slice bK aq.length bx):Value).ownBlock∧some k_≠((.slice bL aI.length bA):Value).ownBlock∧some k_≠((.slice bz aN.length bB):Value).ownBlock∧some k_≠((.slice bu ap.length a8):Value).ownBlock∧some k_≠((.slice bj ay.length a9):Value).ownBlock∧k_≠bU∧k_≠ba∧k_≠au∧k_≠ar) (.slice bP aY.length bQ) aY)∧Aside0 (Kd.R k60 60 w' w.heap.size (fun k_=>some k_≠((.slice bu ap.length a8):Value).ownBlock) (.slice bK aq.length bx) aq)∧Aside0 (Kd.R Kd.bool 4 w' w.heap.size (fun k_=>some k_≠((.slice bj ay.length a9):Value).ownBlock) (.slice bL aI.length bA) aI)∧Aside0 (Kd.N (Kd.slice 53 k53) 50 w' w.heap.size (fun k_=>some k_≠((.slice bP aY.length bQ):Value).ownBlock∧some k_≠((.slice bK aq.length bx):Value).ownBlock∧some k_≠((.slice bL aI.length bA):Value).ownBlock∧some k_≠((.slice bu ap.length a8):Value).ownBlock∧some k_≠((.slice bj ay.length a9):Value).ownBlock∧k_≠bU∧k_≠ba∧k_≠au∧k_≠ar) (.slice bz aN.length bB) aN)∧Aside0 (Kd.R k60 60 w' w.heap.size (fun k_=>some k_≠((.slice bK aq.length bx):Value).ownBlock) (.slice bu ap.length a8) ap)∧Aside0 (Kd.R Kd.bool 4 w' w.heap.size (fun k_=>some k_≠((.slice bL aI.length bA):Value).ownBlock) (.slice bj ay.length a9) ay)∧Aside0 (w'.heap[bU]?=some (.cells #[(.slice cJ bV.length cO),(.slice cK bW.length cP),(.slice cM bX.length cQ)] 32 (0,0)))∧Aside0 (w'.heap[ba]?=some (.cells #[(.slice cN ax.length cr),(.slice cp bM.length cx),(.slice cq bN.length cy)] 32 (0,0)))∧Aside0 (w'.heap[au]?=some (.cells #[(.slice bP aY.length bQ),(.slice bK aq.length bx),(.slice bL aI.length bA)] 32 (0,0)))∧Aside0 (w'.heap[ar]?=some (.cells #[(.slice bz aN.length bB),(.slice bu ap.length a8),(.slice bj ay.length a9)] 32 (0,0)))∧Aside0 (Below w.heap.size w w'))
    case atStart=>exact⟨(0),sr_,H',⟨Nat.le_refl _⟩,⟨by(with_reducible repeat(first|apply Kd.N_alloc|apply Kd.N_drewN|apply Kd.N_drew));exact ai.out⟩,⟨by(with_reducible repeat(first|apply Kd.R_alloc|apply Kd.R_drewN|apply Kd.R_drew));exact af.out⟩,⟨by(with_reducible repeat(first|apply Kd.R_alloc|apply Kd.R_drewN|apply Kd.R_drew));exact ah.out⟩,⟨by(with_reducible repeat(first|apply Kd.N_alloc|apply Kd.N_drewN|apply Kd.N_drew));exact ag.out⟩,⟨by(with_reducible repeat(first|apply Kd.R_alloc|apply Kd.R_drewN|apply Kd.R_drew));exact ac.out⟩,⟨by(with_reducible repeat(first|apply Kd.R_alloc|apply Kd.R_drewN|apply Kd.R_drew));exact ae.out⟩,bk_ aw,bk_ ao,bk_ ak,bk_ aj,⟨sq_below4 HB.out aJ.out aK.out bw.out bC.out⟩⟩
    case round =>
     clear H'
     obtain⟨aa,rfl,HA,HK2,ai,af,ah,ag,ac,ae,aw,ao,ak,aj,HB⟩:=hrel;cases gk with
     |zero=>exact absurd HA.out (by simp [spec_l11Leq.l2])
     |succ k2 =>
      have H:=HA.out;clear HA;simp only [spec_l11Leq.l2]at H
      by_cases c54:aa<(aq.length:Int)
      ·
       rw [if_pos c54]at H;have fl:=decide_eq_true (p:=aa<(aq.length:Int)) c54;clear c54
       by_cases c55:0≤aa
       ·
        rw [if_pos c55]at H;have gi:=decide_eq_true (p:=0≤aa) c55;clear c55
        by_cases c56:aa<(ap.length:Int)
        ·
         rw [if_pos c56]at H;have gj:=decide_eq_true (p:=aa<(ap.length:Int)) c56;clear c56;obtain⟨eW,A57,H⟩:=be_ H;(try dsimp only at H)
         by_cases c58:eW=true
         ·
          subst c58;have H1:=ifp_ H
          clear H;have H:=H1;clear H1
          by_cases c59:aa<(aI.length:Int)
          ·
           rw [if_pos c59]at H;have gl:=decide_eq_true (p:=aa<(aI.length:Int)) c59;clear c59;obtain⟨fg,d6⟩:∃ b_:Bool,b_=(rdOf false aI aa):=⟨_,rfl⟩;replace H:(if fg=true then(if aa<(ay.length:Int)then(if rdOf false ay aa=true then(spec_l11Leq.l2 k2 (wrap64 (aa+1)) aY aq aI aN ap ay)else(some false))else(none))else(spec_l11Leq.l2 k2 (wrap64 (aa+1)) aY aq aI aN ap ay))=some r:=by rw [← d6]at H;exact H
           have aV:=am_ d6;clear d6
           by_cases c61:fg=true
           ·
            subst c61;have H1:=ifp_ H
            clear H;have H:=H1;clear H1
            by_cases c62:aa<(ay.length:Int)
            ·
             rw [if_pos c62]at H;have gm:=decide_eq_true (p:=aa<(ay.length:Int)) c62;clear c62;obtain⟨fh,d7⟩:∃ b_:Bool,b_=(rdOf false ay aa):=⟨_,rfl⟩;replace H:(if fh=true then(spec_l11Leq.l2 k2 (wrap64 (aa+1)) aY aq aI aN ap ay)else(some false))=some r:=by rw [← d7]at H;exact H
             have bD:=am_ d7;clear d7
             by_cases c64:fh=true
             ·
              subst c64;have H1:=ifp_ H
              clear H;have H:=H1;clear H1;have H':=am_ H;clear H;have gP:=ca.out;have ip:=bk.out;have gQ:=bn.out;have iq:=aD.out;have gR:=aQ.out;have ir:=aZ.out;obtain⟨fq,ft,fu,fH,fI,fJ⟩:=cz3_ ak
              try go_wp2
              replace ai:=am_ (Kd.N_drew ai.out);replace af:=rd_ af;replace ah:=rd_ ah;replace ag:=am_ (Kd.N_drew ag.out);replace ac:=rd_ ac;replace ae:=rd_ ae;replace aw:=bd_ aw;replace ao:=bd_ ao;replace ak:=bd_ ak;replace aj:=bd_ aj;replace HB:=hd_ HB;have bY:0≤(aa:Int):=sq_dec;have b3:aa<(aq.length:Int):=sq_dec;obtain⟨aG,dt,bc,bf,aA⟩:=at_T60 (Kd.R_reads' af.out).2.2 aa bY b3
              (try rw [← aV.out]at aA)
              (try rw [← aV.out]at ch)
              (try rw [← bD.out]at aA)
              (try rw [← bD.out]at ch)
              cases dt;replace bY:=eq_true bY;replace b3:=eq_true b3;have bZ:0≤(aa:Int):=sq_dec;have b4:aa<(ap.length:Int):=sq_dec;obtain⟨aH,dw,bg,bh,aC⟩:=at_T60 (Kd.R_reads' ac.out).2.2 aa bZ b4
              (try rw [← aV.out]at aC)
              (try rw [← aV.out]at cj)
              (try rw [← bD.out]at aC)
              (try rw [← bD.out]at cj)
              cases dw;replace bZ:=eq_true bZ;replace b4:=eq_true b4;have cz:0≤(aa:Int):=sq_dec;have cA:aa<(aI.length:Int):=sq_dec;obtain⟨cd,d5,aT⟩:=Kd.at_bool (Kd.R_reads' ah.out).2.2 aa cz cA
              (try rw [← aV.out]at aT)
              (try rw [← aV.out]at ck)
              (try rw [← bD.out]at aT)
              (try rw [← bD.out]at ck)
              cases d5;replace cz:=eq_true cz;replace cA:=eq_true cA;have dJ:0≤(aa:Int):=sq_dec;have dK:aa<(ay.length:Int):=sq_dec;obtain⟨de,eS,bF⟩:=Kd.at_bool (Kd.R_reads' ae.out).2.2 aa dJ dK
              (try rw [← aV.out]at bF)
              (try rw [← aV.out]at dd)
              (try rw [← bD.out]at bF)
              (try rw [← bD.out]at dd)
              cases eS;replace dJ:=eq_true dJ;replace dK:=eq_true dK;refine start_ (n:=27) (S:=fun w'=>w'.cell? ⟨au,0,none⟩=some (.slice bP aY.length bQ)∧w'.cell? ⟨au,1,none⟩=some (.slice (some aG) aq.length bx)∧w'.cell? ⟨au,2,none⟩=some (.slice (some cd) aI.length bA)∧w'.cell? ⟨ar,0,none⟩=some (.slice bz aN.length bB)∧w'.cell? ⟨ar,1,none⟩=some (.slice (some aH) ap.length a8)∧w'.cell? ⟨ar,2,none⟩=some (.slice (some de) ay.length a9)∧w'.cell? (aG.add ((aa).toNat*3))=some (.int .i64 ((rd_T60 aq aa).f0.f0))∧w'.cell? ⟨(aG.add ((aa).toNat*3)).block,(aG.add ((aa).toNat*3)).off+1,none⟩=some (.int .i64 ((rd_T60 aq aa).f0.f1))∧w'.cell? ⟨(aG.add ((aa).toNat*3)).block,(aG.add ((aa).toNat*3)).off+2,none⟩=some (.bool ((rd_T60 aq aa).f1))∧w'.cell? (aH.add ((aa).toNat*3))=some (.int .i64 ((rd_T60 ap aa).f0.f0))∧w'.cell? ⟨(aH.add ((aa).toNat*3)).block,(aH.add ((aa).toNat*3)).off+1,none⟩=some (.int .i64 ((rd_T60 ap aa).f0.f1))∧w'.cell? ⟨(aH.add ((aa).toNat*3)).block,(aH.add ((aa).toNat*3)).off+2,none⟩=some (.bool ((rd_T60 ap aa).f1))∧w'.cell? (cd.add (aa).toNat)=some (.bool true)∧w'.cell? (de.add (aa).toNat)=some (.bool true)) (ds:=[]) #[false,false,false,false,false,false,false,false,false,false,false,false,false,false,false,false,false,false,false,false,false,false,false,false,false,false,false] (by kernel_rfl) rfl rfl ⟨cl_ ak 0,cl_ ak 1,cl_ ak 2,cl_ aj 0,cl_ aj 1,cl_ aj 2,bc,bf,aA,bg,bh,aC,aT,bF⟩ (fun hHeld=>?_);refine with_tabW spec_l11Leq.tab13 spec_l11Leq.bits13 (fun HT_ HW_=>?_);generalize wr.drew=iI at ai af ah ag ac ae aw ao ak aj HB bc bf aA bg bh aC aT bF hHeld ⊢;refine py_ HT_ 0 51 ?_
              refine py_ HT_ 2 53 ?_
              refine py_ HT_ 5 56 ?_
              refine py_ HT_ 7 58 ?_
              refine ty_ HT_ HW_ 1 52 rfl hHeld (by rintro w' ⟨s0,s1,s2,s3,s4,s5,s6,s7,s8,s9,s10,s11,s12,s13⟩;go_simp;with_reducible rfl) ?_
              refine py_ HT_ 3 54 ?_
              refine ty_ HT_ HW_ 4 55 rfl hHeld (by rintro w' ⟨s0,s1,s2,s3,s4,s5,s6,s7,s8,s9,s10,s11,s12,s13⟩;go_simp;with_reducible rfl) ?_
              refine ty_ HT_ HW_ 6 57 rfl hHeld (by rintro w' ⟨s0,s1,s2,s3,s4,s5,s6,s7,s8,s9,s10,s11,s12,s13⟩;go_simp;with_reducible rfl) ?_
              refine py_ HT_ 8 59 ?_
              refine ty_ HT_ HW_ 9 60 rfl hHeld (by rintro w' ⟨s0,s1,s2,s3,s4,s5,s6,s7,s8,s9,s10,s11,s12,s13⟩;go_simp;with_reducible rfl) ?_
              refine oy_ HT_ 10 (some 61) (fun K hK=>?_);refine gs_ Tryd.func29 #[.agg #[.int .i64 ((rd_T60 aq aa).f0.f0),.int .i64 ((rd_T60 aq aa).f0.f1),.bool ((rd_T60 aq aa).f1)],.agg #[.int .i64 ((rd_T60 ap aa).f0.f0),.int .i64 ((rd_T60 ap aa).f0.f1),.bool ((rd_T60 ap aa).f1)]] (h:=?_);with_reducible refine(spec_ValLeq.calls ((rd_T60 aq aa).f0.f0) ((rd_T60 aq aa).f0.f1) ((rd_T60 aq aa).f1) ((rd_T60 ap aa).f0.f0) ((rd_T60 ap aa).f0.f1) ((rd_T60 ap aa).f1) true _ A57.out).mono ?_
              rintro e iJ ⟨rfl,hb⟩;have HS6_:=(hb.cell (World.block_lt_of_cell? _ _ (hHeld.2.2.2.2.2.2.1))).trans (hHeld.2.2.2.2.2.2.1);have HS7_:=(hb.cell (World.block_lt_of_cell? _ _ (hHeld.2.2.2.2.2.2.2.1))).trans (hHeld.2.2.2.2.2.2.2.1);have HS8_:=(hb.cell (World.block_lt_of_cell? _ _ (hHeld.2.2.2.2.2.2.2.2.1))).trans (hHeld.2.2.2.2.2.2.2.2.1);have HS9_:=(hb.cell (World.block_lt_of_cell? _ _ (hHeld.2.2.2.2.2.2.2.2.2.1))).trans (hHeld.2.2.2.2.2.2.2.2.2.1);have HS10_:=(hb.cell (World.block_lt_of_cell? _ _ (hHeld.2.2.2.2.2.2.2.2.2.2.1))).trans (hHeld.2.2.2.2.2.2.2.2.2.2.1);have HS11_:=(hb.cell (World.block_lt_of_cell? _ _ (hHeld.2.2.2.2.2.2.2.2.2.2.2.1))).trans (hHeld.2.2.2.2.2.2.2.2.2.2.2.1);have HS12_:=(hb.cell (World.block_lt_of_cell? _ _ (hHeld.2.2.2.2.2.2.2.2.2.2.2.2.1))).trans (hHeld.2.2.2.2.2.2.2.2.2.2.2.2.1);have HS13_:=(hb.cell (World.block_lt_of_cell? _ _ (hHeld.2.2.2.2.2.2.2.2.2.2.2.2.2))).trans (hHeld.2.2.2.2.2.2.2.2.2.2.2.2.2);refine⟨_,rfl,?_⟩;replace ai:=am_ (Kd.N_below (by(with_reducible repeat(first|apply Kd.N_alloc|apply Kd.N_drewN|apply Kd.N_drew));exact ai.out) hb);replace af:=rb_ af hb;replace ah:=rb_ ah hb;replace ag:=am_ (Kd.N_below (by(with_reducible repeat(first|apply Kd.N_alloc|apply Kd.N_drewN|apply Kd.N_drew));exact ag.out) hb);replace ac:=rb_ ac hb;replace ae:=rb_ ae hb;replace aw:=bb_ aw hb;replace ao:=bb_ ao hb;replace ak:=bb_ ak hb;replace aj:=bb_ aj hb;replace HB:=hb4_ HB hb aJ aK bw bC
              (try clear hb)
              (try clear hb2)
              (try clear hk)
              (try clear hi)
              refine hK.out _ _ ⟨cl_ ak 0,cl_ ak 1,cl_ ak 2,cl_ aj 0,cl_ aj 1,cl_ aj 2,HS6_,HS7_,HS8_,HS9_,HS10_,HS11_,HS12_,HS13_⟩ (fun hHeld=>?_);clear hK K;refine norm_y 61 (h:=?_)
              refine py_ HT_ 11 62 ?_
              refine py_ HT_ 12 63 ?_
              refine py_ HT_ 13 64 ?_
              refine py_ HT_ 15 66 ?_
              refine ty_ HT_ HW_ 14 65 rfl hHeld (by rintro w' ⟨s0,s1,s2,s3,s4,s5,s6,s7,s8,s9,s10,s11,s12,s13⟩;go_simp;with_reducible rfl) ?_
              refine py_ HT_ 16 67 ?_
              refine ty_ HT_ HW_ 17 68 rfl hHeld (by rintro w' ⟨s0,s1,s2,s3,s4,s5,s6,s7,s8,s9,s10,s11,s12,s13⟩;go_simp;with_reducible rfl) ?_
              refine py_ HT_ 18 69 ?_
              refine py_ HT_ 19 70 ?_
              refine py_ HT_ 21 72 ?_
              refine ty_ HT_ HW_ 20 71 rfl hHeld (by rintro w' ⟨s0,s1,s2,s3,s4,s5,s6,s7,s8,s9,s10,s11,s12,s13⟩;go_simp;with_reducible rfl) ?_
              refine py_ HT_ 22 73 ?_
              refine ty_ HT_ HW_ 23 74 rfl hHeld (by rintro w' ⟨s0,s1,s2,s3,s4,s5,s6,s7,s8,s9,s10,s11,s12,s13⟩;go_simp;with_reducible rfl) ?_
              refine py_ HT_ 24 75 ?_
              refine py_ HT_ 25 76 ?_
              refine py_ HT_ 26 77 ?_
              refine done_ (done_of HT_.out (by kernel_rfl)) ?_
              try go_wp2
              go_roundg k2
              case measure=>have:=HK1.out;have:=HK2.out;omega
              case rel=>exact⟨(wrap64 (aa+1)),sr_,H',⟨by have:=HK1.out;have:=HK2.out;omega⟩,⟨by(with_reducible repeat(first|apply Kd.N_alloc|apply Kd.N_drewN|apply Kd.N_drew));exact ai.out⟩,⟨by(with_reducible repeat(first|apply Kd.R_alloc|apply Kd.R_drewN|apply Kd.R_drew));exact af.out⟩,⟨by(with_reducible repeat(first|apply Kd.R_alloc|apply Kd.R_drewN|apply Kd.R_drew));exact ah.out⟩,⟨by(with_reducible repeat(first|apply Kd.N_alloc|apply Kd.N_drewN|apply Kd.N_drew));exact ag.out⟩,⟨by(with_reducible repeat(first|apply Kd.R_alloc|apply Kd.R_drewN|apply Kd.R_drew));exact ac.out⟩,⟨by(with_reducible repeat(first|apply Kd.R_alloc|apply Kd.R_drewN|apply Kd.R_drew));exact ae.out⟩,bk_ aw,bk_ ao,bk_ ak,bk_ aj,⟨sq_below4 HB.out aJ.out aK.out bw.out bC.out⟩⟩
             ·
              replace c64:=Bool.eq_false_iff.mpr c64;subst c64;have H1:=ifn_ H
              clear H;have H:=H1;clear H1;obtain rfl:=Option.some.inj H;have gS:=aQ.out;have iu:=aZ.out;obtain⟨fv,fw,fx,fK,fL,fM⟩:=cz3_ ak
              try go_wp2
              replace ai:=am_ (Kd.N_drew ai.out);replace af:=rd_ af;replace ah:=rd_ ah;replace ag:=am_ (Kd.N_drew ag.out);replace ac:=rd_ ac;replace ae:=rd_ ae;replace ak:=bd_ ak;replace aj:=bd_ aj;replace HB:=hd_ HB;have bY:0≤(aa:Int):=sq_dec;have b3:aa<(aq.length:Int):=sq_dec;obtain⟨aG,dt,bc,bf,aA⟩:=at_T60 (Kd.R_reads' af.out).2.2 aa bY b3
              (try rw [← aV.out]at aA)
              (try rw [← aV.out]at ch)
              (try rw [← bD.out]at aA)
              (try rw [← bD.out]at ch)
              cases dt;replace bY:=eq_true bY;replace b3:=eq_true b3;have bZ:0≤(aa:Int):=sq_dec;have b4:aa<(ap.length:Int):=sq_dec;obtain⟨aH,dw,bg,bh,aC⟩:=at_T60 (Kd.R_reads' ac.out).2.2 aa bZ b4
              (try rw [← aV.out]at aC)
              (try rw [← aV.out]at cj)
              (try rw [← bD.out]at aC)
              (try rw [← bD.out]at cj)
              cases dw;replace bZ:=eq_true bZ;replace b4:=eq_true b4;have cz:0≤(aa:Int):=sq_dec;have cA:aa<(aI.length:Int):=sq_dec;obtain⟨cd,d5,aT⟩:=Kd.at_bool (Kd.R_reads' ah.out).2.2 aa cz cA
              (try rw [← aV.out]at aT)
              (try rw [← aV.out]at ck)
              (try rw [← bD.out]at aT)
              (try rw [← bD.out]at ck)
              cases d5;replace cz:=eq_true cz;replace cA:=eq_true cA;have dJ:0≤(aa:Int):=sq_dec;have dK:aa<(ay.length:Int):=sq_dec;obtain⟨de,eS,bF⟩:=Kd.at_bool (Kd.R_reads' ae.out).2.2 aa dJ dK
              (try rw [← aV.out]at bF)
              (try rw [← aV.out]at dd)
              (try rw [← bD.out]at bF)
              (try rw [← bD.out]at dd)
              cases eS;replace dJ:=eq_true dJ;replace dK:=eq_true dK;refine start_ (n:=27) (S:=fun w'=>w'.cell? ⟨au,0,none⟩=some (.slice bP aY.length bQ)∧w'.cell? ⟨au,1,none⟩=some (.slice (some aG) aq.length bx)∧w'.cell? ⟨au,2,none⟩=some (.slice (some cd) aI.length bA)∧w'.cell? ⟨ar,0,none⟩=some (.slice bz aN.length bB)∧w'.cell? ⟨ar,1,none⟩=some (.slice (some aH) ap.length a8)∧w'.cell? ⟨ar,2,none⟩=some (.slice (some de) ay.length a9)∧w'.cell? (aG.add ((aa).toNat*3))=some (.int .i64 ((rd_T60 aq aa).f0.f0))∧w'.cell? ⟨(aG.add ((aa).toNat*3)).block,(aG.add ((aa).toNat*3)).off+1,none⟩=some (.int .i64 ((rd_T60 aq aa).f0.f1))∧w'.cell? ⟨(aG.add ((aa).toNat*3)).block,(aG.add ((aa).toNat*3)).off+2,none⟩=some (.bool ((rd_T60 aq aa).f1))∧w'.cell? (aH.add ((aa).toNat*3))=some (.int .i64 ((rd_T60 ap aa).f0.f0))∧w'.cell? ⟨(aH.add ((aa).toNat*3)).block,(aH.add ((aa).toNat*3)).off+1,none⟩=some (.int .i64 ((rd_T60 ap aa).f0.f1))∧w'.cell? ⟨(aH.add ((aa).toNat*3)).block,(aH.add ((aa).toNat*3)).off+2,none⟩=some (.bool ((rd_T60 ap aa).f1))∧w'.cell? (cd.add (aa).toNat)=some (.bool true)∧w'.cell? (de.add (aa).toNat)=some (.bool false)) (ds:=[]) #[false,false,false,false,false,false,false,false,false,false,false,false,false,false,false,false,false,false,false,false,false,false,false,false,false,false,false] (by kernel_rfl) rfl rfl ⟨cl_ ak 0,cl_ ak 1,cl_ ak 2,cl_ aj 0,cl_ aj 1,cl_ aj 2,bc,bf,aA,bg,bh,aC,aT,bF⟩ (fun hHeld=>?_);refine with_tabW spec_l11Leq.tab13 spec_l11Leq.bits13 (fun HT_ HW_=>?_);generalize wr.drew=iK at ai af ah ag ac ae ak aj HB bc bf aA bg bh aC aT bF hHeld ⊢;refine py_ HT_ 0 51 ?_
              refine py_ HT_ 2 53 ?_
              refine py_ HT_ 5 56 ?_
              refine py_ HT_ 7 58 ?_
              refine ty_ HT_ HW_ 1 52 rfl hHeld (by rintro w' ⟨s0,s1,s2,s3,s4,s5,s6,s7,s8,s9,s10,s11,s12,s13⟩;go_simp;with_reducible rfl) ?_
              refine py_ HT_ 3 54 ?_
              refine ty_ HT_ HW_ 4 55 rfl hHeld (by rintro w' ⟨s0,s1,s2,s3,s4,s5,s6,s7,s8,s9,s10,s11,s12,s13⟩;go_simp;with_reducible rfl) ?_
              refine ty_ HT_ HW_ 6 57 rfl hHeld (by rintro w' ⟨s0,s1,s2,s3,s4,s5,s6,s7,s8,s9,s10,s11,s12,s13⟩;go_simp;with_reducible rfl) ?_
              refine py_ HT_ 8 59 ?_
              refine ty_ HT_ HW_ 9 60 rfl hHeld (by rintro w' ⟨s0,s1,s2,s3,s4,s5,s6,s7,s8,s9,s10,s11,s12,s13⟩;go_simp;with_reducible rfl) ?_
              refine oy_ HT_ 10 (some 61) (fun K hK=>?_);refine gs_ Tryd.func29 #[.agg #[.int .i64 ((rd_T60 aq aa).f0.f0),.int .i64 ((rd_T60 aq aa).f0.f1),.bool ((rd_T60 aq aa).f1)],.agg #[.int .i64 ((rd_T60 ap aa).f0.f0),.int .i64 ((rd_T60 ap aa).f0.f1),.bool ((rd_T60 ap aa).f1)]] (h:=?_);with_reducible refine(spec_ValLeq.calls ((rd_T60 aq aa).f0.f0) ((rd_T60 aq aa).f0.f1) ((rd_T60 aq aa).f1) ((rd_T60 ap aa).f0.f0) ((rd_T60 ap aa).f0.f1) ((rd_T60 ap aa).f1) true _ A57.out).mono ?_
              rintro e iL ⟨rfl,hb⟩;have HS6_:=(hb.cell (World.block_lt_of_cell? _ _ (hHeld.2.2.2.2.2.2.1))).trans (hHeld.2.2.2.2.2.2.1);have HS7_:=(hb.cell (World.block_lt_of_cell? _ _ (hHeld.2.2.2.2.2.2.2.1))).trans (hHeld.2.2.2.2.2.2.2.1);have HS8_:=(hb.cell (World.block_lt_of_cell? _ _ (hHeld.2.2.2.2.2.2.2.2.1))).trans (hHeld.2.2.2.2.2.2.2.2.1);have HS9_:=(hb.cell (World.block_lt_of_cell? _ _ (hHeld.2.2.2.2.2.2.2.2.2.1))).trans (hHeld.2.2.2.2.2.2.2.2.2.1);have HS10_:=(hb.cell (World.block_lt_of_cell? _ _ (hHeld.2.2.2.2.2.2.2.2.2.2.1))).trans (hHeld.2.2.2.2.2.2.2.2.2.2.1);have HS11_:=(hb.cell (World.block_lt_of_cell? _ _ (hHeld.2.2.2.2.2.2.2.2.2.2.2.1))).trans (hHeld.2.2.2.2.2.2.2.2.2.2.2.1);have HS12_:=(hb.cell (World.block_lt_of_cell? _ _ (hHeld.2.2.2.2.2.2.2.2.2.2.2.2.1))).trans (hHeld.2.2.2.2.2.2.2.2.2.2.2.2.1);have HS13_:=(hb.cell (World.block_lt_of_cell? _ _ (hHeld.2.2.2.2.2.2.2.2.2.2.2.2.2))).trans (hHeld.2.2.2.2.2.2.2.2.2.2.2.2.2);refine⟨_,rfl,?_⟩;replace ai:=am_ (Kd.N_below (by(with_reducible repeat(first|apply Kd.N_alloc|apply Kd.N_drewN|apply Kd.N_drew));exact ai.out) hb);replace af:=rb_ af hb;replace ah:=rb_ ah hb;replace ag:=am_ (Kd.N_below (by(with_reducible repeat(first|apply Kd.N_alloc|apply Kd.N_drewN|apply Kd.N_drew));exact ag.out) hb);replace ac:=rb_ ac hb;replace ae:=rb_ ae hb;replace ak:=bb_ ak hb;replace aj:=bb_ aj hb;replace HB:=hb2_ HB hb bw bC
              (try clear hb)
              (try clear hb2)
              (try clear hk)
              (try clear hi)
              refine hK.out _ _ ⟨cl_ ak 0,cl_ ak 1,cl_ ak 2,cl_ aj 0,cl_ aj 1,cl_ aj 2,HS6_,HS7_,HS8_,HS9_,HS10_,HS11_,HS12_,HS13_⟩ (fun hHeld=>?_);clear hK K;refine norm_y 61 (h:=?_)
              refine py_ HT_ 11 62 ?_
              refine py_ HT_ 12 63 ?_
              refine py_ HT_ 13 64 ?_
              refine py_ HT_ 15 66 ?_
              refine ty_ HT_ HW_ 14 65 rfl hHeld (by rintro w' ⟨s0,s1,s2,s3,s4,s5,s6,s7,s8,s9,s10,s11,s12,s13⟩;go_simp;with_reducible rfl) ?_
              refine py_ HT_ 16 67 ?_
              refine ty_ HT_ HW_ 17 68 rfl hHeld (by rintro w' ⟨s0,s1,s2,s3,s4,s5,s6,s7,s8,s9,s10,s11,s12,s13⟩;go_simp;with_reducible rfl) ?_
              refine py_ HT_ 18 69 ?_
              refine py_ HT_ 19 70 ?_
              refine py_ HT_ 21 72 ?_
              refine ty_ HT_ HW_ 20 71 rfl hHeld (by rintro w' ⟨s0,s1,s2,s3,s4,s5,s6,s7,s8,s9,s10,s11,s12,s13⟩;go_simp;with_reducible rfl) ?_
              refine py_ HT_ 22 73 ?_
              refine ty_ HT_ HW_ 23 74 rfl hHeld (by rintro w' ⟨s0,s1,s2,s3,s4,s5,s6,s7,s8,s9,s10,s11,s12,s13⟩;go_simp;with_reducible rfl) ?_
              refine py_ HT_ 24 75 ?_
              refine py_ HT_ 25 76 ?_
              refine py_ HT_ 26 77 ?_
              refine done_ (done_of HT_.out (by kernel_rfl)) ?_
              try go_wp2
              go_ret
              exact⟨lf_,sq_below2 HB.out bw.out bC.out⟩
            ·
             rw [if_neg c62]at H;exact absurd H (by simp)
           ·
            replace c61:=Bool.eq_false_iff.mpr c61;subst c61;have H1:=ifn_ H
            clear H;have H:=H1;clear H1;have H':=am_ H;clear H;have gT:=ca.out;have iv:=bk.out;have gU:=bn.out;have iw:=aD.out;have gV:=aQ.out;have ix:=aZ.out;obtain⟨fy,fz,fA,fN,fO,fP⟩:=cz3_ ak
            try go_wp2
            replace ai:=am_ (Kd.N_drew ai.out);replace af:=rd_ af;replace ah:=rd_ ah;replace ag:=am_ (Kd.N_drew ag.out);replace ac:=rd_ ac;replace ae:=rd_ ae;replace aw:=bd_ aw;replace ao:=bd_ ao;replace ak:=bd_ ak;replace aj:=bd_ aj;replace HB:=hd_ HB;have bY:0≤(aa:Int):=sq_dec;have b3:aa<(aq.length:Int):=sq_dec;obtain⟨aG,dt,bc,bf,aA⟩:=at_T60 (Kd.R_reads' af.out).2.2 aa bY b3
            (try rw [← aV.out]at aA)
            (try rw [← aV.out]at ch)
            cases dt;replace bY:=eq_true bY;replace b3:=eq_true b3;have bZ:0≤(aa:Int):=sq_dec;have b4:aa<(ap.length:Int):=sq_dec;obtain⟨aH,dw,bg,bh,aC⟩:=at_T60 (Kd.R_reads' ac.out).2.2 aa bZ b4
            (try rw [← aV.out]at aC)
            (try rw [← aV.out]at cj)
            cases dw;replace bZ:=eq_true bZ;replace b4:=eq_true b4;have cz:0≤(aa:Int):=sq_dec;have cA:aa<(aI.length:Int):=sq_dec;obtain⟨cd,d5,aT⟩:=Kd.at_bool (Kd.R_reads' ah.out).2.2 aa cz cA
            (try rw [← aV.out]at aT)
            (try rw [← aV.out]at ck)
            cases d5;replace cz:=eq_true cz;replace cA:=eq_true cA;refine start_ (n:=27) (S:=fun w'=>w'.cell? ⟨au,0,none⟩=some (.slice bP aY.length bQ)∧w'.cell? ⟨au,1,none⟩=some (.slice (some aG) aq.length bx)∧w'.cell? ⟨au,2,none⟩=some (.slice (some cd) aI.length bA)∧w'.cell? ⟨ar,0,none⟩=some (.slice bz aN.length bB)∧w'.cell? ⟨ar,1,none⟩=some (.slice (some aH) ap.length a8)∧w'.cell? ⟨ar,2,none⟩=some (.slice bj ay.length a9)∧w'.cell? (aG.add ((aa).toNat*3))=some (.int .i64 ((rd_T60 aq aa).f0.f0))∧w'.cell? ⟨(aG.add ((aa).toNat*3)).block,(aG.add ((aa).toNat*3)).off+1,none⟩=some (.int .i64 ((rd_T60 aq aa).f0.f1))∧w'.cell? ⟨(aG.add ((aa).toNat*3)).block,(aG.add ((aa).toNat*3)).off+2,none⟩=some (.bool ((rd_T60 aq aa).f1))∧w'.cell? (aH.add ((aa).toNat*3))=some (.int .i64 ((rd_T60 ap aa).f0.f0))∧w'.cell? ⟨(aH.add ((aa).toNat*3)).block,(aH.add ((aa).toNat*3)).off+1,none⟩=some (.int .i64 ((rd_T60 ap aa).f0.f1))∧w'.cell? ⟨(aH.add ((aa).toNat*3)).block,(aH.add ((aa).toNat*3)).off+2,none⟩=some (.bool ((rd_T60 ap aa).f1))∧w'.cell? (cd.add (aa).toNat)=some (.bool false)) (ds:=[]) #[false,false,false,false,false,false,false,false,false,false,false,false,false,false,false,false,false,false,false,false,false,false,false,false,false,false,false] (by kernel_rfl) rfl rfl ⟨cl_ ak 0,cl_ ak 1,cl_ ak 2,cl_ aj 0,cl_ aj 1,cl_ aj 2,bc,bf,aA,bg,bh,aC,aT⟩ (fun hHeld=>?_);refine with_tabW spec_l11Leq.tab13 spec_l11Leq.bits13 (fun HT_ HW_=>?_);generalize wr.drew=iM at ai af ah ag ac ae aw ao ak aj HB bc bf aA bg bh aC aT hHeld ⊢;refine py_ HT_ 0 51 ?_
            refine py_ HT_ 2 53 ?_
            refine py_ HT_ 5 56 ?_
            refine py_ HT_ 7 58 ?_
            refine ty_ HT_ HW_ 1 52 rfl hHeld (by rintro w' ⟨s0,s1,s2,s3,s4,s5,s6,s7,s8,s9,s10,s11,s12⟩;go_simp;with_reducible rfl) ?_
            refine py_ HT_ 3 54 ?_
            refine ty_ HT_ HW_ 4 55 rfl hHeld (by rintro w' ⟨s0,s1,s2,s3,s4,s5,s6,s7,s8,s9,s10,s11,s12⟩;go_simp;with_reducible rfl) ?_
            refine ty_ HT_ HW_ 6 57 rfl hHeld (by rintro w' ⟨s0,s1,s2,s3,s4,s5,s6,s7,s8,s9,s10,s11,s12⟩;go_simp;with_reducible rfl) ?_
            refine py_ HT_ 8 59 ?_
            refine ty_ HT_ HW_ 9 60 rfl hHeld (by rintro w' ⟨s0,s1,s2,s3,s4,s5,s6,s7,s8,s9,s10,s11,s12⟩;go_simp;with_reducible rfl) ?_
            refine oy_ HT_ 10 (some 61) (fun K hK=>?_);refine gs_ Tryd.func29 #[.agg #[.int .i64 ((rd_T60 aq aa).f0.f0),.int .i64 ((rd_T60 aq aa).f0.f1),.bool ((rd_T60 aq aa).f1)],.agg #[.int .i64 ((rd_T60 ap aa).f0.f0),.int .i64 ((rd_T60 ap aa).f0.f1),.bool ((rd_T60 ap aa).f1)]] (h:=?_);with_reducible refine(spec_ValLeq.calls ((rd_T60 aq aa).f0.f0) ((rd_T60 aq aa).f0.f1) ((rd_T60 aq aa).f1) ((rd_T60 ap aa).f0.f0) ((rd_T60 ap aa).f0.f1) ((rd_T60 ap aa).f1) true _ A57.out).mono ?_
            rintro e iN ⟨rfl,hb⟩;have HS6_:=(hb.cell (World.block_lt_of_cell? _ _ (hHeld.2.2.2.2.2.2.1))).trans (hHeld.2.2.2.2.2.2.1);have HS7_:=(hb.cell (World.block_lt_of_cell? _ _ (hHeld.2.2.2.2.2.2.2.1))).trans (hHeld.2.2.2.2.2.2.2.1);have HS8_:=(hb.cell (World.block_lt_of_cell? _ _ (hHeld.2.2.2.2.2.2.2.2.1))).trans (hHeld.2.2.2.2.2.2.2.2.1);have HS9_:=(hb.cell (World.block_lt_of_cell? _ _ (hHeld.2.2.2.2.2.2.2.2.2.1))).trans (hHeld.2.2.2.2.2.2.2.2.2.1);have HS10_:=(hb.cell (World.block_lt_of_cell? _ _ (hHeld.2.2.2.2.2.2.2.2.2.2.1))).trans (hHeld.2.2.2.2.2.2.2.2.2.2.1);have HS11_:=(hb.cell (World.block_lt_of_cell? _ _ (hHeld.2.2.2.2.2.2.2.2.2.2.2.1))).trans (hHeld.2.2.2.2.2.2.2.2.2.2.2.1);have HS12_:=(hb.cell (World.block_lt_of_cell? _ _ (hHeld.2.2.2.2.2.2.2.2.2.2.2.2))).trans (hHeld.2.2.2.2.2.2.2.2.2.2.2.2);refine⟨_,rfl,?_⟩;replace ai:=am_ (Kd.N_below (by(with_reducible repeat(first|apply Kd.N_alloc|apply Kd.N_drewN|apply Kd.N_drew));exact ai.out) hb);replace af:=rb_ af hb;replace ah:=rb_ ah hb;replace ag:=am_ (Kd.N_below (by(with_reducible repeat(first|apply Kd.N_alloc|apply Kd.N_drewN|apply Kd.N_drew));exact ag.out) hb);replace ac:=rb_ ac hb;replace ae:=rb_ ae hb;replace aw:=bb_ aw hb;replace ao:=bb_ ao hb;replace ak:=bb_ ak hb;replace aj:=bb_ aj hb;replace HB:=hb4_ HB hb aJ aK bw bC
            (try clear hb)
            (try clear hb2)
            (try clear hk)
            (try clear hi)
            refine hK.out _ _ ⟨cl_ ak 0,cl_ ak 1,cl_ ak 2,cl_ aj 0,cl_ aj 1,cl_ aj 2,HS6_,HS7_,HS8_,HS9_,HS10_,HS11_,HS12_⟩ (fun hHeld=>?_);clear hK K;refine norm_y 61 (h:=?_)
            refine py_ HT_ 11 62 ?_
            refine py_ HT_ 12 63 ?_
            refine py_ HT_ 13 64 ?_
            refine py_ HT_ 15 66 ?_
            refine ty_ HT_ HW_ 14 65 rfl hHeld (by rintro w' ⟨s0,s1,s2,s3,s4,s5,s6,s7,s8,s9,s10,s11,s12⟩;go_simp;with_reducible rfl) ?_
            refine py_ HT_ 16 67 ?_
            refine ty_ HT_ HW_ 17 68 rfl hHeld (by rintro w' ⟨s0,s1,s2,s3,s4,s5,s6,s7,s8,s9,s10,s11,s12⟩;go_simp;with_reducible rfl) ?_
            refine py_ HT_ 18 69 ?_
            refine pn_ HT_ 19 70 ?_
            refine pn_ HT_ 20 71 ?_
            refine pn_ HT_ 21 72 ?_
            refine pn_ HT_ 22 73 ?_
            refine pn_ HT_ 23 74 ?_
            refine pn_ HT_ 24 75 ?_
            refine py_ HT_ 25 76 ?_
            refine py_ HT_ 26 77 ?_
            refine done_ (done_of HT_.out (by kernel_rfl)) ?_
            try go_wp2
            go_roundg k2
            case measure=>have:=HK1.out;have:=HK2.out;omega
            case rel=>exact⟨(wrap64 (aa+1)),sr_,H',⟨by have:=HK1.out;have:=HK2.out;omega⟩,⟨by(with_reducible repeat(first|apply Kd.N_alloc|apply Kd.N_drewN|apply Kd.N_drew));exact ai.out⟩,⟨by(with_reducible repeat(first|apply Kd.R_alloc|apply Kd.R_drewN|apply Kd.R_drew));exact af.out⟩,⟨by(with_reducible repeat(first|apply Kd.R_alloc|apply Kd.R_drewN|apply Kd.R_drew));exact ah.out⟩,⟨by(with_reducible repeat(first|apply Kd.N_alloc|apply Kd.N_drewN|apply Kd.N_drew));exact ag.out⟩,⟨by(with_reducible repeat(first|apply Kd.R_alloc|apply Kd.R_drewN|apply Kd.R_drew));exact ac.out⟩,⟨by(with_reducible repeat(first|apply Kd.R_alloc|apply Kd.R_drewN|apply Kd.R_drew));exact ae.out⟩,bk_ aw,bk_ ao,bk_ ak,bk_ aj,⟨sq_below4 HB.out aJ.out aK.out bw.out bC.out⟩⟩
          ·
           rw [if_neg c59]at H;exact absurd H (by simp)
         ·
          replace c58:=Bool.eq_false_iff.mpr c58;subst c58;have H1:=ifn_ H
          clear H;have H:=H1;clear H1;obtain rfl:=Option.some.inj H;have gW:=aQ.out;have iy:=aZ.out;obtain⟨fB,fC,fD,fQ,fR,fS⟩:=cz3_ ak
          try go_wp2
          replace ai:=am_ (Kd.N_drew ai.out);replace af:=rd_ af;replace ah:=rd_ ah;replace ag:=am_ (Kd.N_drew ag.out);replace ac:=rd_ ac;replace ae:=rd_ ae;replace ak:=bd_ ak;replace aj:=bd_ aj;replace HB:=hd_ HB;have bY:0≤(aa:Int):=sq_dec;have b3:aa<(aq.length:Int):=sq_dec;obtain⟨aG,dt,bc,bf,aA⟩:=at_T60 (Kd.R_reads' af.out).2.2 aa bY b3;cases dt;replace bY:=eq_true bY;replace b3:=eq_true b3;have bZ:0≤(aa:Int):=sq_dec;have b4:aa<(ap.length:Int):=sq_dec;obtain⟨aH,dw,bg,bh,aC⟩:=at_T60 (Kd.R_reads' ac.out).2.2 aa bZ b4;cases dw;replace bZ:=eq_true bZ;replace b4:=eq_true b4;refine start_ (n:=27) (S:=fun w'=>w'.cell? ⟨au,0,none⟩=some (.slice bP aY.length bQ)∧w'.cell? ⟨au,1,none⟩=some (.slice (some aG) aq.length bx)∧w'.cell? ⟨au,2,none⟩=some (.slice bL aI.length bA)∧w'.cell? ⟨ar,0,none⟩=some (.slice bz aN.length bB)∧w'.cell? ⟨ar,1,none⟩=some (.slice (some aH) ap.length a8)∧w'.cell? ⟨ar,2,none⟩=some (.slice bj ay.length a9)∧w'.cell? (aG.add ((aa).toNat*3))=some (.int .i64 ((rd_T60 aq aa).f0.f0))∧w'.cell? ⟨(aG.add ((aa).toNat*3)).block,(aG.add ((aa).toNat*3)).off+1,none⟩=some (.int .i64 ((rd_T60 aq aa).f0.f1))∧w'.cell? ⟨(aG.add ((aa).toNat*3)).block,(aG.add ((aa).toNat*3)).off+2,none⟩=some (.bool ((rd_T60 aq aa).f1))∧w'.cell? (aH.add ((aa).toNat*3))=some (.int .i64 ((rd_T60 ap aa).f0.f0))∧w'.cell? ⟨(aH.add ((aa).toNat*3)).block,(aH.add ((aa).toNat*3)).off+1,none⟩=some (.int .i64 ((rd_T60 ap aa).f0.f1))∧w'.cell? ⟨(aH.add ((aa).toNat*3)).block,(aH.add ((aa).toNat*3)).off+2,none⟩=some (.bool ((rd_T60 ap aa).f1))) (ds:=[]) #[false,false,false,false,false,false,false,false,false,false,false,false,false,false,false,false,false,false,false,false,false,false,false,false,false,false,false] (by kernel_rfl) rfl rfl ⟨cl_ ak 0,cl_ ak 1,cl_ ak 2,cl_ aj 0,cl_ aj 1,cl_ aj 2,bc,bf,aA,bg,bh,aC⟩ (fun hHeld=>?_);refine with_tabW spec_l11Leq.tab13 spec_l11Leq.bits13 (fun HT_ HW_=>?_);generalize wr.drew=iO at ai af ah ag ac ae ak aj HB bc bf aA bg bh aC hHeld ⊢;refine py_ HT_ 0 51 ?_
          refine py_ HT_ 2 53 ?_
          refine py_ HT_ 5 56 ?_
          refine py_ HT_ 7 58 ?_
          refine ty_ HT_ HW_ 1 52 rfl hHeld (by rintro w' ⟨s0,s1,s2,s3,s4,s5,s6,s7,s8,s9,s10,s11⟩;go_simp;with_reducible rfl) ?_
          refine py_ HT_ 3 54 ?_
          refine ty_ HT_ HW_ 4 55 rfl hHeld (by rintro w' ⟨s0,s1,s2,s3,s4,s5,s6,s7,s8,s9,s10,s11⟩;go_simp;with_reducible rfl) ?_
          refine ty_ HT_ HW_ 6 57 rfl hHeld (by rintro w' ⟨s0,s1,s2,s3,s4,s5,s6,s7,s8,s9,s10,s11⟩;go_simp;with_reducible rfl) ?_
          refine py_ HT_ 8 59 ?_
          refine ty_ HT_ HW_ 9 60 rfl hHeld (by rintro w' ⟨s0,s1,s2,s3,s4,s5,s6,s7,s8,s9,s10,s11⟩;go_simp;with_reducible rfl) ?_
          refine oy_ HT_ 10 (some 61) (fun K hK=>?_);refine gs_ Tryd.func29 #[.agg #[.int .i64 ((rd_T60 aq aa).f0.f0),.int .i64 ((rd_T60 aq aa).f0.f1),.bool ((rd_T60 aq aa).f1)],.agg #[.int .i64 ((rd_T60 ap aa).f0.f0),.int .i64 ((rd_T60 ap aa).f0.f1),.bool ((rd_T60 ap aa).f1)]] (h:=?_);with_reducible refine(spec_ValLeq.calls ((rd_T60 aq aa).f0.f0) ((rd_T60 aq aa).f0.f1) ((rd_T60 aq aa).f1) ((rd_T60 ap aa).f0.f0) ((rd_T60 ap aa).f0.f1) ((rd_T60 ap aa).f1) false _ A57.out).mono ?_
          rintro e iP ⟨rfl,hb⟩;have HS6_:=(hb.cell (World.block_lt_of_cell? _ _ (hHeld.2.2.2.2.2.2.1))).trans (hHeld.2.2.2.2.2.2.1);have HS7_:=(hb.cell (World.block_lt_of_cell? _ _ (hHeld.2.2.2.2.2.2.2.1))).trans (hHeld.2.2.2.2.2.2.2.1);have HS8_:=(hb.cell (World.block_lt_of_cell? _ _ (hHeld.2.2.2.2.2.2.2.2.1))).trans (hHeld.2.2.2.2.2.2.2.2.1);have HS9_:=(hb.cell (World.block_lt_of_cell? _ _ (hHeld.2.2.2.2.2.2.2.2.2.1))).trans (hHeld.2.2.2.2.2.2.2.2.2.1);have HS10_:=(hb.cell (World.block_lt_of_cell? _ _ (hHeld.2.2.2.2.2.2.2.2.2.2.1))).trans (hHeld.2.2.2.2.2.2.2.2.2.2.1);have HS11_:=(hb.cell (World.block_lt_of_cell? _ _ (hHeld.2.2.2.2.2.2.2.2.2.2.2))).trans (hHeld.2.2.2.2.2.2.2.2.2.2.2);refine⟨_,rfl,?_⟩;replace ai:=am_ (Kd.N_below (by(with_reducible repeat(first|apply Kd.N_alloc|apply Kd.N_drewN|apply Kd.N_drew));exact ai.out) hb);replace af:=rb_ af hb;replace ah:=rb_ ah hb;replace ag:=am_ (Kd.N_below (by(with_reducible repeat(first|apply Kd.N_alloc|apply Kd.N_drewN|apply Kd.N_drew));exact ag.out) hb);replace ac:=rb_ ac hb;replace ae:=rb_ ae hb;replace ak:=bb_ ak hb;replace aj:=bb_ aj hb;replace HB:=hb2_ HB hb bw bC
          (try clear hb)
          (try clear hb2)
          (try clear hk)
          (try clear hi)
          refine hK.out _ _ ⟨cl_ ak 0,cl_ ak 1,cl_ ak 2,cl_ aj 0,cl_ aj 1,cl_ aj 2,HS6_,HS7_,HS8_,HS9_,HS10_,HS11_⟩ (fun hHeld=>?_);clear hK K;refine norm_y 61 (h:=?_)
          refine py_ HT_ 11 62 ?_
          refine py_ HT_ 12 63 ?_
          refine pn_ HT_ 13 64 ?_
          refine pn_ HT_ 14 65 ?_
          refine pn_ HT_ 15 66 ?_
          refine pn_ HT_ 16 67 ?_
          refine pn_ HT_ 17 68 ?_
          refine pn_ HT_ 18 69 ?_
          refine pn_ HT_ 19 70 ?_
          refine pn_ HT_ 20 71 ?_
          refine pn_ HT_ 21 72 ?_
          refine pn_ HT_ 22 73 ?_
          refine pn_ HT_ 23 74 ?_
          refine pn_ HT_ 24 75 ?_
          refine pn_ HT_ 25 76 ?_
          refine py_ HT_ 26 77 ?_
          refine done_ (done_of HT_.out (by kernel_rfl)) ?_
          try go_wp2
          go_ret
          exact⟨lf_,sq_below2 HB.out bw.out bC.out⟩
        ·
         rw [if_neg c56]at H;exact absurd H (by simp)
       ·
        rw [if_neg c55]at H;exact absurd H (by simp)
      ·
       rw [if_neg c54]at H;have fl:=decide_eq_false (p:=aa<(aq.length:Int)) c54;clear c54;obtain rfl:=Option.some.inj H;obtain⟨fE,fF,fG,fT,fU,fV⟩:=cz3_ ak
       go_wp2
       go_ret
       exact⟨lf_,sq_below HB.out⟩
end Go.Proofs.YtcdeojfeebmonaaDoor.Q
