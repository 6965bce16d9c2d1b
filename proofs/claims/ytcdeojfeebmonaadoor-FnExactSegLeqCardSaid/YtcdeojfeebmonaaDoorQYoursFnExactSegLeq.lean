/- The law FnExactSegLeq holds: the program's SegLeq and the reference's answer alike, at all arguments; the program leaves them as they were. No conditions. -/
import Derived.Test.YtcdeojfeebmonaaDoorQPureFnExactSegLeq
import Derived.Test.YtcdeojfeebmonaaDoorQTFnExactSegLeq
import Derived.Test.YtcdeojfeebmonaaDoorQOpen
import Derived.Test.YtcdeojfeebmonaaDoorQx16
import Derived.Test.YtcdeojfeebmonaaDoorQx24
import Derived.Test.YtcdeojfeebmonaaDoorQXFnExactSegLeq
namespace Go.Proofs.YtcdeojfeebmonaaDoor.Q
open Go.RowKit Go.Proofs.YtcdeojfeebmonaaDoorW.PrintWords Go.Proofs.YtcdeojfeebmonaaDoorW.PrintLast Go.Proofs.YtcdeojfeebmonaaDoorW.PrintMore
open Go.Proofs.YtcdeojfeebmonaaDoor.Open
set_option linter.unusedSimpArgs false
set_option linter.unusedVariables false
theorem yoursFnExactSegLeq:laws_FnExactSegLeq.Pure:=by
  intro size l ab av am bb bv bm _ _ hab hav ham hbb hbv hbm
  obtain⟨r,q1,q3,q2⟩:=size_segN 1048576 (by decide) (by decide) ab av am hab.1 (fun x hx=>(hab.2 x hx).1) hav.1 ham.1
  by_cases hr:r<0
  · refine⟨1048578,?_⟩
    unfold laws_FnExactSegLeq.f
    rw [q1 _ (by omega),Option.bind_some,if_pos hr]
  · obtain⟨h1,h2,h3,h4⟩:=q2 (by omega)
    obtain⟨r',p1,p3,p2⟩:=size_segN r (by omega) q3 bb bv bm hbb.1 (fun x hx=>(hbb.2 x hx).1) hbv.1 hbm.1
    by_cases hr':r'<0
    · refine⟨1048578,?_⟩
      unfold laws_FnExactSegLeq.f
      rw [q1 _ (by omega),Option.bind_some,if_neg hr,p1 _ (by omega),Option.bind_some,if_pos hr']
    · obtain⟨g1,g2,g3,g4⟩:=p2 (by omega)
      have sa:=smallS ab av am h1 h2 h3 h4
      have sb:=smallS bb bv bm g1 g2 g3 g4
      obtain⟨K1,c1,d1,f1⟩:=segOkE size l _ _ _ sa
      obtain⟨K2,c2,d2,f2⟩:=segOkE size l _ _ _ sb
      obtain⟨K,hK⟩:∃ K,K=K1+K2+3000000001:=⟨_,rfl⟩
      have ta:=to_seg ab av am h1 h2 h3 h4 K (by omega)
      have tb:=to_seg bb bv bm g1 g2 g3 g4 K (by omega)
      obtain⟨s1,i1⟩:=f1 K (by omega)
      obtain⟨s2,i2⟩:=f2 K (by omega)
      have hres:∃ res,spec_SegLeq.f K size l (ab.map (·.map cSym)) (av.map cVal) am (bb.map (·.map cSym)) (bv.map cVal) bm=some res∧impl_SegLeq.f K size l (ab.map (·.map cSym)) (av.map cVal) am (bb.map (·.map cSym)) (bv.map cVal) bm=some res:=by
        cases c1 with
        |false=>exact⟨false,by rw [spec_SegLeq.f,s1,Option.bind_some,if_neg (by decide)],impl_SegLeq.good i1 i2 (.inl ⟨rfl,rfl⟩)⟩
        |true =>
          cases c2 with
          |false=>exact⟨false,by rw [spec_SegLeq.f,s1,Option.bind_some,if_pos rfl,s2,Option.bind_some,if_neg (by decide)],impl_SegLeq.good i1 i2 (.inl ⟨rfl,rfl⟩)⟩
          |true =>
            obtain⟨ga,ea⟩:=d1 rfl
            obtain⟨gb,eb⟩:=d2 rfl
            obtain⟨hC,hS⟩:=leq_is size l _ _ _ _ _ _ ga ea gb eb K (by omega)
            exact⟨_,by rw [spec_SegLeq.f,s1,Option.bind_some,if_pos rfl,s2,Option.bind_some,if_pos rfl,hS,Option.bind_some],impl_SegLeq.good i1 i2 (.inr ⟨rfl,hC,rfl⟩)⟩
      obtain⟨res,e1,e2⟩:=hres
      refine⟨K,?_⟩
      unfold laws_FnExactSegLeq.f
      rw [q1 _ (by omega),Option.bind_some,if_neg hr,p1 _ (by omega),Option.bind_some,if_neg hr',ta,Option.bind_some,tb,Option.bind_some]
      simp only
      rw [e1,Option.bind_some,Option.bind_some,Option.bind_some]
      simp only
      rw [e2,Option.bind_some,if_neg (by simp),Option.bind_some]
      simp only
      rw [eq_seg sa K (by omega),Option.bind_some,if_pos rfl,Option.bind_some]
      simp only
      rw [eq_seg sb K (by omega),Option.bind_some,if_pos rfl]
end Go.Proofs.YtcdeojfeebmonaaDoor.Q
