/- Functions of the translation as Lean functions, each with a proof that a call answers so; out of the seat, by this claim's own program prt.py. -/
import Derived.Test.YtdmdalapckcobaaDoorWTab
import Derived.Test.YtdmdalapckcobaaDoorWRepsOne
import Derived.Test.YtdmdalapckcobaaDoorQx0
import Derived.Test.YtdmdalapckcobaaDoorQx19
import Derived.Test.YtdmdalapckcobaaDoorQStep3
namespace Go.Proofs.YtdmdalapckcobaaDoor.Q
open Go.RowKit Go.Proofs.YtdmdalapckcobaaDoorW.PrintWords Go.Proofs.YtdmdalapckcobaaDoorW.PrintLast Go.Proofs.YtdmdalapckcobaaDoorW.PrintMore
attribute [local go_sem] max2_int min2_int max_two min_two max_three min_three max_four min_four   -- for this text's walks alone
set_option linter.unusedVariables false
set_option maxHeartbeats 8000000
set_option maxRecDepth 100000
set_option linter.unusedSimpArgs false

/-! ### impl_Seg_clone: function 77 -/
def impl_Seg_clone.l0 : Nat → List (List (S54)) → Int → Int → List (List (S54)) → List (S90) → List Bool → Option ((List (List (S54))) × (List (S90)) × List Bool)
 | 0, _, _, _, _, _, _ => none
 | k + 1, x14, x15, x16, ba, bj, bk => if x16 < x15 then (if 0 ≤ x16 then (if x16 < (x14.length : Int) then ((impl_Sym_111.f (rd_L7 x14 x16)).bind fun bf => (if ba.length < 5864062014805 then (impl_Seg_clone.l0 k x14 x15 (wrap64 (x16 + 1)) (ba ++ [bf]) bj bk) else (none))) else (none)) else (none)) else (some (ba, bj, bk))
def impl_Seg_clone.f (k : Nat) (au : List (List (S54))) (aG : List (S90)) (aC : List Bool) : Option ((List (List (S54))) × (List (S90)) × List Bool) := (impl_Val_109.f aG).bind fun ax => ((slices_Clone_bool_bool.f aC).bind fun ay => (impl_Seg_clone.l0 k au (au.length : Int) 0 ([] : List (List (S54))) ax ay))
theorem impl_Seg_clone.mono_l : ∀ k, (∀ y0 y1 y2 y3 y4 y5, LeO (impl_Seg_clone.l0 k y0 y1 y2 y3 y4 y5) (impl_Seg_clone.l0 (k + 1) y0 y1 y2 y3 y4 y5))
 | 0 => fun _ _ _ _ _ _ r h => by simp [impl_Seg_clone.l0] at h
 | k + 1 => by
  have ih0 := impl_Seg_clone.mono_l k
  ·
   intro y0 y1 y2 y3 y4 y5; unfold impl_Seg_clone.l0
   repeat' first
   | (with_reducible exact ih0 _ _ _ _ _ _) | (with_reducible exact LeO.refl _) | (with_reducible exact LeO.none _) | (with_reducible refine LeO.ite ?_ ?_) | (with_reducible refine LeO.bind ?_ fun _ => ?_) | exact ih0 _ _ _ _ _ _ | exact LeO.none _ | refine LeO.ite ?_ ?_ | refine LeO.bind ?_ fun _ => ?_
theorem impl_Seg_clone.mono : ∀ a0 a1 a2 k, LeO (impl_Seg_clone.f k a0 a1 a2) (impl_Seg_clone.f (k + 1) a0 a1 a2) := by
 intro a0 a1 a2 k; have ih0 := impl_Seg_clone.mono_l k; unfold impl_Seg_clone.f
 repeat' first
   | (with_reducible exact ih0 _ _ _ _ _ _) | (with_reducible exact LeO.refl _) | (with_reducible exact LeO.none _) | (with_reducible refine LeO.ite ?_ ?_) | (with_reducible refine LeO.bind ?_ fun _ => ?_) | exact ih0 _ _ _ _ _ _ | exact LeO.none _ | refine LeO.ite ?_ ?_ | refine LeO.bind ?_ fun _ => ?_
def impl_Seg_clone.T1 : Bool × List (List Nat × List Nat) := (true, [([], []), ([0], [0]), ([1], [1]), ([], []), ([3], [3]), ([4, 2], [4]), ([2, 5], [2, 5]), ([], []), ([7, 6, 5, 0, 1, 2, 3, 4, 5, 6, 7], [6, 7])])
def impl_Seg_clone.B1 : List Nat := [0, 1, 3, 0, 8, 31, 63, 0, 255]
theorem impl_Seg_clone.tab1 : rtab .any (opsOf Tryd.f77 1) = impl_Seg_clone.T1 := by kernel_rfl
theorem impl_Seg_clone.bits1 : waitsOk impl_Seg_clone.T1.2 impl_Seg_clone.B1 = true := by kernel_rfl
def impl_Seg_clone.T5 : Bool × List (List Nat × List Nat) := (true, [([], []), ([0], [0]), ([], []), ([2], [2]), ([3], [3]), ([1, 4, 3], [1, 4]), ([0, 1, 2, 3, 4, 5], []), ([6, 5, 5, 0, 1, 2, 3, 4, 5], [5, 6])])
def impl_Seg_clone.B5 : List Nat := [0, 1, 0, 4, 12, 31, 63, 127]
theorem impl_Seg_clone.tab5 : rtab .any (opsOf Tryd.f77 5) = impl_Seg_clone.T5 := by kernel_rfl
theorem impl_Seg_clone.bits5 : waitsOk impl_Seg_clone.T5.2 impl_Seg_clone.B5 = true := by kernel_rfl
theorem impl_Seg_clone.calls (k : Nat) (aY : Option Addr) (aZ : Nat) (au : List (List (S54))) (aM : Option Addr) (aQ : Nat) (aG : List (S90)) (aJ : Option Addr) (aK : Nat) (aC : List Bool) (r1 : List (List (S54))) (r2 : List (S90)) (r3 : List Bool) (w : World) (bN : Kd.C (Kd.slice 54 k54) w aY au.length au) (bK : au.length ≤ aZ) (bO : Kd.C k90 w aM aG.length aG) (bL : aG.length ≤ aQ) (bP : Kd.C Kd.bool w aJ aC.length aC) (bM : aC.length ≤ aK) (h : impl_Seg_clone.f k au aG aC = some (r1, r2, r3)) :
  Calls Tryd.prog 77 #[.agg #[.slice aY au.length aZ, .slice aM aG.length aQ, .slice aJ aC.length aK]] w fun e w' => ∃ v0_ v1_ v2_ : Value, e = .returned (.agg #[v0_, v1_, v2_]) ∧ Kd.S (Kd.slice 54 k54) 36 w' w.heap.size (fun _ => True) v0_ r1 ∧ Kd.R k90 90 w' w.heap.size (fun _ => True) v1_ r2 ∧ Kd.R Kd.bool 4 w' w.heap.size (fun _ => True) v2_ r3 ∧ Below w.heap.size w w' := by
 have hu33 := Tryd.underlying33; have bX := am_ bN; have cR := am_ bK; clear bN bK; have bJ := am_ bO; have bH := am_ bL; clear bO bL; have bq := am_ bP; have bp := am_ bM; clear bP bM; have HB := am_ (Below.refl w.heap.size w); have H : ((impl_Val_109.f aG).bind fun ax => ((slices_Clone_bool_bool.f aC).bind fun ay => (impl_Seg_clone.l0 k au (au.length : Int) 0 ([] : List (List (S54))) ax ay))) = some (r1, r2, r3) := h; clear h; obtain ⟨ax, A2, H⟩ := be_ H; (try dsimp only at H); obtain ⟨ay, A3, H⟩ := be_ H; (try dsimp only at H); have H' := am_ H; clear H
 go_enter Tryd.func77, Tryd.ntmps77
 try go_wp2_with (first | ((with_reducible refine gate_dst (N := 1) rfl ?_); refine box_y 1 #[.slice aY au.length aZ, .slice aM aG.length aQ, .slice aJ aC.length aK] 33 (h := ?_); intro az hg w4 hbox hb; have aa := am_ hbox; have cP := gz_ hg HB; have ai := gz_ hg HB; replace HB := hb_ HB hb; clear hb hbox hg) | ((with_reducible refine gate_dst (N := 2) rfl ?_); refine box_y 2 #[.slice none 0 0, .slice none 0 0, .slice none 0 0] 33 (h := ?_); intro av hg w5 hbox hb; have ae := am_ hbox; have cQ := gz1_ hg HB ai; have aj := gz1_ hg HB ai; replace HB := hb1_ HB hb ai; have aX := nb_ hg aa; replace aa := bb_ aa hb; have bl := ns_ aX; clear hb hbox hg))
 replace aa := bd_ aa; replace ae := bd_ ae; replace HB := hd_ HB; refine start_ (n := 9) (S := fun w' => w'.cell? ⟨az, 0, none⟩ = some (.slice aY au.length aZ) ∧ w'.cell? ⟨az, 1, none⟩ = some (.slice aM aG.length aQ) ∧ w'.cell? ⟨az, 2, none⟩ = some (.slice aJ aC.length aK)) (ds := []) #[false, false, false, false, false, false, false, false, false] (by kernel_rfl) rfl rfl ⟨cl_ aa 0, cl_ aa 1, cl_ aa 2⟩ (fun hHeld => ?_); refine with_tabW impl_Seg_clone.tab1 impl_Seg_clone.bits1 (fun HT_ HW_ => ?_); generalize w5.drew = w6 at aa ae HB hHeld ⊢; refine py_ HT_ 0 6 ?_
 refine py_ HT_ 3 9 ?_
 refine ty_ HT_ HW_ 1 7 rfl hHeld (by rintro w' ⟨s0, s1, s2⟩; go_simp; with_reducible rfl) ?_
 refine ty_ HT_ HW_ 4 10 rfl hHeld (by rintro w' ⟨s0, s1, s2⟩; go_simp; with_reducible rfl) ?_
 refine join_ (σ := Value × Value × Nat) 1 #[true, true, true, true, true, true, true, true, false] (fun s_ => [(8, s_.1), (11, s_.2.1), (3, .pointer (some ⟨s_.2.2, 0, none⟩)), (12, .agg #[.slice none 0 0, s_.1, s_.2.1])]) (fun s_ w' => (w'.cell? ⟨az, 0, none⟩ = some (.slice aY au.length aZ) ∧ w'.cell? ⟨az, 1, none⟩ = some (.slice aM aG.length aQ) ∧ w'.cell? ⟨az, 2, none⟩ = some (.slice aJ aC.length aK)) ∧ (Kd.R k90 90 w' w.heap.size (fun _ => True) s_.1 ax) ∧ (Kd.R Kd.bool 4 w' w.heap.size (fun _ => True) s_.2.1 ay) ∧ (w'.heap[az]? = some (.cells #[.slice aY au.length aZ, .slice aM aG.length aQ, .slice aJ aC.length aK] 33 (0, 0))) ∧ (w'.heap[av]? = some (.cells #[.slice none 0 0, .slice none 0 0, .slice none 0 0] 33 (0, 0))) ∧ (w'.heap[s_.2.2]? = some (.cells #[.slice none 0 0, .slice none 0 0, .slice none 0 0] 33 (0, 0))) ∧ (w.heap.size ≤ s_.2.2) ∧ (w.heap.size ≤ s_.2.2) ∧ (az ≠ s_.2.2) ∧ (s_.2.2 ≠ az) ∧ (av ≠ s_.2.2) ∧ (s_.2.2 ≠ av) ∧ (Below w.heap.size w w')) ?_ ?_; rotate_left
 ·
  intro hCont; refine two_ (i := 2) (j := 7) (Ni := some 8) (Nj := some 3) #[true, true, true, true, true, false, false, false, false] #[true, true, false, true, true, false, false, true, false] rfl rfl rfl rfl (two_of HT_.out (by kernel_rfl)) (by decide) (by decide) (fun K hK => ?_) (fun K hK => ?_)
  ·
   refine gs_ Tryd.func109 #[.slice aM aG.length aQ] (h := ?_); with_reducible refine (impl_Val_109.calls _ _ aG ax _ ?aH ?aI A2.out).mono ?_
   (case aH => exact sq_c (Kd.C_below bJ.out HB.out))
   (case aI => exact bH.out)
   rintro e w7 ⟨v383, rfl, ho0, hb⟩; refine ⟨_, rfl, ?_⟩; have ar := am_ (Kd.R_lower ho0 (below_size (sq_below2 HB.out ai.out aj.out))); replace aa := bb_ aa hb; replace ae := bb_ ae hb; replace HB := hb2_ HB hb ai aj
   (try clear hb)
   (try clear hb2)
   (try clear hk)
   (try clear hi)
   (try clear ho0)
   refine hK.out _ _ ⟨cl_ aa 0, cl_ aa 1, cl_ aa 2⟩ (fun hHeld => ?_); clear hK K; refine norm_y 8 (h := ?_)
   refine two_ (i := 5) (j := 7) (Ni := some 11) (Nj := some 3) #[true, true, true, true, true, true, false, false, false] #[true, true, true, true, true, false, false, true, false] rfl rfl rfl rfl (two_of HT_.out (by kernel_rfl)) (by decide) (by decide) (fun K hK => ?_) (fun K hK => ?_)
   ·
    refine gs_ Tryd.func110 #[.slice aJ aC.length aK] (h := ?_); with_reducible refine (slices_Clone_bool_bool.calls _ _ aC ay _ ?aH ?aI A3.out).mono ?_
    (case aH => exact sq_c (Kd.C_below bq.out HB.out))
    (case aI => exact bp.out)
    rintro e w8 ⟨v386, rfl, ho0, hb⟩; refine ⟨_, rfl, ?_⟩; replace ar := rb_ ar hb; have aD := am_ (Kd.R_lower ho0 (below_size (sq_below2 HB.out ai.out aj.out))); replace aa := bb_ aa hb; replace ae := bb_ ae hb; replace HB := hb2_ HB hb ai aj
    (try clear hb)
    (try clear hb2)
    (try clear hk)
    (try clear hi)
    (try clear ho0)
    obtain ⟨dg, dh, cV⟩ := Kd.R_slice aD.out
    (first | subst cV | (injection cV with f1_ f2_ f3_; have f4_ := f1_.symm; have f5_ := f3_.symm; clear f1_ f2_ f3_; subst f4_; subst f5_))
    obtain ⟨bo, br, bc⟩ := Kd.R_slice ar.out
    (first | subst bc | (injection bc with f1_ f2_ f3_; have f4_ := f1_.symm; have f5_ := f3_.symm; clear f1_ f2_ f3_; subst f4_; subst f5_))
    refine hK.out _ _ ⟨cl_ aa 0, cl_ aa 1, cl_ aa 2⟩ (fun hHeld => ?_); clear hK K; refine norm_y 11 (h := ?_)
    refine py_ HT_ 6 12 ?_
    refine oy_ HT_ 7 (some 3) (fun K hK => ?_); refine box_step ?hg (N := 3) ?hd (cs := #[.slice none 0 0, .slice none 0 0, .slice none 0 0]) (t := 33) ?hr ?_; (case hd => rfl); (case hg => rfl); (case hr => first | (go_simp; done) | (go_simp; rfl)); intro af hg dn hbox hb; replace ar := rb_ ar hb; replace aD := rb_ aD hb; have ac := am_ hbox; have aW := gz2_ hg HB ai aj; have aq := gz2_ hg HB ai aj; replace HB := hb2_ HB hb ai aj; have ab := nb_ hg aa; replace aa := bb_ aa hb; have ak := ns_ ab; have ah := nb_ hg ae; replace ae := bb_ ae hb; have al := ns_ ah; clear hb hbox hg; refine hK.out _ _ ⟨cl_ aa 0, cl_ aa 1, cl_ aa 2⟩ (fun hHeld => ?_); clear hK K; refine norm_y 3 (h := ?_)
    exact norm_ (by simp only [putAll, Act.put, List.setIfInBounds_toArray, List.set_cons_zero, List.set_cons_succ]) (hCont (.slice bo ax.length br, .slice dg ay.length dh, af) _ ⟨hHeld, (sq_row ar.out), (sq_row aD.out), (sq_blk aa.out), (sq_blk ae.out), (sq_blk ac.out), aW.out, aq.out, ab.out, ak.out, ah.out, al.out, (sq_below3 HB.out ai.out aj.out aq.out)⟩)
   ·
    refine box_step ?hg (N := 3) ?hd (cs := #[.slice none 0 0, .slice none 0 0, .slice none 0 0]) (t := 33) ?hr ?_; (case hd => rfl); (case hg => rfl); (case hr => first | (go_simp; done) | (go_simp; rfl)); intro af hg w8 hbox hb; replace ar := rb_ ar hb; have ac := am_ hbox; have aW := gz2_ hg HB ai aj; have aq := gz2_ hg HB ai aj; replace HB := hb2_ HB hb ai aj; have ab := nb_ hg aa; replace aa := bb_ aa hb; have ak := ns_ ab; have ah := nb_ hg ae; replace ae := bb_ ae hb; have al := ns_ ah; clear hb hbox hg; refine hK.out _ _ ⟨cl_ aa 0, cl_ aa 1, cl_ aa 2⟩ (fun hHeld => ?_); clear hK K; refine norm_y 3 (h := ?_)
    refine oy_ HT_ 5 (some 11) (fun K hK => ?_); refine gs_ Tryd.func110 #[.slice aJ aC.length aK] (h := ?_); with_reducible refine (slices_Clone_bool_bool.calls _ _ aC ay _ ?aH ?aI A3.out).mono ?_
    (case aH => exact sq_c (Kd.C_below bq.out HB.out))
    (case aI => exact bp.out)
    rintro e w9 ⟨v386, rfl, ho0, hb⟩; refine ⟨_, rfl, ?_⟩; replace ar := rb_ ar hb; have aD := am_ (Kd.R_lower ho0 (below_size (sq_below3 HB.out ai.out aj.out aq.out))); replace aa := bb_ aa hb; replace ae := bb_ ae hb; replace ac := bb_ ac hb; replace HB := hb3_ HB hb ai aj aq
    (try clear hb)
    (try clear hb2)
    (try clear hk)
    (try clear hi)
    (try clear ho0)
    obtain ⟨bo, br, bc⟩ := Kd.R_slice aD.out
    (first | subst bc | (injection bc with f1_ f2_ f3_; have f4_ := f1_.symm; have f5_ := f3_.symm; clear f1_ f2_ f3_; subst f4_; subst f5_))
    obtain ⟨bR, bT, bt⟩ := Kd.R_slice ar.out
    (first | subst bt | (injection bt with f1_ f2_ f3_; have f4_ := f1_.symm; have f5_ := f3_.symm; clear f1_ f2_ f3_; subst f4_; subst f5_))
    refine hK.out _ _ ⟨cl_ aa 0, cl_ aa 1, cl_ aa 2⟩ (fun hHeld => ?_); clear hK K; refine norm_y 11 (h := ?_)
    refine py_ HT_ 6 12 ?_
    exact norm_ (by simp only [putAll, Act.put, List.setIfInBounds_toArray, List.set_cons_zero, List.set_cons_succ]) (hCont (.slice bR ax.length bT, .slice bo ay.length br, af) _ ⟨hHeld, (sq_row ar.out), (sq_row aD.out), (sq_blk aa.out), (sq_blk ae.out), (sq_blk ac.out), aW.out, aq.out, ab.out, ak.out, ah.out, al.out, (sq_below3 HB.out ai.out aj.out aq.out)⟩)
  ·
   refine box_step ?hg (N := 3) ?hd (cs := #[.slice none 0 0, .slice none 0 0, .slice none 0 0]) (t := 33) ?hr ?_; (case hd => rfl); (case hg => rfl); (case hr => first | (go_simp; done) | (go_simp; rfl)); intro af hg w7 hbox hb; have ac := am_ hbox; have aW := gz2_ hg HB ai aj; have aq := gz2_ hg HB ai aj; replace HB := hb2_ HB hb ai aj; have ab := nb_ hg aa; replace aa := bb_ aa hb; have ak := ns_ ab; have ah := nb_ hg ae; replace ae := bb_ ae hb; have al := ns_ ah; clear hb hbox hg; refine hK.out _ _ ⟨cl_ aa 0, cl_ aa 1, cl_ aa 2⟩ (fun hHeld => ?_); clear hK K; refine norm_y 3 (h := ?_)
   refine oy_ HT_ 2 (some 8) (fun K hK => ?_); refine gs_ Tryd.func109 #[.slice aM aG.length aQ] (h := ?_); with_reducible refine (impl_Val_109.calls _ _ aG ax _ ?aH ?aI A2.out).mono ?_
   (case aH => exact sq_c (Kd.C_below bJ.out HB.out))
   (case aI => exact bH.out)
   rintro e w8 ⟨v383, rfl, ho0, hb⟩; refine ⟨_, rfl, ?_⟩; have ar := am_ (Kd.R_lower ho0 (below_size (sq_below3 HB.out ai.out aj.out aq.out))); replace aa := bb_ aa hb; replace ae := bb_ ae hb; replace ac := bb_ ac hb; replace HB := hb3_ HB hb ai aj aq
   (try clear hb)
   (try clear hb2)
   (try clear hk)
   (try clear hi)
   (try clear ho0)
   refine hK.out _ _ ⟨cl_ aa 0, cl_ aa 1, cl_ aa 2⟩ (fun hHeld => ?_); clear hK K; refine norm_y 8 (h := ?_)
   refine oy_ HT_ 5 (some 11) (fun K hK => ?_); refine gs_ Tryd.func110 #[.slice aJ aC.length aK] (h := ?_); with_reducible refine (slices_Clone_bool_bool.calls _ _ aC ay _ ?aH ?aI A3.out).mono ?_
   (case aH => exact sq_c (Kd.C_below bq.out HB.out))
   (case aI => exact bp.out)
   rintro e w9 ⟨v386, rfl, ho0, hb⟩; refine ⟨_, rfl, ?_⟩; replace ar := rb_ ar hb; have aD := am_ (Kd.R_lower ho0 (below_size (sq_below3 HB.out ai.out aj.out aq.out))); replace aa := bb_ aa hb; replace ae := bb_ ae hb; replace ac := bb_ ac hb; replace HB := hb3_ HB hb ai aj aq
   (try clear hb)
   (try clear hb2)
   (try clear hk)
   (try clear hi)
   (try clear ho0)
   obtain ⟨bo, br, bc⟩ := Kd.R_slice aD.out
   (first | subst bc | (injection bc with f1_ f2_ f3_; have f4_ := f1_.symm; have f5_ := f3_.symm; clear f1_ f2_ f3_; subst f4_; subst f5_))
   obtain ⟨bR, bT, bt⟩ := Kd.R_slice ar.out
   (first | subst bt | (injection bt with f1_ f2_ f3_; have f4_ := f1_.symm; have f5_ := f3_.symm; clear f1_ f2_ f3_; subst f4_; subst f5_))
   refine hK.out _ _ ⟨cl_ aa 0, cl_ aa 1, cl_ aa 2⟩ (fun hHeld => ?_); clear hK K; refine norm_y 11 (h := ?_)
   refine py_ HT_ 6 12 ?_
   exact norm_ (by simp only [putAll, Act.put, List.setIfInBounds_toArray, List.set_cons_zero, List.set_cons_succ]) (hCont (.slice bR ax.length bT, .slice bo ay.length br, af) _ ⟨hHeld, (sq_row ar.out), (sq_row aD.out), (sq_blk aa.out), (sq_blk ae.out), (sq_blk ac.out), aW.out, aq.out, ab.out, ak.out, ah.out, al.out, (sq_below3 HB.out ai.out aj.out aq.out)⟩)
 rintro ⟨v383, v386, af⟩ bn ⟨hS_, h0_, h1_, h2_, h3_, h4_, h5_, h6_, h7_, h8_, h9_, h10_, h11_⟩; have ar : Aside0 (Kd.R k90 90 bn w.heap.size (fun _ => True) v383 ax) := ⟨h0_⟩; have aD : Aside0 (Kd.R Kd.bool 4 bn w.heap.size (fun _ => True) v386 ay) := ⟨h1_⟩; replace aa : Aside0 (bn.heap[az]? = some (.cells #[.slice aY au.length aZ, .slice aM aG.length aQ, .slice aJ aC.length aK] 33 (0, 0))) := ⟨h2_⟩; replace ae : Aside0 (bn.heap[av]? = some (.cells #[.slice none 0 0, .slice none 0 0, .slice none 0 0] 33 (0, 0))) := ⟨h3_⟩; have ac : Aside0 (bn.heap[af]? = some (.cells #[.slice none 0 0, .slice none 0 0, .slice none 0 0] 33 (0, 0))) := ⟨h4_⟩; have aW : Aside0 (w.heap.size ≤ af) := ⟨h5_⟩; have aq : Aside0 (w.heap.size ≤ af) := ⟨h6_⟩; have ab : Aside0 (az ≠ af) := ⟨h7_⟩; have ak : Aside0 (af ≠ az) := ⟨h8_⟩; have ah : Aside0 (av ≠ af) := ⟨h9_⟩; have al : Aside0 (af ≠ av) := ⟨h10_⟩; replace HB : Aside0 (Below w.heap.size w bn) := ⟨h11_⟩; clear h0_ h1_ h2_ h3_ h4_ h5_ h6_ h7_ h8_ h9_ h10_ h11_; have hHeld : bn.cell? ⟨az, 0, none⟩ = some (.slice aY au.length aZ) ∧ bn.cell? ⟨az, 1, none⟩ = some (.slice aM aG.length aQ) ∧ bn.cell? ⟨az, 2, none⟩ = some (.slice aJ aC.length aK) := hS_; obtain ⟨aU, aV, cd⟩ := Kd.R_slice aD.out
 (first | subst cd | (injection cd with f1_ f2_ f3_; have f4_ := f1_.symm; have f5_ := f3_.symm; clear f1_ f2_ f3_; subst f4_; subst f5_))
 obtain ⟨aN, aT, ce⟩ := Kd.R_slice ar.out
 (first | subst ce | (injection ce with f1_ f2_ f3_; have f4_ := f1_.symm; have f5_ := f3_.symm; clear f1_ f2_ f3_; subst f4_; subst f5_))
 refine norm_ (a' := ?_) ?_ ?_; rotate_left
 ·
  simp only [putAll, Act.put, List.setIfInBounds_toArray, List.set_cons_zero, List.set_cons_succ]; rfl
 refine oy_ HT_ 8 none (fun K hK => ?_); have di : bn.cell? ⟨af, 0, none⟩ = some (.slice none 0 0) := (blk_cell ac.out 0).trans rfl; have cW := blk_frozen ac.out 0; have cF := ab.out; have cG := ah.out; have cx := ak.out; have cy := al.out; have dj : bn.cell? ⟨af, 1, none⟩ = some (.slice none 0 0) := (blk_cell ac.out 1).trans rfl; have cX := blk_frozen ac.out 1; have cH := ab.out; have cI := ah.out; have cz := ak.out; have cA := al.out; have dk : bn.cell? ⟨af, 2, none⟩ = some (.slice none 0 0) := (blk_cell ac.out 2).trans rfl; have cY := blk_frozen ac.out 2; have cJ := ab.out; have cK := ah.out; have cB := ak.out; have cC := al.out; refine skip_ (w1 := ?_) (by rfl) rfl ?_ ?_; rotate_left
 ·
  go_simp; rfl
 refine hK.out _ _ ⟨((cell_far (p := ⟨af, _, none⟩) ab.out _).trans (((cell_far (p := ⟨af, _, none⟩) ab.out _).trans (((cell_far (p := ⟨af, _, none⟩) ab.out _).trans (hHeld.1)))))), ((cell_far (p := ⟨af, _, none⟩) ab.out _).trans (((cell_far (p := ⟨af, _, none⟩) ab.out _).trans (((cell_far (p := ⟨af, _, none⟩) ab.out _).trans (hHeld.2.1)))))), ((cell_far (p := ⟨af, _, none⟩) ab.out _).trans (((cell_far (p := ⟨af, _, none⟩) ab.out _).trans (((cell_far (p := ⟨af, _, none⟩) ab.out _).trans (hHeld.2.2))))))⟩ (fun hHeld => ?_); clear hK K; refine done_ (done_of HT_.out (by kernel_rfl)) ?_; have da := aX.out; have dd := bl.out; have db := ab.out; have de := ak.out; obtain ⟨bB, bC, bD, bE, bF, bG⟩ := cz3_ aa
 try go_wp2
 go_loopg [16] k (fun kq v16 w' => ∃ (aw : Int) (am : List (List (S54))) (aA : Value), v16 = .int .i64 aw ∧ Aside0 (impl_Seg_clone.l0 kq au (au.length : Int) aw am ax ay = some (r1, r2, r3)) ∧ Aside0 (kq ≤ k) ∧ Aside0 (Kd.S (Kd.slice 54 k54) 36 w' w.heap.size (fun _ => True) aA am) ∧ Aside0 (Kd.R k90 90 w' w.heap.size (fun _ => True) (.slice aN ax.length aT) ax) ∧ Aside0 (Kd.R Kd.bool 4 w' w.heap.size (fun _ => True) (.slice aU ay.length aV) ay) ∧ Aside0 (w'.heap[az]? = some (.cells #[(.slice aY au.length aZ), (.slice aM aG.length aQ), (.slice aJ aC.length aK)] 33 (0, 0))) ∧ Aside0 (w'.heap[av]? = some (.cells #[(.slice none 0 0), (.slice none 0 0), (.slice none 0 0)] 33 (0, 0))) ∧ Aside0 (w'.heap[af]? = some (.cells #[aA, (.slice aN ax.length aT), (.slice aU ay.length aV)] 33 (0, 0))) ∧ Aside0 (Below w.heap.size w w'))
 case atStart => exact ⟨(0), (([] : List (List (S54)))), (.slice none 0 0), sr_, H', ⟨Nat.le_refl _⟩, ⟨by first | exact Kd.S_nil _ _ _ _ _ | exact Kd.N_nil _ _ _ _ _ | exact Kd.V_nil _ _ _ _ _ | exact Kd.Q_nil _ _ _ _ _ | exact Kd.R_nil _ _ _ _ _⟩, ⟨by (with_reducible repeat (first | apply Kd.R_alloc | apply Kd.R_drewN | apply Kd.R_drew)); exact Kd.R_mono (Kd.R_far (p := ⟨af, 2, none⟩) (Kd.R_far (p := ⟨af, 1, none⟩) (Kd.R_far (p := ⟨af, 0, none⟩) (Kd.R_types ar.out ac.out (by decide)) (fun _ hk => hk.2) (.slice none 0 0)) (fun _ hk => hk.2) (.slice aN ax.length aT)) (fun _ hk => hk.2) (.slice aU ay.length aV)) (fun _ hk => trivial)⟩, ⟨by (with_reducible repeat (first | apply Kd.R_alloc | apply Kd.R_drewN | apply Kd.R_drew)); exact Kd.R_mono (Kd.R_far (p := ⟨af, 2, none⟩) (Kd.R_far (p := ⟨af, 1, none⟩) (Kd.R_far (p := ⟨af, 0, none⟩) (Kd.R_types aD.out ac.out (by decide)) (fun _ hk => hk.2) (.slice none 0 0)) (fun _ hk => hk.2) (.slice aN ax.length aT)) (fun _ hk => hk.2) (.slice aU ay.length aV)) (fun _ hk => trivial)⟩, bf_ aa ab, bf_ ae ah, ⟨by (with_reducible repeat (first | refine blk_drewN ?_ _ | refine blk_drew ?_ | refine blk_alloc ?_ _)); refine blk_put (cs := #[.slice none 0 0, .slice aN ax.length aT, .slice none 0 0]) ?_ 2 _ rfl; (with_reducible repeat (first | refine blk_drewN ?_ _ | refine blk_drew ?_ | refine blk_alloc ?_ _)); refine blk_put (cs := #[.slice none 0 0, .slice none 0 0, .slice none 0 0]) ?_ 1 _ rfl; (with_reducible repeat (first | refine blk_drewN ?_ _ | refine blk_drew ?_ | refine blk_alloc ?_ _)); refine blk_put (cs := #[.slice none 0 0, .slice none 0 0, .slice none 0 0]) ?_ 0 _ rfl; (with_reducible repeat (first | refine blk_drewN ?_ _ | refine blk_drew ?_ | refine blk_alloc ?_ _)); exact ac.out⟩, ⟨sq_below3 HB.out ai.out aj.out aq.out⟩⟩
 case round =>
  clear H'
  obtain ⟨aw, am, aA, rfl, HA, HK1, ag, ao, ap, aa, ae, ac, HB⟩ := hrel; cases gk with
  | zero => exact absurd HA.out (by simp [impl_Seg_clone.l0])
  | succ k1 =>
   have H := HA.out; clear HA; simp only [impl_Seg_clone.l0] at H
   by_cases c21 : aw < (au.length : Int)
   ·
    rw [if_pos c21] at H; have ca := decide_eq_true (p := aw < (au.length : Int)) c21; clear c21
    by_cases c22 : 0 ≤ aw
    ·
     rw [if_pos c22] at H; have cT := decide_eq_true (p := 0 ≤ aw) c22; clear c22
     by_cases c23 : aw < (au.length : Int)
     ·
      rw [if_pos c23] at H; have cU := decide_eq_true (p := aw < (au.length : Int)) c23; clear c23; obtain ⟨bf, A24, H⟩ := be_ H; (try dsimp only at H)
      by_cases c25 : am.length < 5864062014805
      ·
       rw [if_pos c25] at H; have bY := am_ c25; clear c25; obtain ⟨bm, bd⟩ : ∃ y_ : List (List (S54)), y_ = (am ++ [bf]) := ⟨_, rfl⟩; replace H : (impl_Seg_clone.l0 k1 au (au.length : Int) (wrap64 (aw + 1)) bm ax ay) = some (r1, r2, r3) := by first | (rw [bd]; with_reducible exact H) | (have H2_ := (Option.bind_some _ _).symm.trans H; rw [bd]; with_reducible exact H2_) | (have H2_ := (Option.bind_some _ _).symm.trans H; with_reducible exact H2_) | with_reducible exact H | (rw [bd]; exact H) | exact H
       have bZ := am_ bd; clear bd; have H' := am_ H; clear H; have bU : 0 ≤ (aw : Int) := sq_dec; have bV : aw < (au.length : Int) := sq_dec; obtain ⟨cS, bQ, bS, cN, bi, hl389_0, hi389_0⟩ := at_L7 bX.out aw bU bV; cases cN; replace bi := cb_ HB bi; have bx := am_ hi389_0; have bw := am_ hl389_0; clear hi389_0 hl389_0; replace bU := eq_true bU; replace bV := eq_true bV
       try go_wp2
       replace ag := am_ (Kd.S_drew ag.out); replace ao := rd_ ao; replace ap := rd_ ap; replace aa := bd_ aa; replace ae := bd_ ae; replace ac := bd_ ac; replace HB := hd_ HB; refine start_ (n := 8) (S := fun w' => w'.cell? ⟨af, 0, none⟩ = some (aA) ∧ w'.cell? ⟨af, 1, none⟩ = some (.slice aN ax.length aT) ∧ w'.cell? ⟨af, 2, none⟩ = some (.slice aU ay.length aV)) (ds := [7]) #[false, false, false, false, false, false, false, false] (by kernel_rfl) rfl rfl ⟨cl_ ac 0, cl_ ac 1, cl_ ac 2⟩ (fun hHeld => ?_); refine with_tabW impl_Seg_clone.tab5 impl_Seg_clone.bits5 (fun HT_ HW_ => ?_); generalize wr.drew = dp at ag ao ap aa ae ac HB hHeld ⊢; refine py_ HT_ 0 20 ?_
       refine py_ HT_ 2 22 ?_
       refine ty_ HT_ HW_ 1 21 rfl hHeld (by rintro w' ⟨s0, s1, s2⟩; go_simp; with_reducible rfl) ?_
       refine oy_ HT_ 3 (some 23) (fun K hK => ?_); refine gs_ Tryd.func111 #[.slice bQ (rd_L7 au aw).length bS] (h := ?_); with_reducible refine (impl_Sym_111.calls _ _ (rd_L7 au aw) bf _ ?aH ?aI A24.out).mono ?_
       (case aH => exact sq_c (Kd.C_below bx.out HB.out))
       (case aI => exact bw.out)
       rintro e dq ⟨v391, rfl, ho0, hb⟩; refine ⟨_, rfl, ?_⟩; replace ag := am_ (Kd.S_elder' (by (with_reducible repeat (first | apply Kd.S_alloc | apply Kd.S_drewN | apply Kd.S_drew)); exact ag.out) (Kd.R_base ho0) hb); replace ao := rb_ ao hb; replace ap := rb_ ap hb; have bh := am_ (Kd.R_lower ho0 (below_size (sq_below3 HB.out ai.out aj.out aq.out))); replace aa := bb_ aa hb; replace ae := bb_ ae hb; replace ac := bb_ ac hb; replace HB := hb3_ HB hb ai aj aq
       (try clear hb)
       (try clear hb2)
       (try clear hk)
       (try clear hi)
       (try clear ho0)
       obtain ⟨bW, cb, cf⟩ := Kd.R_slice bh.out
       (first | subst cf | (injection cf with f1_ f2_ f3_; have f4_ := f1_.symm; have f5_ := f3_.symm; clear f1_ f2_ f3_; subst f4_; subst f5_))
       refine hK.out _ _ ⟨cl_ ac 0, cl_ ac 1, cl_ ac 2⟩ (fun hHeld => ?_); clear hK K; refine norm_y 23 (h := ?_)
       refine oy_ HT_ 4 (some 24) (fun K hK => ?_); refine value_ (w1 := ?_) (v := ?_) (by rfl) rfl ?_ ?_; rotate_left 2
       ·
        go_simp
        constructor
        ·
         rfl
        ·
         rfl
       refine hK.out _ _ ⟨(blk_cell (blk_alloc ac.out _) 0).trans rfl, (blk_cell (blk_alloc ac.out _) 1).trans rfl, (blk_cell (blk_alloc ac.out _) 2).trans rfl⟩ (fun hHeld => ?_); clear hK K; refine norm_y 24 (h := ?_)
       refine oy_ HT_ 5 (some 25) (fun K hK => ?_); refine Kd.S_append_step (Kd.slice 54 k54) (w0 := w) w.heap.size (by rfl) (.tmp 21) (.tmp 24) 30 36 (.slice none 0 0) 24 rfl Tryd.underlying30 info36 rfl (by decide) (by omega) aA am bf [.slice bW bf.length cb] (fun _ => True) (fun k_ => some k_ = (.slice bW bf.length cb : Value).ownBlock) rfl rfl ?aP (fun k_ hk_ => ((Kd.R_mono (ok' := fun k_ => ((fun _ => True)) k_ ∧ some k_ ≠ (aA : Value).ownBlock) (Kd.R_apart' (bh.out) (Kd.S_typed ag.out) (by decide)) (fun k_ hk => ⟨trivial, hk.2⟩))).1 k_ hk_.symm) ?aF ?aO ?aB ?aS ?aL ?_
       (case aP => exact Kd.M_row (Kd.R_mono (Kd.R_tight rfl (Kd.R_mono (ok' := fun k_ => ((fun _ => True)) k_ ∧ some k_ ≠ (aA : Value).ownBlock) (Kd.R_apart' (bh.out) (Kd.S_typed ag.out) (by decide)) (fun k_ hk => ⟨trivial, hk.2⟩))) (fun _ h_ => h_)))
       (case aB => exact (sq_below3 HB.out ai.out aj.out aq.out))
       (case aF => exact (fun _ _ => trivial))
       (case aO => exact (by (with_reducible repeat (first | apply Kd.S_alloc | apply Kd.S_drewN | apply Kd.S_drew)); exact Kd.S_mono ag.out (fun k_ hk => ⟨trivial, fun e_ => hk.2 e_⟩)))
       (case aS => exact (below_size (sq_below3 HB.out ai.out aj.out aq.out)))
       (case aL => have := bY.out; omega)
       intro v394 dm ho hb hg hat; rw [← bZ.out] at ho; replace ao := am_ (Kd.R_over' (sq_row ao.out) (Kd.S_typed (by (with_reducible repeat (first | apply Kd.S_alloc | apply Kd.S_drewN | apply Kd.S_drew)); exact ag.out)) (by decide) hg); replace ap := am_ (Kd.R_over' (sq_row ap.out) (Kd.S_typed (by (with_reducible repeat (first | apply Kd.S_alloc | apply Kd.S_drewN | apply Kd.S_drew)); exact ag.out)) (by decide) hg); replace aa := bgS_ aa ag hg; replace ae := bgS_ ae ag hg; replace ac := bgS_ ac ag hg; replace HB := am_ hb; have bI := am_ ho; clear ag bh; clear ho hb hg hat; obtain ⟨bu, bz, ch⟩ := Kd.S_slice bI.out
       (first | subst ch | (injection ch with f1_ f2_ f3_; have f4_ := f1_.symm; have f5_ := f3_.symm; clear f1_ f2_ f3_; subst f4_; subst f5_))
       refine hK.out _ _ ⟨cl_ ac 0, cl_ ac 1, cl_ ac 2⟩ (fun hHeld => ?_); clear hK K; refine norm_y 25 (h := ?_)
       refine py_ HT_ 6 26 ?_
       refine ly_ HT_ 7 none (fun K hK => ?_); have dl : dm.cell? ⟨af, 0, none⟩ = some (aA) := (blk_cell ac.out 0).trans rfl; have cZ := blk_frozen ac.out 0; have cL := ab.out; have cM := ah.out; have cD := ak.out; have cE := al.out; refine skip_ (w1 := ?_) (by rfl) rfl ?_ ?_; rotate_left
       ·
        go_simp; rfl
       refine hK.out _ _ ?_; clear hK K; refine done_ (done_of HT_.out (by kernel_rfl)) ?_
       try go_wp2
       go_roundg k1
       case measure => have := HK1.out; omega
       case rel => exact ⟨(wrap64 (aw + 1)), (bm), (.slice bu bm.length bz), sr_, H', ⟨by have := HK1.out; omega⟩, ⟨by (with_reducible repeat (first | apply Kd.S_alloc | apply Kd.S_drewN | apply Kd.S_drew)); exact Kd.S_mono (Kd.S_far (p := ⟨af, 0, none⟩) (Kd.S_types bI.out ac.out (by decide)) (fun _ hk => hk.2) (.slice bu bm.length bz)) (fun _ hk => trivial)⟩, ⟨by (with_reducible repeat (first | apply Kd.R_alloc | apply Kd.R_drewN | apply Kd.R_drew)); exact Kd.R_mono (Kd.R_far (p := ⟨af, 0, none⟩) (Kd.R_types ao.out ac.out (by decide)) (fun _ hk => hk.2) (.slice bu bm.length bz)) (fun _ hk => trivial)⟩, ⟨by (with_reducible repeat (first | apply Kd.R_alloc | apply Kd.R_drewN | apply Kd.R_drew)); exact Kd.R_mono (Kd.R_far (p := ⟨af, 0, none⟩) (Kd.R_types ap.out ac.out (by decide)) (fun _ hk => hk.2) (.slice bu bm.length bz)) (fun _ hk => trivial)⟩, bf_ aa ab, bf_ ae ah, ⟨by (with_reducible repeat (first | refine blk_drewN ?_ _ | refine blk_drew ?_ | refine blk_alloc ?_ _)); refine blk_put (cs := #[aA, .slice aN ax.length aT, .slice aU ay.length aV]) ?_ 0 _ rfl; (with_reducible repeat (first | refine blk_drewN ?_ _ | refine blk_drew ?_ | refine blk_alloc ?_ _)); exact ac.out⟩, ⟨sq_below3 HB.out ai.out aj.out aq.out⟩⟩
      ·
       rw [if_neg c25] at H; exact absurd H (by simp)
     ·
      rw [if_neg c23] at H; exact absurd H (by simp)
    ·
     rw [if_neg c22] at H; exact absurd H (by simp)
   ·
    rw [if_neg c21] at H; have ca := decide_eq_false (p := aw < (au.length : Int)) c21; clear c21; simp only [Option.some.injEq, Prod.mk.injEq] at H; obtain ⟨rfl, rfl, rfl⟩ := H; have dc := al.out; have df := ah.out; obtain ⟨cj, ck, cl, cp, cq, cr⟩ := cz3_ ac; obtain ⟨bv, bA, cO⟩ := Kd.S_slice ag.out; subst cO; obtain ⟨cm, cn, co, cu, cv, cw⟩ := cz3_ ae
    go_wp2
    refine bodyPost_ret (results_cell_row rfl _ _ av 33 #[.slice bv am.length bA, .slice aN ax.length aT, .slice aU ay.length aV] (0, 0) _ rfl (bp_ ae) Tryd.underlying33 rfl (by kernel_rfl)) rfl ?_; exact ⟨_, _, _, by first | rfl | (simp [errW_none, errW_some] <;> rfl) | (simp [*, errW_none, errW_some] <;> rfl), by (with_reducible repeat (first | apply Kd.S_alloc | apply Kd.S_drewN | apply Kd.S_drew)); exact Kd.S_mono (Kd.S_far (p := ⟨av, 2, none⟩) (Kd.S_far (p := ⟨av, 1, none⟩) (Kd.S_far (p := ⟨av, 0, none⟩) (Kd.S_types ag.out ae.out (by decide)) (fun _ hk => hk.2) (.slice bv am.length bA)) (fun _ hk => hk.2) (.slice aN ax.length aT)) (fun _ hk => hk.2) (.slice aU ay.length aV)) (fun _ hk => trivial), by (with_reducible repeat (first | apply Kd.R_alloc | apply Kd.R_drewN | apply Kd.R_drew)); exact Kd.R_mono (Kd.R_far (p := ⟨av, 2, none⟩) (Kd.R_far (p := ⟨av, 1, none⟩) (Kd.R_far (p := ⟨av, 0, none⟩) (Kd.R_types ao.out ae.out (by decide)) (fun _ hk => hk.2) (.slice bv am.length bA)) (fun _ hk => hk.2) (.slice aN ax.length aT)) (fun _ hk => hk.2) (.slice aU ay.length aV)) (fun _ hk => trivial), by (with_reducible repeat (first | apply Kd.R_alloc | apply Kd.R_drewN | apply Kd.R_drew)); exact Kd.R_mono (Kd.R_far (p := ⟨av, 2, none⟩) (Kd.R_far (p := ⟨av, 1, none⟩) (Kd.R_far (p := ⟨av, 0, none⟩) (Kd.R_types ap.out ae.out (by decide)) (fun _ hk => hk.2) (.slice bv am.length bA)) (fun _ hk => hk.2) (.slice aN ax.length aT)) (fun _ hk => hk.2) (.slice aU ay.length aV)) (fun _ hk => trivial), sq_below1 HB.out aj.out⟩

end Go.Proofs.YtdmdalapckcobaaDoor.Q
