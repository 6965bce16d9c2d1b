/- Functions of the translation as Lean functions, each with a proof that a call answers so; out of the seat, by this claim's own program prt.py. -/
import Derived.Test.YtmkppdeoepfpoaaDoorWRepsOne
import Derived.Test.YtmkppdeoepfpoaaDoorQx0
import Derived.Test.YtmkppdeoepfpoaaDoorQx8
import Derived.Test.YtmkppdeoepfpoaaDoorQx24
namespace Go.Proofs.YtmkppdeoepfpoaaDoor.Q
open Go.RowKit Go.Proofs.YtmkppdeoepfpoaaDoorW.PrintWords Go.Proofs.YtmkppdeoepfpoaaDoorW.PrintLast Go.Proofs.YtmkppdeoepfpoaaDoorW.PrintMore
attribute [local go_sem] max2_int min2_int max_two min_two max_three min_three max_four min_four   -- for this text's walks alone
set_option linter.unusedVariables false
set_option linter.unusedSimpArgs false

/-! ### impl_isExpr: function 30 -/
/-- The first of d numbers from j on of which p tells, or -1. -/
def fstFrom (p : Nat → Bool) : Nat → Nat → Int
 | 0, _ => -1
 | d + 1, j => if p j = true then (j : Int) else fstFrom p d (j + 1)
theorem fstFrom_hit (p : Nat → Bool) {n j : Nat} (h : j < n) (hp : p j = true) : fstFrom p (n - j) j = j := by
 obtain ⟨d, hd⟩ : ∃ d, n - j = d + 1 := ⟨n - j - 1, by omega⟩; rw [hd, fstFrom, if_pos hp]
theorem fstFrom_miss (p : Nat → Bool) {n j : Nat} (h : j < n) (hp : p j = false) : fstFrom p (n - j) j = fstFrom p (n - (j + 1)) (j + 1) := by
 obtain ⟨d, hd⟩ : ∃ d, n - j = d + 1 := ⟨n - j - 1, by omega⟩; rw [hd, fstFrom, if_neg (by rw [hp]; decide), show n - (j + 1) = d by omega]
theorem any_fst_ {α : Type} [Inhabited α] (q : α → Bool) (xs : List α) : ∀ (d j : Nat), j + d = xs.length → decide (0 ≤ fstFrom (fun j => q xs[j]!) d j) = (xs.drop j).any q := by
 intro d
 induction d with
 | zero => intro j h; rw [List.drop_of_length_le (by omega)]; rfl
 | succ d ih =>
   intro j h; rw [fstFrom, List.drop_eq_getElem_cons (by omega : j < xs.length), List.any_cons]; have e : xs[j]! = xs[j] := getElem!_pos xs j (by omega)
   by_cases hq : q xs[j] = true
   ·
    rw [if_pos (by rw [e]; exact hq), hq, Bool.true_or]; exact decide_eq_true (by omega)
   ·
    rw [if_neg (by rw [e]; exact hq), ih (j + 1) (by omega)]; simp only [Bool.not_eq_true] at hq; rw [hq, Bool.false_or]
theorem any_fst {α : Type} [Inhabited α] (q : α → Bool) (xs : List α) : decide (0 ≤ fstFrom (fun j => q xs[j]!) xs.length 0) = xs.any q := any_fst_ q xs xs.length 0 (by omega)
theorem impl_isExpr.index (E : Nat → Nat → Value) (p : Nat → Bool) (g : Nat) (lb : Array Value) (eg : ∀ args w, (callFunc g args).run Tryd.prog w = .ok (.enter g args) w) (b off n c : Nat) (w : World)
   (hp : ∀ j, j < n → ∀ W, Below w.heap.size w W → Calls Tryd.prog g (#[.agg #[E j 0, E j 1, E j 2, E j 3]] ++ lb) W fun e w' => e = .returned (.bool (p j)) ∧ Below w.heap.size w w')
   (hbig : n ≤ 9223372036854775807) (hb : b < w.heap.size) (hc : ∀ j, j < n → w.cell? ⟨b, off + j * 4, none⟩ = some (E j 0) ∧ w.cell? ⟨b, off + j * 4 + 1, none⟩ = some (E j 1) ∧ w.cell? ⟨b, off + j * 4 + 2, none⟩ = some (E j 2) ∧ w.cell? ⟨b, off + j * 4 + 3, none⟩ = some (E j 3)) :
   Calls Tryd.prog 64 #[.slice (some ⟨b, off, none⟩) n c, .func (.func g) #[] lb] w fun e w' => e = .returned (.int .i64 (fstFrom p n 0)) ∧ Below w.heap.size w w' := by
 have hrow : ∀ (W : World), Below w.heap.size w W → ∀ j, j < n → W.cell? ⟨b, off + j * 4, none⟩ = some (E j 0) ∧ W.cell? ⟨b, off + j * 4 + 1, none⟩ = some (E j 1) ∧ W.cell? ⟨b, off + j * 4 + 2, none⟩ = some (E j 2) ∧ W.cell? ⟨b, off + j * 4 + 3, none⟩ = some (E j 3) := fun W hW j hj =>
   let h := hc j hj; ⟨(hW.cell (p := ⟨b, off + j * 4, none⟩) hb).trans h.1, (hW.cell (p := ⟨b, off + j * 4 + 1, none⟩) hb).trans h.2.1, (hW.cell (p := ⟨b, off + j * 4 + 2, none⟩) hb).trans h.2.2.1, (hW.cell (p := ⟨b, off + j * 4 + 3, none⟩) hb).trans h.2.2.2⟩
 clear hc
 go_enter Tryd.func64, Tryd.ntmps64
 go_wp2
 go_loopg [5, 8] n (fun gg _ s8 wr => ∃ kk : Nat, kk ≤ n ∧ n - kk ≤ gg ∧ s8 = .int .i64 kk ∧ Aside0 (Below w.heap.size w wr) ∧ Aside0 (fstFrom p (n - kk) kk = fstFrom p n 0))
 case atStart => exact ⟨0, Nat.zero_le _, by omega, rfl, ⟨Below.refl _ w⟩, ⟨rfl⟩⟩
 case round =>
   obtain ⟨kk, hkk, hg, rfl, BW, A⟩ := hrel
   by_cases hlt : kk < n
   ·
    have hltz : (kk : Int) < (n : Int) := by omega
    have l2 := hrow wr BW.out kk (by omega); have hcall := hp kk hlt wr BW.out; clear hrow hp; generalize E kk 0 = y0 at l2 hcall; generalize E kk 1 = y1 at l2 hcall; generalize E kk 2 = y2 at l2 hcall; generalize E kk 3 = y3 at l2 hcall; obtain ⟨l2_0, l2_1, l2_2, l2_3⟩ := l2; cases hq : p kk with
    | true =>
     have HQ := Aside0.mk hq; rw [hq] at hcall; clear hq
     go_wp2_with (go_at_fn g; refine hcall.mono ?_; rintro e w' ⟨rfl, hb'⟩)
     go_ret
     refine ⟨?_, hb'⟩; rw [← A.out, fstFrom_hit p hlt HQ.out]; rfl
    | false =>
     have HQ := Aside0.mk hq; rw [hq] at hcall; clear hq
     go_wp2_with (go_at_fn g; refine hcall.mono ?_; rintro e w' ⟨rfl, hb'⟩)
     go_roundg (n - (kk + 1))
     case measure => omega
     case rel => exact ⟨kk + 1, by omega, by omega, by go_num, ⟨hb'⟩, ⟨(fstFrom_miss p hlt HQ.out).symm.trans A.out⟩⟩
   ·
    have hltz : ¬ (kk : Int) < (n : Int) := by omega
    have : kk = n := by omega
    subst this
    go_wp2
    go_ret
    refine ⟨?_, BW.out⟩; rw [← A.out, Nat.sub_self]; rfl
theorem impl_isExpr.index_none (A : Option Addr) (c : Nat) (f : Value) (w : World) :
   Calls Tryd.prog 64 #[.slice A 0 c, f] w fun e w' => e = .returned (.int .i64 (-1)) ∧ Below w.heap.size w w' := by
 go_enter Tryd.func64, Tryd.ntmps64
 go_wp2
 go_loopg [5, 8] 0 (fun gg _ s8 wr => s8 = .int .i64 0 ∧ Aside0 (Below w.heap.size w wr))
 case atStart => exact ⟨rfl, ⟨Below.refl _ w⟩⟩
 case round =>
   obtain ⟨rfl, BW⟩ := hrel
   go_wp2
   go_ret
   exact ⟨rfl, BW.out⟩
theorem impl_isExpr.contains {n : Nat} {b : Bool} (r : Int) (s f : Value) (hr : decide (0 ≤ r) = b) (w : World) (hi : Calls Tryd.prog 64 #[s, f] w fun e w' => e = .returned (.int .i64 r) ∧ Below w.heap.size w w') :
   Calls Tryd.prog 50 #[s, f] w fun e w' => e = .returned (.bool b) ∧ Below w.heap.size w w' := by
 have HR := Aside0.mk hr; clear hr
 go_enter Tryd.func50, Tryd.ntmps50
 go_wp2_with (go_at_call 64; refine hi.mono ?_; rintro e w' ⟨rfl, hb'⟩)
 go_ret
 exact ⟨by rw [← HR.out]; rfl, hb'⟩
theorem impl_isExpr.search {α : Type} (d : Kd α) (hd : d.sz = 4) (q : α → Bool) (g : Nat) (lb : Array Value) (eg : ∀ args w, (callFunc g args).run Tryd.prog w = .ok (.enter g args) w) (A : Option Addr) (c : Nat) (xs : List α) (w : World) (hr : d.C w A xs.length xs)
   (hbig : xs.length ≤ 9223372036854775807) (hp : ∀ x ∈ xs, ∀ cs, d.K w x cs → ∀ W, Below w.heap.size w W → Calls Tryd.prog g (#[.agg cs.toArray] ++ lb) W fun e w' => e = .returned (.bool (q x)) ∧ Below w.heap.size w w') :
   Calls Tryd.prog 50 #[.slice A xs.length c, .func (.func g) #[] lb] w fun e w' => e = .returned (.bool (xs.any q)) ∧ Below w.heap.size w w' := by
 rcases Nat.eq_zero_or_pos xs.length with h0 | h0
 ·
   obtain rfl := List.eq_nil_of_length_eq_zero h0; exact impl_isExpr.contains (n := 0) (-1) _ _ (by rfl) w (impl_isExpr.index_none A c _ w)
 ·
   haveI : Inhabited α := ⟨xs[0]⟩
   obtain ⟨⟨b, off, pp⟩, rfl, hcells⟩ := hr.2.2 h0
   have hlen : ∀ j, j < xs.length → ∃ cs : List Value, d.K w xs[j]! cs ∧ cs.length = 4 ∧ ∀ i v, cs[i]? = some v → w.cell? ((⟨b, off, pp⟩ : Addr).add (j * 4 + i)) = some v := fun j hj => by
    obtain ⟨cs, h1, hK, hce⟩ := hcells j xs[j] (List.getElem?_eq_getElem hj); refine ⟨cs, ?_, ?_, ?_⟩
    ·
     rw [getElem!_pos xs j hj]; exact hK
    ·
     rw [← hd]; exact d.K_len hK
    ·
     intro i v hv; have := hce i v hv
     rwa [hd] at this
   obtain ⟨cs0, hK0, hl0, hc0⟩ := hlen 0 h0; obtain ⟨v0, hv0⟩ : ∃ v, cs0[0]? = some v := ⟨cs0[0], List.getElem?_eq_getElem (by omega)⟩; have e0 := hc0 0 v0 hv0
   have hpn : pp = none := by
    cases pp with
    | none => rfl
    | some z =>
     simp only [Addr.add, World.cell?] at e0
     split at e0 <;> simp at e0
   subst hpn; have hb : b < w.heap.size := World.block_lt_of_cell? w _ e0
   let cs : Nat → List Value := fun j => if h : j < xs.length then Classical.choose (hlen j h) else []
   have hcs : ∀ j, j < xs.length → d.K w xs[j]! (cs j) ∧ (cs j).length = 4 ∧ ∀ i v, (cs j)[i]? = some v → w.cell? ((⟨b, off, none⟩ : Addr).add (j * 4 + i)) = some v := fun j hj => by
    show d.K w xs[j]! (if h : j < xs.length then Classical.choose (hlen j h) else []) ∧ _; have := Classical.choose_spec (hlen j hj); simp only [cs, dif_pos hj]; exact this
   have harr : ∀ j, j < xs.length → (cs j).toArray = #[(cs j)[0]!, (cs j)[1]!, (cs j)[2]!, (cs j)[3]!] := fun j hj => by
    have h4 := (hcs j hj).2.1
    match hq : cs j, h4 with
    | [x0, x1, x2, x3], _ => rfl
   refine impl_isExpr.contains (n := 0) (fstFrom (fun j => q xs[j]!) xs.length 0) _ _ ?_ w (impl_isExpr.index (fun j i => (cs j)[i]!) (fun j => q xs[j]!) g lb eg b off xs.length c w ?_ hbig hb ?_)
   ·
    exact any_fst q xs
   ·
    intro j hj W hW; have := hp xs[j]! (by rw [getElem!_pos xs j hj]; exact List.getElem_mem hj) (cs j) (hcs j hj).1 W hW; rw [harr j hj] at this; exact this
   ·
    intro j hj; have h := (hcs j hj).2.2; have h4 := (hcs j hj).2.1
    have one : ∀ i, i < 4 → w.cell? ⟨b, off + (j * 4 + i), none⟩ = some (cs j)[i]! := fun i hi => by
     have hi' : i < (cs j).length := by omega
     have e := h i (cs j)[i] (List.getElem?_eq_getElem hi'); rw [getElem!_pos (cs j) i hi']
     rwa [Addr.add_lit] at e
    exact ⟨one 0 (by decide), one 1 (by decide), one 2 (by decide), one 3 (by decide)⟩
def impl_isExpr.ok (k : Nat) (a0 : Int) (a1 : ByteArray) (a2 : Int) (l3 : List (S39)) : Option Bool :=
 if a0 = 1 then (impl_Node_hasOnly.f k a0 a1 a2 l3 false true 0).bind fun t => if t = true then impl_inRange.f a2 0 1000000 else some false
 else if a0 = 2 ∨ a0 = 4 then impl_Node_hasOnly.f k a0 a1 a2 l3 true false 0
 else if a0 = 3 then impl_Node_hasOnly.f k a0 a1 a2 l3 true false 1
 else if a0 = 5 then impl_Node_hasOnly.f k a0 a1 a2 l3 false false 1
 else if a0 = 6 ∨ a0 = 7 ∨ a0 = 8 then impl_Node_hasOnly.f k a0 a1 a2 l3 false false 2
 else some false
/-- Does f tell yes of all? Nothing if of one it tells nothing. -/
def allO {α : Type} (f : α → Option Bool) : List α → Option Bool
 | [] => some true
 | x :: xs => (f x).bind fun b => (allO f xs).bind fun c => some (b && c)
theorem allO_some {α : Type} (f : α → Option Bool) : ∀ (xs : List α) (r : Bool), allO f xs = some r → (∀ x ∈ xs, ∃ b, f x = some b) ∧ xs.any (fun x => !(f x).getD false) = !r := by
 intro xs
 induction xs with
 | nil => intro r h; simp only [allO, Option.some.injEq] at h; subst h; exact ⟨(fun x hx => by cases hx), rfl⟩
 | cons x xs ih =>
   intro r h; simp only [allO] at h; cases e : f x with
   | none => rw [e] at h; simp at h
   | some b =>
    cases e2 : allO f xs with
    | none => rw [e, e2] at h; simp at h
    | some c =>
     rw [e, e2] at h; simp only [Option.bind_some, Option.some.injEq] at h; obtain ⟨h1, h2⟩ := ih c e2; refine ⟨fun y hy => ?_, ?_⟩
     ·
      rcases List.mem_cons.1 hy with rfl | hy
      ·
       exact ⟨b, e⟩
      ·
       exact h1 y hy
     ·
      rw [List.any_cons, h2, e, ← h]; cases b <;> cases c <;> rfl
theorem allO_le {α : Type} {f g : α → Option Bool} (h : ∀ x r, f x = some r → g x = some r) : ∀ (xs : List α) (r : Bool), allO f xs = some r → allO g xs = some r := by
 intro xs
 induction xs with
 | nil => intro r h; exact h
 | cons x xs ih =>
   intro r hr; simp only [allO] at hr ⊢; cases e : f x with
   | none => rw [e] at hr; simp at hr
   | some b =>
    cases e2 : allO f xs with
    | none => rw [e, e2] at hr; simp at hr
    | some c => rw [h _ _ e, ih c e2]; rw [e, e2] at hr; exact hr
def impl_isExpr.f : Nat → Int → ByteArray → Int → List (S39) → Option Bool
 | 0, _, _, _, _ => none
 | k + 1, a0, a1, a2, l3 => (impl_isExpr.ok k a0 a1 a2 l3).bind fun t => if t = true then (if l3.length ≤ 9223372036854775807 then allO (fun y => impl_isExpr.f k y.f0 y.f1 y.f2 y.f3) l3 else none) else some false
theorem impl_isExpr.ok_le (k : Nat) (a0 : Int) (a1 : ByteArray) (a2 : Int) (l3 : List (S39)) : LeO (impl_isExpr.ok k a0 a1 a2 l3) (impl_isExpr.ok (k + 1) a0 a1 a2 l3) := by
 have hm := impl_Node_hasOnly.mono; unfold impl_isExpr.ok
 repeat' split
 all_goals first
   | exact LeO.bind (hm _ _ _ _ _ _ _ _) (fun _ => LeO.refl _)
   | exact hm _ _ _ _ _ _ _ _
   | exact LeO.refl _
theorem impl_isExpr.mono : ∀ a0 a1 a2 a3 k, LeO (impl_isExpr.f k a0 a1 a2 a3) (impl_isExpr.f (k + 1) a0 a1 a2 a3) := by
 intro a0 a1 a2 a3 k
 induction k generalizing a0 a1 a2 a3 with
 | zero => intro r h; simp [impl_isExpr.f] at h
 | succ k ih =>
   rw [impl_isExpr.f, impl_isExpr.f]; refine LeO.bind (impl_isExpr.ok_le k a0 a1 a2 a3) (fun t => ?_); refine LeO.ite (LeO.ite ?_ (LeO.refl _)) (LeO.refl _); intro r h; exact allO_le (fun x r h => ih _ _ _ _ r h) a3 r h
set_option maxRecDepth 100000 in
theorem impl_isExpr.lit (k : Nat) (y0 : Int) (y1 : ByteArray) (y2 : Int) (t : Bool) (A : Option Addr) (n c : Nat) (W0 w : World) (hb : Below W0.heap.size W0 w)
   (ih : ∀ W, Below w.heap.size w W → Calls Tryd.prog 30 #[.agg #[.int .i64 y0, .string y1, .int .i64 y2, .slice A n c]] W fun e w' => e = .returned (.bool t) ∧ Below W.heap.size W w') :
   Calls Tryd.prog 51 (#[.agg #[.int .i64 y0, .string y1, .int .i64 y2, .slice A n c]] ++ #[]) w fun e w' => e = .returned (.bool (!t)) ∧ Below W0.heap.size W0 w' := by
 show Calls Tryd.prog 51 #[.agg #[.int .i64 y0, .string y1, .int .i64 y2, .slice A n c]] w _
 go_enter Tryd.func51, Tryd.ntmps51
 go_wp2_with (go_at_call 30; refine (ih _ ((Below.refl _ w).alloc (Nat.le_refl _) _)).mono ?_; rintro e w' ⟨rfl, hb'⟩)
 go_ret
 exact ⟨rfl, (hb.alloc hb.size _).trans (hb'.mono (by have := hb.size; simp; omega))⟩
theorem bcell_ {W w1 : World} (hb : Below W.heap.size W w1) : (∀ b o, b < W.heap.size → w1.cell? ⟨b, o, none⟩ = W.cell? ⟨b, o, none⟩) ∧ (∀ b o, b < W.heap.size → w1.frozen? ⟨b, o, none⟩ = W.frozen? ⟨b, o, none⟩) :=
 ⟨fun b o h => hb.cell (p := ⟨b, o, none⟩) h, fun b o h => hb.frozen (p := ⟨b, o, none⟩) h⟩
set_option maxRecDepth 100000 in
set_option maxHeartbeats 4000000 in
theorem impl_isExpr.walk_2 (a0 : Int) (a1 : ByteArray) (a2 : Int) (A : Option Addr) (n c : Nat) (t r : Bool) (w : World)
  (hs : t = true → ∀ W, Below w.heap.size w W → Calls Tryd.prog 50 #[.slice A n c, .func (.func 51) #[] #[]] W fun e w' => e = .returned (.bool (!r)) ∧ Below W.heap.size W w')
  (hf : t = false → r = false)
  (ho : ∀ W, Below w.heap.size w W → Calls Tryd.prog 48 #[.agg #[.int .i64 2, .string a1, .int .i64 a2, .slice A n c], .bool true, .bool false, .int .i64 0] W fun e w' => e = .returned (.bool t) ∧ Below W.heap.size W w') :
  Calls Tryd.prog 30 #[.agg #[.int .i64 2, .string a1, .int .i64 a2, .slice A n c]] w fun e w' => e = .returned (.bool r) ∧ Below w.heap.size w w' := by
 cases t with
 | true =>
   have hs' := hs rfl; clear hs hf
   go_enter Tryd.func30, Tryd.ntmps30
   go_wp2_with (first | (go_at_call 48; refine (ho _ ((Below.refl _ w).alloc (Nat.le_refl _) _)).mono ?_; rintro e w1 ⟨rfl, hb1⟩; obtain ⟨hcc, hff⟩ := bcell_ hb1; have hz : w.heap.size < w1.heap.size := by have := hb1.size; simp at this; omega) | (go_at_call 50; refine (hs' _ ((((Below.refl _ w).alloc (Nat.le_refl _) _).trans (hb1.mono (by simp))))).mono ?_; rintro e w2 ⟨rfl, hb2⟩))
   go_ret
   exact ⟨by simp, ((((Below.refl _ w).alloc (Nat.le_refl _) _).trans (hb1.mono (by simp)))).trans (hb2.mono (by omega))⟩
 | false =>
   have hf' := hf rfl; clear hs hf; subst hf'
   go_enter Tryd.func30, Tryd.ntmps30
   go_wp2_with (first | (go_at_call 48; refine (ho _ ((Below.refl _ w).alloc (Nat.le_refl _) _)).mono ?_; rintro e w1 ⟨rfl, hb1⟩; obtain ⟨hcc, hff⟩ := bcell_ hb1; have hz : w.heap.size < w1.heap.size := by have := hb1.size; simp at this; omega))
   go_ret
   exact ⟨rfl, (((Below.refl _ w).alloc (Nat.le_refl _) _).trans (hb1.mono (by simp)))⟩
set_option maxRecDepth 100000 in
set_option maxHeartbeats 4000000 in
theorem impl_isExpr.walk_4 (a0 : Int) (a1 : ByteArray) (a2 : Int) (A : Option Addr) (n c : Nat) (t r : Bool) (w : World)
  (hs : t = true → ∀ W, Below w.heap.size w W → Calls Tryd.prog 50 #[.slice A n c, .func (.func 51) #[] #[]] W fun e w' => e = .returned (.bool (!r)) ∧ Below W.heap.size W w')
  (hf : t = false → r = false)
  (ho : ∀ W, Below w.heap.size w W → Calls Tryd.prog 48 #[.agg #[.int .i64 4, .string a1, .int .i64 a2, .slice A n c], .bool true, .bool false, .int .i64 0] W fun e w' => e = .returned (.bool t) ∧ Below W.heap.size W w') :
  Calls Tryd.prog 30 #[.agg #[.int .i64 4, .string a1, .int .i64 a2, .slice A n c]] w fun e w' => e = .returned (.bool r) ∧ Below w.heap.size w w' := by
 cases t with
 | true =>
   have hs' := hs rfl; clear hs hf
   go_enter Tryd.func30, Tryd.ntmps30
   go_wp2_with (first | (go_at_call 48; refine (ho _ ((Below.refl _ w).alloc (Nat.le_refl _) _)).mono ?_; rintro e w1 ⟨rfl, hb1⟩; obtain ⟨hcc, hff⟩ := bcell_ hb1; have hz : w.heap.size < w1.heap.size := by have := hb1.size; simp at this; omega) | (go_at_call 50; refine (hs' _ ((((Below.refl _ w).alloc (Nat.le_refl _) _).trans (hb1.mono (by simp))))).mono ?_; rintro e w2 ⟨rfl, hb2⟩))
   go_ret
   exact ⟨by simp, ((((Below.refl _ w).alloc (Nat.le_refl _) _).trans (hb1.mono (by simp)))).trans (hb2.mono (by omega))⟩
 | false =>
   have hf' := hf rfl; clear hs hf; subst hf'
   go_enter Tryd.func30, Tryd.ntmps30
   go_wp2_with (first | (go_at_call 48; refine (ho _ ((Below.refl _ w).alloc (Nat.le_refl _) _)).mono ?_; rintro e w1 ⟨rfl, hb1⟩; obtain ⟨hcc, hff⟩ := bcell_ hb1; have hz : w.heap.size < w1.heap.size := by have := hb1.size; simp at this; omega))
   go_ret
   exact ⟨rfl, (((Below.refl _ w).alloc (Nat.le_refl _) _).trans (hb1.mono (by simp)))⟩
set_option maxRecDepth 100000 in
set_option maxHeartbeats 4000000 in
theorem impl_isExpr.walk_3 (a0 : Int) (a1 : ByteArray) (a2 : Int) (A : Option Addr) (n c : Nat) (t r : Bool) (w : World)
  (hs : t = true → ∀ W, Below w.heap.size w W → Calls Tryd.prog 50 #[.slice A n c, .func (.func 51) #[] #[]] W fun e w' => e = .returned (.bool (!r)) ∧ Below W.heap.size W w')
  (hf : t = false → r = false)
  (ho : ∀ W, Below w.heap.size w W → Calls Tryd.prog 48 #[.agg #[.int .i64 3, .string a1, .int .i64 a2, .slice A n c], .bool true, .bool false, .int .i64 1] W fun e w' => e = .returned (.bool t) ∧ Below W.heap.size W w') :
  Calls Tryd.prog 30 #[.agg #[.int .i64 3, .string a1, .int .i64 a2, .slice A n c]] w fun e w' => e = .returned (.bool r) ∧ Below w.heap.size w w' := by
 cases t with
 | true =>
   have hs' := hs rfl; clear hs hf
   go_enter Tryd.func30, Tryd.ntmps30
   go_wp2_with (first | (go_at_call 48; refine (ho _ ((Below.refl _ w).alloc (Nat.le_refl _) _)).mono ?_; rintro e w1 ⟨rfl, hb1⟩; obtain ⟨hcc, hff⟩ := bcell_ hb1; have hz : w.heap.size < w1.heap.size := by have := hb1.size; simp at this; omega) | (go_at_call 50; refine (hs' _ ((((Below.refl _ w).alloc (Nat.le_refl _) _).trans (hb1.mono (by simp))))).mono ?_; rintro e w2 ⟨rfl, hb2⟩))
   go_ret
   exact ⟨by simp, ((((Below.refl _ w).alloc (Nat.le_refl _) _).trans (hb1.mono (by simp)))).trans (hb2.mono (by omega))⟩
 | false =>
   have hf' := hf rfl; clear hs hf; subst hf'
   go_enter Tryd.func30, Tryd.ntmps30
   go_wp2_with (first | (go_at_call 48; refine (ho _ ((Below.refl _ w).alloc (Nat.le_refl _) _)).mono ?_; rintro e w1 ⟨rfl, hb1⟩; obtain ⟨hcc, hff⟩ := bcell_ hb1; have hz : w.heap.size < w1.heap.size := by have := hb1.size; simp at this; omega))
   go_ret
   exact ⟨rfl, (((Below.refl _ w).alloc (Nat.le_refl _) _).trans (hb1.mono (by simp)))⟩
set_option maxRecDepth 100000 in
set_option maxHeartbeats 4000000 in
theorem impl_isExpr.walk_5 (a0 : Int) (a1 : ByteArray) (a2 : Int) (A : Option Addr) (n c : Nat) (t r : Bool) (w : World)
  (hs : t = true → ∀ W, Below w.heap.size w W → Calls Tryd.prog 50 #[.slice A n c, .func (.func 51) #[] #[]] W fun e w' => e = .returned (.bool (!r)) ∧ Below W.heap.size W w')
  (hf : t = false → r = false)
  (ho : ∀ W, Below w.heap.size w W → Calls Tryd.prog 48 #[.agg #[.int .i64 5, .string a1, .int .i64 a2, .slice A n c], .bool false, .bool false, .int .i64 1] W fun e w' => e = .returned (.bool t) ∧ Below W.heap.size W w') :
  Calls Tryd.prog 30 #[.agg #[.int .i64 5, .string a1, .int .i64 a2, .slice A n c]] w fun e w' => e = .returned (.bool r) ∧ Below w.heap.size w w' := by
 cases t with
 | true =>
   have hs' := hs rfl; clear hs hf
   go_enter Tryd.func30, Tryd.ntmps30
   go_wp2_with (first | (go_at_call 48; refine (ho _ ((Below.refl _ w).alloc (Nat.le_refl _) _)).mono ?_; rintro e w1 ⟨rfl, hb1⟩; obtain ⟨hcc, hff⟩ := bcell_ hb1; have hz : w.heap.size < w1.heap.size := by have := hb1.size; simp at this; omega) | (go_at_call 50; refine (hs' _ ((((Below.refl _ w).alloc (Nat.le_refl _) _).trans (hb1.mono (by simp))))).mono ?_; rintro e w2 ⟨rfl, hb2⟩))
   go_ret
   exact ⟨by simp, ((((Below.refl _ w).alloc (Nat.le_refl _) _).trans (hb1.mono (by simp)))).trans (hb2.mono (by omega))⟩
 | false =>
   have hf' := hf rfl; clear hs hf; subst hf'
   go_enter Tryd.func30, Tryd.ntmps30
   go_wp2_with (first | (go_at_call 48; refine (ho _ ((Below.refl _ w).alloc (Nat.le_refl _) _)).mono ?_; rintro e w1 ⟨rfl, hb1⟩; obtain ⟨hcc, hff⟩ := bcell_ hb1; have hz : w.heap.size < w1.heap.size := by have := hb1.size; simp at this; omega))
   go_ret
   exact ⟨rfl, (((Below.refl _ w).alloc (Nat.le_refl _) _).trans (hb1.mono (by simp)))⟩
set_option maxRecDepth 100000 in
set_option maxHeartbeats 4000000 in
theorem impl_isExpr.walk_6 (a0 : Int) (a1 : ByteArray) (a2 : Int) (A : Option Addr) (n c : Nat) (t r : Bool) (w : World)
  (hs : t = true → ∀ W, Below w.heap.size w W → Calls Tryd.prog 50 #[.slice A n c, .func (.func 51) #[] #[]] W fun e w' => e = .returned (.bool (!r)) ∧ Below W.heap.size W w')
  (hf : t = false → r = false)
  (ho : ∀ W, Below w.heap.size w W → Calls Tryd.prog 48 #[.agg #[.int .i64 6, .string a1, .int .i64 a2, .slice A n c], .bool false, .bool false, .int .i64 2] W fun e w' => e = .returned (.bool t) ∧ Below W.heap.size W w') :
  Calls Tryd.prog 30 #[.agg #[.int .i64 6, .string a1, .int .i64 a2, .slice A n c]] w fun e w' => e = .returned (.bool r) ∧ Below w.heap.size w w' := by
 cases t with
 | true =>
   have hs' := hs rfl; clear hs hf
   go_enter Tryd.func30, Tryd.ntmps30
   go_wp2_with (first | (go_at_call 48; refine (ho _ ((Below.refl _ w).alloc (Nat.le_refl _) _)).mono ?_; rintro e w1 ⟨rfl, hb1⟩; obtain ⟨hcc, hff⟩ := bcell_ hb1; have hz : w.heap.size < w1.heap.size := by have := hb1.size; simp at this; omega) | (go_at_call 50; refine (hs' _ ((((Below.refl _ w).alloc (Nat.le_refl _) _).trans (hb1.mono (by simp))))).mono ?_; rintro e w2 ⟨rfl, hb2⟩))
   go_ret
   exact ⟨by simp, ((((Below.refl _ w).alloc (Nat.le_refl _) _).trans (hb1.mono (by simp)))).trans (hb2.mono (by omega))⟩
 | false =>
   have hf' := hf rfl; clear hs hf; subst hf'
   go_enter Tryd.func30, Tryd.ntmps30
   go_wp2_with (first | (go_at_call 48; refine (ho _ ((Below.refl _ w).alloc (Nat.le_refl _) _)).mono ?_; rintro e w1 ⟨rfl, hb1⟩; obtain ⟨hcc, hff⟩ := bcell_ hb1; have hz : w.heap.size < w1.heap.size := by have := hb1.size; simp at this; omega))
   go_ret
   exact ⟨rfl, (((Below.refl _ w).alloc (Nat.le_refl _) _).trans (hb1.mono (by simp)))⟩
set_option maxRecDepth 100000 in
set_option maxHeartbeats 4000000 in
theorem impl_isExpr.walk_7 (a0 : Int) (a1 : ByteArray) (a2 : Int) (A : Option Addr) (n c : Nat) (t r : Bool) (w : World)
  (hs : t = true → ∀ W, Below w.heap.size w W → Calls Tryd.prog 50 #[.slice A n c, .func (.func 51) #[] #[]] W fun e w' => e = .returned (.bool (!r)) ∧ Below W.heap.size W w')
  (hf : t = false → r = false)
  (ho : ∀ W, Below w.heap.size w W → Calls Tryd.prog 48 #[.agg #[.int .i64 7, .string a1, .int .i64 a2, .slice A n c], .bool false, .bool false, .int .i64 2] W fun e w' => e = .returned (.bool t) ∧ Below W.heap.size W w') :
  Calls Tryd.prog 30 #[.agg #[.int .i64 7, .string a1, .int .i64 a2, .slice A n c]] w fun e w' => e = .returned (.bool r) ∧ Below w.heap.size w w' := by
 cases t with
 | true =>
   have hs' := hs rfl; clear hs hf
   go_enter Tryd.func30, Tryd.ntmps30
   go_wp2_with (first | (go_at_call 48; refine (ho _ ((Below.refl _ w).alloc (Nat.le_refl _) _)).mono ?_; rintro e w1 ⟨rfl, hb1⟩; obtain ⟨hcc, hff⟩ := bcell_ hb1; have hz : w.heap.size < w1.heap.size := by have := hb1.size; simp at this; omega) | (go_at_call 50; refine (hs' _ ((((Below.refl _ w).alloc (Nat.le_refl _) _).trans (hb1.mono (by simp))))).mono ?_; rintro e w2 ⟨rfl, hb2⟩))
   go_ret
   exact ⟨by simp, ((((Below.refl _ w).alloc (Nat.le_refl _) _).trans (hb1.mono (by simp)))).trans (hb2.mono (by omega))⟩
 | false =>
   have hf' := hf rfl; clear hs hf; subst hf'
   go_enter Tryd.func30, Tryd.ntmps30
   go_wp2_with (first | (go_at_call 48; refine (ho _ ((Below.refl _ w).alloc (Nat.le_refl _) _)).mono ?_; rintro e w1 ⟨rfl, hb1⟩; obtain ⟨hcc, hff⟩ := bcell_ hb1; have hz : w.heap.size < w1.heap.size := by have := hb1.size; simp at this; omega))
   go_ret
   exact ⟨rfl, (((Below.refl _ w).alloc (Nat.le_refl _) _).trans (hb1.mono (by simp)))⟩
set_option maxRecDepth 100000 in
set_option maxHeartbeats 4000000 in
theorem impl_isExpr.walk_8 (a0 : Int) (a1 : ByteArray) (a2 : Int) (A : Option Addr) (n c : Nat) (t r : Bool) (w : World)
  (hs : t = true → ∀ W, Below w.heap.size w W → Calls Tryd.prog 50 #[.slice A n c, .func (.func 51) #[] #[]] W fun e w' => e = .returned (.bool (!r)) ∧ Below W.heap.size W w')
  (hf : t = false → r = false)
  (ho : ∀ W, Below w.heap.size w W → Calls Tryd.prog 48 #[.agg #[.int .i64 8, .string a1, .int .i64 a2, .slice A n c], .bool false, .bool false, .int .i64 2] W fun e w' => e = .returned (.bool t) ∧ Below W.heap.size W w') :
  Calls Tryd.prog 30 #[.agg #[.int .i64 8, .string a1, .int .i64 a2, .slice A n c]] w fun e w' => e = .returned (.bool r) ∧ Below w.heap.size w w' := by
 cases t with
 | true =>
   have hs' := hs rfl; clear hs hf
   go_enter Tryd.func30, Tryd.ntmps30
   go_wp2_with (first | (go_at_call 48; refine (ho _ ((Below.refl _ w).alloc (Nat.le_refl _) _)).mono ?_; rintro e w1 ⟨rfl, hb1⟩; obtain ⟨hcc, hff⟩ := bcell_ hb1; have hz : w.heap.size < w1.heap.size := by have := hb1.size; simp at this; omega) | (go_at_call 50; refine (hs' _ ((((Below.refl _ w).alloc (Nat.le_refl _) _).trans (hb1.mono (by simp))))).mono ?_; rintro e w2 ⟨rfl, hb2⟩))
   go_ret
   exact ⟨by simp, ((((Below.refl _ w).alloc (Nat.le_refl _) _).trans (hb1.mono (by simp)))).trans (hb2.mono (by omega))⟩
 | false =>
   have hf' := hf rfl; clear hs hf; subst hf'
   go_enter Tryd.func30, Tryd.ntmps30
   go_wp2_with (first | (go_at_call 48; refine (ho _ ((Below.refl _ w).alloc (Nat.le_refl _) _)).mono ?_; rintro e w1 ⟨rfl, hb1⟩; obtain ⟨hcc, hff⟩ := bcell_ hb1; have hz : w.heap.size < w1.heap.size := by have := hb1.size; simp at this; omega))
   go_ret
   exact ⟨rfl, (((Below.refl _ w).alloc (Nat.le_refl _) _).trans (hb1.mono (by simp)))⟩
set_option maxRecDepth 100000 in
set_option maxHeartbeats 4000000 in
theorem impl_isExpr.walk_1yes (a0 : Int) (a1 : ByteArray) (a2 : Int) (A : Option Addr) (n c : Nat) (t r : Bool) (w : World)
  (hs : t = true → ∀ W, Below w.heap.size w W → Calls Tryd.prog 50 #[.slice A n c, .func (.func 51) #[] #[]] W fun e w' => e = .returned (.bool (!r)) ∧ Below W.heap.size W w')
  (hf : t = false → r = false)
  (ho : ∀ W, Below w.heap.size w W → Calls Tryd.prog 48 #[.agg #[.int .i64 1, .string a1, .int .i64 a2, .slice A n c], .bool false, .bool true, .int .i64 0] W fun e w' => e = .returned (.bool true) ∧ Below W.heap.size W w')
  (hi : ∀ W, Calls Tryd.prog 49 #[.int .i64 a2, .int .i64 0, .int .i64 1000000] W fun e w' => e = .returned (.bool t) ∧ Below W.heap.size W w') :
  Calls Tryd.prog 30 #[.agg #[.int .i64 1, .string a1, .int .i64 a2, .slice A n c]] w fun e w' => e = .returned (.bool r) ∧ Below w.heap.size w w' := by
 cases t with
 | true =>
   have hs' := hs rfl; clear hs hf
   go_enter Tryd.func30, Tryd.ntmps30
   go_wp2_with (first | (go_at_call 48; refine (ho _ ((Below.refl _ w).alloc (Nat.le_refl _) _)).mono ?_; rintro e w1 ⟨rfl, hb1⟩; obtain ⟨hcc, hff⟩ := bcell_ hb1; have hz : w.heap.size < w1.heap.size := by have := hb1.size; simp at this; omega) | (go_at_call 49; refine (hi _).mono ?_; rintro e w3 ⟨rfl, hb3⟩; replace hb1 := hb1.trans (hb3.mono hb1.size); clear hcc hff hz hb3; obtain ⟨hcc, hff⟩ := bcell_ hb1; have hz : w.heap.size < w3.heap.size := by have := hb1.size; simp at this; omega) | (go_at_call 50; refine (hs' _ ((((Below.refl _ w).alloc (Nat.le_refl _) _).trans (hb1.mono (by simp))))).mono ?_; rintro e w2 ⟨rfl, hb2⟩))
   go_ret
   exact ⟨by simp, ((((Below.refl _ w).alloc (Nat.le_refl _) _).trans (hb1.mono (by simp)))).trans (hb2.mono (by omega))⟩
 | false =>
   have hf' := hf rfl; clear hs hf; subst hf'
   go_enter Tryd.func30, Tryd.ntmps30
   go_wp2_with (first | (go_at_call 48; refine (ho _ ((Below.refl _ w).alloc (Nat.le_refl _) _)).mono ?_; rintro e w1 ⟨rfl, hb1⟩; obtain ⟨hcc, hff⟩ := bcell_ hb1; have hz : w.heap.size < w1.heap.size := by have := hb1.size; simp at this; omega) | (go_at_call 49; refine (hi _).mono ?_; rintro e w3 ⟨rfl, hb3⟩; replace hb1 := hb1.trans (hb3.mono hb1.size); clear hcc hff hz hb3; obtain ⟨hcc, hff⟩ := bcell_ hb1; have hz : w.heap.size < w3.heap.size := by have := hb1.size; simp at this; omega))
   go_ret
   exact ⟨rfl, (((Below.refl _ w).alloc (Nat.le_refl _) _).trans (hb1.mono (by simp)))⟩
set_option maxRecDepth 100000 in
set_option maxHeartbeats 4000000 in
theorem impl_isExpr.walk_other (a0 : Int) (a1 : ByteArray) (a2 : Int) (A : Option Addr) (n c : Nat) (w : World) (hk : ¬ (1 ≤ a0 ∧ a0 ≤ 8)) :
  Calls Tryd.prog 30 #[.agg #[.int .i64 a0, .string a1, .int .i64 a2, .slice A n c]] w fun e w' => e = .returned (.bool false) ∧ Below w.heap.size w w' := by
 have q1 : (a0 == 1) = false := beq_eq_false_iff_ne.2 (by omega); have q2 : (a0 == 2) = false := beq_eq_false_iff_ne.2 (by omega); have q3 : (a0 == 3) = false := beq_eq_false_iff_ne.2 (by omega); have q4 : (a0 == 4) = false := beq_eq_false_iff_ne.2 (by omega); have q5 : (a0 == 5) = false := beq_eq_false_iff_ne.2 (by omega); have q6 : (a0 == 6) = false := beq_eq_false_iff_ne.2 (by omega); have q7 : (a0 == 7) = false := beq_eq_false_iff_ne.2 (by omega); have q8 : (a0 == 8) = false := beq_eq_false_iff_ne.2 (by omega); clear hk
 go_enter Tryd.func30, Tryd.ntmps30
 go_wp2
 go_ret
 exact ⟨rfl, (Below.refl _ w).alloc (Nat.le_refl _) _⟩
set_option maxRecDepth 100000 in
set_option maxHeartbeats 4000000 in
theorem impl_isExpr.walk_1no (a1 : ByteArray) (a2 : Int) (A : Option Addr) (n c : Nat) (w : World)
  (ho : ∀ W, Below w.heap.size w W → Calls Tryd.prog 48 #[.agg #[.int .i64 1, .string a1, .int .i64 a2, .slice A n c], .bool false, .bool true, .int .i64 0] W fun e w' => e = .returned (.bool false) ∧ Below W.heap.size W w') :
  Calls Tryd.prog 30 #[.agg #[.int .i64 1, .string a1, .int .i64 a2, .slice A n c]] w fun e w' => e = .returned (.bool false) ∧ Below w.heap.size w w' := by
 go_enter Tryd.func30, Tryd.ntmps30
 go_wp2_with (go_at_call 48; refine (ho _ ((Below.refl _ w).alloc (Nat.le_refl _) _)).mono ?_; rintro e w1 ⟨rfl, hb1⟩; obtain ⟨hcc, hff⟩ := bcell_ hb1; have hz : w.heap.size < w1.heap.size := by have := hb1.size; simp at this; omega)
 go_ret
 exact ⟨rfl, ((Below.refl _ w).alloc (Nat.le_refl _) _).trans (hb1.mono (by simp))⟩
theorem impl_isExpr.walk (k : Nat) (a0 : Int) (a1 : ByteArray) (a2 : Int) (A : Option Addr) (n c : Nat) (t r : Bool) (w : World) (l : List (S39)) (e : impl_isExpr.ok k a0 a1 a2 l = some t)
  (hs : t = true → ∀ W, Below w.heap.size w W → Calls Tryd.prog 50 #[.slice A n c, .func (.func 51) #[] #[]] W fun e w' => e = .returned (.bool (!r)) ∧ Below W.heap.size W w')
  (hf : t = false → r = false)
  (ho : ∀ (nm num : Bool) (kids : Int) (o : Bool), impl_Node_hasOnly.f k a0 a1 a2 l nm num kids = some o → ∀ W, Below w.heap.size w W → Calls Tryd.prog 48 #[.agg #[.int .i64 a0, .string a1, .int .i64 a2, .slice A n c], .bool nm, .bool num, .int .i64 kids] W fun e w' => e = .returned (.bool o) ∧ Below W.heap.size W w') :
  Calls Tryd.prog 30 #[.agg #[.int .i64 a0, .string a1, .int .i64 a2, .slice A n c]] w fun e w' => e = .returned (.bool r) ∧ Below w.heap.size w w' := by
 unfold impl_isExpr.ok at e
 by_cases h1 : a0 = 1
 ·
   subst h1; rw [if_pos rfl] at e; cases e1 : impl_Node_hasOnly.f k 1 a1 a2 l false true 0 with
   | none => rw [e1] at e; simp at e
   | some t1 =>
    rw [e1, Option.bind_some] at e; cases t1 with
    | true =>
     rw [if_pos rfl] at e; exact impl_isExpr.walk_1yes 1 a1 a2 A n c t r w hs hf (ho _ _ _ _ e1) (fun W => (impl_inRange.calls a2 0 1000000 t W e).mono fun e w' h => ⟨h.1, h.2.below⟩)
    | false =>
     rw [if_neg (by decide)] at e; obtain rfl := Option.some.inj e; rw [hf rfl]; exact impl_isExpr.walk_1no a1 a2 A n c w (ho _ _ _ _ e1)
 rw [if_neg h1] at e
 by_cases h : a0 = 2 ∨ a0 = 4
 ·
   rw [if_pos h] at e
   rcases h with rfl | rfl
   ·
    exact impl_isExpr.walk_2 2 a1 a2 A n c t r w hs hf (ho _ _ _ _ e)
   ·
    exact impl_isExpr.walk_4 4 a1 a2 A n c t r w hs hf (ho _ _ _ _ e)
 rw [if_neg h] at e; have g2 := h; clear h
 by_cases h : a0 = 3
 ·
   rw [if_pos h] at e; subst h; exact impl_isExpr.walk_3 3 a1 a2 A n c t r w hs hf (ho _ _ _ _ e)
 rw [if_neg h] at e; have g3 := h; clear h
 by_cases h : a0 = 5
 ·
   rw [if_pos h] at e; subst h; exact impl_isExpr.walk_5 5 a1 a2 A n c t r w hs hf (ho _ _ _ _ e)
 rw [if_neg h] at e; have g5 := h; clear h
 by_cases h : a0 = 6 ∨ a0 = 7 ∨ a0 = 8
 ·
   rw [if_pos h] at e
   rcases h with rfl | rfl | rfl
   ·
    exact impl_isExpr.walk_6 6 a1 a2 A n c t r w hs hf (ho _ _ _ _ e)
   ·
    exact impl_isExpr.walk_7 7 a1 a2 A n c t r w hs hf (ho _ _ _ _ e)
   ·
    exact impl_isExpr.walk_8 8 a1 a2 A n c t r w hs hf (ho _ _ _ _ e)
 rw [if_neg h] at e; have g6 := h; clear h; obtain rfl := Option.some.inj e; rw [hf rfl]; exact impl_isExpr.walk_other a0 a1 a2 A n c w (by omega)
set_option maxRecDepth 100000 in
set_option maxHeartbeats 4000000 in
theorem impl_isExpr.calls (k : Nat) : ∀ (a0_0 : Int) (a0_1 : ByteArray) (a0_2 : Int) (A0_3 : Option Addr) (c0_3 : Nat) (l0_3 : List (S39)) (r : Bool) (w : World) (hG0 : GL0 w) (hG1 : GL1 w) (hG2 : GL2 w) (hG3 : GL3 w) (hr0_3 : Kd.C k39 w A0_3 l0_3.length l0_3) (hc0_3 : l0_3.length ≤ c0_3) (h : impl_isExpr.f k a0_0 a0_1 a0_2 l0_3 = some r),
   Calls Tryd.prog 30 #[.agg #[.int .i64 a0_0, .string a0_1, .int .i64 a0_2, .slice A0_3 l0_3.length c0_3]] w fun e w' => e = .returned (.bool r) ∧ Below w.heap.size w w' := by
 induction k with
 | zero => intro a0 a1 a2 A c l r w hG0 hG1 hG2 hG3 hr hc h; simp [impl_isExpr.f] at h
 | succ k ih =>
   intro a0 a1 a2 A c l r w hG0 hG1 hG2 hG3 hr hc h; rw [impl_isExpr.f] at h; cases e : impl_isExpr.ok k a0 a1 a2 l with
   | none => rw [e] at h; simp at h
   | some t =>
    rw [e, Option.bind_some] at h
    have hs : t = true → ∀ W, Below w.heap.size w W → Calls Tryd.prog 50 #[.slice A l.length c, .func (.func 51) #[] #[]] W fun e w' => e = .returned (.bool (!r)) ∧ Below W.heap.size W w' := fun ht W hW => by
     rw [if_pos ht] at h
     split at h
     ·
      rename_i hlen
      obtain ⟨h1, h2⟩ := allO_some _ _ _ h; rw [← h2]; refine impl_isExpr.search k39 rfl (fun x => !(impl_isExpr.f k x.f0 x.f1 x.f2 x.f3).getD false) 51 #[] (enters_of Tryd.func51 (by kernel_rfl) rfl) A c l W (Kd.C_below hr hW) hlen (fun x hx cs hK W2 hW2 => ?_); obtain ⟨A2, c2, o2, l2, r2⟩ := k39_open hK; subst o2; obtain ⟨b, hb⟩ := h1 x hx; rw [hb]; exact impl_isExpr.lit k _ _ _ b A2 _ c2 W W2 hW2 (fun W3 hW3 => ih _ _ _ _ _ _ b W3 (GL0.below hG0 (hW.trans ((hW2.trans (hW3.mono hW2.size)).mono hW.size))) (GL1.below hG1 (hW.trans ((hW2.trans (hW3.mono hW2.size)).mono hW.size))) (GL2.below hG2 (hW.trans ((hW2.trans (hW3.mono hW2.size)).mono hW.size))) (GL3.below hG3 (hW.trans ((hW2.trans (hW3.mono hW2.size)).mono hW.size))) (Kd.C_below r2 (hW2.trans (hW3.mono hW2.size))) l2 hb)
     ·
      cases h
    have hf : t = false → r = false := fun ht => by
     rw [if_neg (by rw [ht]; decide)] at h; exact (Option.some.inj h).symm
    have ho : ∀ (nm num : Bool) (kids : Int) (o : Bool), impl_Node_hasOnly.f k a0 a1 a2 l nm num kids = some o → ∀ W, Below w.heap.size w W → Calls Tryd.prog 48 #[.agg #[.int .i64 a0, .string a1, .int .i64 a2, .slice A l.length c], .bool nm, .bool num, .int .i64 kids] W fun e w' => e = .returned (.bool o) ∧ Below W.heap.size W w' :=
     fun nm num kids o e W hW => impl_Node_hasOnly.calls k a0 a1 a2 A c l nm num kids o W (GL0.below hG0 hW) (GL1.below hG1 hW) (GL2.below hG2 hW) (GL3.below hG3 hW) (Kd.C_below hr hW) hc e
    clear h ih hr; exact impl_isExpr.walk k a0 a1 a2 A l.length c t r w l e hs hf ho


end Go.Proofs.YtmkppdeoepfpoaaDoor.Q
