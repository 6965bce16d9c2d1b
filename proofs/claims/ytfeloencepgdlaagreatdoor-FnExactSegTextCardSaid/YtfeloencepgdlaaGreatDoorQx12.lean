/- Functions of the translation as Lean functions, each with a proof that a call answers so; out of the seat, by this claim's own program prt.py. -/
import Derived.Test.YtfeloencepgdlaaGreatDoorWTab
import Derived.Test.YtfeloencepgdlaaGreatDoorWRepsOne
import Derived.Test.YtfeloencepgdlaaGreatDoorQx0
import Derived.Test.YtfeloencepgdlaaGreatDoorQStep
namespace Go.Proofs.YtfeloencepgdlaaGreatDoor.Q
open Go.RowKit Go.Proofs.YtfeloencepgdlaaGreatDoorW.PrintWords Go.Proofs.YtfeloencepgdlaaGreatDoorW.PrintLast Go.Proofs.YtfeloencepgdlaaGreatDoorW.PrintMore
attribute [local go_sem] max2_int min2_int max_two min_two max_three min_three max_four min_four   -- for this text's walks alone
set_option linter.unusedVariables false
set_option linter.unusedSimpArgs false

/-! ### spec_l01Digits: function 62 -/
abbrev spec_l01Digits.b0_ : Array Bool := #[true, true, true, true, true, true, true, true, false, false, false]
abbrev spec_l01Digits.b1_ : Array Bool := #[true, true, true, true, true, true, true, true, true, false, false]
def spec_l01Digits.f : Nat → Int → Option (ByteArray)
 | 0, _ => none
 | k + 1, a0 => if a0 < (-9) then ((spec_l01Digits.f k (wrap64 (-(wrap64 (Int.tdiv a0 10))))).bind fun t162 => (if 1 + t162.size ≤ 9223372036854775807 then ((spec_l01Digits.f k (wrap64 (-(Int.tmod a0 10)))).bind fun t163 => (if 1 + t162.size + t163.size ≤ 9223372036854775807 then (some (((⟨#[45]⟩ : ByteArray) ++ t162) ++ t163)) else (none))) else (none))) else (if a0 < 0 then ((spec_l01Digits.f k (wrap64 (-a0))).bind fun t164 => (if 1 + t164.size ≤ 9223372036854775807 then (some ((⟨#[45]⟩ : ByteArray) ++ t164)) else (none))) else (if a0 < 10 then (some (strOfNums (([(wrap64 (48 + a0)) % 256] : List Int)))) else ((spec_l01Digits.f k (wrap64 (Int.tdiv a0 10))).bind fun t168 => ((some (([(wrap64 (48 + (Int.tmod a0 10))) % 256] : List Int) : List Int)).bind fun y169 => (if t168.size + (strOfNums y169).size ≤ 9223372036854775807 then (some (t168 ++ (strOfNums y169))) else (none))))))
theorem spec_l01Digits.mono_l : ∀ k, (∀ y0, LeO (spec_l01Digits.f k y0) (spec_l01Digits.f (k + 1) y0))
 | 0 => fun _ r h => by simp [spec_l01Digits.f] at h
 | k + 1 => by
  have ih0 := spec_l01Digits.mono_l k
  ·
   intro y0; unfold spec_l01Digits.f
   repeat' first
   | (with_reducible exact ih0 _)
   | (with_reducible exact LeO.refl _)
   | (with_reducible exact LeO.none _)
   | (with_reducible refine LeO.ite ?_ ?_)
   | (with_reducible refine LeO.bind ?_ (fun _ => ?_))
   | exact ih0 _
   | exact LeO.none _
   | refine LeO.ite ?_ ?_
   | refine LeO.bind ?_ (fun _ => ?_)
theorem spec_l01Digits.mono : ∀ a0 k, LeO (spec_l01Digits.f k a0) (spec_l01Digits.f (k + 1) a0) := by
 intro a0 k; have ih0 := spec_l01Digits.mono_l k; exact ih0 a0
def spec_l01Digits.T7 : Bool × List (List Nat × List Nat) := (true, [([], []), ([0], [0]), ([1], [1]), ([], []), ([3], [3]), ([4], [4]), ([5], [5]), ([6], [6]), ([7], [7]), ([2, 8], [2, 8]), ([9, 2, 0, 1, 2, 3, 4, 5, 6, 7, 8, 9], [9])])
def spec_l01Digits.B7 : List Nat := [0, 1, 3, 0, 8, 24, 56, 120, 248, 511, 1023]
theorem spec_l01Digits.tab7 : rtab .any (opsOf Tryz.f62 7) = spec_l01Digits.T7 := by kernel_rfl
theorem spec_l01Digits.bits7 : waitsOk spec_l01Digits.T7.2 spec_l01Digits.B7 = true := by kernel_rfl
set_option maxHeartbeats 8000000 in
set_option maxRecDepth 100000 in
theorem spec_l01Digits.calls (k : Nat) : ∀ (a0 : Int) (r : ByteArray) (w : World) (h : spec_l01Digits.f k a0 = some r),
  Calls Tryz.prog 62 #[.int .i64 a0] w fun e w' => e = .returned (.string r) ∧ Below w.heap.size w w' := by
 induction k using Nat.strongRecOn with
 | _ k ih =>
 intro a0 r w h; cases k with
 | zero => exact absurd h (by simp [spec_l01Digits.f])
 | succ k =>
 simp only [spec_l01Digits.f] at h; have HB := Aside0.mk (Below.refl w.heap.size w); have H : (if a0 < (-9) then ((spec_l01Digits.f k (wrap64 (-(wrap64 (Int.tdiv a0 10))))).bind fun t162 => (if 1 + t162.size ≤ 9223372036854775807 then ((spec_l01Digits.f k (wrap64 (-(Int.tmod a0 10)))).bind fun t163 => (if 1 + t162.size + t163.size ≤ 9223372036854775807 then (some (((⟨#[45]⟩ : ByteArray) ++ t162) ++ t163)) else (none))) else (none))) else (if a0 < 0 then ((spec_l01Digits.f k (wrap64 (-a0))).bind fun t164 => (if 1 + t164.size ≤ 9223372036854775807 then (some ((⟨#[45]⟩ : ByteArray) ++ t164)) else (none))) else (if a0 < 10 then (some (strOfNums (([(wrap64 (48 + a0)) % 256] : List Int)))) else ((spec_l01Digits.f k (wrap64 (Int.tdiv a0 10))).bind fun t168 => ((some (([(wrap64 (48 + (Int.tmod a0 10))) % 256] : List Int) : List Int)).bind fun y169 => (if t168.size + (strOfNums y169).size ≤ 9223372036854775807 then (some (t168 ++ (strOfNums y169))) else (none))))))) = some r := h; clear h
 by_cases c2 : a0 < (-9)
 ·
  rw [if_pos c2] at H; have c2b0 : decide (a0 < (-9)) = true := decide_eq_true c2; clear c2; replace H := Option.bind_eq_some_iff.mp H; obtain ⟨t162, A30, H⟩ := H; (try dsimp only at H); have A3 := Aside0.mk A30; clear A30
  by_cases c4 : 1 + t162.size ≤ 9223372036854775807
  ·
   rw [if_pos c4] at H; have c4b0 := eq_true c4; have c4b1 : decide (1 + t162.size ≤ 9223372036854775807) = true := decide_eq_true c4
   try have c4b2 : (9223372036854775807 < 1 + t162.size) = False := eq_false (Nat.not_lt.2 c4)
   replace H := Option.bind_eq_some_iff.mp H; obtain ⟨t163, A50, H⟩ := H; (try dsimp only at H); have A5 := Aside0.mk A50; clear A50
   by_cases c6 : 1 + t162.size + t163.size ≤ 9223372036854775807
   ·
    rw [if_pos c6] at H; have c6b0 := eq_true c6; have c6b1 : decide (1 + t162.size + t163.size ≤ 9223372036854775807) = true := decide_eq_true c6
    try have c6b2 : (9223372036854775807 < 1 + t162.size + t163.size) = False := eq_false (Nat.not_lt.2 c6)
    obtain rfl := Option.some.inj H
    go_enter Tryz.func62, Tryz.ntmps62
    go_wp2_with (first | ((with_reducible refine gate_callee (f := 62) rfl ?_); refine gl_ 8 Tryz.func62 #[.int .i64 (wrap64 (-(wrap64 (Int.tdiv a0 10))))] (h := ?_); (with_reducible refine (ih k (by omega) (wrap64 (-(wrap64 (Int.tdiv a0 10)))) t162 _ A3.out).mono ?_); rintro e w7 ⟨rfl, hb⟩; refine ⟨_, rfl, ?_⟩; replace HB := hb_ HB hb; (try clear hb)) | ((with_reducible refine gate_callee (f := 62) rfl ?_); refine gl_ 13 Tryz.func62 #[.int .i64 (wrap64 (-(Int.tmod a0 10)))] (h := ?_); (with_reducible refine (ih k (by omega) (wrap64 (-(Int.tmod a0 10))) t163 _ A5.out).mono ?_); rintro e w8 ⟨rfl, hb⟩; refine ⟨_, rfl, ?_⟩; replace HB := hb_ HB hb; (try clear hb)))
    go_ret
    exact ⟨by first | rfl | (simp [errW_none, errW_some] <;> rfl) | (simp [*, errW_none, errW_some] <;> rfl), sq_below HB.out⟩
   ·
    rw [if_neg c6] at H; exact absurd H (by simp)
  ·
   rw [if_neg c4] at H; exact absurd H (by simp)
 ·
  rw [if_neg c2] at H; have c2b0 : decide (a0 < (-9)) = false := decide_eq_false c2; clear c2
  by_cases c9 : a0 < 0
  ·
   rw [if_pos c9] at H; have c9b0 : decide (a0 < 0) = true := decide_eq_true c9; clear c9; replace H := Option.bind_eq_some_iff.mp H; obtain ⟨t164, A100, H⟩ := H; (try dsimp only at H); have A10 := Aside0.mk A100; clear A100
   by_cases c11 : 1 + t164.size ≤ 9223372036854775807
   ·
    rw [if_pos c11] at H; have c11b0 := eq_true c11; have c11b1 : decide (1 + t164.size ≤ 9223372036854775807) = true := decide_eq_true c11
    try have c11b2 : (9223372036854775807 < 1 + t164.size) = False := eq_false (Nat.not_lt.2 c11)
    obtain rfl := Option.some.inj H
    go_enter Tryz.func62, Tryz.ntmps62
    go_wp2_with (first | ((with_reducible refine gate_callee (f := 62) rfl ?_); refine gl_ 19 Tryz.func62 #[.int .i64 (wrap64 (-a0))] (h := ?_); (with_reducible refine (ih k (by omega) (wrap64 (-a0)) t164 _ A10.out).mono ?_); rintro e w12 ⟨rfl, hb⟩; refine ⟨_, rfl, ?_⟩; replace HB := hb_ HB hb; (try clear hb)))
    go_ret
    exact ⟨by first | rfl | (simp [errW_none, errW_some] <;> rfl) | (simp [*, errW_none, errW_some] <;> rfl), sq_below HB.out⟩
   ·
    rw [if_neg c11] at H; exact absurd H (by simp)
  ·
   rw [if_neg c9] at H; have c9b0 : decide (a0 < 0) = false := decide_eq_false c9; clear c9
   by_cases c13 : a0 < 10
   ·
    rw [if_pos c13] at H; have c13b0 : decide (a0 < 10) = true := decide_eq_true c13; clear c13; obtain ⟨y165, hy165⟩ : ∃ y_ : List Int, y_ = (([(wrap64 (48 + a0)) % 256] : List Int)) := ⟨_, rfl⟩; replace H : (some (strOfNums y165)) = some r := by first | (rw [hy165]; with_reducible exact H) | (have H2_ := (Option.bind_some _ _).symm.trans H; rw [hy165]; with_reducible exact H2_) | (have H2_ := (Option.bind_some _ _).symm.trans H; with_reducible exact H2_) | with_reducible exact H | (rw [hy165]; exact H) | exact H
    have Ny165 := Aside0.mk hy165; clear hy165; obtain rfl := Option.some.inj H
    go_enter Tryz.func62, Tryz.ntmps62
    go_wp2_with (first | ((with_reducible refine gate_dst (N := 26) rfl ?_); refine Kd.R_lit (Kd.int .u8) _ 5 ?hg (N := 26) ?hd (xs := ([(wrap64 (48 + a0)) % 256] : List Int)) (inner := [.int .u8 ((wrap64 (48 + a0)) % 256)]) (ok := fun _ => True) (okp := fun _ => True) ?hr ?hp (fun _ hk => hk) trivial (Below.refl _ _) (Nat.le_refl _) (by simp) ?_; (case hd => rfl); (case hg => rfl); (case hr => first | (go_simp; done) | (go_simp; rfl)); (case hp => exact (Reps.one (show Kd.M (Kd.int .u8) _ _ _ ((wrap64 (48 + a0)) % 256) [.int .u8 ((wrap64 (48 + a0)) % 256)] from rfl) (Reps.none _ _))); intro v166 w14 ho15 hb hg_ hnew_; clear hg_ hnew_; (first | rw [← Ny165.out] at ho15 | (simp only [Int.reduceToNat] at ho15; rw [← Ny165.out] at ho15)); have n0_ := Aside0.mk (Kd.R_lower ho15 (below_size (sq_below HB.out))); have n1_ := Aside0.mk (below_step (sq_below HB.out) hb); clear HB; have HO167 := n0_; have HB := n1_; clear n0_ n1_; clear hb ho15; have hcv16 := own_string (P := Tryz.prog) Tryz.underlying103 Tryz.underlying5 Tryz.underlying9 (Kd.own_of_R HO167.out)))
    go_ret
    exact ⟨by first | rfl | (simp [errW_none, errW_some] <;> rfl) | (simp [*, errW_none, errW_some] <;> rfl), sq_below HB.out⟩
   ·
    rw [if_neg c13] at H; have c13b0 : decide (a0 < 10) = false := decide_eq_false c13; clear c13; replace H := Option.bind_eq_some_iff.mp H; obtain ⟨t168, A170, H⟩ := H; (try dsimp only at H); have A17 := Aside0.mk A170; clear A170; obtain ⟨y169, hy169⟩ : ∃ y_ : List Int, y_ = (([(wrap64 (48 + (Int.tmod a0 10))) % 256] : List Int)) := ⟨_, rfl⟩; replace H : (if t168.size + (strOfNums y169).size ≤ 9223372036854775807 then (some (t168 ++ (strOfNums y169))) else (none)) = some r := by first | (rw [hy169]; with_reducible exact H) | (have H2_ := (Option.bind_some _ _).symm.trans H; rw [hy169]; with_reducible exact H2_) | (have H2_ := (Option.bind_some _ _).symm.trans H; with_reducible exact H2_) | with_reducible exact H | (rw [hy169]; exact H) | exact H
    have Ny169 := Aside0.mk hy169; clear hy169
    by_cases c18 : t168.size + (strOfNums y169).size ≤ 9223372036854775807
    ·
     rw [if_pos c18] at H; have c18b0 := eq_true c18; have c18b1 : decide (t168.size + (strOfNums y169).size ≤ 9223372036854775807) = true := decide_eq_true c18
     try have c18b2 : (9223372036854775807 < t168.size + (strOfNums y169).size) = False := eq_false (Nat.not_lt.2 c18)
     obtain rfl := Option.some.inj H
     go_enter Tryz.func62, Tryz.ntmps62
     try go_wp2
     replace HB := hd_ HB; refine start_ (n := 11) (S := fun w' => True) (ds := []) #[false, false, false, false, false, false, false, false, false, false, false] (by kernel_rfl) rfl rfl trivial (fun hHeld => ?_); refine with_tabW spec_l01Digits.tab7 spec_l01Digits.bits7 (fun HT_ HW_ => ?_); generalize w.drew = w19 at HB hHeld ⊢; refine pure_y 0 (some 28) #[true, false, false, false, false, false, false, false, false, false, false] (any_of HT_.out (by kernel_rfl)) (h := ?_)
     refine pure_y 1 (some 29) #[true, true, false, false, false, false, false, false, false, false, false] (any_of HT_.out (by kernel_rfl)) (h := ?_)
     refine pure_y 3 (some 31) #[true, true, false, true, false, false, false, false, false, false, false] (any_of HT_.out (by kernel_rfl)) (h := ?_)
     refine pure_y 4 (some 32) #[true, true, false, true, true, false, false, false, false, false, false] (any_of HT_.out (by kernel_rfl)) (h := ?_)
     refine pure_y 5 (some 33) #[true, true, false, true, true, true, false, false, false, false, false] (any_of HT_.out (by kernel_rfl)) (h := ?_)
     refine pure_y 6 (some 34) #[true, true, false, true, true, true, true, false, false, false, false] (any_of HT_.out (by kernel_rfl)) (h := ?_)
     refine join_ (σ := Value) 2 spec_l01Digits.b1_ (fun s_ => [(30, .string t168), (35, s_), (36, .string (strOfNums y169))]) (fun s_ w' => (Kd.R (Kd.int .u8) 5 w' w.heap.size (fun _ => True) s_ y169) ∧ (Below w.heap.size w w')) ?_ ?_; rotate_left
     ·
      intro hCont; refine two_ (i := 2) (j := 7) (Ni := some 30) (Nj := some 35) #[true, true, true, true, true, true, true, false, false, false, false] #[true, true, false, true, true, true, true, true, false, false, false] rfl rfl rfl rfl (two_of HT_.out (by kernel_rfl)) (by decide) (by decide) (fun K hK => ?_) (fun K hK => ?_)
      ·
       refine gs_ Tryz.func62 #[.int .i64 (wrap64 (Int.tdiv a0 10))] (h := ?_); with_reducible refine (ih k (by omega) (wrap64 (Int.tdiv a0 10)) t168 _ A17.out).mono ?_
       rintro e w20 ⟨rfl, hb⟩; refine ⟨_, rfl, ?_⟩; replace HB := hb_ HB hb
       (try clear hb)
       (try clear hb2)
       (try clear hk)
       (try clear hi)
       refine hK.out _ _ trivial (fun hHeld => ?_); clear hK K; refine norm_y 30 (h := ?_)
       refine one_ (i := 7) (N := some 35) spec_l01Digits.b0_ rfl rfl (one_of HT_.out (by kernel_rfl)) (by decide) (fun K hK => ?_); refine Kd.R_lit_step (Kd.int .u8) _ 5 ?hg (N := 35) ?hd (xs := ([(wrap64 (48 + (Int.tmod a0 10))) % 256] : List Int)) (inner := [.int .u8 ((wrap64 (48 + (Int.tmod a0 10))) % 256)]) (ok := fun _ => True) (okp := fun _ => True) ?hr ?hp (fun _ hk => hk) trivial (Below.refl _ _) (Nat.le_refl _) (by simp) ?_; (case hd => rfl); (case hg => rfl); (case hr => first | (go_simp; done) | (go_simp; rfl)); (case hp => exact (Reps.one (show Kd.M (Kd.int .u8) _ _ _ ((wrap64 (48 + (Int.tmod a0 10))) % 256) [.int .u8 ((wrap64 (48 + (Int.tmod a0 10))) % 256)] from rfl) (Reps.none _ _))); intro v170 w21 ho22 hb hg_ hnew_; clear hg_ hnew_
       (first | rw [← Ny169.out] at ho22 | (simp only [Int.reduceToNat] at ho22; rw [← Ny169.out] at ho22))
       have n0_ := Aside0.mk (Kd.R_lower ho22 (below_size (sq_below HB.out))); have n1_ := Aside0.mk (below_step (sq_below HB.out) hb); clear HB; have HO171 := n0_; have HB := n1_; clear n0_ n1_ hb ho22; refine hK.out _ _ trivial (fun hHeld => ?_); clear hK K; refine norm_y 35 (h := ?_)
       refine one_ (i := 8) (N := some 36) spec_l01Digits.b1_ rfl rfl (one_of HT_.out (by kernel_rfl)) (by decide) (fun K hK => ?_); have hcv23 := own_string (P := Tryz.prog) Tryz.underlying103 Tryz.underlying5 Tryz.underlying9 (Kd.own_of_R HO171.out); refine value_ (w1 := ?_) (v := ?_) (by rfl) rfl ?_ ?_; rotate_left 2
       ·
        go_simp
        constructor
        ·
         rfl
        ·
         rfl
       clear hcv23; refine hK.out _ _ trivial (fun hHeld => ?_); clear hK K; refine norm_y 36 (h := ?_)
       exact norm_ (by simp only [putAll, Act.put, List.setIfInBounds_toArray, List.set_cons_zero, List.set_cons_succ]) (hCont (v170) _ ⟨(sq_row HO171.out), (sq_below HB.out)⟩)
      ·
       refine Kd.R_lit_step (Kd.int .u8) _ 5 ?hg (N := 35) ?hd (xs := ([(wrap64 (48 + (Int.tmod a0 10))) % 256] : List Int)) (inner := [.int .u8 ((wrap64 (48 + (Int.tmod a0 10))) % 256)]) (ok := fun _ => True) (okp := fun _ => True) ?hr ?hp (fun _ hk => hk) trivial (Below.refl _ _) (Nat.le_refl _) (by simp) ?_; (case hd => rfl); (case hg => rfl); (case hr => first | (go_simp; done) | (go_simp; rfl)); (case hp => exact (Reps.one (show Kd.M (Kd.int .u8) _ _ _ ((wrap64 (48 + (Int.tmod a0 10))) % 256) [.int .u8 ((wrap64 (48 + (Int.tmod a0 10))) % 256)] from rfl) (Reps.none _ _))); intro v170 w20 ho21 hb hg_ hnew_; clear hg_ hnew_
       (first | rw [← Ny169.out] at ho21 | (simp only [Int.reduceToNat] at ho21; rw [← Ny169.out] at ho21))
       have n0_ := Aside0.mk (Kd.R_lower ho21 (below_size (sq_below HB.out))); have n1_ := Aside0.mk (below_step (sq_below HB.out) hb); clear HB; have HO171 := n0_; have HB := n1_; clear n0_ n1_ hb ho21; refine hK.out _ _ trivial (fun hHeld => ?_); clear hK K; refine norm_y 35 (h := ?_)
       refine two_ (i := 2) (j := 8) (Ni := some 30) (Nj := some 36) spec_l01Digits.b0_ #[true, true, false, true, true, true, true, true, true, false, false] rfl rfl rfl rfl (two_of HT_.out (by kernel_rfl)) (by decide) (by decide) (fun K hK => ?_) (fun K hK => ?_)
       ·
        refine gs_ Tryz.func62 #[.int .i64 (wrap64 (Int.tdiv a0 10))] (h := ?_); with_reducible refine (ih k (by omega) (wrap64 (Int.tdiv a0 10)) t168 _ A17.out).mono ?_
        rintro e w22 ⟨rfl, hb⟩; refine ⟨_, rfl, ?_⟩; replace HO171 := Aside0.mk (Kd.R_below (sq_row HO171.out) hb); replace HB := hb_ HB hb
        (try clear hb)
        (try clear hb2)
        (try clear hk)
        (try clear hi)
        refine hK.out _ _ trivial (fun hHeld => ?_); clear hK K; refine norm_y 30 (h := ?_)
        refine one_ (i := 8) (N := some 36) spec_l01Digits.b1_ rfl rfl (one_of HT_.out (by kernel_rfl)) (by decide) (fun K hK => ?_); have hcv23 := own_string (P := Tryz.prog) Tryz.underlying103 Tryz.underlying5 Tryz.underlying9 (Kd.own_of_R HO171.out); refine value_ (w1 := ?_) (v := ?_) (by rfl) rfl ?_ ?_; rotate_left 2
        ·
         go_simp
         constructor
         ·
          rfl
         ·
          rfl
        clear hcv23; refine hK.out _ _ trivial (fun hHeld => ?_); clear hK K; refine norm_y 36 (h := ?_)
        exact norm_ (by simp only [putAll, Act.put, List.setIfInBounds_toArray, List.set_cons_zero, List.set_cons_succ]) (hCont (v170) _ ⟨(sq_row HO171.out), (sq_below HB.out)⟩)
       ·
        have hcv22 := own_string (P := Tryz.prog) Tryz.underlying103 Tryz.underlying5 Tryz.underlying9 (Kd.own_of_R HO171.out); refine value_ (w1 := ?_) (v := ?_) (by rfl) rfl ?_ ?_; rotate_left 2
        ·
         go_simp
         constructor
         ·
          rfl
         ·
          rfl
        clear hcv22; refine hK.out _ _ trivial (fun hHeld => ?_); clear hK K; refine norm_y 36 (h := ?_)
        refine one_ (i := 2) (N := some 30) spec_l01Digits.b1_ rfl rfl (one_of HT_.out (by kernel_rfl)) (by decide) (fun K hK => ?_); refine gs_ Tryz.func62 #[.int .i64 (wrap64 (Int.tdiv a0 10))] (h := ?_); with_reducible refine (ih k (by omega) (wrap64 (Int.tdiv a0 10)) t168 _ A17.out).mono ?_
        rintro e w23 ⟨rfl, hb⟩; refine ⟨_, rfl, ?_⟩; replace HO171 := Aside0.mk (Kd.R_below (sq_row HO171.out) hb); replace HB := hb_ HB hb
        (try clear hb)
        (try clear hb2)
        (try clear hk)
        (try clear hi)
        refine hK.out _ _ trivial (fun hHeld => ?_); clear hK K; refine norm_y 30 (h := ?_)
        exact norm_ (by simp only [putAll, Act.put, List.setIfInBounds_toArray, List.set_cons_zero, List.set_cons_succ]) (hCont (v170) _ ⟨(sq_row HO171.out), (sq_below HB.out)⟩)
     rintro v170 w24 ⟨h0_, h1_⟩; have n0_ : Aside0 (Kd.R (Kd.int .u8) 5 w24 w.heap.size (fun _ => True) v170 y169) := ⟨h0_⟩; have n1_ : Aside0 (Below w.heap.size w w24) := ⟨h1_⟩; clear HB h0_ h1_; have HO171 := n0_; have HB := n1_; clear n0_ n1_; have hHeld := trivial; refine norm_ (a' := ?_) ?_ ?_; rotate_left
     ·
      simp only [putAll, Act.put, List.setIfInBounds_toArray, List.set_cons_zero, List.set_cons_succ]; rfl
     refine pure_y 9 (some 37) #[true, true, true, true, true, true, true, true, true, true, false] (any_of HT_.out (by kernel_rfl)) (h := ?_)
     refine pure_y 10 (some 2) #[true, true, true, true, true, true, true, true, true, true, true] (any_of HT_.out (by kernel_rfl)) (h := ?_)
     refine done_ (done_of HT_.out (by kernel_rfl)) ?_
     try go_wp2
     go_ret
     exact ⟨by first | rfl | (simp [errW_none, errW_some] <;> rfl) | (simp [*, errW_none, errW_some] <;> rfl), sq_below HB.out⟩
    ·
     rw [if_neg c18] at H; exact absurd H (by simp)

end Go.Proofs.YtfeloencepgdlaaGreatDoor.Q
