/- The law FnExactCondOk holds: the program's CondOk and the reference's answer alike, at all arguments, and the program leaves the tree as it was. No conditions. -/
import Derived.Test.YtmkppdeoepfpoaaDoorQPureFnExactCondOk
import Derived.Test.YtmkppdeoepfpoaaDoorQTFnExactCondOk
import Derived.Test.YtmkppdeoepfpoaaDoorQOpen
import Derived.Test.YtmkppdeoepfpoaaDoorQx19
import Derived.Test.YtmkppdeoepfpoaaDoorQx21
import Derived.Test.YtmkppdeoepfpoaaDoorQx22
import Derived.Test.YtmkppdeoepfpoaaDoorQx23
import Derived.Test.YtmkppdeoepfpoaaDoorQx24
import Derived.Test.YtmkppdeoepfpoaaDoorQx29
import Derived.Test.YtmkppdeoepfpoaaDoorQx30
namespace Go.Proofs.YtmkppdeoepfpoaaDoor.Q
open Go.RowKit Go.Proofs.YtmkppdeoepfpoaaDoorW.PrintWords Go.Proofs.YtmkppdeoepfpoaaDoorW.PrintLast Go.Proofs.YtmkppdeoepfpoaaDoorW.PrintMore
open Go.Proofs.YtmkppdeoepfpoaaDoor.Open
set_option linter.unusedSimpArgs false
set_option linter.unusedVariables false
theorem condOk (z : INode) (hz : Small z) : ∃ K b, ∀ k, K ≤ k → spec_CondOk.f k z.f0 z.f1 z.f2 z.f3 = some b ∧ impl_CondOk.f k z.f0 z.f1 z.f2 z.f3 = some b := by
  obtain ⟨K3, v, q3⟩ := same_CountNodes z hz
  obtain ⟨K4, d, q4⟩ := same_DepthOf z hz
  have large : ∀ k, K3 + K4 ≤ k → ∀ b : Bool, (∀ t, (impl_isCond.f k z.f0 z.f1 z.f2 z.f3) = some t → b = t) → (∃ t, impl_isCond.f k z.f0 z.f1 z.f2 z.f3 = some t) → impl_CondOk.f k z.f0 z.f1 z.f2 z.f3 = some (decide (v ≤ 500) && decide (d ≤ 24) && b) := by
    intro k hk b hb ⟨t, ht⟩
    obtain ⟨n1, n2⟩ := q3 k (by omega)
    obtain ⟨d1, d2⟩ := q4 k (by omega)
    rw [impl_CondOk.f, impl_isLarge.f, n2, Option.bind_some, d2, Option.bind_some, ht, Option.bind_some, hb t ht]
    by_cases h1 : v ≤ 500
    · have h1' : ¬ v > 500 := by omega
      by_cases h2 : d ≤ 24
      · have h2' : ¬ d > 24 := by omega
        simp [h1, h1', h2, h2']
      · have h2' : d > 24 := by omega
        simp [h1, h1', h2, h2']
    · have h1' : v > 500 := by omega
      simp [h1, h1']
  have fits : ∀ k, K3 + K4 ≤ k → ∀ c, spec_l02Formed.f k z.f0 z.f1 z.f2 z.f3 = some c → spec_CondOk.f k z.f0 z.f1 z.f2 z.f3 = some (decide (v ≤ 500) && decide (d ≤ 24) && ((decide (11 ≤ z.f0) && decide (z.f0 ≤ 16)) && c)) := by
    intro k hk c hc
    obtain ⟨n1, n2⟩ := q3 k (by omega)
    obtain ⟨d1, d2⟩ := q4 k (by omega)
    rw [spec_CondOk.f, s_isCond, Option.bind_some, spec_l02Fits.f, n1, Option.bind_some, d1, Option.bind_some, hc, Option.bind_some]
    by_cases h1 : v ≤ 500 <;> by_cases h2 : d ≤ 24 <;> cases (decide (11 ≤ z.f0) && decide (z.f0 ≤ 16)) <;> simp [h1, h2]
  obtain ⟨c, ⟨K1, q1⟩, -⟩ := expr_small z hz
  by_cases hk : 11 ≤ z.f0 ∧ z.f0 ≤ 16
  · cases hz with
    | mk z hl hz g =>
      obtain ⟨K, c2, q0, -⟩ := kids_l z.f0 z.f1 z.f2 z.f3 hl z.f3 0 rfl (fun y hy => expr_small y (g y hy))
      have hsh : spec_l02Shape.f 5 z.f0 = some (2, false, true) := by
        rcases (show z.f0 = 11 ∨ z.f0 = 12 ∨ z.f0 = 13 ∨ z.f0 = 14 ∨ z.f0 = 15 ∨ z.f0 = 16 by omega) with e | e | e | e | e | e <;> (rw [e]; rfl)
      have hkB : (decide (11 ≤ z.f0) && decide (z.f0 ≤ 16)) = true := by rw [decide_eq_true hk.1, decide_eq_true hk.2]; rfl
      have fh := formed_head hsh (by omega) (by omega) (by omega) z.f1 hz z.f2 z.f3
      have ho : ∀ k, 1048700 ≤ k → impl_Node_hasOnly.f k z.f0 z.f1 z.f2 z.f3 false false 2 = some (hd 2 false z.f0 z.f1 z.f2 z.f3) := by
        intro k hk'
        rw [i_hasOnly z.f0 z.f1 hz z.f2 z.f3 _ _ _ k hk', hd, if_neg (show ¬ (false = true) by decide), if_neg (show ¬ z.f0 = 1 by omega), Bool.false_or]
        cases decide (z.f1.data.toList = []) <;> cases decide (z.f2 = 0) <;> cases decide ((z.f3.length : Int) = 2) <;> rfl
      cases hh : hd 2 false z.f0 z.f1 z.f2 z.f3 with
      | false =>
        refine ⟨K1 + K3 + K4 + 1048710, decide (v ≤ 500) && decide (d ≤ 24) && false, fun k hk => ?_⟩
        have e1 := q1 k (by omega)
        have e2 : c = false := by
          have := q1 (K1 + 1048710 + 3) (by omega)
          rw [fh (K1 + 1048710) (by omega), hh, if_neg (by decide)] at this
          exact (Option.some.inj this).symm
        subst e2
        have e3 : impl_isCond.f k z.f0 z.f1 z.f2 z.f3 = some false := by
          rw [impl_isCond.f, i_inRange, hkB, Option.bind_some, if_pos rfl, ho k (by omega), hh, Option.bind_some, if_neg (by decide)]
        refine ⟨?_, large k (by omega) false (fun t ht => by rw [e3] at ht; exact Option.some.inj ht) ⟨_, e3⟩⟩
        rw [fits k (by omega) false e1, hkB]; rfl
      | true =>
        have h2 : z.f3.length = 2 := by
          unfold hd at hh
          simp only [Bool.and_eq_true, decide_eq_true_eq] at hh
          omega
        obtain ⟨x, y, hxy⟩ : ∃ x y, z.f3 = [x, y] := by
          match z.f3, h2 with
          | [x, y], _ => exact ⟨x, y, rfl⟩
        obtain ⟨cx, ⟨Kx1, qx1⟩, ⟨Kx2, qx2⟩⟩ := expr_small x (g x (by rw [hxy]; simp))
        obtain ⟨cy, ⟨Ky1, qy1⟩, ⟨Ky2, qy2⟩⟩ := expr_small y (g y (by rw [hxy]; simp))
        have hE := kids_e (show z.f0 ≤ 16 by omega) z.f1 z.f2 z.f3
        have r0 : rd_T39 z.f3 0 = x := rd_in (i := 0) (by rw [hxy]; rfl)
        have r1 : rd_T39 z.f3 1 = y := rd_in (i := 1) (by rw [hxy]; rfl)
        have loop : ∀ k, Kx1 + Ky1 + 10 ≤ k → spec_l02Formed.l0 k 0 z.f0 z.f1 z.f2 z.f3 = some ((isK x.f0 && cx) && (isK y.f0 && cy)) := by
          intro k hk'
          obtain ⟨k, rfl⟩ : ∃ m, k = m + 3 := ⟨k - 3, by omega⟩
          have l2 : spec_l02Formed.l0 (k + 1) 2 z.f0 z.f1 z.f2 z.f3 = some true := by
            rw [spec_l02Formed.l0, h2, if_neg (show ¬ (2 : Int) < ((2 : Nat) : Int) by decide)]
          have l1 : spec_l02Formed.l0 (k + 2) 1 z.f0 z.f1 z.f2 z.f3 = some (isK y.f0 && cy) := by
            rw [spec_l02Formed.l0, h2, if_pos (show (1 : Int) < ((2 : Nat) : Int) by decide), if_pos (show (0 : Int) ≤ 1 by decide), r1, hE (k + 1) 1 _ (by omega), Option.bind_some, qy1 (k + 1) (by omega), Option.bind_some, show wrap64 (1 + 1) = 2 from w64 (by decide) (by decide), l2]
            cases isK y.f0 <;> cases cy <;> rfl
          rw [spec_l02Formed.l0, h2, if_pos (show (0 : Int) < ((2 : Nat) : Int) by decide), if_pos (show (0 : Int) ≤ 0 by decide), r0, hE (k + 2) 0 _ (by omega), Option.bind_some, qx1 (k + 2) (by omega), Option.bind_some, show wrap64 (0 + 1) = 1 from w64 (by decide) (by decide), l1]
          cases isK x.f0 <;> cases cx <;> rfl
        refine ⟨K1 + K3 + K4 + Kx1 + Kx2 + Ky1 + Ky2 + 1048720, decide (v ≤ 500) && decide (d ≤ 24) && ((isK x.f0 && cx) && (isK y.f0 && cy)), fun k hk => ?_⟩
        have e1 : spec_l02Formed.f k z.f0 z.f1 z.f2 z.f3 = some ((isK x.f0 && cx) && (isK y.f0 && cy)) := by
          obtain ⟨k, rfl⟩ : ∃ m, k = m + 3 := ⟨k - 3, by omega⟩
          rw [fh k (by omega), hh, if_pos rfl, loop k (by omega)]
        have e3 : impl_isCond.f k z.f0 z.f1 z.f2 z.f3 = some ((isK x.f0 && cx) && (isK y.f0 && cy)) := by
          rw [impl_isCond.f, i_inRange, hkB, Option.bind_some, if_pos rfl, ho k (by omega), hh, Option.bind_some, if_pos rfl, h2, if_pos (show (0 : Int) < ((2 : Nat) : Int) by decide), r0, qx2 k (by omega), Option.bind_some, if_pos (show (1 : Int) < ((2 : Nat) : Int) by decide), r1, qy2 k (by omega), Option.bind_some]
          cases (isK x.f0 && cx) <;> rfl
        refine ⟨?_, large k (by omega) _ (fun t ht => by rw [e3] at ht; exact Option.some.inj ht) ⟨_, e3⟩⟩
        rw [fits k (by omega) _ e1, hkB, Bool.true_and]
  · have hkB : (decide (11 ≤ z.f0) && decide (z.f0 ≤ 16)) = false := by
      cases h : (decide (11 ≤ z.f0) && decide (z.f0 ≤ 16)) with
      | false => rfl
      | true => simp only [Bool.and_eq_true, decide_eq_true_eq] at h; exact absurd h hk
    refine ⟨K1 + K3 + K4, decide (v ≤ 500) && decide (d ≤ 24) && false, fun k hk' => ?_⟩
    have e3 : impl_isCond.f k z.f0 z.f1 z.f2 z.f3 = some false := by
      rw [impl_isCond.f, i_inRange, hkB, Option.bind_some, if_neg (by decide)]
    refine ⟨?_, large k (by omega) false (fun t ht => by rw [e3] at ht; exact Option.some.inj ht) ⟨_, e3⟩⟩
    rw [fits k (by omega) c (q1 k (by omega)), hkB]; rfl
theorem yoursFnExactCondOk : laws_FnExactCondOk.Pure := by
  intro a s n l ha hs hn hl
  obtain ⟨K1, v, q1, q2, q3⟩ := size_one a s n l hs hl.1 (fun y hy => sized y (hl.2 y hy)) 1048576 (by omega) (by omega)
  by_cases hv : v < 0
  · refine ⟨K1, ?_⟩
    unfold laws_FnExactCondOk.f
    rw [q1 K1 (Nat.le_refl _)]
    simp only [Option.bind_some]
    rw [if_pos hv]
  · obtain ⟨z, hz, K2, r1⟩ := q3 (by omega)
    obtain ⟨K3, r2⟩ := eq_small z hz
    obtain ⟨K4, u, r3⟩ := condOk z hz
    refine ⟨K1 + K2 + K3 + K4, ?_⟩
    obtain ⟨p1, p2⟩ := r3 (K1 + K2 + K3 + K4) (by omega)
    have e1 := r1 (K1 + K2 + K3 + K4) (by omega)
    have e2 := r2 (K1 + K2 + K3 + K4) (by omega)
    have e3 := q1 (K1 + K2 + K3 + K4) (by omega)
    simp only at e1 e3
    unfold laws_FnExactCondOk.f
    rw [e3, Option.bind_some, if_neg hv, e1, Option.bind_some]
    simp only
    rw [p1, Option.bind_some, Option.bind_some]
    simp only
    rw [p2, Option.bind_some, if_neg (by simp), Option.bind_some]
    simp only
    rw [e2, Option.bind_some, if_pos rfl]
end Go.Proofs.YtmkppdeoepfpoaaDoor.Q
