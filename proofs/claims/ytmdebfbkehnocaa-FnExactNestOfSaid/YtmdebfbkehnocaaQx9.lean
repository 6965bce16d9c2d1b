/- Functions of the translation as Lean functions, each with a proof that a call answers so; out of the seat, by this claim's own program prt.py. -/
import Derived.Test.YtmdebfbkehnocaaQx0
namespace Go.Proofs.Ytmdebfbkehnocaa.Q
open Go.RowKit Go.Proofs.YtmdebfbkehnocaaW.PrintWords Go.Proofs.YtmdebfbkehnocaaW.PrintLast Go.Proofs.YtmdebfbkehnocaaW.PrintMore
attribute [local go_sem] max2_int min2_int max_two min_two max_three min_three max_four min_four   -- for this text's walks alone
set_option linter.unusedVariables false
set_option linter.unusedSimpArgs false

/-! ### slices_Repeat_int_int: function 32 -/
theorem slices_Repeat_int_int.rep_reps (x : Int) (n : Nat) (R : Int → List Value → Prop) (hR : R x [.int .i64 x]) : Reps R 1 (List.replicate n x) (List.replicate n (Value.int .i64 x)) := by
 refine ⟨by simp, fun j p hj => ?_⟩; rw [List.getElem?_replicate] at hj
 split at hj
 ·
   rename_i hlt
   obtain rfl := Option.some.inj hj; rw [List.drop_replicate, List.take_replicate, show min 1 (n - j * 1) = 1 by omega]; exact hR
 ·
   cases hj
theorem slices_Repeat_int_int.rep_R (x : Int) (n g cap base : Nat) (w : World) (cur : List Value) (hg : base ≤ g) (hh : w.heap[g]? = some (.cells cur.toArray 3 (0, 0))) (h1 : n ≤ cap) (h2 : cap ≤ maxLen) (h3 : cur.length = cap) (h4 : cur.take n = List.replicate n (Value.int .i64 x)) :
   Kd.R (Kd.int .i64) 3 w base (fun _ => True) (.slice (some ⟨g, 0, none⟩) n cap) (List.replicate n x) := by
 refine ⟨fun _ _ => trivial, List.replicate n (Value.int .i64 x), ?_, slices_Repeat_int_int.rep_reps x n _ rfl⟩; refine ⟨by rw [List.length_replicate, List.length_replicate]; exact (Nat.mul_one n).symm, .inr ⟨g, cap, cur.toArray, by rw [List.length_replicate], hg, hh, by rw [List.length_replicate]; exact h1, h2, ?_, ?_⟩⟩
 ·
   show cur.toArray.size = cap * 1; rw [Nat.mul_one]; simpa using h3
 ·
   show cur.toArray.toList.take (_ * 1) = _; rw [List.length_replicate, Nat.mul_one]; exact h4
theorem slices_Repeat_int_int.rep_splice (v : Value) (cur : List Value) (m k : Nat) (h : cur.take m = List.replicate m v) (hl : m + k ≤ cur.length) : (splice cur m (List.replicate k v)).take (m + k) = List.replicate (m + k) v := by
 have hm : m ≤ cur.length := by omega
 unfold splice; rw [h, ← List.append_assoc, List.replicate_append_replicate, List.take_append_of_le_length (by simp)]; exact List.take_of_length_le (by simp)
set_option maxRecDepth 100000 in
set_option maxHeartbeats 4000000 in
theorem slices_Repeat_int_int.rep_walk (x : Int) (ad : Addr) (c n : Nat) (hn1 : 1 ≤ n) (hn2 : n ≤ 1000000) (w : World) (hx : w.cell? ad = some (.int .i64 x))
  (hmul : ∀ W, Calls Try.prog 39 #[.int .u64 1, .int .u64 n] W fun e w' => e = .returned (.tuple #[.int .u64 0, .int .u64 n]) ∧ W = w') :
  Calls Try.prog 32 #[.slice (some ad) 1 c, .int .i64 n] w fun e w' => ∃ v0_ : Value, e = .returned v0_ ∧ Kd.R (Kd.int .i64) 3 w' w.heap.size (fun _ => True) v0_ (List.replicate n x) ∧ Below w.heap.size w w' := by
 have hb1 : (0 : Int) ≤ (n : Int) := by omega
 have hb2 : (n : Int) ≤ 1000000 := by omega
 go_enter Try.func32, Try.ntmps32
 have hlt : ad.block < w.heap.size := World.block_lt_of_cell? w _ hx; have hL : (List.replicate (n : Int).toNat (0 : Int)).length = n := by simp
 have HL := Aside0.mk hL; have HX := Aside0.mk hx; clear hL hx
 go_wp2_with (first | (go_at_call 39; refine (hmul _).mono ?_; rintro e w1 ⟨rfl, rfl⟩) | ((with_reducible refine gate_dst (N := 30) rfl ?_); refine Kd.R_make (Kd.int .i64) w.heap.size 3 rfl (N := 30) rfl 39 _ _ rfl n rfl rfl Try.underlying39 (.int .i64 0) 8 info3 rfl (by decide) (by omega) 0 (ok := fun _ => True) (okp := fun _ => True) rfl (fun _ hk => hk) trivial hb1 (by rw [Int.toNat_natCast]; omega) (Below.refl _ _) (Nat.le_refl _) ?_; intro v1 w2 ho hb hg_ hnew_; clear hg_ hnew_; obtain ⟨_, inner, ⟨hlen, hcase⟩, hreps⟩ := ho; clear hreps; rw [HL.out] at hcase; rcases hcase with ⟨rfl, h0⟩ | ⟨g, cap, cur, rfl, hg, hheap, hncap, hcap, hsz, htake⟩; (exact absurd h0 (by omega)); clear htake hlen; obtain ⟨cl, rfl⟩ : ∃ cl : List Value, cur = cl.toArray := ⟨cur.toList, by simp⟩; have h3 : cl.length = cap := (by simpa [Kd.int, Kd.scalar] using hsz); have HC := Aside0.mk h3; have HM := Aside0.mk hcap; have HG := Aside0.mk hheap; have HB := Aside0.mk hb; clear h3 hcap hheap hb hsz) | ((with_reducible refine gate_dst (N := 33) rfl ?_); refine wpList_copy_splice rfl (.tmp 31) (.tmp 32) 39 39 rfl 3 Try.underlying39 (by kernel_rfl) (some ⟨g, 0, none⟩) (some ad) n cap 1 c rfl rfl g 0 cl 3 HG.out [.int .i64 x] (by show 1 = min 1 n; omega) (fun _ => ⟨rfl, ad, rfl, fun j v hv => by (match j, hv with | 0, hv => (obtain rfl := Option.some.inj hv; rw [show ad.add 0 = ad from by simp [Addr.add]]; exact (HB.out.cell hlt).trans HX.out))⟩) (by rw [HC.out]; show 0 + 1 ≤ cap; omega) (fun v hv => by rw [List.mem_singleton.1 hv]; rfl) w.heap.size w HB.out hg ?_; intro w3 hg3 hb3))
 go_loopg [8] n (fun gg s8 wr => ∃ (m : Nat) (cl : List Value), 1 ≤ m ∧ m ≤ n ∧ n - m ≤ gg ∧ s8 = .int .i64 m ∧ Aside0 (wr.heap[g]? = some (.cells cl.toArray 3 (0, 0))) ∧ Aside0 (cl.length = cap) ∧ Aside0 (cl.take m = List.replicate m (Value.int .i64 x)) ∧ Aside0 (Below w.heap.size w wr))
 case atStart => exact ⟨1, splice cl 0 [.int .i64 x], Nat.le_refl _, hn1, by omega, rfl, ⟨hg3.out⟩, ⟨by rw [length_splice _ _ _ (by rw [HC.out]; show 0 + 1 ≤ cap; omega)]; exact HC.out⟩, ⟨by simp [splice]⟩, ⟨hb3⟩⟩
 case round =>
   obtain ⟨m, cl', hm1, hmn, hgg, rfl, HG', HC', HT', HB'⟩ := hrel
   by_cases hlt2 : m < n
   ·
    have hmi : (m : Int) < (n : Int) := by omega
    have hmc : ¬ cap = m := by omega
    have hmc2 : ¬ m = cap := by omega
    have hm0 : (0 : Int) ≤ (m : Int) := by omega
    have hmle : (m : Int) ≤ (n : Int) := by omega
    have hmcap : m ≤ cap := by omega
    obtain ⟨j, hj⟩ : ∃ j, j = min m (n - m) := ⟨_, rfl⟩; have hj1 : j ≤ m := by omega
    have hj2 : j ≤ n - m := by omega
    have hj3 : 1 ≤ j := by omega
    have HJ := Aside0.mk hj; clear hj
    go_wp2
    have HSRC : ∀ (W : World), W.heap[g]? = some (.cells cl'.toArray 3 (0, 0)) → ∀ (i : Nat) v, (List.replicate j (Value.int .i64 x))[i]? = some v → W.cell? ((⟨g, 0, none⟩ : Addr).add i) = some v := by
     intro W hW i v hv; rw [List.getElem?_replicate] at hv
     split at hv
     ·
      rename_i hij
      obtain rfl := Option.some.inj hv; have e2 : (cl'.take m)[i]? = some (Value.int .i64 x) := by rw [HT'.out, List.getElem?_replicate, if_pos (by omega)]
      rw [List.getElem?_take_of_lt (by omega)] at e2; rw [Addr.add_lit, Nat.zero_add, blk_cell hW i]
      simpa using e2
     ·
      cases hv
    have HS := Aside0.mk HSRC; clear HSRC; have hsum : IntKind.i64.wrap ((m : Int) + (j : Int)) = ((m + j : Nat) : Int) := by rw [i64_w]; unfold wrap64; omega
    have HSUM := Aside0.mk hsum; clear hsum
    go_region_law (refine step_copy_splice rfl (.tmp 41) (.tmp 44) 39 39 rfl 3 Try.underlying39 (by kernel_rfl) (some ⟨g, m, none⟩) (some ⟨g, 0, none⟩) (n - m) (cap - m) m cap (by first | rfl | simp) (by first | rfl | simp) g m cl' 3 HG'.out (List.replicate j (Value.int .i64 x)) (by rw [List.length_replicate, HJ.out]) (fun _ => ⟨rfl, _, rfl, HS.out _ HG'.out⟩) (by rw [List.length_replicate, HC'.out]; omega) (fun v hv => by rw [List.eq_of_mem_replicate hv]; rfl) w.heap.size w (by first | exact HB'.out | exact pw_below_drewN HB'.out _) hg ?_; intro w4 hg4 hb4)
    have HG4 := Aside0.mk hg4.out; clear hg4; go_simp; rw [HSUM.out]
    go_wp2
    go_roundg (n - (m + j))
    case measure => omega
    case rel => exact ⟨m + j, splice cl' m (List.replicate j (Value.int .i64 x)), by omega, by omega, by omega, rfl, HG4, ⟨by rw [length_splice _ _ _ (by rw [List.length_replicate, HC'.out]; omega)]; exact HC'.out⟩, ⟨slices_Repeat_int_int.rep_splice _ _ _ _ HT'.out (by rw [HC'.out]; omega)⟩, ⟨hb4⟩⟩
   ·
    go_wp2
    obtain rfl : m = n := by omega
    exact bodyPost_ret (v := .slice (some ⟨g, 0, none⟩) m cap) (by simp [results, Try.results32, go_sem]) rfl ⟨_, rfl, slices_Repeat_int_int.rep_R x m g cap w.heap.size wr cl' hg HG'.out hncap HM.out HC'.out HT'.out, HB'.out⟩
theorem slices_Repeat_int_int.mul (n : Nat) (hn : n ≤ 1000000) (W : World) : Calls Try.prog 39 #[.int .u64 1, .int .u64 n] W fun e w' => e = .returned (.tuple #[.int .u64 0, .int .u64 n]) ∧ W = w' := by
 refine (Try.bits_Mul 1 n (by decide) (by omega) W).mono ?_; rintro e w' ⟨rfl, rfl⟩; refine ⟨?_, rfl⟩; rw [Nat.one_mul, Nat.mod_eq_of_lt (by omega), Nat.div_eq_of_lt (by omega)]; rfl
def slices_Repeat_int_int.f (l0 : List Int) (a1 : Int) : Option (List Int) := if l0.length = 1 ∧ 1 ≤ a1 ∧ a1 ≤ 1000000 then some (List.replicate a1.toNat (l0.getD 0 0)) else none
theorem slices_Repeat_int_int.calls (A0 : Option Addr) (c0 : Nat) (l0 : List Int) (a1 : Int) (r : List Int) (w : World) (hr0 : Kd.C (Kd.int .i64) w A0 l0.length l0) (hc0 : l0.length ≤ c0) (h : slices_Repeat_int_int.f l0 a1 = some r) :
   Calls Try.prog 32 #[.slice A0 l0.length c0, .int .i64 a1] w fun e w' => ∃ v0_ : Value, e = .returned (v0_) ∧ Kd.R (Kd.int .i64) 3 w' w.heap.size (fun _ => True) v0_ r ∧ Below w.heap.size w w' := by
 unfold slices_Repeat_int_int.f at h
 split at h
 ·
   rename_i hc
   obtain ⟨h1, h2, h3⟩ := hc; obtain rfl := Option.some.inj h
   obtain ⟨x, rfl⟩ : ∃ x, l0 = [x] := by
    match l0, h1 with
    | [x], _ => exact ⟨x, rfl⟩
   obtain ⟨n, rfl⟩ := Int.eq_ofNat_of_zero_le (show (0 : Int) ≤ a1 by omega); obtain ⟨ad, rfl, hcells⟩ := hr0.2.2 (Nat.succ_pos 0); obtain ⟨c, hc1, hK, hce⟩ := hcells 0 x rfl; obtain rfl : c = [.int .i64 x] := hK; have hx := hce 0 (.int .i64 x) rfl; rw [show 0 * (Kd.int IntKind.i64).sz + 0 = 0 from rfl, show ad.add 0 = ad by simp [Addr.add]] at hx; exact slices_Repeat_int_int.rep_walk x ad c0 n (by omega) (by omega) w hx (fun W => slices_Repeat_int_int.mul n (by omega) W)
 ·
   cases h


end Go.Proofs.Ytmdebfbkehnocaa.Q
