/- Functions of the translation as Lean functions, each with a proof that a call answers so; out of the seat, by this claim's own program prt.py. -/
import Derived.Test.YtdmdalapckcobaaDoorQx0
import Derived.Test.YtdmdalapckcobaaDoorQStep3
namespace Go.Proofs.YtdmdalapckcobaaDoor.Q
open Go.RowKit Go.Proofs.YtdmdalapckcobaaDoorW.PrintWords Go.Proofs.YtdmdalapckcobaaDoorW.PrintLast Go.Proofs.YtdmdalapckcobaaDoorW.PrintMore
attribute [local go_sem] max2_int min2_int max_two min_two max_three min_three max_four min_four   -- for this text's walks alone
set_option linter.unusedVariables false
set_option linter.unusedSimpArgs false

/-! ### impl_Val_109: function 109 -/
def impl_Val_109.f (l0 : List (S90)) : Option (List (S90)) := if l0.length ≤ 1000000 then some l0 else none
set_option maxRecDepth 100000 in
theorem impl_Val_109.none_ (c0 : Nat) (w : World) : Calls Tryd.prog 109 #[.slice none 0 c0] w fun e w' => e = .returned (.slice none 0 0) ∧ Below w.heap.size w w' := by
 have hnil := fun (w : World) => Lib.run_eql_slice_nil (P := Tryd.prog) w 31 90 (none : Option Addr) 0 c0 0 0 Tryd.underlying31
 go_enter Tryd.func109, Tryd.ntmps109
 go_wp2
 go_ret
 exact ⟨rfl, Below.refl _ _⟩
set_option maxRecDepth 100000 in
theorem impl_Val_109.some_ (ad : Addr) (c0 : Nat) (l0 : List (S90)) (w : World) (hr0 : Kd.C k90 w (some ad) l0.length l0) (hs : l0.length ≤ 1000000) :
  Calls Tryd.prog 109 #[.slice (some ad) l0.length c0] w fun e w' => ∃ v0_ : Value, e = .returned v0_ ∧ Kd.R k90 90 w' w.heap.size (fun _ => True) v0_ l0 ∧ Below w.heap.size w w' := by
 have hnil := fun (w : World) => Lib.run_eql_slice_nil (P := Tryd.prog) w 31 90 (some ad : Option Addr) l0.length c0 0 0 Tryd.underlying31; have hinfo : (Tryd.prog.info? 90).map (fun i => (i.zero, i.size, i.bytes)) = some (some (.agg #[.int .i64 0, .int .i64 0, .bool false]), (k90).sz, 24) := by kernel_rfl
 have HR := am_ hr0; have HI := am_ hinfo; clear hr0 hinfo
 go_enter Tryd.func109, Tryd.ntmps109
 go_wp2_with (first
  | ((with_reducible refine gate_dst (N := 5) rfl ?_); refine Kd.R_lit k90 _ 90 ?hg (N := 5) ?hd (xs := []) (inner := []) (ok := fun _ => True) (okp := fun _ => True) ?hr ?hp (fun _ hk => hk) trivial (Below.refl _ _) (Nat.le_refl _) (by simp) ?_; (case hd => rfl); (case hg => rfl); (case hr => first | (go_simp; done) | (go_simp; rfl)); (case hp => exact (Reps.none _ _)); intro v5 w5 ho5 hb5 hg5 hn5)
  | ((with_reducible refine gate_builtin (b := .append) (xs := #[.tmp 5, .tmp 6]) rfl ?_); at_builtin; refine Kd.R_append_rows k90 (w0 := w) w.heap.size rfl (.tmp 5) (.tmp 6) 31 90 (.agg #[.int .i64 0, .int .i64 0, .bool false]) 24 rfl Tryd.underlying31 HI.out rfl (by decide) (by omega) v5 [] l0 _ _ _ (fun _ => True) (fun _ => False) rfl rfl ?aO ?aR (fun _ _ h => h) (fun _ h => h.elim) ?aF ?aB ?aS ?aL ?_; (case aR => exact Kd.C_below HR.out hb5); (case aB => exact hb5); (case aF => exact (fun _ _ => trivial)); (case aO => exact ho5); (case aS => exact hb5.size); (case aL => simp only [List.length_nil]; omega); intro v7 w7 ho7 hb7 hg7 hat7))
 go_ret
 exact ⟨v7, rfl, ho7, hb7⟩
theorem impl_Val_109.calls (A0 : Option Addr) (c0 : Nat) (l0 : List (S90)) (r : List (S90)) (w : World) (hr0 : Kd.C k90 w A0 l0.length l0) (hc0 : l0.length ≤ c0) (h : impl_Val_109.f l0 = some r) :
  Calls Tryd.prog 109 #[.slice A0 l0.length c0] w fun e w' => ∃ v0_ : Value, e = .returned (v0_) ∧ Kd.R k90 90 w' w.heap.size (fun _ => True) v0_ r ∧ Below w.heap.size w w' := by
 unfold impl_Val_109.f at h
 split at h
 ·
  rename_i hs
  obtain rfl := Option.some.inj h; cases A0 with
  | some ad => exact impl_Val_109.some_ ad c0 l0 w hr0 hs
  | none =>
   rcases Nat.eq_zero_or_pos l0.length with h0 | h0
   ·
    obtain rfl := List.eq_nil_of_length_eq_zero h0; refine (impl_Val_109.none_ c0 w).mono ?_; rintro e w' ⟨rfl, hb⟩; exact ⟨_, rfl, Kd.R_nil _ _ _ _ _, hb⟩
   ·
    obtain ⟨ad, h, _⟩ := hr0.2.2 h0; cases h
 ·
  cases h


/-! ### slices_Clone_bool_bool: function 110 -/
def slices_Clone_bool_bool.f (l0 : List Bool) : Option (List Bool) := if l0.length ≤ 1000000 then some l0 else none
set_option maxRecDepth 100000 in
theorem slices_Clone_bool_bool.none_ (c0 : Nat) (w : World) : Calls Tryd.prog 110 #[.slice none 0 c0] w fun e w' => e = .returned (.slice none 0 0) ∧ Below w.heap.size w w' := by
 have hnil := fun (w : World) => Lib.run_eql_slice_nil (P := Tryd.prog) w 24 4 (none : Option Addr) 0 c0 0 0 Tryd.underlying24
 go_enter Tryd.func110, Tryd.ntmps110
 go_wp2
 go_ret
 exact ⟨rfl, Below.refl _ _⟩
set_option maxRecDepth 100000 in
theorem slices_Clone_bool_bool.some_ (ad : Addr) (c0 : Nat) (l0 : List Bool) (w : World) (hr0 : Kd.C Kd.bool w (some ad) l0.length l0) (hs : l0.length ≤ 1000000) :
  Calls Tryd.prog 110 #[.slice (some ad) l0.length c0] w fun e w' => ∃ v0_ : Value, e = .returned v0_ ∧ Kd.R Kd.bool 4 w' w.heap.size (fun _ => True) v0_ l0 ∧ Below w.heap.size w w' := by
 have hnil := fun (w : World) => Lib.run_eql_slice_nil (P := Tryd.prog) w 24 4 (some ad : Option Addr) l0.length c0 0 0 Tryd.underlying24; have hinfo : (Tryd.prog.info? 4).map (fun i => (i.zero, i.size, i.bytes)) = some (some (.bool false), (Kd.bool).sz, 1) := by kernel_rfl
 have HR := am_ hr0; have HI := am_ hinfo; clear hr0 hinfo
 go_enter Tryd.func110, Tryd.ntmps110
 go_wp2_with (first
  | ((with_reducible refine gate_dst (N := 5) rfl ?_); refine Kd.R_lit Kd.bool _ 4 ?hg (N := 5) ?hd (xs := []) (inner := []) (ok := fun _ => True) (okp := fun _ => True) ?hr ?hp (fun _ hk => hk) trivial (Below.refl _ _) (Nat.le_refl _) (by simp) ?_; (case hd => rfl); (case hg => rfl); (case hr => first | (go_simp; done) | (go_simp; rfl)); (case hp => exact (Reps.none _ _)); intro v5 w5 ho5 hb5 hg5 hn5)
  | ((with_reducible refine gate_builtin (b := .append) (xs := #[.tmp 5, .tmp 6]) rfl ?_); at_builtin; refine Kd.R_append_rows Kd.bool (w0 := w) w.heap.size rfl (.tmp 5) (.tmp 6) 24 4 (.bool false) 1 rfl Tryd.underlying24 HI.out rfl (by decide) (by omega) v5 [] l0 _ _ _ (fun _ => True) (fun _ => False) rfl rfl ?aO ?aR (fun _ _ h => h) (fun _ h => h.elim) ?aF ?aB ?aS ?aL ?_; (case aR => exact Kd.C_below HR.out hb5); (case aB => exact hb5); (case aF => exact (fun _ _ => trivial)); (case aO => exact ho5); (case aS => exact hb5.size); (case aL => simp only [List.length_nil]; omega); intro v7 w7 ho7 hb7 hg7 hat7))
 go_ret
 exact ⟨v7, rfl, ho7, hb7⟩
theorem slices_Clone_bool_bool.calls (A0 : Option Addr) (c0 : Nat) (l0 : List Bool) (r : List Bool) (w : World) (hr0 : Kd.C Kd.bool w A0 l0.length l0) (hc0 : l0.length ≤ c0) (h : slices_Clone_bool_bool.f l0 = some r) :
  Calls Tryd.prog 110 #[.slice A0 l0.length c0] w fun e w' => ∃ v0_ : Value, e = .returned (v0_) ∧ Kd.R Kd.bool 4 w' w.heap.size (fun _ => True) v0_ r ∧ Below w.heap.size w w' := by
 unfold slices_Clone_bool_bool.f at h
 split at h
 ·
  rename_i hs
  obtain rfl := Option.some.inj h; cases A0 with
  | some ad => exact slices_Clone_bool_bool.some_ ad c0 l0 w hr0 hs
  | none =>
   rcases Nat.eq_zero_or_pos l0.length with h0 | h0
   ·
    obtain rfl := List.eq_nil_of_length_eq_zero h0; refine (slices_Clone_bool_bool.none_ c0 w).mono ?_; rintro e w' ⟨rfl, hb⟩; exact ⟨_, rfl, Kd.R_nil _ _ _ _ _, hb⟩
   ·
    obtain ⟨ad, h, _⟩ := hr0.2.2 h0; cases h
 ·
  cases h


/-! ### impl_Sym_111: function 111 -/
def impl_Sym_111.f (l0 : List (S54)) : Option (List (S54)) := if l0.length ≤ 1000000 then some l0 else none
set_option maxRecDepth 100000 in
theorem impl_Sym_111.none_ (c0 : Nat) (w : World) : Calls Tryd.prog 111 #[.slice none 0 c0] w fun e w' => e = .returned (.slice none 0 0) ∧ Below w.heap.size w w' := by
 have hnil := fun (w : World) => Lib.run_eql_slice_nil (P := Tryd.prog) w 36 54 (none : Option Addr) 0 c0 0 0 Tryd.underlying36
 go_enter Tryd.func111, Tryd.ntmps111
 go_wp2
 go_ret
 exact ⟨rfl, Below.refl _ _⟩
set_option maxRecDepth 100000 in
theorem impl_Sym_111.some_ (ad : Addr) (c0 : Nat) (l0 : List (S54)) (w : World) (hr0 : Kd.C k54 w (some ad) l0.length l0) (hs : l0.length ≤ 1000000) :
  Calls Tryd.prog 111 #[.slice (some ad) l0.length c0] w fun e w' => ∃ v0_ : Value, e = .returned v0_ ∧ Kd.R k54 54 w' w.heap.size (fun _ => True) v0_ l0 ∧ Below w.heap.size w w' := by
 have hnil := fun (w : World) => Lib.run_eql_slice_nil (P := Tryd.prog) w 36 54 (some ad : Option Addr) l0.length c0 0 0 Tryd.underlying36; have hinfo : (Tryd.prog.info? 54).map (fun i => (i.zero, i.size, i.bytes)) = some (some (.agg #[.int .i64 0, .int .i64 0]), (k54).sz, 16) := by kernel_rfl
 have HR := am_ hr0; have HI := am_ hinfo; clear hr0 hinfo
 go_enter Tryd.func111, Tryd.ntmps111
 go_wp2_with (first
  | ((with_reducible refine gate_dst (N := 5) rfl ?_); refine Kd.R_lit k54 _ 54 ?hg (N := 5) ?hd (xs := []) (inner := []) (ok := fun _ => True) (okp := fun _ => True) ?hr ?hp (fun _ hk => hk) trivial (Below.refl _ _) (Nat.le_refl _) (by simp) ?_; (case hd => rfl); (case hg => rfl); (case hr => first | (go_simp; done) | (go_simp; rfl)); (case hp => exact (Reps.none _ _)); intro v5 w5 ho5 hb5 hg5 hn5)
  | ((with_reducible refine gate_builtin (b := .append) (xs := #[.tmp 5, .tmp 6]) rfl ?_); at_builtin; refine Kd.R_append_rows k54 (w0 := w) w.heap.size rfl (.tmp 5) (.tmp 6) 36 54 (.agg #[.int .i64 0, .int .i64 0]) 16 rfl Tryd.underlying36 HI.out rfl (by decide) (by omega) v5 [] l0 _ _ _ (fun _ => True) (fun _ => False) rfl rfl ?aO ?aR (fun _ _ h => h) (fun _ h => h.elim) ?aF ?aB ?aS ?aL ?_; (case aR => exact Kd.C_below HR.out hb5); (case aB => exact hb5); (case aF => exact (fun _ _ => trivial)); (case aO => exact ho5); (case aS => exact hb5.size); (case aL => simp only [List.length_nil]; omega); intro v7 w7 ho7 hb7 hg7 hat7))
 go_ret
 exact ⟨v7, rfl, ho7, hb7⟩
theorem impl_Sym_111.calls (A0 : Option Addr) (c0 : Nat) (l0 : List (S54)) (r : List (S54)) (w : World) (hr0 : Kd.C k54 w A0 l0.length l0) (hc0 : l0.length ≤ c0) (h : impl_Sym_111.f l0 = some r) :
  Calls Tryd.prog 111 #[.slice A0 l0.length c0] w fun e w' => ∃ v0_ : Value, e = .returned (v0_) ∧ Kd.R k54 54 w' w.heap.size (fun _ => True) v0_ r ∧ Below w.heap.size w w' := by
 unfold impl_Sym_111.f at h
 split at h
 ·
  rename_i hs
  obtain rfl := Option.some.inj h; cases A0 with
  | some ad => exact impl_Sym_111.some_ ad c0 l0 w hr0 hs
  | none =>
   rcases Nat.eq_zero_or_pos l0.length with h0 | h0
   ·
    obtain rfl := List.eq_nil_of_length_eq_zero h0; refine (impl_Sym_111.none_ c0 w).mono ?_; rintro e w' ⟨rfl, hb⟩; exact ⟨_, rfl, Kd.R_nil _ _ _ _ _, hb⟩
   ·
    obtain ⟨ad, h, _⟩ := hr0.2.2 h0; cases h
 ·
  cases h


end Go.Proofs.YtdmdalapckcobaaDoor.Q
