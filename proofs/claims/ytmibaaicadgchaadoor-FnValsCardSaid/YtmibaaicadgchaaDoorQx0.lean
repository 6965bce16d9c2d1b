/- Functions of the translation as Lean functions, each with a proof that a call answers so; out of the seat, by this claim's own program prt.py. -/
import Derived.Test.YtmibaaicadgchaaDoorProg
import Derived.Below
import Derived.Deep.Draws
import Derived.Deep.AppendLies
import Derived.Maps.AppendAt
import Derived.OwnWalk
import Derived.Laws.BytesArg
import Derived.Laws.MakeOwn
import Derived.Laws.OwnMore
import Derived.Deep.OwnRows
import Derived.Tactics
import Derived.Lib.ConvBytes
import Derived.Laws.Slices
import Derived.WalkKit
import Derived.KernelRfl
import Derived.RowKit3
import Derived.Deep.LoopGhost
import Derived.Deep.QuietTactic
import Derived.BigQuiet
import Derived.WideLaws
import Derived.Deep.DeepCutAuto
import Derived.Deep.CutBlock
import Derived.Deep.RegionHeld3
import Derived.Laws.Rows
import Derived.Lib.AppendStr
import Derived.ArgAppend
import Derived.Laws.IdiomCopy
import Derived.OrdersHeld
import Derived.Laws.BitsLemmas
import Derived.RowKit
import Derived.Test.YtmibaaicadgchaaDoorQShelf
import Derived.Lib.LaidTab
import Derived.Lib.AppendIntMem
import Derived.Lib.AtoiErrMem
import Derived.BigCall
import Derived.WalkSmall
import Derived.Laws.CopyOwn
import Derived.Deep.RegionLaw
import Derived.Test.YtmibaaicadgchaaDoorWWords
import Derived.Test.YtmibaaicadgchaaDoorWLast
import Derived.Test.YtmibaaicadgchaaDoorWQPut
import Derived.Test.YtmibaaicadgchaaDoorWApart
import Derived.Test.YtmibaaicadgchaaDoorWArr
import Derived.Test.YtmibaaicadgchaaDoorWZeros
import Derived.Test.YtmibaaicadgchaaDoorWFoot
import Derived.Test.YtmibaaicadgchaaDoorWKept
import Derived.Test.YtmibaaicadgchaaDoorWShare
import Derived.Test.YtmibaaicadgchaaDoorWN
import Derived.Test.YtmibaaicadgchaaDoorWRepsOne
import Derived.Test.YtmibaaicadgchaaDoorWNEv
import Derived.Test.YtmibaaicadgchaaDoorWMore
namespace Go.Proofs.YtmibaaicadgchaaDoor.Q
open Go.RowKit Go.Proofs.YtmibaaicadgchaaDoorW.PrintWords Go.Proofs.YtmibaaicadgchaaDoorW.PrintLast Go.Proofs.YtmibaaicadgchaaDoorW.PrintMore
attribute [local go_sem] max2_int min2_int max_two min_two max_three min_three max_four min_four   -- for this text's walks alone
set_option linter.unusedVariables false
set_option linter.unusedSimpArgs false



def errW : Option Int → Value
 | none => .nilIface
 | some c => .iface 0 (.int .i64 c)
theorem errW_none : errW none = .nilIface := rfl
theorem errW_some (c : Int) : errW (some c) = .iface 0 (.int .i64 c) := rfl

theorem info3 : (Tryd.prog.info? 3).map (fun i => (i.zero, i.size, i.bytes)) = some (some (.int .i64 0), 1, 8) := by kernel_rfl
theorem info5 : (Tryd.prog.info? 5).map (fun i => (i.zero, i.size, i.bytes)) = some (some (.int .u8 0), 1, 1) := by kernel_rfl
theorem info25 : (Tryd.prog.info? 25).map (fun i => (i.zero, i.size, i.bytes)) = some (some (.agg #[(.int .i64 0), (.int .i64 0)]), 2, 16) := by kernel_rfl
-- the values' own types
/-! #### struct type 25 -/
structure S25 where
 f0 : Int
 f1 : Int
def z25 : S25 := ⟨(0 : Int), (0 : Int)⟩
def k25 : Kd S25 := Kd.iso (Kd.pair (Kd.int .i64) (Kd.int .i64)) (fun x : S25 => (x.f0, x.f1))
theorem k25_open {w : World} {x : S25} {cs : List Value} (h : k25.K w x cs) : cs = [.int .i64 x.f0, .int .i64 x.f1] := by
 obtain ⟨_, _, rfl, rfl, rfl⟩ := h; exact rfl
theorem k25_openM {w : World} {base : Nat} {ok : Nat → Prop} {x : S25} {cs : List Value} (h : k25.M w base ok x cs) : cs = [.int .i64 x.f0, .int .i64 x.f1] := by
 obtain ⟨_, _, rfl, rfl, rfl⟩ := h; exact rfl
theorem k25_mk (w : World) (x : S25)  : k25.K w x [.int .i64 x.f0, .int .i64 x.f1] := ⟨[.int .i64 x.f0], [.int .i64 x.f1], rfl, rfl, rfl⟩
theorem k25_mkM (w : World) (base : Nat) (ok : Nat → Prop) (x : S25)  : k25.M w base ok x [.int .i64 x.f0, .int .i64 x.f1] := ⟨[.int .i64 x.f0], [.int .i64 x.f1], rfl, rfl, rfl⟩
def rd_T25 (xs : List S25) (i : Int) : S25 := xs.getD i.toNat z25
theorem at_T25 {w : World} {A : Option Addr} {n : Nat} {xs : List S25} (h : Kd.C k25 w A n xs) (i : Int) (h0 : 0 ≤ i) (h1 : i < n) : ∃ ad , A = some ad ∧ w.cell? (ad.add (i.toNat * 2)) = some (.int .i64 (rd_T25 xs i).f0) ∧ w.cell? ⟨(ad.add (i.toNat * 2)).block, (ad.add (i.toNat * 2)).off + 1, none⟩ = some (.int .i64 (rd_T25 xs i).f1) := by
 obtain ⟨ad, c, e, _, hK, hc0⟩ := Kd.C_get h z25 i h0 h1; have hc : ∀ j u, c[j]? = some u → w.cell? (ad.add (i.toNat * 2 + j)) = some u := hc0; obtain rfl := k25_open hK; exact ⟨ad, e, hc 0 _ rfl, by rw [← add_field _ _ 1 (by omega)]; exact hc 1 _ rfl⟩

def rd_L3 (xs : List (List Int)) (i : Int) : (List Int) := xs.getD i.toNat ([] : List Int)
theorem at_L3 {w : World} {A : Option Addr} {n : Nat} {xs : List (List Int)} (h : Kd.C (Kd.slice 5 (Kd.int .u8)) w A n xs) (i : Int) (h0 : 0 ≤ i) (h1 : i < n) : ∃ ad A0 c0, A = some ad ∧ w.cell? (ad.add i.toNat) = some (.slice A0 (rd_L3 xs i).length c0) ∧ (rd_L3 xs i).length ≤ c0 ∧ (Kd.int .u8).C w A0 (rd_L3 xs i).length (rd_L3 xs i) := by
 obtain ⟨ad, c, e, _, hK, hc0⟩ := Kd.C_get h ([] : List Int) i h0 h1; have hc : ∀ j u, c[j]? = some u → w.cell? (ad.add (i.toNat * 1 + j)) = some u := hc0; obtain ⟨A0, c0, rfl, l0, g0⟩ := hK; exact ⟨ad, A0, c0, e, by have hq := hc 0 _ rfl; rwa [Nat.mul_one, Nat.add_zero] at hq, l0, g0⟩

/-- The package-level variable impl.none holds what it is laid with. -/
def GL0 (w : World) : Prop := w.cell? ⟨0, 0, none⟩ = some (.int .i64 1) ∧ w.cell? ⟨0, 1, none⟩ = some (.int .i64 0)
theorem GL0.c0 {w : World} (h : GL0 w) : w.cell? ⟨0, 0, none⟩ = some (.int .i64 1) := h.1
theorem GL0.c1 {w : World} (h : GL0 w) : w.cell? ⟨0, 1, none⟩ = some (.int .i64 0) := h.2
theorem GL0.below {w w' : World} (h : GL0 w) (hb : Below w.heap.size w w') : GL0 w' := ⟨(hb.cell (World.block_lt_of_cell? _ _ h.c0)).trans h.c0, (hb.cell (World.block_lt_of_cell? _ _ h.c1)).trans h.c1⟩
/-- The package-level variable impl.noCell holds what it is laid with. -/
def GL1 (w : World) : Prop := w.cell? ⟨1, 0, none⟩ = some (.int .i64 1) ∧ w.cell? ⟨1, 1, none⟩ = some (.int .i64 0) ∧ w.cell? ⟨1, 2, none⟩ = some (.bool true)
theorem GL1.c0 {w : World} (h : GL1 w) : w.cell? ⟨1, 0, none⟩ = some (.int .i64 1) := h.1
theorem GL1.c1 {w : World} (h : GL1 w) : w.cell? ⟨1, 1, none⟩ = some (.int .i64 0) := h.2.1
theorem GL1.c2 {w : World} (h : GL1 w) : w.cell? ⟨1, 2, none⟩ = some (.bool true) := h.2.2
theorem GL1.below {w w' : World} (h : GL1 w) (hb : Below w.heap.size w w') : GL1 w' := ⟨(hb.cell (World.block_lt_of_cell? _ _ h.c0)).trans h.c0, (hb.cell (World.block_lt_of_cell? _ _ h.c1)).trans h.c1, (hb.cell (World.block_lt_of_cell? _ _ h.c2)).trans h.c2⟩
/-- The library's variable internal/bytealg.MaxLen holds something of its kind. -/
def GL2 (w : World) : Prop := ∃ m, w.cell? ⟨2, 0, none⟩ = some (.int .i64 m)
theorem GL2.below {w w' : World} (h : GL2 w) (hb : Below w.heap.size w w') : GL2 w' := by
 obtain ⟨m, e⟩ := h; exact ⟨m, (hb.cell (World.block_lt_of_cell? _ _ e)).trans e⟩
/-- The library's variable strconv.ErrSyntax holds something of its kind. -/
def GL3 (w : World) : Prop := ∃ u v, w.cell? ⟨3, 0, none⟩ = some (.iface u v)
theorem GL3.below {w w' : World} (h : GL3 w) (hb : Below w.heap.size w w') : GL3 w' := by
 obtain ⟨u, v, e⟩ := h; exact ⟨u, v, (hb.cell (World.block_lt_of_cell? _ _ e)).trans e⟩
/-- The library's variable strconv.ErrRange holds something of its kind. -/
def GL4 (w : World) : Prop := ∃ u v, w.cell? ⟨4, 0, none⟩ = some (.iface u v)
theorem GL4.below {w w' : World} (h : GL4 w) (hb : Below w.heap.size w w') : GL4 w' := by
 obtain ⟨u, v, e⟩ := h; exact ⟨u, v, (hb.cell (World.block_lt_of_cell? _ _ e)).trans e⟩
/-- The table internal/strconv.uint64pow10 holds what it is laid with. -/
def GL5 (w : World) : Prop := Lib.TabIs Tryd.prog w "internal/strconv.uint64pow10" .u64 Lib.pow10Tab
theorem GL5.below {w w' : World} (h : GL5 w) (hb : Below w.heap.size w w') : GL5 w' :=
 var?_below hb (show Tryd.prog.globalNamed "internal/strconv.uint64pow10" = some 5 by kernel_rfl) (World.block_lt_of_cell? w ⟨5, 0, none⟩ (Lib.TabIs.cell h (show Tryd.prog.globalNamed "internal/strconv.uint64pow10" = some 5 by kernel_rfl) 0 (by decide))) h
end Go.Proofs.YtmibaaicadgchaaDoor.Q
