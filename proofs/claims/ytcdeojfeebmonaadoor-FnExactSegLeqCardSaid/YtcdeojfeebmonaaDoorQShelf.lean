/- Contracts of the library's functions that this seat's program calls: laid off the shelf, in plain words. -/
import Derived.Ground.SlgfProg
import Derived.Shelf.SlicesQ.IndexFunc
import Derived.Test.YtcdeojfeebmonaaDoorProg
namespace Go.Proofs
open Go.Shelf
def Tryd.laysSlH08_f32_ren:Go.Shelf.Ren:=⟨fun|8=>32|6=>48|n=>n,fun|22=>69|23=>32|25=>71|4=>4|3=>3|0=>0|n=>n,fun|n=>n⟩
theorem Tryd.laysSlH08_f32:Go.Proofs.SlLaysH0.n8 Tryd.prog Tryd.laysSlH08_f32_ren:={
  mixed:=by kernel_rfl
  f6:=⟨Tryd.f48.name,by decide,Tryd.func48.trans (congrArg some (by kernel_rfl))⟩
  f8:=⟨Tryd.f32.name,by decide,Tryd.func32.trans (congrArg some (by kernel_rfl))⟩
  t0:=Tryd.underlying0
  a0:=Tryd.isAgg0
  z0:=Tryd.sizeOf0
  v0:=Tryd.zeroValue0
  t3:=Tryd.underlying3
  a3:=Tryd.isAgg3
  z3:=Tryd.sizeOf3
  v3:=Tryd.zeroValue3
  t4:=Tryd.underlying4
  a4:=Tryd.isAgg4
  z4:=Tryd.sizeOf4
  v4:=Tryd.zeroValue4
  t22:=Tryd.underlying69
  a22:=Tryd.isAgg69
  z22:=Tryd.sizeOf69
  v22:=Tryd.zeroValue69
  t25:=Tryd.underlying71
  a25:=Tryd.isAgg71
  z25:=Tryd.sizeOf71
  v25:=Tryd.zeroValue71 }
open Go.RowKit Go.Lib in
theorem Tryd.slices_ContainsFunc_f32{α:Type}[Inhabited α](k:Nat)(aE:∀ w,(isAgg 32).run Tryd.prog w=.ok true w)(zE:∀ w,(Go.sizeOf 32).run Tryd.prog w=.ok k w)(enc:α→List Value)(hk:∀ x,(enc x).length=k)(p:α→Bool)(g:Nat)(lb:Array Value)(eg:∀ args w,(callFunc g args).run Tryd.prog w=.ok (.enter g args) w)(b off n c:Nat)(zs:List α)(w:World)(hp:PredBelow Tryd.prog g lb (fun x=>.agg (enc x).toArray) p w)(hz:n≤zs.length)(hbig:n≤9223372036854775807)(hb:b<w.heap.size)(hc:∀ j,j<zs.length→∀ i v,(enc zs[j]!)[i]?=some v→w.cell? ⟨b,off+j*k+i,none⟩=some v) :
    Calls Tryd.prog 32 #[.slice (some ⟨b,off,none⟩) n c,.func (.func g) #[] lb] w fun e w'=>e=.returned (.bool ((zs.take n).any p))∧Below w.heap.size w w':=AnyQ.slices_ContainsFunc Tryd.laysSlH08_f32 k aE zE enc hk p g lb eg b off n c zs w hp hz hbig hb hc
def Tryd.laysSlH08_f55_ren:Go.Shelf.Ren:=⟨fun|8=>55|6=>70|n=>n,fun|22=>30|23=>60|25=>56|4=>4|3=>3|0=>0|n=>n,fun|n=>n⟩
theorem Tryd.laysSlH08_f55:Go.Proofs.SlLaysH0.n8 Tryd.prog Tryd.laysSlH08_f55_ren:={
  mixed:=by kernel_rfl
  f6:=⟨Tryd.f70.name,by decide,Tryd.func70.trans (congrArg some (by kernel_rfl))⟩
  f8:=⟨Tryd.f55.name,by decide,Tryd.func55.trans (congrArg some (by kernel_rfl))⟩
  t0:=Tryd.underlying0
  a0:=Tryd.isAgg0
  z0:=Tryd.sizeOf0
  v0:=Tryd.zeroValue0
  t3:=Tryd.underlying3
  a3:=Tryd.isAgg3
  z3:=Tryd.sizeOf3
  v3:=Tryd.zeroValue3
  t4:=Tryd.underlying4
  a4:=Tryd.isAgg4
  z4:=Tryd.sizeOf4
  v4:=Tryd.zeroValue4
  t22:=Tryd.underlying30
  a22:=Tryd.isAgg30
  z22:=Tryd.sizeOf30
  v22:=Tryd.zeroValue30
  t25:=Tryd.underlying56
  a25:=Tryd.isAgg56
  z25:=Tryd.sizeOf56
  v25:=Tryd.zeroValue56 }
open Go.RowKit Go.Lib in
theorem Tryd.slices_ContainsFunc_f55{α:Type}[Inhabited α](k:Nat)(aE:∀ w,(isAgg 60).run Tryd.prog w=.ok true w)(zE:∀ w,(Go.sizeOf 60).run Tryd.prog w=.ok k w)(enc:α→List Value)(hk:∀ x,(enc x).length=k)(p:α→Bool)(g:Nat)(lb:Array Value)(eg:∀ args w,(callFunc g args).run Tryd.prog w=.ok (.enter g args) w)(b off n c:Nat)(zs:List α)(w:World)(hp:PredBelow Tryd.prog g lb (fun x=>.agg (enc x).toArray) p w)(hz:n≤zs.length)(hbig:n≤9223372036854775807)(hb:b<w.heap.size)(hc:∀ j,j<zs.length→∀ i v,(enc zs[j]!)[i]?=some v→w.cell? ⟨b,off+j*k+i,none⟩=some v) :
    Calls Tryd.prog 55 #[.slice (some ⟨b,off,none⟩) n c,.func (.func g) #[] lb] w fun e w'=>e=.returned (.bool ((zs.take n).any p))∧Below w.heap.size w w':=AnyQ.slices_ContainsFunc Tryd.laysSlH08_f55 k aE zE enc hk p g lb eg b off n c zs w hp hz hbig hb hc
end Go.Proofs
