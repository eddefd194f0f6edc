/-
  Where the functions that maps.Keys and slices.Collect call lie in this program. Written by a tool of the kit's.
-/
import Derived.Test.YthlkcebdfbjdoaaGreatAl
import Derived.Test.YthlkcebdfbjdoaaGreatChecked
import Derived.Shelf.SlIter.Collect
namespace Go.Proofs.YthlkcebdfbjdoaaGreat
namespace Ev
open Go.Shelf
def YL:Go.Shelf.Ren:=⟨fun|7=>33|10=>66|n=>n,fun|23=>55|26=>9|3=>4|28=>59|0=>0|27=>58|33=>65|4=>4|n=>n,fun|n=>n⟩
theorem aUo:Go.Proofs.SlLaysZ.n7 Tryz.prog YL:={
 mixed:=by kernel_rfl
 f7:=⟨Tryz.f33.name,by decide,Tryz.func33.trans (congrArg some (by kernel_rfl))⟩
 f10:=⟨Tryz.f66.name,by decide,Tryz.func66.trans (congrArg some (by kernel_rfl))⟩
 t0:=Tryz.underlying0
 a0:=Tryz.isAgg0
 z0:=Tryz.sizeOf0
 v0:=Tryz.zeroValue0
 t4:=Tryz.underlying4
 a4:=Tryz.isAgg4
 z4:=Tryz.sizeOf4
 v4:=Tryz.zeroValue4
 t23:=Tryz.underlying55
 a23:=Tryz.isAgg55
 z23:=Tryz.sizeOf55
 v23:=Tryz.zeroValue55
 t26:=Tryz.underlying9
 a26:=Tryz.isAgg9
 z26:=Tryz.sizeOf9
 v26:=Tryz.zeroValue9
 t27:=Tryz.underlying58
 a27:=Tryz.isAgg58
 z27:=Tryz.sizeOf58
 v27:=Tryz.zeroValue58
 t28:=Tryz.underlying59
 a28:=Tryz.isAgg59
 z28:=Tryz.sizeOf59
 v28:=Tryz.zeroValue59
 t33:=Tryz.underlying65
 a33:=Tryz.isAgg65
 z33:=Tryz.sizeOf65
 v33:=Tryz.zeroValue65}
def aJW:Go.Shelf.Ren:=⟨fun|8=>65|11=>98|n=>n,fun|26=>9|28=>59|24=>29|0=>0|33=>65|4=>4|n=>n,fun|n=>n⟩
theorem aTL:Go.Proofs.SlLaysZ.n8 Tryz.prog aJW:={
 mixed:=by kernel_rfl
 f8:=⟨Tryz.f65.name,by decide,Tryz.func65.trans (congrArg some (by kernel_rfl))⟩
 f11:=⟨Tryz.f98.name,by decide,Tryz.func98.trans (congrArg some (by kernel_rfl))⟩
 t0:=Tryz.underlying0
 a0:=Tryz.isAgg0
 z0:=Tryz.sizeOf0
 v0:=Tryz.zeroValue0
 t24:=Tryz.underlying29
 a24:=Tryz.isAgg29
 z24:=Tryz.sizeOf29
 v24:=Tryz.zeroValue29
 t26:=Tryz.underlying9
 a26:=Tryz.isAgg9
 z26:=Tryz.sizeOf9
 v26:=Tryz.zeroValue9
 t28:=Tryz.underlying59
 a28:=Tryz.isAgg59
 z28:=Tryz.sizeOf59
 v28:=Tryz.zeroValue59
 i26:=by kernel_rfl}
end Ev
end Go.Proofs.YthlkcebdfbjdoaaGreat
