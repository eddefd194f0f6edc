/-
  Where the functions that maps.Keys and slices.Collect call lie in this program. Written by a tool of the kit's.
-/
import Derived.Test.YtejmccgfigiadaaGreatChecked
import Derived.Shelf.SlIter.Collect
namespace Go.Proofs.YtejmccgfigiadaaGreat
namespace Ev
open Go.Shelf
def S9:Go.Shelf.Ren:=⟨fun | 7 => 51 | 10 => 94 | n => n,fun | 23 => 64 | 26 => 9 | 3 => 4 | 28 => 67 | 0 => 0 | 27 => 66 | 33 => 78 | 4 => 4 | n => n,fun | n => n⟩
theorem aMC:Go.Proofs.SlLaysZ.n7 Tryz.prog S9:={
 mixed:=by kernel_rfl
 f7:=⟨Tryz.f51.name,by decide,Tryz.func51.trans (congrArg some (by kernel_rfl))⟩
 f10:=⟨Tryz.f94.name,by decide,Tryz.func94.trans (congrArg some (by kernel_rfl))⟩
 t0:=Tryz.underlying0
 a0:=Tryz.isAgg0
 z0:=Tryz.sizeOf0
 v0:=Tryz.zeroValue0
 t4:=Tryz.underlying4
 a4:=Tryz.isAgg4
 z4:=Tryz.sizeOf4
 v4:=Tryz.zeroValue4
 t23:=Tryz.underlying64
 a23:=Tryz.isAgg64
 z23:=Tryz.sizeOf64
 v23:=Tryz.zeroValue64
 t26:=Tryz.underlying9
 a26:=Tryz.isAgg9
 z26:=Tryz.sizeOf9
 v26:=Tryz.zeroValue9
 t27:=Tryz.underlying66
 a27:=Tryz.isAgg66
 z27:=Tryz.sizeOf66
 v27:=Tryz.zeroValue66
 t28:=Tryz.underlying67
 a28:=Tryz.isAgg67
 z28:=Tryz.sizeOf67
 v28:=Tryz.zeroValue67
 t33:=Tryz.underlying78
 a33:=Tryz.isAgg78
 z33:=Tryz.sizeOf78
 v33:=Tryz.zeroValue78 }
def aFE:Go.Shelf.Ren:=⟨fun | 8 => 93 | 11 => 129 | n => n,fun | 26 => 9 | 28 => 67 | 24 => 27 | 0 => 0 | 33 => 78 | 4 => 4 | n => n,fun | n => n⟩
theorem aMW:Go.Proofs.SlLaysZ.n8 Tryz.prog aFE:={
 mixed:=by kernel_rfl
 f8:=⟨Tryz.f93.name,by decide,Tryz.func93.trans (congrArg some (by kernel_rfl))⟩
 f11:=⟨Tryz.f129.name,by decide,Tryz.func129.trans (congrArg some (by kernel_rfl))⟩
 t0:=Tryz.underlying0
 a0:=Tryz.isAgg0
 z0:=Tryz.sizeOf0
 v0:=Tryz.zeroValue0
 t24:=Tryz.underlying27
 a24:=Tryz.isAgg27
 z24:=Tryz.sizeOf27
 v24:=Tryz.zeroValue27
 t26:=Tryz.underlying9
 a26:=Tryz.isAgg9
 z26:=Tryz.sizeOf9
 v26:=Tryz.zeroValue9
 t28:=Tryz.underlying67
 a28:=Tryz.isAgg67
 z28:=Tryz.sizeOf67
 v28:=Tryz.zeroValue67
 i26:=by kernel_rfl }
end Ev
end Go.Proofs.YtejmccgfigiadaaGreat
