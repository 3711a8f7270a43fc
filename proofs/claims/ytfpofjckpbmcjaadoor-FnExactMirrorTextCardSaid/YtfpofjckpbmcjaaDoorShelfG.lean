/- The library's generic contracts at this translation, in plain words (the kit's lay-plain.mjs wrote them). -/
import Derived.Shelf.SlicesE.Reverse
import Derived.Test.YtfpofjckpbmcjaaDoorProg
namespace Go.Proofs
open Go.Shelf
def Tryd.revB_ren : Go.Shelf.Ren := ⟨fun | 35 => 50 | n => n, fun | 22 => 63 | 23 => 5 | 3 => 3 | 4 => 4 | 0 => 0 | n => n, fun | n => n⟩
theorem Tryd.revB : Go.Proofs.SlLaysE.n35 Tryd.prog Tryd.revB_ren := {
  mixed := by kernel_rfl
  f35 := ⟨Tryd.f50.name, by decide, Tryd.func50.trans (congrArg some (by kernel_rfl))⟩
  t0 := Tryd.underlying0
  a0 := Tryd.isAgg0
  z0 := Tryd.sizeOf0
  v0 := Tryd.zeroValue0
  t3 := Tryd.underlying3
  a3 := Tryd.isAgg3
  z3 := Tryd.sizeOf3
  v3 := Tryd.zeroValue3
  t4 := Tryd.underlying4
  a4 := Tryd.isAgg4
  z4 := Tryd.sizeOf4
  v4 := Tryd.zeroValue4
  t22 := Tryd.underlying63
  a22 := Tryd.isAgg63
  z22 := Tryd.sizeOf63
  v22 := Tryd.zeroValue63
  a23 := Tryd.isAgg5
  z23 := Tryd.sizeOf5 }
end Go.Proofs
