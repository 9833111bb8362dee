/- The contracts of the library's functions at this program: the numbering, and that the bodies are those that the contracts were proved of. Printed by program. No conditions. -/
import Derived.Shelf.SlGeneric
import Derived.Shelf.SlicesE.Clone
import Derived.Ground.SlgnProg
import Derived.Test.YtaaoecnfjibfcaaProg
namespace Go.Proofs
open Go.Shelf
def Try.lclone784_ren : Go.Shelf.Ren := ⟨fun | 41 => 38 | n => n, fun | 22 => 28 | 23 => 2 | 4 => 4 | n => n, fun | n => n⟩
theorem Try.lclone784 : Go.Proofs.SlLaysE0.n41 Try.prog Try.lclone784_ren := {
  mixed := by kernel_rfl
  f41 := ⟨Try.f38.name, by decide, Try.func38.trans (congrArg some (by kernel_rfl))⟩
  t4 := Try.underlying4
  a4 := Try.isAgg4
  z4 := Try.sizeOf4
  v4 := Try.zeroValue4
  t22 := Try.underlying28
  a22 := Try.isAgg28
  z22 := Try.sizeOf28
  v22 := Try.zeroValue28 }
def Try.lclone786_ren : Go.Shelf.Ren := ⟨fun | 41 => 62 | n => n, fun | 22 => 24 | 23 => 58 | 4 => 4 | n => n, fun | n => n⟩
theorem Try.lclone786 : Go.Proofs.SlLaysE0.n41 Try.prog Try.lclone786_ren := {
  mixed := by kernel_rfl
  f41 := ⟨Try.f62.name, by decide, Try.func62.trans (congrArg some (by kernel_rfl))⟩
  t4 := Try.underlying4
  a4 := Try.isAgg4
  z4 := Try.sizeOf4
  v4 := Try.zeroValue4
  t22 := Try.underlying24
  a22 := Try.isAgg24
  z22 := Try.sizeOf24
  v22 := Try.zeroValue24 }
end Go.Proofs
