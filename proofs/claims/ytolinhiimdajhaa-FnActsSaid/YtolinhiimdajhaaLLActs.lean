/- The contracts of the library's functions at this program: the numbering, and that the bodies are those that the contracts were proved of. Printed by program. No conditions. -/
import Derived.Shelf.SlGeneric
import Derived.Shelf.SlicesE.Clone
import Derived.Ground.SlgnProg
import Derived.Test.YtolinhiimdajhaaProg
namespace Go.Proofs
open Go.Shelf
def Try.lclone789_ren : Go.Shelf.Ren := ⟨fun | 41 => 135 | n => n, fun | 22 => 84 | 23 => 9 | 4 => 4 | n => n, fun | n => n⟩
theorem Try.lclone789 : Go.Proofs.SlLaysE0.n41 Try.prog Try.lclone789_ren := {
  mixed := by kernel_rfl
  f41 := ⟨Try.f135.name, by decide, Try.func135.trans (congrArg some (by kernel_rfl))⟩
  t4 := Try.underlying4
  a4 := Try.isAgg4
  z4 := Try.sizeOf4
  v4 := Try.zeroValue4
  t22 := Try.underlying84
  a22 := Try.isAgg84
  z22 := Try.sizeOf84
  v22 := Try.zeroValue84 }
def Try.lclone785_ren : Go.Shelf.Ren := ⟨fun | 41 => 136 | n => n, fun | 22 => 85 | 23 => 134 | 4 => 4 | n => n, fun | n => n⟩
theorem Try.lclone785 : Go.Proofs.SlLaysE0.n41 Try.prog Try.lclone785_ren := {
  mixed := by kernel_rfl
  f41 := ⟨Try.f136.name, by decide, Try.func136.trans (congrArg some (by kernel_rfl))⟩
  t4 := Try.underlying4
  a4 := Try.isAgg4
  z4 := Try.sizeOf4
  v4 := Try.zeroValue4
  t22 := Try.underlying85
  a22 := Try.isAgg85
  z22 := Try.sizeOf85
  v22 := Try.zeroValue85 }
end Go.Proofs
