/- The contracts of the library's functions at this program: the numbering, and that the bodies are those that the contracts were proved of. Printed by program. No conditions. -/
import Derived.Shelf.SlGeneric
import Derived.Shelf.SlicesE.Clone
import Derived.Ground.SlgnProg
import Derived.Test.YtolinhiimdajhaaProg
namespace Go.Proofs
open Go.Shelf
def Try.lclone787_ren : Go.Shelf.Ren := ⟨fun | 41 => 114 | n => n, fun | 22 => 46 | 23 => 67 | 4 => 4 | n => n, fun | n => n⟩
theorem Try.lclone787 : Go.Proofs.SlLaysE0.n41 Try.prog Try.lclone787_ren := {
  mixed := by kernel_rfl
  f41 := ⟨Try.f114.name, by decide, Try.func114.trans (congrArg some (by kernel_rfl))⟩
  t4 := Try.underlying4
  a4 := Try.isAgg4
  z4 := Try.sizeOf4
  v4 := Try.zeroValue4
  t22 := Try.underlying46
  a22 := Try.isAgg46
  z22 := Try.sizeOf46
  v22 := Try.zeroValue46 }
end Go.Proofs
