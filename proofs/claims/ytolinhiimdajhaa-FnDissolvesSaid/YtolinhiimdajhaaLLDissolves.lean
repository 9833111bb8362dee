/- The contracts of the library's functions at this program: the numbering, and that the bodies are those that the contracts were proved of. Printed by program. No conditions. -/
import Derived.Shelf.SlGeneric
import Derived.Shelf.SlicesE.Clone
import Derived.Ground.SlgnProg
import Derived.Test.YtolinhiimdajhaaProg
namespace Go.Proofs
open Go.Shelf
def Try.lclone788_ren : Go.Shelf.Ren := ⟨fun | 41 => 88 | n => n, fun | 22 => 24 | 23 => 32 | 4 => 4 | n => n, fun | n => n⟩
theorem Try.lclone788 : Go.Proofs.SlLaysE0.n41 Try.prog Try.lclone788_ren := {
  mixed := by kernel_rfl
  f41 := ⟨Try.f88.name, by decide, Try.func88.trans (congrArg some (by kernel_rfl))⟩
  t4 := Try.underlying4
  a4 := Try.isAgg4
  z4 := Try.sizeOf4
  v4 := Try.zeroValue4
  t22 := Try.underlying24
  a22 := Try.isAgg24
  z22 := Try.sizeOf24
  v22 := Try.zeroValue24 }
end Go.Proofs
