/- The contracts of the library's functions at this program: the numbering, and that the bodies are those that the contracts were proved of. Printed by program. No conditions. -/
import Derived.Shelf.SlGeneric
import Derived.Shelf.SlicesE.Clone
import Derived.Ground.SlgnProg
import Derived.Test.YtolinhiimdajhaaProg
namespace Go.Proofs
open Go.Shelf
def Try.lclone786_ren : Go.Shelf.Ren := ⟨fun | 41 => 146 | n => n, fun | 22 => 35 | 23 => 40 | 4 => 4 | n => n, fun | n => n⟩
theorem Try.lclone786 : Go.Proofs.SlLaysE0.n41 Try.prog Try.lclone786_ren := {
  mixed := by kernel_rfl
  f41 := ⟨Try.f146.name, by decide, Try.func146.trans (congrArg some (by kernel_rfl))⟩
  t4 := Try.underlying4
  a4 := Try.isAgg4
  z4 := Try.sizeOf4
  v4 := Try.zeroValue4
  t22 := Try.underlying35
  a22 := Try.isAgg35
  z22 := Try.sizeOf35
  v22 := Try.zeroValue35 }
end Go.Proofs
