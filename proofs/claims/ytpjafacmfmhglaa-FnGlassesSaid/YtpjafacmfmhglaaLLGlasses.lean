/- The contracts of the library's functions at this program: the numbering, and that the bodies are those that the contracts were proved of. Printed by program. No conditions. -/
import Derived.Tactics
import Derived.Tactics2
import Derived.Laws.CopyOwn
import Derived.Laws.Tables
import Derived.Laws.Rows
import Derived.Great.Walk
import Derived.Deep.WholeRow
import Derived.ProofKit
import Derived.Shelf.SlGeneric
import Derived.Shelf.SlicesE.Clone
import Derived.Ground.SlgnProg
import Derived.Test.YtpjafacmfmhglaaProg
namespace Go.Proofs
open Go.Shelf
def Try.lclone784_ren : Go.Shelf.Ren := ⟨fun | 41 => 62 | n => n, fun | 22 => 27 | 23 => 2 | 4 => 4 | n => n, fun | n => n⟩
theorem Try.lclone784 : Go.Proofs.SlLaysE0.n41 Try.prog Try.lclone784_ren := {
  mixed := by kernel_rfl
  f41 := ⟨Try.f62.name, by decide, Try.func62.trans (congrArg some (by kernel_rfl))⟩
  t4 := Try.underlying4
  a4 := Try.isAgg4
  z4 := Try.sizeOf4
  v4 := Try.zeroValue4
  t22 := Try.underlying27
  a22 := Try.isAgg27
  z22 := Try.sizeOf27
  v22 := Try.zeroValue27 }
end Go.Proofs
