/- The contracts of the library's functions at this program: the numbering, and that the bodies are those that the contracts were proved of. Printed by program. No conditions. -/
import Derived.Shelf.SlGeneric
import Derived.Shelf.SlicesE.Compact
import Derived.ProofKit
import Derived.Ground.NamesProg
import Derived.Shelf.Small.Strs
import Derived.Ground.SlgnProg
import Derived.Test.YtpjafacmfmhglaaProg
namespace Go.Proofs
open Go.Shelf
def Try.lcompB_ren : Go.Shelf.Ren := ⟨fun | 43 => 30 | n => n, fun | 22 => 22 | 23 => 5 | 3 => 3 | 4 => 4 | 0 => 0 | n => n, fun | n => n⟩
theorem Try.lcompB : Go.Proofs.SlLaysE.n43 Try.prog Try.lcompB_ren := {
  mixed := by kernel_rfl
  f43 := ⟨Try.f30.name, by decide, Try.func30.trans (congrArg some (by kernel_rfl))⟩
  t0 := Try.underlying0
  a0 := Try.isAgg0
  z0 := Try.sizeOf0
  v0 := Try.zeroValue0
  t3 := Try.underlying3
  a3 := Try.isAgg3
  z3 := Try.sizeOf3
  v3 := Try.zeroValue3
  t4 := Try.underlying4
  a4 := Try.isAgg4
  z4 := Try.sizeOf4
  v4 := Try.zeroValue4
  t22 := Try.underlying22
  a22 := Try.isAgg22
  z22 := Try.sizeOf22
  v22 := Try.zeroValue22
  a23 := Try.isAgg5
  z23 := Try.sizeOf5 }
def Try.lidxb_ren : Go.Shelf.Ren := ⟨fun | 137 => 35 | 217 => 58 | 266 => 83 | n => n, fun | 9 => 9 | 5 => 5 | 3 => 3 | n => n, fun | n => n⟩
theorem Try.lidxb : Go.Proofs.Lays.n137 Try.prog Try.lidxb_ren := {
  mixed := by kernel_rfl
  f137 := Try.func35.trans (congrArg some (by kernel_rfl))
  f217 := Try.func58.trans (congrArg some (by kernel_rfl))
  f266 := Try.func83.trans (congrArg some (by kernel_rfl))
  t3 := Try.underlying3
  a3 := Try.isAgg3
  z3 := Try.sizeOf3
  v3 := Try.zeroValue3
  t5 := Try.underlying5
  a5 := Try.isAgg5
  z5 := Try.sizeOf5
  v5 := Try.zeroValue5
  t9 := Try.underlying9
  a9 := Try.isAgg9
  z9 := Try.sizeOf9
  v9 := Try.zeroValue9 }
end Go.Proofs
