/- The contracts of the library's functions at this program: the numbering, and that the bodies are those that the contracts were proved of. Printed by program. No conditions. -/
import Derived.Shelf.SlGeneric
import Derived.Shelf.SortG.Plain
import Derived.Shelf.SortG.SortNone
import Derived.Shelf.SlicesG.CompactI
import Derived.Ground.SlgnProg
import Derived.Test.YtmbjedkkombmjaaProg
namespace Go.Proofs
open Go.Shelf
def Try.lsort_ren : Go.Shelf.Ren := ⟨fun | 53 => 90 | 64 => 102 | 63 => 101 | 78 => 114 | 79 => 115 | 70 => 105 | 71 => 106 | 72 => 107 | 73 => 108 | 74 => 109 | 75 => 110 | 59 => 111 | 76 => 112 | 77 => 113 | 88 => 116 | 89 => 117 | 90 => 118 | 91 => 119 | 92 => 120 | 68 => 103 | 96 => 121 | n => n, fun | 22 => 29 | 23 => 2 | 3 => 3 | 51 => 75 | 0 => 0 | 67 => 113 | 69 => 92 | 4 => 4 | 61 => 105 | 60 => 104 | 44 => 110 | 5 => 5 | 9 => 9 | 75 => 115 | 79 => 119 | 83 => 121 | 84 => 122 | n => n, fun | n => n⟩
theorem Try.lsort : Go.Proofs.SlLaysN.n53 Try.prog Try.lsort_ren := {
  mixed := by kernel_rfl
  f53 := ⟨Try.f90.name, by decide, Try.func90.trans (congrArg some (by kernel_rfl))⟩
  f59 := ⟨Try.f111.name, by decide, Try.func111.trans (congrArg some (by kernel_rfl))⟩
  f63 := ⟨Try.f101.name, by decide, Try.func101.trans (congrArg some (by kernel_rfl))⟩
  f64 := Try.func102.trans (congrArg some (by kernel_rfl))
  f68 := ⟨Try.f103.name, by decide, Try.func103.trans (congrArg some (by kernel_rfl))⟩
  f70 := ⟨Try.f105.name, by decide, Try.func105.trans (congrArg some (by kernel_rfl))⟩
  f71 := ⟨Try.f106.name, by decide, Try.func106.trans (congrArg some (by kernel_rfl))⟩
  f72 := ⟨Try.f107.name, by decide, Try.func107.trans (congrArg some (by kernel_rfl))⟩
  f73 := ⟨Try.f108.name, by decide, Try.func108.trans (congrArg some (by kernel_rfl))⟩
  f74 := ⟨Try.f109.name, by decide, Try.func109.trans (congrArg some (by kernel_rfl))⟩
  f75 := ⟨Try.f110.name, by decide, Try.func110.trans (congrArg some (by kernel_rfl))⟩
  f76 := ⟨Try.f112.name, by decide, Try.func112.trans (congrArg some (by kernel_rfl))⟩
  f77 := ⟨Try.f113.name, by decide, Try.func113.trans (congrArg some (by kernel_rfl))⟩
  f78 := Try.func114.trans (congrArg some (by kernel_rfl))
  f79 := Try.func115.trans (congrArg some (by kernel_rfl))
  f88 := ⟨Try.f116.name, by decide, Try.func116.trans (congrArg some (by kernel_rfl))⟩
  f89 := Try.func117.trans (congrArg some (by kernel_rfl))
  f90 := Try.func118.trans (congrArg some (by kernel_rfl))
  f91 := ⟨Try.f119.name, by decide, Try.func119.trans (congrArg some (by kernel_rfl))⟩
  f92 := ⟨Try.f120.name, by decide, Try.func120.trans (congrArg some (by kernel_rfl))⟩
  f96 := ⟨Try.f121.name, by decide, Try.func121.trans (congrArg some (by kernel_rfl))⟩
  t0 := Try.underlying0
  a0 := Try.isAgg0
  z0 := Try.sizeOf0
  v0 := Try.zeroValue0
  t3 := Try.underlying3
  a3 := Try.isAgg3
  z3 := Try.sizeOf3
  v3 := Try.zeroValue3
  t4 := Try.underlying4
  a4 := Try.isAgg4
  z4 := Try.sizeOf4
  v4 := Try.zeroValue4
  t5 := Try.underlying5
  a5 := Try.isAgg5
  z5 := Try.sizeOf5
  v5 := Try.zeroValue5
  t9 := Try.underlying9
  a9 := Try.isAgg9
  z9 := Try.sizeOf9
  v9 := Try.zeroValue9
  t22 := Try.underlying29
  a22 := Try.isAgg29
  z22 := Try.sizeOf29
  v22 := Try.zeroValue29
  t23 := Try.underlying2
  a23 := Try.isAgg2
  z23 := Try.sizeOf2
  v23 := Try.zeroValue2
  t44 := Try.underlying110
  a44 := Try.isAgg110
  z44 := Try.sizeOf110
  v44 := Try.zeroValue110
  t51 := Try.underlying75
  a51 := Try.isAgg75
  z51 := Try.sizeOf75
  v51 := Try.zeroValue75
  t60 := Try.underlying104
  a60 := Try.isAgg104
  z60 := Try.sizeOf104
  v60 := Try.zeroValue104
  t61 := Try.underlying105
  a61 := Try.isAgg105
  z61 := Try.sizeOf105
  v61 := Try.zeroValue105
  t67 := Try.underlying113
  a67 := Try.isAgg113
  z67 := Try.sizeOf113
  v67 := Try.zeroValue113
  t69 := Try.underlying92
  a69 := Try.isAgg92
  z69 := Try.sizeOf92
  v69 := Try.zeroValue92
  t75 := Try.underlying115
  a75 := Try.isAgg115
  z75 := Try.sizeOf115
  v75 := Try.zeroValue115
  t79 := Try.underlying119
  a79 := Try.isAgg119
  z79 := Try.sizeOf119
  v79 := Try.zeroValue119
  t83 := Try.underlying121
  a83 := Try.isAgg121
  z83 := Try.sizeOf121
  v83 := Try.zeroValue121
  t84 := Try.underlying122
  a84 := Try.isAgg122
  z84 := Try.sizeOf122
  v84 := Try.zeroValue122 }
def Try.lcomp_ren : Go.Shelf.Ren := ⟨fun | 43 => 91 | n => n, fun | 22 => 29 | 23 => 2 | 3 => 3 | 4 => 4 | 0 => 0 | n => n, fun | n => n⟩
theorem Try.lcomp : Go.Proofs.SlLaysN.n43 Try.prog Try.lcomp_ren := {
  mixed := by kernel_rfl
  f43 := ⟨Try.f91.name, by decide, Try.func91.trans (congrArg some (by kernel_rfl))⟩
  t0 := Try.underlying0
  a0 := Try.isAgg0
  z0 := Try.sizeOf0
  v0 := Try.zeroValue0
  t3 := Try.underlying3
  a3 := Try.isAgg3
  z3 := Try.sizeOf3
  v3 := Try.zeroValue3
  t4 := Try.underlying4
  a4 := Try.isAgg4
  z4 := Try.sizeOf4
  v4 := Try.zeroValue4
  t22 := Try.underlying29
  a22 := Try.isAgg29
  z22 := Try.sizeOf29
  v22 := Try.zeroValue29
  t23 := Try.underlying2
  a23 := Try.isAgg2
  z23 := Try.sizeOf2
  v23 := Try.zeroValue2
  i23 := by kernel_rfl }
end Go.Proofs
