/- The functions that the law reaches, as typed Lean functions, printed by program. No conditions. -/
import Derived.Test.YtpjafacmfmhglaaV5
set_option maxRecDepth 100000
open Go Go.Vs
namespace Go.Vs.G
structure GL00Src where
  code : List Int
  at_ : Int
  seed : Int
  deriving DecidableEq, Inhabited
def GL00Src.ok (x : GL00Src) : Prop := (okL (okI .u8)) x.code ∧ (okI .i64) x.at_ ∧ (okI .u64) x.seed
/-- slices.Index[[]byte,byte] -/
def slices_Index_byte_byte_830 (s1 : List Int) (v1 : Int) : Option Int :=
 onL (loop (S := Int) (B := Unit) (R := Int) (fun (x1 : Int) =>
 if x1 < (s1.length : Int) then
 ((at? s1 x1).bind fun v2 =>
 if v1 = v2 then
 (some (.ret x1))
 else
 some (.next (w64 (x1 + 1))))
 else
 some (.brk ())) loopLim 0)
 (fun (_ : Unit) => some (-1)) (fun r => some r)
/-- loop.example/g01063/impl.bestLoading -/
def impl_bestLoading (s1 : List UInt8) (places1 : Int) : Option (List Int) :=
 (mk? places1 (0 : Int)).bind fun l1 =>
 onL (loop (S := ((List Int) × (List Int) × Int)) (B := (List Int)) (R := Empty) (fun ((out1, magazine1, x1) : (List Int) × (List Int) × Int) =>
 if x1 < (s1.length : Int) then
 ((at? s1 x1).bind fun c1 =>
 (slices_Index_byte_byte_830 magazine1 (c1.toNat : Int)).bind fun r1 =>
 ((if r1 < 0 then
 ((slices_Index_byte_byte_830 magazine1 0).bind fun r2 =>
 some r2)
 else
 some r1) : Option Int).bind fun (k1 : Int) =>
 ((if k1 < 0 then
 (onL (loop (S := (Int × Int × Int)) (B := Int) (R := Empty) (fun ((k2, far1, x2) : Int × Int × Int) =>
 if x2 < (magazine1.length : Int) then
 ((at? magazine1 x2).bind fun v1 =>
 (sub? s1 x1 s1.length).bind fun s2 =>
 (strings_IndexByte s2 v1).bind fun r3 =>
 if r3 < 0 then
 (some (.brk x2))
 else
 if r3 > far1 then
 (some (.next (x2, r3, w64 (x2 + 1))))
 else
 some (.next (k2, far1, w64 (x2 + 1))))
 else
 some (.brk k2)) loopLim (0, (-1), 0))
 (fun (k3 : Int) => some k3) Empty.elim)
 else
 some k1) : Option Int).bind fun (k4 : Int) =>
 (at? s1 x1).bind fun c2 =>
 (at? magazine1 k4).bind fun v2 =>
 (app? out1 ([k4] : List Int)).bind fun l2 =>
 some (.next (l2, magazine1.set k4.toNat (c2.toNat : Int), w64 (x1 + 1))))
 else
 some (.brk out1)) loopLim ([], l1, 0))
 (fun (out2 : List Int) => some out2) Empty.elim
/-- loop.example/g01063/impl.loadsOf -/
def impl_loadsOf (s1 : List UInt8) (places1 : Int) (plan1 : List Int) : Option Int :=
 (mk? places1 (0 : Int)).bind fun l1 =>
 onL (loop (S := ((List Int) × Int × Int)) (B := Int) (R := Empty) (fun ((magazine1, count1, x1) : (List Int) × Int × Int) =>
 if x1 < (plan1.length : Int) then
 ((at? plan1 x1).bind fun v1 =>
 (at? magazine1 v1).bind fun v2 =>
 (at? s1 x1).bind fun c1 =>
 if v2 = (c1.toNat : Int) then
 (some (.next (magazine1, count1, w64 (x1 + 1))))
 else
 (at? s1 x1).bind fun c2 =>
 (at? magazine1 v1).bind fun v3 =>
 some (.next (magazine1.set v1.toNat (c2.toNat : Int), w64 (count1 + 1), w64 (x1 + 1))))
 else
 some (.brk count1)) loopLim (l1, 0, 0))
 (fun (count2 : Int) => some count2) Empty.elim
/-- loop.example/g01063/impl.isLetters -/
def impl_isLetters (s1 : List UInt8) (most1 : Int) : Option Bool :=
 onL (loop (S := Int) (B := Unit) (R := Bool) (fun (i1 : Int) =>
 if i1 < (s1.length : Int) then
 ((((at? s1 i1).bind fun c1 =>
 if (c1.toNat : Int) < 97 then
 (some true)
 else
 (at? s1 i1).bind fun c2 =>
 some (decide ((c2.toNat : Int) > 122))) : Option Bool).bind fun (x1 : Bool) =>
 if x1 then
 (some (.ret false))
 else
 some (.next (w64 (i1 + 1))))
 else
 some (.brk ())) loopLim 0)
 (fun (_ : Unit) => if (s1.length : Int) ≥ 1 then
 (some (decide ((s1.length : Int) ≤ most1)))
 else
 some false) (fun r => some r)
/-- loop.example/g01063/impl.ValidShowing -/
def impl_ValidShowing (s1 : List UInt8) : Option Bool :=
 if (s1 == []) then
 (some true)
 else
 (impl_isLetters s1 40).bind fun r1 =>
 some r1
/-- loop.example/g01063/impl.within -/
def impl_within (n1 : Int) (low1 : Int) (high1 : Int) : Option Bool :=
 if n1 ≥ low1 then
 (some (decide (n1 ≤ high1)))
 else
 some false
/-- loop.example/g01063/impl.showingCode -/
def impl_showingCode (s1 : List UInt8) (places1 : Int) : Option Int :=
 (impl_ValidShowing s1).bind fun r1 =>
 if r1 then
 ((impl_within places1 1 6).bind fun r2 =>
 if r2 then
 (some 0)
 else
 some 2)
 else
 some 1
/-- loop.example/g01063/impl.FewestLoads -/
def impl_FewestLoads (s1 : List UInt8) (places1 : Int) : Option (Int × Int) :=
 (impl_showingCode s1 places1).bind fun r1 =>
 if r1 = 0 then
 ((impl_bestLoading s1 places1).bind fun r2 =>
 (impl_loadsOf s1 places1 r2).bind fun r3 =>
 some (r3, 0))
 else
 some (0, r1)
/-- loop.example/g01063/impl.LeastPlaces -/
def impl_LeastPlaces (s1 : List UInt8) (loads1 : Int) : Option (Int × Int) :=
 (impl_ValidShowing s1).bind fun r1 =>
 if r1 then
 ((impl_within loads1 0 40).bind fun r2 =>
 if r2 then
 (onL (loop (S := Int) (B := Unit) (R := (Int × Int)) (fun (places1 : Int) =>
 if places1 ≤ 6 then
 ((impl_bestLoading s1 places1).bind fun r3 =>
 (impl_loadsOf s1 places1 r3).bind fun r4 =>
 if r4 ≤ loads1 then
 (some (.ret (places1, 0)))
 else
 some (.next (w64 (places1 + 1))))
 else
 some (.brk ())) loopLim 1)
 (fun (_ : Unit) => some (0, 3)) (fun r => some r))
 else
 some (0, 2))
 else
 some (0, 1)
/-- loop.example/g01063/impl.NextShown -/
def impl_NextShown (s1 : List UInt8) (at_1 : Int) : Option (Int × Int) :=
 (impl_ValidShowing s1).bind fun r1 =>
 if r1 then
 ((impl_within at_1 0 (w64 ((s1.length : Int) - 1))).bind fun r2 =>
 if r2 then
 ((sub? s1 (w64 (at_1 + 1)) s1.length).bind fun s2 =>
 (at? s1 at_1).bind fun c1 =>
 (strings_IndexByte s2 (c1.toNat : Int)).bind fun r3 =>
 if r3 < 0 then
 (some (0, 3))
 else
 some (w64 ((w64 (at_1 + 1)) + r3), 0))
 else
 some (0, 2))
 else
 some (0, 1)
/-- math/bits.Len32 -/
def math_bits_Len32 (x1 : Int) : Option Int :=
 ((if x1 ≥ 65536 then
 ((shr? .u32 x1 16).bind fun q1 =>
 some (q1, 16))
 else
 some (x1, 0)) : Option (Int × Int)).bind fun ((x2, n1) : Int × Int) =>
 ((if x2 ≥ 256 then
 ((shr? .u32 x2 8).bind fun q2 =>
 some (q2, w64 (n1 + 8)))
 else
 some (x2, n1)) : Option (Int × Int)).bind fun ((x3, n2) : Int × Int) =>
 (at? ([0, 1, 2, 2, 3, 3, 3, 3, 4, 4, 4, 4, 4, 4, 4, 4, 5, 5, 5, 5, 5, 5, 5, 5, 5, 5, 5, 5, 5, 5, 5, 5, 6, 6, 6, 6, 6, 6, 6, 6, 6, 6, 6, 6, 6, 6, 6, 6, 6, 6, 6, 6, 6, 6, 6, 6, 6, 6, 6, 6, 6, 6, 6, 6, 7, 7, 7, 7, 7, 7, 7, 7, 7, 7, 7, 7, 7, 7, 7, 7, 7, 7, 7, 7, 7, 7, 7, 7, 7, 7, 7, 7, 7, 7, 7, 7, 7, 7, 7, 7, 7, 7, 7, 7, 7, 7, 7, 7, 7, 7, 7, 7, 7, 7, 7, 7, 7, 7, 7, 7, 7, 7, 7, 7, 7, 7, 7, 7, 8, 8, 8, 8, 8, 8, 8, 8, 8, 8, 8, 8, 8, 8, 8, 8, 8, 8, 8, 8, 8, 8, 8, 8, 8, 8, 8, 8, 8, 8, 8, 8, 8, 8, 8, 8, 8, 8, 8, 8, 8, 8, 8, 8, 8, 8, 8, 8, 8, 8, 8, 8, 8, 8, 8, 8, 8, 8, 8, 8, 8, 8, 8, 8, 8, 8, 8, 8, 8, 8, 8, 8, 8, 8, 8, 8, 8, 8, 8, 8, 8, 8, 8, 8, 8, 8, 8, 8, 8, 8, 8, 8, 8, 8, 8, 8, 8, 8, 8, 8, 8, 8, 8, 8, 8, 8, 8, 8, 8, 8, 8, 8, 8, 8, 8, 8, 8, 8, 8, 8, 8, 8, 8, 8, 8, 8, 8, 8] : List UInt8) (IntKind.wrap .u8 (x3))).bind fun c1 =>
 some (w64 (n2 + (w64 ((c1.toNat : Int)))))
/-- math/bits.Len64 -/
def math_bits_Len64 (x1 : Int) : Option Int :=
 ((if x1 ≥ 4294967296 then
 ((shr? .u64 x1 32).bind fun q1 =>
 some (q1, 32))
 else
 some (x1, 0)) : Option (Int × Int)).bind fun ((x2, n1) : Int × Int) =>
 ((if x2 ≥ 65536 then
 ((shr? .u64 x2 16).bind fun q2 =>
 some (q2, w64 (n1 + 16)))
 else
 some (x2, n1)) : Option (Int × Int)).bind fun ((x3, n2) : Int × Int) =>
 ((if x3 ≥ 256 then
 ((shr? .u64 x3 8).bind fun q3 =>
 some (q3, w64 (n2 + 8)))
 else
 some (x3, n2)) : Option (Int × Int)).bind fun ((x4, n3) : Int × Int) =>
 (at? ([0, 1, 2, 2, 3, 3, 3, 3, 4, 4, 4, 4, 4, 4, 4, 4, 5, 5, 5, 5, 5, 5, 5, 5, 5, 5, 5, 5, 5, 5, 5, 5, 6, 6, 6, 6, 6, 6, 6, 6, 6, 6, 6, 6, 6, 6, 6, 6, 6, 6, 6, 6, 6, 6, 6, 6, 6, 6, 6, 6, 6, 6, 6, 6, 7, 7, 7, 7, 7, 7, 7, 7, 7, 7, 7, 7, 7, 7, 7, 7, 7, 7, 7, 7, 7, 7, 7, 7, 7, 7, 7, 7, 7, 7, 7, 7, 7, 7, 7, 7, 7, 7, 7, 7, 7, 7, 7, 7, 7, 7, 7, 7, 7, 7, 7, 7, 7, 7, 7, 7, 7, 7, 7, 7, 7, 7, 7, 7, 8, 8, 8, 8, 8, 8, 8, 8, 8, 8, 8, 8, 8, 8, 8, 8, 8, 8, 8, 8, 8, 8, 8, 8, 8, 8, 8, 8, 8, 8, 8, 8, 8, 8, 8, 8, 8, 8, 8, 8, 8, 8, 8, 8, 8, 8, 8, 8, 8, 8, 8, 8, 8, 8, 8, 8, 8, 8, 8, 8, 8, 8, 8, 8, 8, 8, 8, 8, 8, 8, 8, 8, 8, 8, 8, 8, 8, 8, 8, 8, 8, 8, 8, 8, 8, 8, 8, 8, 8, 8, 8, 8, 8, 8, 8, 8, 8, 8, 8, 8, 8, 8, 8, 8, 8, 8, 8, 8, 8, 8, 8, 8, 8, 8, 8, 8, 8, 8, 8, 8, 8, 8, 8, 8, 8, 8, 8, 8] : List UInt8) (IntKind.wrap .u8 (x4))).bind fun c1 =>
 some (w64 (n3 + (w64 ((c1.toNat : Int)))))
/-- math/bits.Len -/
def math_bits_Len (x1 : Int) : Option Int :=
 (math_bits_Len64 x1).bind fun r1 =>
 some r1
/-- cmp.isNaN[byte] -/
def cmp_isNaN_byte_30 (x1 : Int) : Option Bool :=
 some (!(decide (x1 = x1)))
/-- cmp.Less[byte] -/
def cmp_Less_byte_28 (x1 : Int) (y1 : Int) : Option Bool :=
 (cmp_isNaN_byte_30 x1).bind fun r1 =>
 if r1 then
 ((cmp_isNaN_byte_30 y1).bind fun r2 =>
 if r2 then
 (some (decide (x1 < y1)))
 else
 some true)
 else
 some (decide (x1 < y1))
/-- (*slices.xorshift).Next -/
def slices_xorshift_Next (r1 : Int) : Option (Int × Int) :=
 (shl? .u64 r1 13).bind fun q1 =>
 (shr? .u64 (bit_xor .u64 r1 q1) 7).bind fun q2 =>
 (shl? .u64 (bit_xor .u64 (bit_xor .u64 r1 q1) q2) 17).bind fun q3 =>
 some (bit_xor .u64 (bit_xor .u64 (bit_xor .u64 r1 q1) q2) q3, bit_xor .u64 (bit_xor .u64 (bit_xor .u64 r1 q1) q2) q3)
/-- slices.nextPowerOfTwo -/
def slices_nextPowerOfTwo (length1 : Int) : Option Int :=
 (math_bits_Len (IntKind.wrap .u64 (length1))).bind fun r1 =>
 (shl? .u64 1 r1).bind fun q1 =>
 some q1
/-- slices.breakPatternsOrdered[byte] -/
def slices_breakPatternsOrdered_byte_837 (data1 : List Int) (a1 : Int) (b1 : Int) : Option (List Int) :=
 if (w64 (b1 - a1)) ≥ 8 then
 ((slices_nextPowerOfTwo (w64 (b1 - a1))).bind fun r1 =>
 onL (loop (S := ((List Int) × Int × Int)) (B := (List Int)) (R := Empty) (fun ((data2, random1, idx1) : (List Int) × Int × Int) =>
 if idx1 ≤ (w64 ((w64 (a1 + (w64 ((w64 ((w64 (b1 - a1)).tdiv 4)) * 2)))) + 1)) then
 ((slices_xorshift_Next random1).bind fun r2 =>
 ((if (w64 (bit_and .u64 r2.1 (IntKind.wrap .u64 (r1 - 1)))) ≥ (w64 (b1 - a1)) then
 (some (w64 ((w64 (bit_and .u64 r2.1 (IntKind.wrap .u64 (r1 - 1)))) - (w64 (b1 - a1)))))
 else
 some (w64 (bit_and .u64 r2.1 (IntKind.wrap .u64 (r1 - 1))))) : Option Int).bind fun (other1 : Int) =>
 (at? data2 (w64 (a1 + other1))).bind fun v1 =>
 (at? data2 idx1).bind fun v2 =>
 (at? data2 idx1).bind fun v3 =>
 (at? (data2.set idx1.toNat v1) (w64 (a1 + other1))).bind fun v4 =>
 some (.next ((data2.set idx1.toNat v1).set ((w64 (a1 + other1)).toNat) v2, r2.2, w64 (idx1 + 1))))
 else
 some (.brk data2)) loopLim (data1, IntKind.wrap .u64 (w64 (b1 - a1)), w64 ((w64 (a1 + (w64 ((w64 ((w64 (b1 - a1)).tdiv 4)) * 2)))) - 1)))
 (fun (data3 : List Int) => some data3) Empty.elim)
 else
 some data1
/-- slices.order2Ordered[byte] -/
def slices_order2Ordered_byte_851 (data1 : List Int) (a1 : Int) (b1 : Int) (swaps1 : Int) : Option (Int × Int × Int) :=
 (at? data1 b1).bind fun v1 =>
 (at? data1 a1).bind fun v2 =>
 (cmp_Less_byte_28 v1 v2).bind fun r1 =>
 if r1 then
 (some (b1, a1, w64 (swaps1 + 1)))
 else
 some (a1, b1, swaps1)
/-- slices.medianOrdered[byte] -/
def slices_medianOrdered_byte_848 (data1 : List Int) (a1 : Int) (b1 : Int) (c1 : Int) (swaps1 : Int) : Option (Int × Int) :=
 (slices_order2Ordered_byte_851 data1 a1 b1 swaps1).bind fun r1 =>
 (slices_order2Ordered_byte_851 data1 r1.2.1 c1 r1.2.2).bind fun r2 =>
 (slices_order2Ordered_byte_851 data1 r1.1 r2.1 r2.2.2).bind fun r3 =>
 some (r3.2.1, r3.2.2)
/-- slices.medianAdjacentOrdered[byte] -/
def slices_medianAdjacentOrdered_byte_846 (data1 : List Int) (a1 : Int) (swaps1 : Int) : Option (Int × Int) :=
 (slices_medianOrdered_byte_848 data1 (w64 (a1 - 1)) a1 (w64 (a1 + 1)) swaps1).bind fun r1 =>
 some (r1.1, r1.2)
/-- slices.choosePivotOrdered[byte] -/
def slices_choosePivotOrdered_byte_839 (data1 : List Int) (a1 : Int) (b1 : Int) : Option (Int × Int) :=
 ((if (w64 (b1 - a1)) ≥ 8 then
 (if (w64 (b1 - a1)) ≥ 50 then
 ((slices_medianAdjacentOrdered_byte_846 data1 (w64 (a1 + (w64 ((w64 ((w64 (b1 - a1)).tdiv 4)) * 1)))) 0).bind fun r1 =>
 (slices_medianAdjacentOrdered_byte_846 data1 (w64 (a1 + (w64 ((w64 ((w64 (b1 - a1)).tdiv 4)) * 2)))) r1.2).bind fun r2 =>
 (slices_medianAdjacentOrdered_byte_846 data1 (w64 (a1 + (w64 ((w64 ((w64 (b1 - a1)).tdiv 4)) * 3)))) r2.2).bind fun r3 =>
 (slices_medianOrdered_byte_848 data1 r1.1 r2.1 r3.1 r3.2).bind fun r4 =>
 some (r4.2, r4.1))
 else
 (slices_medianOrdered_byte_848 data1 (w64 (a1 + (w64 ((w64 ((w64 (b1 - a1)).tdiv 4)) * 1)))) (w64 (a1 + (w64 ((w64 ((w64 (b1 - a1)).tdiv 4)) * 2)))) (w64 (a1 + (w64 ((w64 ((w64 (b1 - a1)).tdiv 4)) * 3)))) 0).bind fun r5 =>
 some (r5.2, r5.1))
 else
 some (0, w64 (a1 + (w64 ((w64 ((w64 (b1 - a1)).tdiv 4)) * 2))))) : Option (Int × Int)).bind fun ((swaps1, j1) : Int × Int) =>
 if swaps1 = 0 then
 (some (j1, 1))
 else
 if swaps1 = 12 then
 (some (j1, 2))
 else
 some (j1, 0)
/-- slices.siftDownOrdered[byte] -/
def slices_siftDownOrdered_byte_864 (data1 : List Int) (lo1 : Int) (hi1 : Int) (first1 : Int) : Option (List Int) :=
 onL (loop (S := ((List Int) × Int)) (B := (List Int)) (R := (List Int)) (fun ((data2, root1) : (List Int) × Int) =>
 if (w64 ((w64 (2 * root1)) + 1)) ≥ hi1 then
 (some (.brk data2))
 else
 ((if (w64 ((w64 ((w64 (2 * root1)) + 1)) + 1)) < hi1 then
 ((at? data2 (w64 (first1 + (w64 ((w64 (2 * root1)) + 1))))).bind fun v1 =>
 (at? data2 (w64 ((w64 (first1 + (w64 ((w64 (2 * root1)) + 1)))) + 1))).bind fun v2 =>
 (cmp_Less_byte_28 v1 v2).bind fun r1 =>
 some r1)
 else
 some false) : Option Bool).bind fun (x1 : Bool) =>
 ((if x1 then
 (some (w64 ((w64 ((w64 (2 * root1)) + 1)) + 1)))
 else
 some (w64 ((w64 (2 * root1)) + 1))) : Option Int).bind fun (child1 : Int) =>
 (at? data2 (w64 (first1 + root1))).bind fun v3 =>
 (at? data2 (w64 (first1 + child1))).bind fun v4 =>
 (cmp_Less_byte_28 v3 v4).bind fun r2 =>
 if r2 then
 ((at? data2 (w64 (first1 + child1))).bind fun v5 =>
 (at? data2 (w64 (first1 + root1))).bind fun v6 =>
 (at? data2 (w64 (first1 + root1))).bind fun v7 =>
 (at? (data2.set ((w64 (first1 + root1)).toNat) v5) (w64 (first1 + child1))).bind fun v8 =>
 some (.next ((data2.set ((w64 (first1 + root1)).toNat) v5).set ((w64 (first1 + child1)).toNat) v6, child1)))
 else
 some (.ret data2)) loopLim (data1, lo1))
 (fun (data3 : List Int) => some data3) (fun r => some r)
/-- slices.heapSortOrdered[byte] -/
def slices_heapSortOrdered_byte_841 (data1 : List Int) (a1 : Int) (b1 : Int) : Option (List Int) :=
 onL (loop (S := ((List Int) × Int)) (B := (List Int)) (R := Empty) (fun ((data2, i1) : (List Int) × Int) =>
 if i1 ≥ 0 then
 ((slices_siftDownOrdered_byte_864 data2 i1 (w64 (b1 - a1)) a1).bind fun r1 =>
 some (.next (r1, w64 (i1 - 1))))
 else
 some (.brk data2)) loopLim (data1, w64 ((w64 ((w64 (b1 - a1)) - 1)).tdiv 2)))
 (fun (data3 : List Int) => onL (loop (S := ((List Int) × Int)) (B := (List Int)) (R := Empty) (fun ((data4, i2) : (List Int) × Int) =>
 if i2 ≥ 0 then
 ((at? data4 (w64 (a1 + i2))).bind fun v1 =>
 (at? data4 a1).bind fun v2 =>
 (at? data4 a1).bind fun v3 =>
 (at? (data4.set a1.toNat v1) (w64 (a1 + i2))).bind fun v4 =>
 (slices_siftDownOrdered_byte_864 ((data4.set a1.toNat v1).set ((w64 (a1 + i2)).toNat) v2) 0 i2 a1).bind fun r2 =>
 some (.next (r2, w64 (i2 - 1))))
 else
 some (.brk data4)) loopLim (data3, w64 ((w64 (b1 - a1)) - 1)))
 (fun (data5 : List Int) => some data5) Empty.elim) Empty.elim
/-- slices.insertionSortOrdered[byte] -/
def slices_insertionSortOrdered_byte_844 (data1 : List Int) (a1 : Int) (b1 : Int) : Option (List Int) :=
 onL (loop (S := ((List Int) × Int)) (B := (List Int)) (R := Empty) (fun ((data2, i1) : (List Int) × Int) =>
 if i1 < b1 then
 (onL (loop (S := ((List Int) × Int)) (B := (List Int)) (R := Empty) (fun ((data3, j1) : (List Int) × Int) =>
 ((if j1 > a1 then
 ((at? data3 j1).bind fun v1 =>
 (at? data3 (w64 (j1 - 1))).bind fun v2 =>
 (cmp_Less_byte_28 v1 v2).bind fun r1 =>
 some r1)
 else
 some false) : Option Bool).bind fun (x1 : Bool) =>
 if x1 then
 ((at? data3 (w64 (j1 - 1))).bind fun v3 =>
 (at? data3 j1).bind fun v4 =>
 (at? data3 j1).bind fun v5 =>
 (at? (data3.set j1.toNat v3) (w64 (j1 - 1))).bind fun v6 =>
 some (.next ((data3.set j1.toNat v3).set ((w64 (j1 - 1)).toNat) v4, w64 (j1 - 1))))
 else
 some (.brk data3)) loopLim (data2, i1))
 (fun (data4 : List Int) => some (.next (data4, w64 (i1 + 1)))) Empty.elim)
 else
 some (.brk data2)) loopLim (data1, w64 (a1 + 1)))
 (fun (data5 : List Int) => some data5) Empty.elim
/-- slices.partialInsertionSortOrdered[byte] -/
def slices_partialInsertionSortOrdered_byte_853 (data1 : List Int) (a1 : Int) (b1 : Int) : Option (Bool × (List Int)) :=
 onL (loop (S := ((List Int) × Int × Int)) (B := (List Int)) (R := (Bool × (List Int))) (fun ((data2, i1, j1) : (List Int) × Int × Int) =>
 if j1 < 5 then
 (onL (loop (S := Int) (B := Int) (R := Empty) (fun (i2 : Int) =>
 ((if i2 < b1 then
 ((at? data2 i2).bind fun v1 =>
 (at? data2 (w64 (i2 - 1))).bind fun v2 =>
 (cmp_Less_byte_28 v1 v2).bind fun r1 =>
 some (!r1))
 else
 some false) : Option Bool).bind fun (x1 : Bool) =>
 if x1 then
 (some (.next (w64 (i2 + 1))))
 else
 some (.brk i2)) loopLim i1)
 (fun (i3 : Int) => if i3 = b1 then
 (some (.ret (true, data2)))
 else
 if (w64 (b1 - a1)) < 50 then
 (some (.ret (false, data2)))
 else
 (at? data2 (w64 (i3 - 1))).bind fun v3 =>
 (at? data2 i3).bind fun v4 =>
 (at? data2 i3).bind fun v5 =>
 (at? (data2.set i3.toNat v3) (w64 (i3 - 1))).bind fun v6 =>
 ((if (w64 (i3 - a1)) ≥ 2 then
 (onL (loop (S := ((List Int) × Int)) (B := (List Int)) (R := Empty) (fun ((data3, j2) : (List Int) × Int) =>
 if j2 ≥ 1 then
 ((at? data3 j2).bind fun v7 =>
 (at? data3 (w64 (j2 - 1))).bind fun v8 =>
 (cmp_Less_byte_28 v7 v8).bind fun r2 =>
 if r2 then
 ((at? data3 (w64 (j2 - 1))).bind fun v9 =>
 (at? data3 j2).bind fun v10 =>
 (at? data3 j2).bind fun v11 =>
 (at? (data3.set j2.toNat v9) (w64 (j2 - 1))).bind fun v12 =>
 some (.next ((data3.set j2.toNat v9).set ((w64 (j2 - 1)).toNat) v10, w64 (j2 - 1))))
 else
 some (.brk data3))
 else
 some (.brk data3)) loopLim ((data2.set i3.toNat v3).set ((w64 (i3 - 1)).toNat) v4, w64 (i3 - 1)))
 (fun (data4 : List Int) => some data4) Empty.elim)
 else
 some ((data2.set i3.toNat v3).set ((w64 (i3 - 1)).toNat) v4)) : Option (List Int)).bind fun (data5 : List Int) =>
 if (w64 (b1 - i3)) ≥ 2 then
 (onL (loop (S := ((List Int) × Int)) (B := (List Int)) (R := Empty) (fun ((data6, j3) : (List Int) × Int) =>
 if j3 < b1 then
 ((at? data6 j3).bind fun v13 =>
 (at? data6 (w64 (j3 - 1))).bind fun v14 =>
 (cmp_Less_byte_28 v13 v14).bind fun r3 =>
 if r3 then
 ((at? data6 (w64 (j3 - 1))).bind fun v15 =>
 (at? data6 j3).bind fun v16 =>
 (at? data6 j3).bind fun v17 =>
 (at? (data6.set j3.toNat v15) (w64 (j3 - 1))).bind fun v18 =>
 some (.next ((data6.set j3.toNat v15).set ((w64 (j3 - 1)).toNat) v16, w64 (j3 + 1))))
 else
 some (.brk data6))
 else
 some (.brk data6)) loopLim (data5, w64 (i3 + 1)))
 (fun (data7 : List Int) => some (.next (data7, i3, w64 (j1 + 1)))) Empty.elim)
 else
 some (.next (data5, i3, w64 (j1 + 1)))) Empty.elim)
 else
 some (.brk data2)) loopLim (data1, w64 (a1 + 1), 0))
 (fun (data8 : List Int) => some (false, data8)) (fun r => some r)
/-- slices.partitionEqualOrdered[byte] -/
def slices_partitionEqualOrdered_byte_855 (data1 : List Int) (a1 : Int) (b1 : Int) (pivot1 : Int) : Option (Int × (List Int)) :=
 (at? data1 pivot1).bind fun v1 =>
 (at? data1 a1).bind fun v2 =>
 (at? data1 a1).bind fun v3 =>
 (at? (data1.set a1.toNat v1) pivot1).bind fun v4 =>
 onL (loop (S := ((List Int) × Int × Int)) (B := ((List Int) × Int)) (R := Empty) (fun ((data2, i1, j1) : (List Int) × Int × Int) =>
 onL (loop (S := Int) (B := Int) (R := Empty) (fun (i2 : Int) =>
 ((if i2 ≤ j1 then
 ((at? data2 a1).bind fun v5 =>
 (at? data2 i2).bind fun v6 =>
 (cmp_Less_byte_28 v5 v6).bind fun r1 =>
 some (!r1))
 else
 some false) : Option Bool).bind fun (x1 : Bool) =>
 if x1 then
 (some (.next (w64 (i2 + 1))))
 else
 some (.brk i2)) loopLim i1)
 (fun (i3 : Int) => onL (loop (S := Int) (B := Int) (R := Empty) (fun (j2 : Int) =>
 ((if i3 ≤ j2 then
 ((at? data2 a1).bind fun v7 =>
 (at? data2 j2).bind fun v8 =>
 (cmp_Less_byte_28 v7 v8).bind fun r2 =>
 some r2)
 else
 some false) : Option Bool).bind fun (x2 : Bool) =>
 if x2 then
 (some (.next (w64 (j2 - 1))))
 else
 some (.brk j2)) loopLim j1)
 (fun (j3 : Int) => if i3 > j3 then
 (some (.brk (data2, i3)))
 else
 (at? data2 j3).bind fun v9 =>
 (at? data2 i3).bind fun v10 =>
 (at? data2 i3).bind fun v11 =>
 (at? (data2.set i3.toNat v9) j3).bind fun v12 =>
 some (.next ((data2.set i3.toNat v9).set j3.toNat v10, w64 (i3 + 1), w64 (j3 - 1)))) Empty.elim) Empty.elim) loopLim ((data1.set a1.toNat v1).set pivot1.toNat v2, w64 (a1 + 1), w64 (b1 - 1)))
 (fun ((data3, i4) : (List Int) × Int) => some (i4, data3)) Empty.elim
/-- slices.partitionOrdered[byte] -/
def slices_partitionOrdered_byte_857 (data1 : List Int) (a1 : Int) (b1 : Int) (pivot1 : Int) : Option (Int × Bool × (List Int)) :=
 (at? data1 pivot1).bind fun v1 =>
 (at? data1 a1).bind fun v2 =>
 (at? data1 a1).bind fun v3 =>
 (at? (data1.set a1.toNat v1) pivot1).bind fun v4 =>
 onL (loop (S := Int) (B := Int) (R := Empty) (fun (i1 : Int) =>
 ((if i1 ≤ (w64 (b1 - 1)) then
 ((at? ((data1.set a1.toNat v1).set pivot1.toNat v2) i1).bind fun v5 =>
 (at? ((data1.set a1.toNat v1).set pivot1.toNat v2) a1).bind fun v6 =>
 (cmp_Less_byte_28 v5 v6).bind fun r1 =>
 some r1)
 else
 some false) : Option Bool).bind fun (x1 : Bool) =>
 if x1 then
 (some (.next (w64 (i1 + 1))))
 else
 some (.brk i1)) loopLim (w64 (a1 + 1)))
 (fun (i2 : Int) => onL (loop (S := Int) (B := Int) (R := Empty) (fun (j1 : Int) =>
 ((if i2 ≤ j1 then
 ((at? ((data1.set a1.toNat v1).set pivot1.toNat v2) j1).bind fun v7 =>
 (at? ((data1.set a1.toNat v1).set pivot1.toNat v2) a1).bind fun v8 =>
 (cmp_Less_byte_28 v7 v8).bind fun r2 =>
 some (!r2))
 else
 some false) : Option Bool).bind fun (x2 : Bool) =>
 if x2 then
 (some (.next (w64 (j1 - 1))))
 else
 some (.brk j1)) loopLim (w64 (b1 - 1)))
 (fun (j2 : Int) => if i2 > j2 then
 ((at? ((data1.set a1.toNat v1).set pivot1.toNat v2) a1).bind fun v9 =>
 (at? ((data1.set a1.toNat v1).set pivot1.toNat v2) j2).bind fun v10 =>
 (at? ((data1.set a1.toNat v1).set pivot1.toNat v2) j2).bind fun v11 =>
 (at? (((data1.set a1.toNat v1).set pivot1.toNat v2).set j2.toNat v9) a1).bind fun v12 =>
 some (j2, true, (((data1.set a1.toNat v1).set pivot1.toNat v2).set j2.toNat v9).set a1.toNat v10))
 else
 (at? ((data1.set a1.toNat v1).set pivot1.toNat v2) j2).bind fun v13 =>
 (at? ((data1.set a1.toNat v1).set pivot1.toNat v2) i2).bind fun v14 =>
 (at? ((data1.set a1.toNat v1).set pivot1.toNat v2) i2).bind fun v15 =>
 (at? (((data1.set a1.toNat v1).set pivot1.toNat v2).set i2.toNat v13) j2).bind fun v16 =>
 onL (loop (S := ((List Int) × Int × Int)) (B := ((List Int) × Int)) (R := Empty) (fun ((data2, i3, j3) : (List Int) × Int × Int) =>
 onL (loop (S := Int) (B := Int) (R := Empty) (fun (i4 : Int) =>
 ((if i4 ≤ j3 then
 ((at? data2 i4).bind fun v17 =>
 (at? data2 a1).bind fun v18 =>
 (cmp_Less_byte_28 v17 v18).bind fun r3 =>
 some r3)
 else
 some false) : Option Bool).bind fun (x3 : Bool) =>
 if x3 then
 (some (.next (w64 (i4 + 1))))
 else
 some (.brk i4)) loopLim i3)
 (fun (i5 : Int) => onL (loop (S := Int) (B := Int) (R := Empty) (fun (j4 : Int) =>
 ((if i5 ≤ j4 then
 ((at? data2 j4).bind fun v19 =>
 (at? data2 a1).bind fun v20 =>
 (cmp_Less_byte_28 v19 v20).bind fun r4 =>
 some (!r4))
 else
 some false) : Option Bool).bind fun (x4 : Bool) =>
 if x4 then
 (some (.next (w64 (j4 - 1))))
 else
 some (.brk j4)) loopLim j3)
 (fun (j5 : Int) => if i5 > j5 then
 (some (.brk (data2, j5)))
 else
 (at? data2 j5).bind fun v21 =>
 (at? data2 i5).bind fun v22 =>
 (at? data2 i5).bind fun v23 =>
 (at? (data2.set i5.toNat v21) j5).bind fun v24 =>
 some (.next ((data2.set i5.toNat v21).set j5.toNat v22, w64 (i5 + 1), w64 (j5 - 1)))) Empty.elim) Empty.elim) loopLim ((((data1.set a1.toNat v1).set pivot1.toNat v2).set i2.toNat v13).set j2.toNat v14, w64 (i2 + 1), w64 (j2 - 1)))
 (fun ((data3, j6) : (List Int) × Int) => (at? data3 a1).bind fun v25 =>
 (at? data3 j6).bind fun v26 =>
 (at? data3 j6).bind fun v27 =>
 (at? (data3.set j6.toNat v25) a1).bind fun v28 =>
 some (j6, false, (data3.set j6.toNat v25).set a1.toNat v26)) Empty.elim) Empty.elim) Empty.elim
/-- slices.reverseRangeOrdered[byte] -/
def slices_reverseRangeOrdered_byte_861 (data1 : List Int) (a1 : Int) (b1 : Int) : Option (List Int) :=
 onL (loop (S := ((List Int) × Int × Int)) (B := (List Int)) (R := Empty) (fun ((data2, i1, j1) : (List Int) × Int × Int) =>
 if i1 < j1 then
 ((at? data2 j1).bind fun v1 =>
 (at? data2 i1).bind fun v2 =>
 (at? data2 i1).bind fun v3 =>
 (at? (data2.set i1.toNat v1) j1).bind fun v4 =>
 some (.next ((data2.set i1.toNat v1).set j1.toNat v2, w64 (i1 + 1), w64 (j1 - 1))))
 else
 some (.brk data2)) loopLim (data1, a1, w64 (b1 - 1)))
 (fun (data3 : List Int) => some data3) Empty.elim
/-- slices.pdqsortOrdered[byte] -/
def slices_pdqsortOrdered_byte_859_n : Nat → (List Int) → Int → Int → Int → Option (List Int)
 | 0, _, _, _, _ => none
 | n + 1, data1, a1, b1, limit1 =>
   onL (loop (S := ((List Int) × Int × Int × Int × Bool × Bool)) (B := Empty) (R := (List Int)) (fun ((data2, a2, b2, limit2, wasBalanced1, wasPartitioned1) : (List Int) × Int × Int × Int × Bool × Bool) =>
   if (w64 (b2 - a2)) ≤ 12 then
   ((slices_insertionSortOrdered_byte_844 data2 a2 b2).bind fun r1 =>
   some (.ret r1))
   else
   if limit2 = 0 then
   ((slices_heapSortOrdered_byte_841 data2 a2 b2).bind fun r2 =>
   some (.ret r2))
   else
   ((if wasBalanced1 then
   (some (data2, limit2))
   else
   (slices_breakPatternsOrdered_byte_837 data2 a2 b2).bind fun r3 =>
   some (r3, w64 (limit2 - 1))) : Option ((List Int) × Int)).bind fun ((data3, limit3) : (List Int) × Int) =>
   (slices_choosePivotOrdered_byte_839 data3 a2 b2).bind fun r4 =>
   ((if r4.2 = 2 then
   ((slices_reverseRangeOrdered_byte_861 data3 a2 b2).bind fun r5 =>
   some (r5, w64 ((w64 (b2 - 1)) - (w64 (r4.1 - a2))), 1))
   else
   some (data3, r4.1, r4.2)) : Option ((List Int) × Int × Int)).bind fun ((data4, pivot1, hint1) : (List Int) × Int × Int) =>
   ((if wasBalanced1 then
   (if wasPartitioned1 then
   (some (decide (hint1 = 1)))
   else
   some false)
   else
   some false) : Option Bool).bind fun (x1 : Bool) =>
   onS (S := (List Int)) (B := Empty) (R := (List Int)) (if x1 then
   ((slices_partialInsertionSortOrdered_byte_853 data4 a2 b2).bind fun r6 =>
   if r6.1 then
   (some (.ret r6.2))
   else
   some (.next r6.2))
   else
   some (.next data4))
   (fun (data5 : List Int) => ((if a2 > 0 then
   ((at? data5 (w64 (a2 - 1))).bind fun v1 =>
   (at? data5 pivot1).bind fun v2 =>
   (cmp_Less_byte_28 v1 v2).bind fun r7 =>
   some (!r7))
   else
   some false) : Option Bool).bind fun (x2 : Bool) =>
   if x2 then
   ((slices_partitionEqualOrdered_byte_855 data5 a2 b2 pivot1).bind fun r8 =>
   some (.next (r8.2, r8.1, b2, limit3, wasBalanced1, wasPartitioned1)))
   else
   (slices_partitionOrdered_byte_857 data5 a2 b2 pivot1).bind fun r9 =>
   if (w64 (r9.1 - a2)) < (w64 (b2 - r9.1)) then
   ((slices_pdqsortOrdered_byte_859_n n r9.2.2 a2 r9.1 limit3).bind fun r10 =>
   some (.next (r10, w64 (r9.1 + 1), b2, limit3, (decide ((w64 (r9.1 - a2)) ≥ (w64 ((w64 (b2 - a2)).tdiv 8)))), r9.2.1)))
   else
   (slices_pdqsortOrdered_byte_859_n n r9.2.2 (w64 (r9.1 + 1)) b2 limit3).bind fun r11 =>
   some (.next (r11, a2, r9.1, limit3, (decide ((w64 (b2 - r9.1)) ≥ (w64 ((w64 (b2 - a2)).tdiv 8)))), r9.2.1)))
   Empty.elim (fun r => some (.ret r))) loopLim (data1, a1, b1, limit1, true, true))
   Empty.elim (fun r => some r)
def slices_pdqsortOrdered_byte_859 (data1 : List Int) (a1 : Int) (b1 : Int) (limit1 : Int) : Option (List Int) := slices_pdqsortOrdered_byte_859_n 40 data1 a1 b1 limit1
/-- slices.Sort[[]byte,byte] -/
def slices_Sort_byte_byte_835 (x1 : List Int) : Option (List Int) :=
 (math_bits_Len (IntKind.wrap .u64 ((x1.length : Int)))).bind fun r1 =>
 (slices_pdqsortOrdered_byte_859 x1 0 (x1.length : Int) r1).bind fun r2 =>
 some r2
/-- loop.example/g01063/impl.SlidesIn -/
def impl_SlidesIn (s1 : List UInt8) : Option (Int × Int) :=
 (impl_ValidShowing s1).bind fun r1 =>
 if r1 then
 ((s2b? s1).bind fun b1 =>
 (slices_Sort_byte_byte_835 b1).bind fun r2 =>
 (slices_Compact_byte r2).bind fun r3 =>
 some ((r3.length : Int), 0))
 else
 some (0, 1)
/-- loop.example/g01063/laws.a2At -/
def laws_a2At (code1 : List Int) (at_1 : Int) (n1 : Int) : Option Int :=
 ((if at_1 ≥ (code1.length : Int) then
 (some true)
 else
 some (decide (n1 < 1))) : Option Bool).bind fun (x1 : Bool) =>
 if x1 then
 (some 0)
 else
 (at? code1 at_1).bind fun v1 =>
 (mod? (w64 (v1)) n1).bind fun q1 =>
 some q1
/-- loop.example/g01063/laws.a2Long -/
def laws_a2Long (code1 : List Int) (more1 : List Int) : Option Bool :=
 if (code1.length : Int) > 3000 then
 (some true)
 else
 some (decide ((more1.length : Int) > 3000))
/-- loop.example/g01063/spec.l00From -/
def spec_l00From (code1 : List Int) : Option GL00Src :=
 some (GL00Src.mk code1 0 0)
/-- (*loop.example/g01063/spec.l00Src).next -/
def spec_l00Src_next (s1 : GL00Src) : Option (Int × GL00Src) :=
 ((if s1.at_ < (s1.code.length : Int) then
 ((at? s1.code s1.at_).bind fun v1 =>
 some (w64 (v1)))
 else
 some 0) : Option Int).bind fun (b1 : Int) =>
 if (w64 (s1.at_ + 1)) ≤ (s1.code.length : Int) then
 (some (b1, (GL00Src.mk s1.code (w64 (s1.at_ + 1)) (IntKind.wrap .u64 ((IntKind.wrap .u64 ((IntKind.wrap .u64 (s1.seed * 6364136223846793005)) + (IntKind.wrap .u64 (b1)))) + 1442695040888963407)))))
 else
 (shr? .u64 (IntKind.wrap .u64 ((IntKind.wrap .u64 ((IntKind.wrap .u64 (s1.seed * 6364136223846793005)) + (IntKind.wrap .u64 (b1)))) + 1442695040888963407)) 40).bind fun q1 =>
 some (w64 (bit_and .u64 q1 255), (GL00Src.mk s1.code (w64 (s1.at_ + 1)) (IntKind.wrap .u64 ((IntKind.wrap .u64 ((IntKind.wrap .u64 (s1.seed * 6364136223846793005)) + (IntKind.wrap .u64 (b1)))) + 1442695040888963407))))
/-- (*loop.example/g01063/spec.l00Src).pick -/
def spec_l00Src_pick (s1 : GL00Src) (n1 : Int) : Option (Int × GL00Src) :=
 if n1 ≤ 1 then
 (some (0, s1))
 else
 (spec_l00Src_next s1).bind fun r1 =>
 if n1 > 200 then
 ((spec_l00Src_next r1.2).bind fun r2 =>
 (mod? (w64 ((w64 (r1.1 * 256)) + r2.1)) n1).bind fun q1 =>
 some (q1, r2.2))
 else
 (mod? r1.1 n1).bind fun q2 =>
 some (q2, r1.2)
/-- loop.example/g01063/spec.l20Draw -/
def spec_l20Draw (s1 : GL00Src) : Option ((List UInt8) × GL00Src) :=
 (spec_l00Src_pick s1 6).bind fun r1 =>
 (spec_l00Src_pick r1.2 20).bind fun r2 =>
 onL (loop (S := (GL00Src × (List Int) × Int)) (B := (GL00Src × (List Int))) (R := Empty) (fun ((s2, out1, k1) : GL00Src × (List Int) × Int) =>
 if k1 > 0 then
 ((spec_l00Src_pick s2 (w64 (2 + r1.1))).bind fun r3 =>
 (app? out1 ([IntKind.wrap .u8 (w64 (97 + r3.1))] : List Int)).bind fun l1 =>
 some (.next (r3.2, l1, w64 (k1 - 1))))
 else
 some (.brk (s2, out1))) loopLim (r2.2, [], r2.1))
 (fun ((s3, out2) : GL00Src × (List Int)) => some (b2s out2, s3)) Empty.elim
/-- loop.example/g01063/spec.A2Showing -/
def spec_A2Showing (code1 : List Int) : Option (List UInt8) :=
 (spec_l00From code1).bind fun r1 =>
 (spec_l20Draw r1).bind fun r2 =>
 some r2.1
/-- loop.example/g01063/laws.FnLoadPlans -/
def laws_FnLoadPlans (code1 : List Int) (more1 : List Int) : Option Bool :=
 (laws_a2Long code1 more1).bind fun r1 =>
 if r1 then
 (some true)
 else
 (spec_A2Showing code1).bind fun r2 =>
 (impl_SlidesIn r2).bind fun r3 =>
 ((if r3.2 = 0 then
 (if r3.1 < 0 then
 (some true)
 else
 some (decide (r3.1 > (r2.length : Int))))
 else
 some true) : Option Bool).bind fun (x1 : Bool) =>
 if x1 then
 (some false)
 else
 onL (loop (S := (Int × (List Int) × Int)) (B := (List Int)) (R := Bool) (fun ((last1, list1, places1) : Int × (List Int) × Int) =>
 if places1 ≤ 6 then
 ((impl_FewestLoads r2 places1).bind fun r4 =>
 ((if r4.2 = 0 then
 (if r4.1 > last1 then
 (some true)
 else
 if r4.1 < r3.1 then
 (some true)
 else
 if places1 ≥ r3.1 then
 (some (!(decide (r4.1 = r3.1))))
 else
 some false)
 else
 some true) : Option Bool).bind fun (x2 : Bool) =>
 if x2 then
 (some (.ret false))
 else
 (app? list1 ([r4.1] : List Int)).bind fun l1 =>
 some (.next (r4.1, l1, w64 (places1 + 1))))
 else
 some (.brk list1)) loopLim ((r2.length : Int), [], 1))
 (fun (list2 : List Int) => (laws_a2At more1 0 20).bind fun r5 =>
 (impl_LeastPlaces r2 r5).bind fun r6 =>
 onL (loop (S := (Int × Int)) (B := Int) (R := Empty) (fun ((want1, i1) : Int × Int) =>
 if i1 ≥ 0 then
 ((at? list2 i1).bind fun v1 =>
 if v1 ≤ r5 then
 (some (.next (w64 (i1 + 1), w64 (i1 - 1))))
 else
 some (.next (want1, w64 (i1 - 1))))
 else
 some (.brk want1)) loopLim (0, w64 ((list2.length : Int) - 1)))
 (fun (want2 : Int) => ((if want2 = 0 then
 (if r6.2 = 3 then
 (if want2 > 0 then
 (if r6.2 = 0 then
 (some (!(decide (r6.1 = want2))))
 else
 some true)
 else
 some false)
 else
 some true)
 else
 if want2 > 0 then
 (if r6.2 = 0 then
 (some (!(decide (r6.1 = want2))))
 else
 some true)
 else
 some false) : Option Bool).bind fun (x3 : Bool) =>
 if x3 then
 (some false)
 else
 onL (loop (S := Int) (B := Unit) (R := Bool) (fun (i2 : Int) =>
 if i2 < (r2.length : Int) then
 ((impl_NextShown r2 i2).bind fun r7 =>
 onL (loop (S := Int) (B := Int) (R := Empty) (fun (next_1 : Int) =>
 ((if next_1 < (r2.length : Int) then
 ((at? r2 next_1).bind fun c1 =>
 (at? r2 i2).bind fun c2 =>
 some (!(decide ((c1.toNat : Int) = (c2.toNat : Int)))))
 else
 some false) : Option Bool).bind fun (x4 : Bool) =>
 if x4 then
 (some (.next (w64 (next_1 + 1))))
 else
 some (.brk next_1)) loopLim (w64 (i2 + 1)))
 (fun (next_2 : Int) => ((if next_2 = (r2.length : Int) then
 (if r7.2 = 3 then
 (if next_2 < (r2.length : Int) then
 (if r7.2 = 0 then
 (some (!(decide (r7.1 = next_2))))
 else
 some true)
 else
 some false)
 else
 some true)
 else
 if next_2 < (r2.length : Int) then
 (if r7.2 = 0 then
 (some (!(decide (r7.1 = next_2))))
 else
 some true)
 else
 some false) : Option Bool).bind fun (x5 : Bool) =>
 if x5 then
 (some (.ret false))
 else
 some (.next (w64 (i2 + 1)))) Empty.elim)
 else
 some (.brk ())) loopLim 0)
 (fun (_ : Unit) => some true) (fun r => some r)) Empty.elim) (fun r => some r)
/-- loop.example/g01063/impl.BestLoading -/
def impl_BestLoading (s1 : List UInt8) (places1 : Int) : Option ((List Int) × Int) :=
 (impl_showingCode s1 places1).bind fun r1 =>
 if r1 = 0 then
 ((impl_bestLoading s1 places1).bind fun r2 =>
 some (r2, 0))
 else
 some ([], r1)
end Go.Vs.G
