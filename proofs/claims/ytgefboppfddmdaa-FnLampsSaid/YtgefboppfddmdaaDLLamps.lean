/- The functions that the law reaches, as typed Lean functions, printed by program. No conditions. -/
import Derived.Test.YtgefboppfddmdaaV5
set_option maxRecDepth 100000
open Go Go.Vs
namespace Go.Vs.G
structure GBlades where
  Many : Int
  Open : Int
  deriving DecidableEq, Inhabited
structure GFraction where
  Num : Int
  Den : Int
  deriving DecidableEq, Inhabited
structure GL00Src where
  code : List Int
  at_ : Int
  seed : Int
  deriving DecidableEq, Inhabited
def GBlades.ok (x : GBlades) : Prop := (okI .i64) x.Many ∧ (okI .i64) x.Open
def GFraction.ok (x : GFraction) : Prop := (okI .i64) x.Num ∧ (okI .i64) x.Den
def GL00Src.ok (x : GL00Src) : Prop := (okL (okI .u8)) x.code ∧ (okI .i64) x.at_ ∧ (okI .u64) x.seed
/-- loop.example/g01063/impl.within -/
def impl_within (n1 : Int) (low1 : Int) (high1 : Int) : Option Bool :=
 if n1 ≥ low1 then
 (some (decide (n1 ≤ high1)))
 else
 some false
/-- loop.example/g01063/impl.CheapestLamps$1 -/
def impl_CheapestLamps_1 (n1 : Int) : Option Bool :=
 (impl_within n1 0 100000).bind fun r1 =>
 some (!r1)
/-- loop.example/g01063/impl.indicesOf -/
def impl_indicesOf (set1 : Int) : Option (List Int) :=
 onL (loop (S := ((List Int) × Int)) (B := (List Int)) (R := Empty) (fun ((out1, i1) : (List Int) × Int) =>
 (shr? .i64 set1 (IntKind.wrap .u64 (i1))).bind fun q1 =>
 if q1 > 0 then
 ((shr? .i64 set1 (IntKind.wrap .u64 (i1))).bind fun q2 =>
 if (bit_and .i64 q2 1) = 1 then
 ((app? out1 ([i1] : List Int)).bind fun l1 =>
 some (.next (l1, w64 (i1 + 1))))
 else
 some (.next (out1, w64 (i1 + 1))))
 else
 some (.brk out1)) loopLim ([], 0))
 (fun (out2 : List Int) => some out2) Empty.elim
/-- cmp.isNaN[int64] -/
def cmp_isNaN_int64_31 (x1 : Int) : Option Bool :=
 some (!(decide (x1 = x1)))
/-- cmp.Compare[int64] -/
def cmp_Compare_int64_27 (x1 : Int) (y1 : Int) : Option Int :=
 (cmp_isNaN_int64_31 x1).bind fun r1 =>
 (cmp_isNaN_int64_31 y1).bind fun r2 =>
 if r1 then
 (if r2 then
 (some 0)
 else
 some (-1))
 else
 if r2 then
 (some 1)
 else
 if x1 < y1 then
 (some (-1))
 else
 if x1 > y1 then
 (some 1)
 else
 some 0
/-- slices.Compare[[]int64,int64] -/
def slices_Compare_int64_int64_792 (s1 : List Int) (s2 : List Int) : Option Int :=
 onL (loop (S := Int) (B := Unit) (R := Int) (fun (x1 : Int) =>
 if x1 < (s1.length : Int) then
 ((at? s1 x1).bind fun v1 =>
 if x1 ≥ (s2.length : Int) then
 (some (.ret 1))
 else
 (at? s2 x1).bind fun v2 =>
 (cmp_Compare_int64_27 v1 v2).bind fun r1 =>
 if r1 = 0 then
 (some (.next (w64 (x1 + 1))))
 else
 some (.ret r1))
 else
 some (.brk ())) loopLim 0)
 (fun (_ : Unit) => if (s1.length : Int) < (s2.length : Int) then
 (some (-1))
 else
 some 0) (fun r => some r)
/-- loop.example/g01063/impl.chosenLamps -/
def impl_chosenLamps (lamps1 : List Int) (prices1 : List Int) (need1 : Int) : Option ((List Int) × Int × Bool) :=
 (shl? .i64 1 (IntKind.wrap .u64 ((lamps1.length : Int)))).bind fun q1 =>
 onL (loop (S := ((List Int) × Int × Bool × Int)) (B := ((List Int) × Int × Bool)) (R := Empty) (fun ((best1, least1, found1, x1) : (List Int) × Int × Bool × Int) =>
 if x1 < q1 then
 ((impl_indicesOf x1).bind fun r1 =>
 onL (loop (S := (Int × Int × Int)) (B := (Int × Int)) (R := Empty) (fun ((light1, price1, x2) : Int × Int × Int) =>
 if x2 < (r1.length : Int) then
 ((at? r1 x2).bind fun v1 =>
 (at? lamps1 v1).bind fun v2 =>
 (at? prices1 v1).bind fun v3 =>
 some (.next (w64 (light1 + v2), w64 (price1 + v3), w64 (x2 + 1))))
 else
 some (.brk (light1, price1))) loopLim (0, 0, 0))
 (fun ((light2, price2) : Int × Int) => if light2 < need1 then
 (some (.next (best1, least1, found1, w64 (x1 + 1))))
 else
 ((if price2 < least1 then
 (some true)
 else
 if price2 = least1 then
 (if (r1.length : Int) < (best1.length : Int) then
 (some true)
 else
 if (r1.length : Int) = (best1.length : Int) then
 ((slices_Compare_int64_int64_792 r1 best1).bind fun r2 =>
 some (decide (r2 < 0)))
 else
 some false)
 else
 some false) : Option Bool).bind fun (better1 : Bool) =>
 ((if found1 then
 (some better1)
 else
 some true) : Option Bool).bind fun (x3 : Bool) =>
 if x3 then
 (some (.next (r1, price2, true, w64 (x1 + 1))))
 else
 some (.next (best1, least1, found1, w64 (x1 + 1)))) Empty.elim)
 else
 some (.brk (best1, least1, found1))) loopLim ([], 0, false, 0))
 (fun ((best2, least2, found2) : (List Int) × Int × Bool) => some (best2, least2, found2)) Empty.elim
/-- loop.example/g01063/impl.lampsCode$1 -/
def impl_lampsCode_1 (n1 : Int) : Option Bool :=
 (impl_within n1 1 100000).bind fun r1 =>
 some (!r1)
/-- slices.IndexFunc[[]int64,int64] -/
def slices_IndexFunc_int64_int64_818 (s1 : List Int) (f1 : Int → Option Bool) : Option Int :=
 onL (loop (S := Int) (B := Unit) (R := Int) (fun (x1 : Int) =>
 if x1 < (s1.length : Int) then
 ((at? s1 x1).bind fun v1 =>
 (f1 v1).bind fun r1 =>
 if r1 then
 (some (.ret x1))
 else
 some (.next (w64 (x1 + 1))))
 else
 some (.brk ())) loopLim 0)
 (fun (_ : Unit) => some (-1)) (fun r => some r)
/-- slices.ContainsFunc[[]int64,int64] -/
def slices_ContainsFunc_int64_int64_796 (s1 : List Int) (f1 : Int → Option Bool) : Option Bool :=
 (slices_IndexFunc_int64_int64_818 s1 f1).bind fun r1 =>
 some (decide (r1 ≥ 0))
/-- loop.example/g01063/impl.lampsCode -/
def impl_lampsCode (lamps1 : List Int) (need1 : Int) : Option Int :=
 (((impl_within need1 0 100000).bind fun r1 =>
 if r1 then
 (if (lamps1.length : Int) > 8 then
 (some true)
 else
 (slices_ContainsFunc_int64_int64_796 lamps1 (fun a0 => impl_lampsCode_1 a0)).bind fun r2 =>
 some r2)
 else
 some true) : Option Bool).bind fun (x1 : Bool) =>
 if x1 then
 (some 2)
 else
 some 0
/-- loop.example/g01063/impl.CheapestLamps -/
def impl_CheapestLamps (lamps1 : List Int) (prices1 : List Int) (need1 : Int) : Option ((List Int) × Int × Int) :=
 (((impl_lampsCode lamps1 need1).bind fun r1 =>
 if r1 = 0 then
 (if (prices1.length : Int) = (lamps1.length : Int) then
 ((slices_ContainsFunc_int64_int64_796 prices1 (fun a0 => impl_CheapestLamps_1 a0)).bind fun r2 =>
 some r2)
 else
 some true)
 else
 some true) : Option Bool).bind fun (x1 : Bool) =>
 if x1 then
 (some ([], 0, 2))
 else
 (impl_chosenLamps lamps1 prices1 need1).bind fun r3 =>
 if r3.2.2 then
 (some (r3.1, r3.2.1, 0))
 else
 some ([], 0, 3)
/-- loop.example/g01063/impl.FewestLamps -/
def impl_FewestLamps (lamps1 : List Int) (need1 : Int) : Option ((List Int) × Int) :=
 (impl_lampsCode lamps1 need1).bind fun r1 =>
 if r1 = 0 then
 ((mk? (lamps1.length : Int) (0 : Int)).bind fun l1 =>
 (impl_chosenLamps lamps1 l1 need1).bind fun r2 =>
 if r2.2.2 then
 (some (r2.1, 0))
 else
 some ([], 3))
 else
 some ([], r1)
/-- loop.example/g01063/laws.f6big -/
def laws_f6big (code1 : List Int) : Option Bool :=
 some (decide ((code1.length : Int) > 4096))
/-- loop.example/g01063/laws.f6ints -/
def laws_f6ints (a1 : List Int) (b1 : List Int) : Option Bool :=
 if (a1.length : Int) = (b1.length : Int) then
 (onL (loop (S := Int) (B := Unit) (R := Bool) (fun (i1 : Int) =>
 if i1 < (a1.length : Int) then
 ((at? a1 i1).bind fun v1 =>
 (at? b1 i1).bind fun v2 =>
 if v1 = v2 then
 (some (.next (w64 (i1 + 1))))
 else
 some (.ret false))
 else
 some (.brk ())) loopLim 0)
 (fun (_ : Unit) => some true) (fun r => some r))
 else
 some false
/-- loop.example/g01063/laws.f6lamps -/
def laws_f6lamps (lamps1 : List Int) (prices1 : List Int) (some_1 : List Int) : Option (Int × Int) :=
 onL (loop (S := (Int × Int × Int)) (B := (Int × Int)) (R := Empty) (fun ((light1, price1, i1) : Int × Int × Int) =>
 if i1 < (some_1.length : Int) then
 ((at? some_1 i1).bind fun v1 =>
 (at? lamps1 v1).bind fun v2 =>
 (at? some_1 i1).bind fun v3 =>
 (at? prices1 v3).bind fun v4 =>
 some (.next (w64 (light1 + v2), w64 (price1 + v4), w64 (i1 + 1))))
 else
 some (.brk (light1, price1))) loopLim (0, 0, 0))
 (fun ((light2, price2) : Int × Int) => some (light2, price2)) Empty.elim
/-- loop.example/g01063/spec.l00In -/
def spec_l00In (n1 : Int) (low1 : Int) (high1 : Int) : Option Bool :=
 if n1 ≥ low1 then
 (some (decide (n1 ≤ high1)))
 else
 some false
/-- loop.example/g01063/spec.l11Less -/
def spec_l11Less (a1 : List Int) (b1 : List Int) : Option Bool :=
 if (a1.length : Int) = (b1.length : Int) then
 (onL (loop (S := Int) (B := Unit) (R := Bool) (fun (i1 : Int) =>
 if i1 < (a1.length : Int) then
 ((at? a1 i1).bind fun v1 =>
 (at? b1 i1).bind fun v2 =>
 if v1 = v2 then
 (some (.next (w64 (i1 + 1))))
 else
 (at? a1 i1).bind fun v3 =>
 (at? b1 i1).bind fun v4 =>
 some (.ret (decide (v3 < v4))))
 else
 some (.brk ())) loopLim 0)
 (fun (_ : Unit) => some false) (fun r => some r))
 else
 some (decide ((a1.length : Int) < (b1.length : Int)))
/-- loop.example/g01063/spec.l12Lamps -/
def spec_l12Lamps (lamps1 : List Int) : Option Bool :=
 onL (loop (S := Int) (B := Unit) (R := Bool) (fun (i1 : Int) =>
 if i1 < (lamps1.length : Int) then
 ((at? lamps1 i1).bind fun v1 =>
 (spec_l00In v1 1 100000).bind fun r1 =>
 if r1 then
 (some (.next (w64 (i1 + 1))))
 else
 some (.ret false))
 else
 some (.brk ())) loopLim 0)
 (fun (_ : Unit) => some (decide ((lamps1.length : Int) ≤ 8))) (fun r => some r)
/-- loop.example/g01063/spec.l12Need -/
def spec_l12Need (lamps1 : List Int) (need1 : Int) : Option Int :=
 (((spec_l12Lamps lamps1).bind fun r1 =>
 if r1 then
 ((spec_l00In need1 0 100000).bind fun r2 =>
 some (!r2))
 else
 some true) : Option Bool).bind fun (x1 : Bool) =>
 if x1 then
 (some 2)
 else
 some 0
/-- loop.example/g01063/spec.l12Some -/
def spec_l12Some (n1 : Int) (bits1 : Int) : Option (List Int) :=
 onL (loop (S := ((List Int) × Int)) (B := (List Int)) (R := Empty) (fun ((out1, k1) : (List Int) × Int) =>
 if k1 < n1 then
 ((shr? .i64 bits1 (IntKind.wrap .u64 (k1))).bind fun q1 =>
 if (bit_and .i64 q1 1) = 1 then
 ((app? out1 ([k1] : List Int)).bind fun l1 =>
 some (.next (l1, w64 (k1 + 1))))
 else
 some (.next (out1, w64 (k1 + 1))))
 else
 some (.brk out1)) loopLim ([], 0))
 (fun (out2 : List Int) => some out2) Empty.elim
/-- loop.example/g01063/spec.l12Sum -/
def spec_l12Sum (lamps1 : List Int) (bits1 : Int) : Option Int :=
 onL (loop (S := (Int × Int)) (B := Int) (R := Empty) (fun ((sum1, k1) : Int × Int) =>
 if k1 < (lamps1.length : Int) then
 ((shr? .i64 bits1 (IntKind.wrap .u64 (k1))).bind fun q1 =>
 if (bit_and .i64 q1 1) = 1 then
 ((at? lamps1 k1).bind fun v1 =>
 some (.next (w64 (sum1 + v1), w64 (k1 + 1))))
 else
 some (.next (sum1, w64 (k1 + 1))))
 else
 some (.brk sum1)) loopLim (0, 0))
 (fun (sum2 : Int) => some sum2) Empty.elim
/-- loop.example/g01063/spec.CheapestLamps -/
def spec_CheapestLamps (lamps1 : List Int) (prices1 : List Int) (need1 : Int) : Option ((List Int) × Int × Int) :=
 (spec_l12Need lamps1 need1).bind fun r1 =>
 if r1 = 0 then
 (onL (loop (S := Int) (B := Unit) (R := ((List Int) × Int × Int)) (fun (i1 : Int) =>
 if i1 < (prices1.length : Int) then
 ((at? prices1 i1).bind fun v1 =>
 (spec_l00In v1 0 100000).bind fun r2 =>
 if r2 then
 (some (.next (w64 (i1 + 1))))
 else
 some (.ret ([], 0, 2)))
 else
 some (.brk ())) loopLim 0)
 (fun (_ : Unit) => if (prices1.length : Int) = (lamps1.length : Int) then
 (onL (loop (S := (Int × Int)) (B := Int) (R := Empty) (fun ((best1, bits1) : Int × Int) =>
 (shl? .i64 1 (IntKind.wrap .u64 ((lamps1.length : Int)))).bind fun q1 =>
 if bits1 < q1 then
 ((spec_l12Sum lamps1 bits1).bind fun r3 =>
 if r3 < need1 then
 (some (.next (best1, w64 (bits1 + 1))))
 else
 ((if best1 < 0 then
 (some true)
 else
 (spec_l12Sum prices1 bits1).bind fun r4 =>
 (spec_l12Sum prices1 best1).bind fun r5 =>
 if r4 < r5 then
 (some true)
 else
 (spec_l12Sum prices1 bits1).bind fun r6 =>
 (spec_l12Sum prices1 best1).bind fun r7 =>
 if r6 = r7 then
 ((spec_l12Some (lamps1.length : Int) bits1).bind fun r8 =>
 (spec_l12Some (lamps1.length : Int) best1).bind fun r9 =>
 (spec_l11Less r8 r9).bind fun r10 =>
 some r10)
 else
 some false) : Option Bool).bind fun (x1 : Bool) =>
 if x1 then
 (some (.next (bits1, w64 (bits1 + 1))))
 else
 some (.next (best1, w64 (bits1 + 1))))
 else
 some (.brk best1)) loopLim ((-1), 0))
 (fun (best2 : Int) => if best2 < 0 then
 (some ([], 0, 3))
 else
 (spec_l12Some (lamps1.length : Int) best2).bind fun r11 =>
 (spec_l12Sum prices1 best2).bind fun r12 =>
 some (r11, r12, 0)) Empty.elim)
 else
 some ([], 0, 2)) (fun r => some r))
 else
 some ([], 0, r1)
/-- (*loop.example/g01063/spec.l00Src).next -/
def spec_l00Src_next (s1 : GL00Src) : Option (Int × GL00Src) :=
 ((if s1.at_ < (s1.code.length : Int) then
 ((at? s1.code s1.at_).bind fun v1 =>
 some (w64 (v1)))
 else
 some 0) : Option Int).bind fun (b1 : Int) =>
 if (w64 (s1.at_ + 1)) ≤ (s1.code.length : Int) then
 (some (b1, (GL00Src.mk s1.code (w64 (s1.at_ + 1)) (IntKind.wrap .u64 ((IntKind.wrap .u64 ((IntKind.wrap .u64 (s1.seed * 6364136223846793005)) + (IntKind.wrap .u64 (b1)))) + 1442695040888963407)))))
 else
 (shr? .u64 (IntKind.wrap .u64 ((IntKind.wrap .u64 ((IntKind.wrap .u64 (s1.seed * 6364136223846793005)) + (IntKind.wrap .u64 (b1)))) + 1442695040888963407)) 40).bind fun q1 =>
 some (w64 (bit_and .u64 q1 255), (GL00Src.mk s1.code (w64 (s1.at_ + 1)) (IntKind.wrap .u64 ((IntKind.wrap .u64 ((IntKind.wrap .u64 (s1.seed * 6364136223846793005)) + (IntKind.wrap .u64 (b1)))) + 1442695040888963407))))
/-- (*loop.example/g01063/spec.l00Src).pick -/
def spec_l00Src_pick (s1 : GL00Src) (n1 : Int) : Option (Int × GL00Src) :=
 if n1 ≤ 1 then
 (some (0, s1))
 else
 (spec_l00Src_next s1).bind fun r1 =>
 if n1 > 200 then
 ((spec_l00Src_next r1.2).bind fun r2 =>
 (mod? (w64 ((w64 (r1.1 * 256)) + r2.1)) n1).bind fun q1 =>
 some (q1, r2.2))
 else
 (mod? r1.1 n1).bind fun q2 =>
 some (q2, r1.2)
/-- (*loop.example/g01063/spec.l00Src).among -/
def spec_l00Src_among (s1 : GL00Src) (list1 : List Int) : Option (Int × GL00Src) :=
 (spec_l00Src_pick s1 (list1.length : Int)).bind fun r1 =>
 (at? list1 r1.1).bind fun v1 =>
 some (v1, r1.2)
/-- loop.example/g01063/spec.l00From -/
def spec_l00From (code1 : List Int) : Option GL00Src :=
 some (GL00Src.mk code1 0 0)
/-- (*loop.example/g01063/spec.l00Src).one -/
def spec_l00Src_one (s1 : GL00Src) (n1 : Int) : Option (Bool × GL00Src) :=
 (spec_l00Src_pick s1 n1).bind fun r1 =>
 some ((decide (r1.1 = 0)), r1.2)
/-- loop.example/g01063/spec.l12DrawLamps -/
def spec_l12DrawLamps (s1 : GL00Src) : Option ((List Int) × GL00Src) :=
 (spec_l00Src_pick s1 6).bind fun r1 =>
 (spec_l00Src_one r1.2 20).bind fun r2 =>
 ((if r2.1 then
 ((spec_l00Src_pick r2.2 2).bind fun r3 =>
 some (r3.2, w64 (8 + r3.1)))
 else
 some (r2.2, r1.1)) : Option (GL00Src × Int)).bind fun ((s2, n1) : GL00Src × Int) =>
 onL (loop (S := (GL00Src × (List Int) × Int)) (B := (GL00Src × (List Int))) (R := Empty) (fun ((s3, out1, k1) : GL00Src × (List Int) × Int) =>
 if k1 > 0 then
 ((spec_l00Src_pick s3 20).bind fun r4 =>
 (app? out1 ([w64 (100 * (w64 (1 + r4.1)))] : List Int)).bind fun l1 =>
 some (.next (r4.2, l1, w64 (k1 - 1))))
 else
 some (.brk (s3, out1))) loopLim (s2, [], n1))
 (fun ((s4, out2) : GL00Src × (List Int)) => ((if n1 > 0 then
 ((spec_l00Src_one s4 12).bind fun r5 =>
 some (r5.2, r5.1))
 else
 some (s4, false)) : Option (GL00Src × Bool)).bind fun ((s5, x1) : GL00Src × Bool) =>
 if x1 then
 ((spec_l00Src_among s5 [(-1), 0, 1, 100000, 100001]).bind fun r6 =>
 (at? out2 0).bind fun v1 =>
 some (out2.set ((0 : Int).toNat) r6.1, r6.2))
 else
 some (out2, s5)) Empty.elim
/-- loop.example/g01063/spec.l12DrawNeed -/
def spec_l12DrawNeed (s1 : GL00Src) : Option (Int × GL00Src) :=
 (spec_l00Src_one s1 10).bind fun r1 =>
 if r1.1 then
 ((spec_l00Src_among r1.2 [(-1), 0, 100000, 100001]).bind fun r2 =>
 some (r2.1, r2.2))
 else
 (spec_l00Src_pick r1.2 40).bind fun r3 =>
 some (w64 (100 * r3.1), r3.2)
/-- loop.example/g01063/spec.DrawCheapestLamps -/
def spec_DrawCheapestLamps (code1 : List Int) : Option ((List Int) × (List Int) × Int) :=
 (spec_l00From code1).bind fun r1 =>
 (spec_l12DrawLamps r1).bind fun r2 =>
 onL (loop (S := (GL00Src × (List Int) × Int)) (B := (GL00Src × (List Int))) (R := Empty) (fun ((s1, prices1, i1) : GL00Src × (List Int) × Int) =>
 if i1 < (r2.1.length : Int) then
 ((spec_l00Src_pick s1 60).bind fun r3 =>
 (app? prices1 ([r3.1] : List Int)).bind fun l1 =>
 some (.next (r3.2, l1, w64 (i1 + 1))))
 else
 some (.brk (s1, prices1))) loopLim (r2.2, [], 0))
 (fun ((s2, prices2) : GL00Src × (List Int)) => (spec_l00Src_pick s2 16).bind fun r4 =>
 ((if r4.1 = 0 then
 ((app? prices2 ([5] : List Int)).bind fun l2 =>
 some (r4.2, l2))
 else
 if r4.1 = 1 then
 (if (prices2.length : Int) > 0 then
 ((spec_l00Src_among r4.2 [(-1), 0, 100000, 100001]).bind fun r5 =>
 (at? prices2 0).bind fun v1 =>
 some (r5.2, prices2.set ((0 : Int).toNat) r5.1))
 else
 some (r4.2, prices2))
 else
 some (r4.2, prices2)) : Option (GL00Src × (List Int))).bind fun ((s3, prices3) : GL00Src × (List Int)) =>
 (spec_l12DrawNeed s3).bind fun r6 =>
 some (r2.1, prices3, r6.1)) Empty.elim
/-- loop.example/g01063/spec.DrawFewestLamps -/
def spec_DrawFewestLamps (code1 : List Int) : Option ((List Int) × Int) :=
 (spec_l00From code1).bind fun r1 =>
 (spec_l12DrawLamps r1).bind fun r2 =>
 (spec_l12DrawNeed r2.2).bind fun r3 =>
 some (r2.1, r3.1)
/-- loop.example/g01063/spec.FewestLamps -/
def spec_FewestLamps (lamps1 : List Int) (need1 : Int) : Option ((List Int) × Int) :=
 (spec_l12Need lamps1 need1).bind fun r1 =>
 if r1 = 0 then
 (onL (loop (S := ((List Int) × Bool × Int)) (B := ((List Int) × Bool)) (R := Empty) (fun ((best1, found1, bits1) : (List Int) × Bool × Int) =>
 (shl? .i64 1 (IntKind.wrap .u64 ((lamps1.length : Int)))).bind fun q1 =>
 if bits1 < q1 then
 ((spec_l12Some (lamps1.length : Int) bits1).bind fun r2 =>
 (((spec_l12Sum lamps1 bits1).bind fun r3 =>
 if r3 ≥ need1 then
 (if found1 then
 ((spec_l11Less r2 best1).bind fun r4 =>
 some r4)
 else
 some true)
 else
 some false) : Option Bool).bind fun (x1 : Bool) =>
 if x1 then
 (some (.next (r2, true, w64 (bits1 + 1))))
 else
 some (.next (best1, found1, w64 (bits1 + 1))))
 else
 some (.brk (best1, found1))) loopLim ([], false, 0))
 (fun ((best2, found2) : (List Int) × Bool) => if found2 then
 (some (best2, 0))
 else
 some ([], 3)) Empty.elim)
 else
 some ([], r1)
/-- loop.example/g01063/laws.FnLamps -/
def laws_FnLamps (code1 : List Int) : Option Bool :=
 (laws_f6big code1).bind fun r1 =>
 if r1 then
 (some true)
 else
 (spec_DrawFewestLamps code1).bind fun r2 =>
 (impl_FewestLamps r2.1 r2.2).bind fun r3 =>
 (spec_FewestLamps r2.1 r2.2).bind fun r4 =>
 (spec_DrawCheapestLamps code1).bind fun r5 =>
 (impl_CheapestLamps r5.1 r5.2.1 r5.2.2).bind fun r6 =>
 (spec_CheapestLamps r5.1 r5.2.1 r5.2.2).bind fun r7 =>
 ((if r3.2 = r4.2 then
 ((laws_f6ints r3.1 r4.1).bind fun r8 =>
 if r8 then
 (if r6.2.2 = r7.2.2 then
 ((laws_f6ints r6.1 r7.1).bind fun r9 =>
 if r9 then
 (some (!(decide (r6.2.1 = r7.2.1))))
 else
 some true)
 else
 some true)
 else
 some true)
 else
 some true) : Option Bool).bind fun (x1 : Bool) =>
 if x1 then
 (some false)
 else
 onS (S := Unit) (B := Empty) (R := Bool) (if r6.2.2 = 0 then
 ((impl_FewestLamps r5.1 r5.2.2).bind fun r10 =>
 (laws_f6lamps r5.1 r5.2.1 r7.1).bind fun r11 =>
 ((if r10.2 = 0 then
 (if r11.1 < r5.2.2 then
 (some true)
 else
 if r11.2 = r7.2.1 then
 (some (decide ((r10.1.length : Int) > (r7.1.length : Int))))
 else
 some true)
 else
 some true) : Option Bool).bind fun (x2 : Bool) =>
 if x2 then
 (some (.ret false))
 else
 onL (loop (S := Int) (B := Unit) (R := Bool) (fun (i1 : Int) =>
 if i1 < (r10.1.length : Int) then
 ((((at? r10.1 i1).bind fun v1 =>
 if v1 < 0 then
 (some true)
 else
 (at? r10.1 i1).bind fun v2 =>
 some (decide (v2 ≥ (r5.1.length : Int)))) : Option Bool).bind fun (x3 : Bool) =>
 if x3 then
 (some (.ret false))
 else
 some (.next (w64 (i1 + 1))))
 else
 some (.brk ())) loopLim 0)
 (fun (_ : Unit) => (laws_f6lamps r5.1 r5.2.1 r10.1).bind fun r12 =>
 if r12.2 < r7.2.1 then
 (some (.ret false))
 else
 some (.next ())) (fun r => some (.ret r)))
 else
 some (.next ()))
 (fun (_ : Unit) => if r3.2 = 0 then
 ((laws_f6lamps r2.1 r2.1 r4.1).bind fun r13 =>
 onL (loop (S := Int) (B := Unit) (R := Bool) (fun (i2 : Int) =>
 if i2 < (r4.1.length : Int) then
 ((at? r4.1 i2).bind fun v3 =>
 (at? r2.1 v3).bind fun v4 =>
 if (w64 (r13.1 - v4)) ≥ r2.2 then
 (some (.ret false))
 else
 some (.next (w64 (i2 + 1))))
 else
 some (.brk ())) loopLim 0)
 (fun (_ : Unit) => some (decide (r13.1 ≥ r2.2))) (fun r => some r))
 else
 some true)
 Empty.elim (fun r => some r)
/-- (loop.example/g01063/impl.Blades).isOpen -/
def impl_Blades_isOpen (b1 : GBlades) (part1 : Int) : Option Bool :=
 (div? .i64 1000 b1.Many).bind fun q1 =>
 (mod? part1 q1).bind fun q2 =>
 (div? .i64 b1.Open b1.Many).bind fun q3 =>
 some (decide (q2 < q3))
/-- loop.example/g01063/impl.ValidBlades -/
def impl_ValidBlades (b1 : GBlades) : Option Bool :=
 (impl_within b1.Many 1 12).bind fun r1 =>
 if r1 then
 ((mod? 1000 b1.Many).bind fun q1 =>
 if q1 = 0 then
 ((impl_within b1.Open 1 999).bind fun r2 =>
 if r2 then
 ((mod? b1.Open b1.Many).bind fun q2 =>
 some (decide (q2 = 0)))
 else
 some false)
 else
 some false)
 else
 some false
/-- loop.example/g01063/impl.bothOpen -/
def impl_bothOpen (a1 : GBlades) (b1 : GBlades) (by_1 : Int) : Option Int :=
 onL (loop (S := (Int × Int)) (B := Int) (R := Empty) (fun ((count1, x1) : Int × Int) =>
 if x1 < 1000 then
 ((((impl_Blades_isOpen a1 x1).bind fun r1 =>
 if r1 then
 ((impl_Blades_isOpen b1 ((w64 (x1 + by_1)).tmod 1000)).bind fun r2 =>
 some r2)
 else
 some false) : Option Bool).bind fun (x2 : Bool) =>
 if x2 then
 (some (.next (w64 (count1 + 1), w64 (x1 + 1))))
 else
 some (.next (count1, w64 (x1 + 1))))
 else
 some (.brk count1)) loopLim (0, 0))
 (fun (count2 : Int) => some count2) Empty.elim
/-- loop.example/g01063/impl.BestOffset -/
def impl_BestOffset (a1 : GBlades) (b1 : GBlades) : Option (Int × Int × Int) :=
 (((impl_ValidBlades a1).bind fun r1 =>
 if r1 then
 ((impl_ValidBlades b1).bind fun r2 =>
 some (!r2))
 else
 some true) : Option Bool).bind fun (x1 : Bool) =>
 if x1 then
 (some (0, 0, 1))
 else
 onL (loop (S := (Int × Int × Int)) (B := (Int × Int)) (R := Empty) (fun ((best1, most1, x2) : Int × Int × Int) =>
 if x2 < 1000 then
 ((impl_bothOpen a1 b1 x2).bind fun r3 =>
 if r3 > most1 then
 (some (.next (x2, r3, w64 (x2 + 1))))
 else
 some (.next (best1, most1, w64 (x2 + 1))))
 else
 some (.brk (best1, most1))) loopLim (0, (-1), 0))
 (fun ((best2, most2) : Int × Int) => some (best2, most2, 0)) Empty.elim
/-- loop.example/g01063/impl.gcd -/
def impl_gcd (a1 : Int) (b1 : Int) : Option Int :=
 onL (loop (S := (Int × Int)) (B := Int) (R := Empty) (fun ((a2, b2) : Int × Int) =>
 if b2 = 0 then
 (some (.brk a2))
 else
 (mod? a2 b2).bind fun q1 =>
 some (.next (b2, q1))) loopLim (a1, b1))
 (fun (a3 : Int) => some (imax a3 (w64 (0 - a3)))) Empty.elim
/-- loop.example/g01063/impl.ValidFraction -/
def impl_ValidFraction (f1 : GFraction) : Option Bool :=
 (impl_within f1.Den 1 1000000).bind fun r1 =>
 if r1 then
 ((impl_within f1.Num (-1000000) 1000000).bind fun r2 =>
 if r2 then
 ((impl_gcd f1.Num f1.Den).bind fun r3 =>
 some (decide (r3 = 1)))
 else
 some false)
 else
 some false
/-- loop.example/g01063/impl.lowest -/
def impl_lowest (num1 : Int) (den1 : Int) : Option GFraction :=
 ((if den1 < 0 then
 (some (w64 (0 - num1), w64 (0 - den1)))
 else
 some (num1, den1)) : Option (Int × Int)).bind fun ((num2, den2) : Int × Int) =>
 (impl_gcd num2 den2).bind fun r1 =>
 (div? .i64 num2 r1).bind fun q1 =>
 (div? .i64 den2 r1).bind fun q2 =>
 some (GFraction.mk q1 q2)
/-- loop.example/g01063/impl.brightnessAt -/
def impl_brightnessAt (bright1 : GFraction) (from_1 : Int) (to_1 : Int) : Option GFraction :=
 (impl_lowest (w64 ((w64 (bright1.Num * from_1)) * from_1)) (w64 ((w64 (bright1.Den * to_1)) * to_1))).bind fun r1 =>
 some r1
/-- loop.example/g01063/impl.isBrightness -/
def impl_isBrightness (f1 : GFraction) : Option Bool :=
 (impl_within f1.Num 0 100000).bind fun r1 =>
 if r1 then
 (some (decide (f1.Den ≤ 100000)))
 else
 some false
/-- loop.example/g01063/impl.isSide -/
def impl_isSide (n1 : Int) : Option Bool :=
 (impl_within n1 1 1000).bind fun r1 =>
 some r1
/-- loop.example/g01063/impl.BrightnessAt -/
def impl_BrightnessAt (bright1 : GFraction) (from_1 : Int) (to_1 : Int) : Option (GFraction × Int) :=
 (impl_ValidFraction bright1).bind fun r1 =>
 if r1 then
 ((((impl_isBrightness bright1).bind fun r2 =>
 if r2 then
 ((impl_isSide from_1).bind fun r3 =>
 if r3 then
 ((impl_isSide to_1).bind fun r4 =>
 some (!r4))
 else
 some true)
 else
 some true) : Option Bool).bind fun (x1 : Bool) =>
 if x1 then
 (some ((GFraction.mk 0 0), 2))
 else
 (impl_brightnessAt bright1 from_1 to_1).bind fun r5 =>
 some (r5, 0))
 else
 some ((GFraction.mk 0 0), 1)
/-- loop.example/g01063/impl.BrightnessOf -/
def impl_BrightnessOf (lumens1 : Int) (wide1 : Int) (high1 : Int) : Option (GFraction × Int) :=
 (((impl_isSide wide1).bind fun r1 =>
 if r1 then
 ((impl_isSide high1).bind fun r2 =>
 if r2 then
 ((impl_within lumens1 0 100000).bind fun r3 =>
 some (!r3))
 else
 some true)
 else
 some true) : Option Bool).bind fun (x1 : Bool) =>
 if x1 then
 (some ((GFraction.mk 0 0), 2))
 else
 (impl_lowest lumens1 (w64 (wide1 * high1))).bind fun r4 =>
 some (r4, 0)
/-- loop.example/g01063/impl.checked -/
def impl_checked (f1 : GFraction) : Option (GFraction × Int) :=
 (impl_ValidFraction f1).bind fun r1 =>
 if r1 then
 (some (f1, 0))
 else
 some ((GFraction.mk 0 0), 5)
/-- loop.example/g01063/impl.CommonTime -/
def impl_CommonTime (a1 : GFraction) (b1 : GFraction) : Option (GFraction × Int) :=
 (((impl_ValidFraction a1).bind fun r1 =>
 if r1 then
 ((impl_ValidFraction b1).bind fun r2 =>
 some (!r2))
 else
 some true) : Option Bool).bind fun (x1 : Bool) =>
 if x1 then
 (some ((GFraction.mk 0 0), 1))
 else
 ((if a1.Num ≤ 0 then
 (some true)
 else
 some (decide (b1.Num ≤ 0))) : Option Bool).bind fun (x2 : Bool) =>
 if x2 then
 (some ((GFraction.mk 0 0), 6))
 else
 (impl_gcd a1.Den b1.Den).bind fun r3 =>
 (div? .i64 a1.Den r3).bind fun q1 =>
 (impl_gcd a1.Num b1.Num).bind fun r4 =>
 (impl_lowest (w64 (q1 * b1.Den)) r4).bind fun r5 =>
 (impl_checked r5).bind fun r6 =>
 some (r6.1, r6.2)
/-- loop.example/g01063/impl.CornerLight -/
def impl_CornerLight (throw1 : Int) (half1 : Int) : Option (GFraction × Int) :=
 (((impl_isSide throw1).bind fun r1 =>
 if r1 then
 ((impl_within half1 0 1000).bind fun r2 =>
 some (!r2))
 else
 some true) : Option Bool).bind fun (x1 : Bool) =>
 if x1 then
 (some ((GFraction.mk 0 0), 2))
 else
 (impl_lowest (w64 (throw1 * throw1)) (w64 ((w64 (throw1 * throw1)) + (w64 (half1 * half1))))).bind fun r3 =>
 (impl_lowest (w64 (r3.Num * r3.Num)) (w64 (r3.Den * r3.Den))).bind fun r4 =>
 some (r4, 0)
/-- loop.example/g01063/impl.FarthestFor -/
def impl_FarthestFor (bright1 : GFraction) (from_1 : Int) (least1 : GFraction) : Option (Int × Int) :=
 (((impl_ValidFraction bright1).bind fun r1 =>
 if r1 then
 ((impl_ValidFraction least1).bind fun r2 =>
 some (!r2))
 else
 some true) : Option Bool).bind fun (x1 : Bool) =>
 if x1 then
 (some (0, 1))
 else
 (((impl_isBrightness bright1).bind fun r3 =>
 if r3 then
 ((impl_isSide from_1).bind fun r4 =>
 if r4 then
 ((impl_isBrightness least1).bind fun r5 =>
 some (!r5))
 else
 some true)
 else
 some true) : Option Bool).bind fun (x2 : Bool) =>
 if x2 then
 (some (0, 2))
 else
 onL (loop (S := Int) (B := Unit) (R := (Int × Int)) (fun (to_1 : Int) =>
 if to_1 ≥ 1 then
 (if (w64 ((w64 ((w64 (bright1.Num * from_1)) * from_1)) * least1.Den)) ≥ (w64 ((w64 ((w64 (least1.Num * bright1.Den)) * to_1)) * to_1)) then
 (some (.ret (to_1, 0)))
 else
 some (.next (w64 (to_1 - 1))))
 else
 some (.brk ())) loopLim 1000)
 (fun (_ : Unit) => some (0, 3)) (fun r => some r)
/-- loop.example/g01063/impl.isRate -/
def impl_isRate (f1 : GFraction) : Option Bool :=
 (impl_within f1.Num 1 1000).bind fun r1 =>
 if r1 then
 (some (decide (f1.Den ≤ 1000)))
 else
 some false
/-- loop.example/g01063/impl.rateCode -/
def impl_rateCode (valid1 : Bool) (rate1 : GFraction) (least1 : Int) : Option Int :=
 ((if valid1 then
 ((impl_ValidFraction rate1).bind fun r1 =>
 some (!r1))
 else
 some true) : Option Bool).bind fun (x1 : Bool) =>
 if x1 then
 (some 1)
 else
 (((impl_isRate rate1).bind fun r2 =>
 if r2 then
 ((impl_within least1 1 200).bind fun r3 =>
 some (!r3))
 else
 some true) : Option Bool).bind fun (x2 : Bool) =>
 if x2 then
 (some 2)
 else
 some 0
/-- loop.example/g01063/impl.steady -/
def impl_steady (many1 : Int) (rate1 : GFraction) (least1 : Int) : Option Bool :=
 some (decide ((w64 (rate1.Num * many1)) ≥ (w64 (least1 * rate1.Den))))
/-- loop.example/g01063/impl.FewestBlades -/
def impl_FewestBlades (rate1 : GFraction) (least1 : Int) : Option (Int × Int) :=
 (impl_rateCode true rate1 least1).bind fun r1 =>
 if r1 = 0 then
 (onL (loop (S := Int) (B := Unit) (R := (Int × Int)) (fun (many1 : Int) =>
 if many1 ≤ 12 then
 ((((mod? 1000 many1).bind fun q1 =>
 if q1 = 0 then
 ((impl_steady many1 rate1 least1).bind fun r2 =>
 some r2)
 else
 some false) : Option Bool).bind fun (x1 : Bool) =>
 if x1 then
 (some (.ret (many1, 0)))
 else
 some (.next (w64 (many1 + 1))))
 else
 some (.brk ())) loopLim 1)
 (fun (_ : Unit) => some (0, 3)) (fun r => some r))
 else
 some (0, r1)
/-- loop.example/g01063/impl.FlickerRate -/
def impl_FlickerRate (b1 : GBlades) (rate1 : GFraction) : Option (GFraction × Int) :=
 (impl_ValidBlades b1).bind fun r1 =>
 (impl_rateCode r1 rate1 1).bind fun r2 =>
 if r2 = 0 then
 ((impl_lowest (w64 (rate1.Num * b1.Many)) rate1.Den).bind fun r3 =>
 some (r3, 0))
 else
 some ((GFraction.mk 0 0), r2)
/-- loop.example/g01063/impl.GearedRate -/
def impl_GearedRate (rate1 : GFraction) (driver1 : Int) (driven1 : Int) : Option (GFraction × Int) :=
 (impl_ValidFraction rate1).bind fun r1 =>
 if r1 then
 ((((impl_within driver1 1 1000).bind fun r2 =>
 if r2 then
 ((impl_within driven1 1 1000).bind fun r3 =>
 some (!r3))
 else
 some true) : Option Bool).bind fun (x1 : Bool) =>
 if x1 then
 (some ((GFraction.mk 0 0), 2))
 else
 (impl_lowest (w64 (rate1.Num * driver1)) (w64 (rate1.Den * driven1))).bind fun r4 =>
 (impl_checked r4).bind fun r5 =>
 some (r5.1, r5.2))
 else
 some ((GFraction.mk 0 0), 1)
/-- loop.example/g01063/impl.IsOpenAt -/
def impl_IsOpenAt (b1 : GBlades) (part1 : Int) : Option (Bool × Int) :=
 (impl_ValidBlades b1).bind fun r1 =>
 if r1 then
 ((impl_within part1 0 999).bind fun r2 =>
 if r2 then
 ((impl_Blades_isOpen b1 part1).bind fun r3 =>
 some (r3, 0))
 else
 some (false, 2))
 else
 some (false, 1)
/-- loop.example/g01063/impl.IsSteady -/
def impl_IsSteady (b1 : GBlades) (rate1 : GFraction) (least1 : Int) : Option (Bool × Int) :=
 (impl_ValidBlades b1).bind fun r1 =>
 (impl_rateCode r1 rate1 least1).bind fun r2 =>
 if r2 = 0 then
 ((impl_steady b1.Many rate1 least1).bind fun r3 =>
 some (r3, 0))
 else
 some (false, r2)
/-- loop.example/g01063/impl.LightThrough$1 -/
def impl_LightThrough_1 (n1 : Int) : Option Bool :=
 (impl_within n1 0 1000).bind fun r1 =>
 some (!r1)
/-- loop.example/g01063/impl.LightThrough -/
def impl_LightThrough (lumens1 : Int) (losses1 : List Int) : Option (GFraction × Int) :=
 (((impl_within lumens1 0 100000).bind fun r1 =>
 if r1 then
 (if (losses1.length : Int) > 4 then
 (some true)
 else
 (slices_ContainsFunc_int64_int64_796 losses1 (fun a0 => impl_LightThrough_1 a0)).bind fun r2 =>
 some r2)
 else
 some true) : Option Bool).bind fun (x1 : Bool) =>
 if x1 then
 (some ((GFraction.mk 0 0), 2))
 else
 onL (loop (S := (Int × Int × Int)) (B := (Int × Int)) (R := Empty) (fun ((num1, den1, x2) : Int × Int × Int) =>
 if x2 < (losses1.length : Int) then
 ((at? losses1 x2).bind fun v1 =>
 some (.next (w64 (num1 * (w64 (1000 - v1))), w64 (den1 * 1000), w64 (x2 + 1))))
 else
 some (.brk (num1, den1))) loopLim (lumens1, 1, 0))
 (fun ((num2, den2) : Int × Int) => (impl_lowest num2 den2).bind fun r3 =>
 some (r3, 0)) Empty.elim
/-- loop.example/g01063/impl.LitShare -/
def impl_LitShare (b1 : GBlades) : Option (GFraction × Int) :=
 (impl_ValidBlades b1).bind fun r1 =>
 if r1 then
 ((impl_lowest b1.Open 1000).bind fun r2 =>
 some (r2, 0))
 else
 some ((GFraction.mk 0 0), 1)
/-- loop.example/g01063/impl.LongestDark -/
def impl_LongestDark (b1 : GBlades) (rate1 : GFraction) : Option (GFraction × Int) :=
 (impl_ValidBlades b1).bind fun r1 =>
 (impl_rateCode r1 rate1 1).bind fun r2 =>
 if r2 = 0 then
 ((div? .i64 (w64 (1000 - b1.Open)) b1.Many).bind fun q1 =>
 (impl_lowest (w64 (q1 * rate1.Den)) (w64 (1000 * rate1.Num))).bind fun r3 =>
 some (r3, 0))
 else
 some ((GFraction.mk 0 0), r2)
/-- loop.example/g01063/impl.OpenParts -/
def impl_OpenParts (b1 : GBlades) (from_1 : Int) (to_1 : Int) : Option (Int × Int) :=
 (impl_ValidBlades b1).bind fun r1 =>
 if r1 then
 (((if 0 ≤ from_1 then
 (if from_1 ≤ to_1 then
 (some (!(decide (to_1 ≤ 1000))))
 else
 some true)
 else
 some true) : Option Bool).bind fun (x1 : Bool) =>
 if x1 then
 (some (0, 2))
 else
 onL (loop (S := (Int × Int)) (B := Int) (R := Empty) (fun ((count1, part1) : Int × Int) =>
 if part1 < to_1 then
 ((impl_Blades_isOpen b1 part1).bind fun r2 =>
 if r2 then
 (some (.next (w64 (count1 + 1), w64 (part1 + 1))))
 else
 some (.next (count1, w64 (part1 + 1))))
 else
 some (.brk count1)) loopLim (0, from_1))
 (fun (count2 : Int) => some (count2, 0)) Empty.elim)
 else
 some (0, 1)
/-- loop.example/g01063/impl.ScreenArea -/
def impl_ScreenArea (wide1 : Int) (high1 : Int) : Option (Int × Int) :=
 (((impl_isSide wide1).bind fun r1 =>
 if r1 then
 ((impl_isSide high1).bind fun r2 =>
 some (!r2))
 else
 some true) : Option Bool).bind fun (x1 : Bool) =>
 if x1 then
 (some (0, 2))
 else
 some (w64 (wide1 * high1), 0)
/-- loop.example/g01063/impl.SlowestSteady -/
def impl_SlowestSteady (b1 : GBlades) (least1 : Int) : Option (GFraction × Int) :=
 (impl_ValidBlades b1).bind fun r1 =>
 if r1 then
 ((impl_within least1 1 200).bind fun r2 =>
 if r2 then
 ((impl_lowest least1 b1.Many).bind fun r3 =>
 some (r3, 0))
 else
 some ((GFraction.mk 0 0), 2))
 else
 some ((GFraction.mk 0 0), 1)
/-- loop.example/g01063/impl.TwoWheels -/
def impl_TwoWheels (a1 : GBlades) (b1 : GBlades) (by_1 : Int) : Option (Int × Int) :=
 (((impl_ValidBlades a1).bind fun r1 =>
 if r1 then
 ((impl_ValidBlades b1).bind fun r2 =>
 some (!r2))
 else
 some true) : Option Bool).bind fun (x1 : Bool) =>
 if x1 then
 (some (0, 1))
 else
 (impl_within by_1 0 999).bind fun r3 =>
 if r3 then
 ((impl_bothOpen a1 b1 by_1).bind fun r4 =>
 some (r4, 0))
 else
 some (0, 2)
/-- loop.example/g01063/impl.WholeTurns -/
def impl_WholeTurns (rate1 : GFraction) (seconds1 : Int) : Option (Int × Int) :=
 (impl_ValidFraction rate1).bind fun r1 =>
 if r1 then
 ((impl_within seconds1 0 1000000).bind fun r2 =>
 if r2 then
 (if rate1.Num < 0 then
 (some (0, 6))
 else
 (div? .i64 (w64 (rate1.Num * seconds1)) rate1.Den).bind fun q1 =>
 some (q1, 0))
 else
 some (0, 2))
 else
 some (0, 1)
/-- loop.example/g01063/spec.l00Gcd -/
def spec_l00Gcd (a1 : Int) (b1 : Int) : Option Int :=
 onL (loop (S := (Int × Int)) (B := Int) (R := Empty) (fun ((a2, b2) : Int × Int) =>
 if b2 = 0 then
 (some (.brk a2))
 else
 (mod? a2 b2).bind fun q1 =>
 some (.next (b2, q1))) loopLim (a1, b1))
 (fun (a3 : Int) => some a3) Empty.elim
/-- loop.example/g01063/spec.l00Size -/
def spec_l00Size (n1 : Int) : Option Int :=
 if n1 < 0 then
 (some (w64 (0 - n1)))
 else
 some n1
/-- loop.example/g01063/spec.l02Make -/
def spec_l02Make (num1 : Int) (den1 : Int) : Option GFraction :=
 (spec_l00Size num1).bind fun r1 =>
 (spec_l00Gcd r1 den1).bind fun r2 =>
 (div? .i64 num1 r2).bind fun q1 =>
 (div? .i64 den1 r2).bind fun q2 =>
 some (GFraction.mk q1 q2)
/-- loop.example/g01063/spec.l02Ok -/
def spec_l02Ok (f1 : GFraction) : Option Bool :=
 (spec_l00In f1.Den 1 1000000).bind fun r1 =>
 if r1 then
 ((spec_l00In f1.Num (-1000000) 1000000).bind fun r2 =>
 if r2 then
 ((spec_l00Size f1.Num).bind fun r3 =>
 (spec_l00Gcd r3 f1.Den).bind fun r4 =>
 some (decide (r4 = 1)))
 else
 some false)
 else
 some false
/-- loop.example/g01063/spec.l12Bright -/
def spec_l12Bright (f1 : GFraction) : Option Bool :=
 (spec_l02Ok f1).bind fun r1 =>
 if r1 then
 ((spec_l00In f1.Num 0 100000).bind fun r2 =>
 if r2 then
 (some (decide (f1.Den ≤ 100000)))
 else
 some false)
 else
 some false
/-- loop.example/g01063/spec.l12Far -/
def spec_l12Far (n1 : Int) : Option Bool :=
 (spec_l00In n1 1 1000).bind fun r1 =>
 some r1
/-- loop.example/g01063/spec.BrightnessAt -/
def spec_BrightnessAt (bright1 : GFraction) (from_1 : Int) (to_1 : Int) : Option (GFraction × Int) :=
 (spec_l02Ok bright1).bind fun r1 =>
 if r1 then
 ((((spec_l12Bright bright1).bind fun r2 =>
 if r2 then
 ((spec_l12Far from_1).bind fun r3 =>
 if r3 then
 ((spec_l12Far to_1).bind fun r4 =>
 some (!r4))
 else
 some true)
 else
 some true) : Option Bool).bind fun (x1 : Bool) =>
 if x1 then
 (some ((GFraction.mk 0 0), 2))
 else
 (spec_l02Make (w64 ((w64 (bright1.Num * from_1)) * from_1)) (w64 ((w64 (bright1.Den * to_1)) * to_1))).bind fun r5 =>
 some (r5, 0))
 else
 some ((GFraction.mk 0 0), 1)
/-- loop.example/g01063/spec.l12Side -/
def spec_l12Side (n1 : Int) : Option Bool :=
 (spec_l00In n1 1 1000).bind fun r1 =>
 some r1
/-- loop.example/g01063/spec.BrightnessOf -/
def spec_BrightnessOf (lumens1 : Int) (wide1 : Int) (high1 : Int) : Option (GFraction × Int) :=
 (((spec_l00In lumens1 0 100000).bind fun r1 =>
 if r1 then
 ((spec_l12Side wide1).bind fun r2 =>
 if r2 then
 ((spec_l12Side high1).bind fun r3 =>
 some (!r3))
 else
 some true)
 else
 some true) : Option Bool).bind fun (x1 : Bool) =>
 if x1 then
 (some ((GFraction.mk 0 0), 2))
 else
 (spec_l02Make lumens1 (w64 (wide1 * high1))).bind fun r4 =>
 some (r4, 0)
/-- loop.example/g01063/spec.CornerLight -/
def spec_CornerLight (throw1 : Int) (half1 : Int) : Option (GFraction × Int) :=
 (((spec_l12Far throw1).bind fun r1 =>
 if r1 then
 ((spec_l00In half1 0 1000).bind fun r2 =>
 some (!r2))
 else
 some true) : Option Bool).bind fun (x1 : Bool) =>
 if x1 then
 (some ((GFraction.mk 0 0), 2))
 else
 (spec_l02Make (w64 ((w64 (throw1 * throw1)) * (w64 (throw1 * throw1)))) (w64 ((w64 ((w64 (throw1 * throw1)) + (w64 (half1 * half1)))) * (w64 ((w64 (throw1 * throw1)) + (w64 (half1 * half1))))))).bind fun r3 =>
 some (r3, 0)
/-- loop.example/g01063/spec.l02Draw -/
def spec_l02Draw (s1 : GL00Src) : Option (GFraction × GL00Src) :=
 (spec_l00Src_pick s1 60).bind fun r1 =>
 (spec_l00Src_pick r1.2 20).bind fun r2 =>
 (spec_l02Make (w64 (r1.1 - 15)) (w64 (1 + r2.1))).bind fun r3 =>
 some (r3, r2.2)
/-- loop.example/g01063/spec.l02Bent -/
def spec_l02Bent (s1 : GL00Src) : Option (GFraction × GL00Src) :=
 (spec_l02Draw s1).bind fun r1 =>
 (spec_l00Src_pick r1.2 20).bind fun r2 =>
 if r2.1 = 0 then
 ((spec_l00Src_among r2.2 [(-1), 0, 1, 1000000, 1000001]).bind fun r3 =>
 some ((GFraction.mk r1.1.Num r3.1), r3.2))
 else
 if r2.1 = 1 then
 ((spec_l00Src_among r2.2 [(-1000001), (-1000000), 1000000, 1000001, (-9223372036854775808)]).bind fun r4 =>
 some ((GFraction.mk r4.1 r1.1.Den), r4.2))
 else
 if r2.1 = 2 then
 ((spec_l00Src_pick r2.2 5).bind fun r5 =>
 some ((GFraction.mk (w64 (2 * r5.1)) 4), r5.2))
 else
 if r2.1 = 3 then
 ((spec_l00Src_pick r2.2 3).bind fun r6 =>
 some ((GFraction.mk (w64 (999983 - r6.1)) 1000000), r6.2))
 else
 some (r1.1, r2.2)
/-- loop.example/g01063/spec.l12DrawBright -/
def spec_l12DrawBright (s1 : GL00Src) : Option (GFraction × GL00Src) :=
 (spec_l00Src_pick s1 12).bind fun r1 =>
 if r1.1 = 0 then
 ((spec_l02Bent r1.2).bind fun r2 =>
 some (r2.1, r2.2))
 else
 if r1.1 = 1 then
 ((spec_l00Src_among r1.2 [(-1), 0, 1, 100000, 100001]).bind fun r3 =>
 some ((GFraction.mk r3.1 1), r3.2))
 else
 if r1.1 = 2 then
 ((spec_l00Src_among r1.2 [1, 100000, 100001]).bind fun r4 =>
 some ((GFraction.mk 1 r4.1), r4.2))
 else
 (spec_l00Src_pick r1.2 300).bind fun r5 =>
 (spec_l00Src_pick r5.2 40).bind fun r6 =>
 (spec_l02Make (w64 (1 + r5.1)) (w64 (1 + r6.1))).bind fun r7 =>
 some (r7, r6.2)
/-- loop.example/g01063/spec.l12DrawFar -/
def spec_l12DrawFar (s1 : GL00Src) : Option (Int × GL00Src) :=
 (spec_l00Src_one s1 10).bind fun r1 =>
 if r1.1 then
 ((spec_l00Src_among r1.2 [(-1), 0, 1, 1000, 1001]).bind fun r2 =>
 some (r2.1, r2.2))
 else
 (spec_l00Src_pick r1.2 60).bind fun r3 =>
 some (w64 (5 + r3.1), r3.2)
/-- loop.example/g01063/spec.DrawBrightnessAt -/
def spec_DrawBrightnessAt (code1 : List Int) : Option (GFraction × Int × Int) :=
 (spec_l00From code1).bind fun r1 =>
 (spec_l12DrawBright r1).bind fun r2 =>
 (spec_l12DrawFar r2.2).bind fun r3 =>
 (spec_l12DrawFar r3.2).bind fun r4 =>
 some (r2.1, r3.1, r4.1)
/-- loop.example/g01063/spec.l12DrawLumens -/
def spec_l12DrawLumens (s1 : GL00Src) : Option (Int × GL00Src) :=
 (spec_l00Src_one s1 10).bind fun r1 =>
 if r1.1 then
 ((spec_l00Src_among r1.2 [(-1), 0, 1, 100000, 100001]).bind fun r2 =>
 some (r2.1, r2.2))
 else
 (spec_l00Src_pick r1.2 200).bind fun r3 =>
 some (w64 (50 * r3.1), r3.2)
/-- loop.example/g01063/spec.l12DrawSide -/
def spec_l12DrawSide (s1 : GL00Src) : Option (Int × GL00Src) :=
 (spec_l00Src_one s1 10).bind fun r1 =>
 if r1.1 then
 ((spec_l00Src_among r1.2 [(-1), 0, 1, 1000, 1001, (-9223372036854775808)]).bind fun r2 =>
 some (r2.1, r2.2))
 else
 (spec_l00Src_pick r1.2 90).bind fun r3 =>
 some (w64 (10 + r3.1), r3.2)
/-- loop.example/g01063/spec.DrawBrightnessOf -/
def spec_DrawBrightnessOf (code1 : List Int) : Option (Int × Int × Int) :=
 (spec_l00From code1).bind fun r1 =>
 (spec_l12DrawLumens r1).bind fun r2 =>
 (spec_l12DrawSide r2.2).bind fun r3 =>
 (spec_l12DrawSide r3.2).bind fun r4 =>
 some (r2.1, r3.1, r4.1)
/-- loop.example/g01063/spec.DrawCornerLight -/
def spec_DrawCornerLight (code1 : List Int) : Option (Int × Int) :=
 (spec_l00From code1).bind fun r1 =>
 (spec_l12DrawFar r1).bind fun r2 =>
 (spec_l00Src_one r2.2 8).bind fun r3 =>
 if r3.1 then
 ((spec_l00Src_among r3.2 [(-1), 0, 1000, 1001]).bind fun r4 =>
 some (r2.1, r4.1))
 else
 (spec_l00Src_pick r3.2 60).bind fun r5 =>
 some (r2.1, r5.1)
/-- loop.example/g01063/spec.DrawFarthestFor -/
def spec_DrawFarthestFor (code1 : List Int) : Option (GFraction × Int × GFraction) :=
 (spec_l00From code1).bind fun r1 =>
 (spec_l12DrawBright r1).bind fun r2 =>
 (spec_l12DrawFar r2.2).bind fun r3 =>
 (spec_l12DrawBright r3.2).bind fun r4 =>
 some (r2.1, r3.1, r4.1)
/-- loop.example/g01063/spec.DrawLightThrough -/
def spec_DrawLightThrough (code1 : List Int) : Option (Int × (List Int)) :=
 (spec_l00From code1).bind fun r1 =>
 (spec_l12DrawLumens r1).bind fun r2 =>
 (spec_l00Src_pick r2.2 4).bind fun r3 =>
 (spec_l00Src_one r3.2 12).bind fun r4 =>
 ((if r4.1 then
 ((spec_l00Src_pick r4.2 2).bind fun r5 =>
 some (r5.2, w64 (4 + r5.1)))
 else
 some (r4.2, r3.1)) : Option (GL00Src × Int)).bind fun ((s1, n1) : GL00Src × Int) =>
 onL (loop (S := (GL00Src × (List Int) × Int)) (B := (GL00Src × (List Int))) (R := Empty) (fun ((s2, losses1, k1) : GL00Src × (List Int) × Int) =>
 if k1 > 0 then
 ((spec_l00Src_pick s2 20).bind fun r6 =>
 (app? losses1 ([w64 (50 * r6.1)] : List Int)).bind fun l1 =>
 some (.next (r6.2, l1, w64 (k1 - 1))))
 else
 some (.brk (s2, losses1))) loopLim (s1, [], n1))
 (fun ((s3, losses2) : GL00Src × (List Int)) => ((if n1 > 0 then
 ((spec_l00Src_one s3 10).bind fun r7 =>
 some (r7.2, r7.1))
 else
 some (s3, false)) : Option (GL00Src × Bool)).bind fun ((s4, x1) : GL00Src × Bool) =>
 if x1 then
 ((spec_l00Src_among s4 [(-1), 0, 1000, 1001]).bind fun r8 =>
 (at? losses2 0).bind fun v1 =>
 some (r2.1, losses2.set ((0 : Int).toNat) r8.1))
 else
 some (r2.1, losses2)) Empty.elim
/-- loop.example/g01063/spec.DrawScreenArea -/
def spec_DrawScreenArea (code1 : List Int) : Option (Int × Int) :=
 (spec_l00From code1).bind fun r1 =>
 (spec_l12DrawSide r1).bind fun r2 =>
 (spec_l12DrawSide r2.2).bind fun r3 =>
 some (r2.1, r3.1)
/-- loop.example/g01063/spec.l00Max -/
def spec_l00Max (a1 : Int) (b1 : Int) : Option Int :=
 if a1 > b1 then
 (some a1)
 else
 some b1
/-- loop.example/g01063/spec.l12Enough -/
def spec_l12Enough (a1 : Int) (b1 : Int) (from_1 : Int) (to_1 : Int) : Option Bool :=
 some (decide ((w64 (a1 * (w64 (from_1 * from_1)))) ≥ (w64 (b1 * (w64 (to_1 * to_1))))))
/-- loop.example/g01063/spec.FarthestFor -/
def spec_FarthestFor (bright1 : GFraction) (from_1 : Int) (least1 : GFraction) : Option (Int × Int) :=
 (((spec_l02Ok bright1).bind fun r1 =>
 if r1 then
 ((spec_l02Ok least1).bind fun r2 =>
 some (!r2))
 else
 some true) : Option Bool).bind fun (x1 : Bool) =>
 if x1 then
 (some (0, 1))
 else
 (((spec_l12Bright bright1).bind fun r3 =>
 if r3 then
 ((spec_l12Bright least1).bind fun r4 =>
 if r4 then
 ((spec_l12Far from_1).bind fun r5 =>
 some (!r5))
 else
 some true)
 else
 some true) : Option Bool).bind fun (x2 : Bool) =>
 if x2 then
 (some (0, 2))
 else
 (spec_l00Gcd (w64 (bright1.Num * least1.Den)) (w64 (least1.Num * bright1.Den))).bind fun r6 =>
 (spec_l00Max 1 r6).bind fun r7 =>
 (div? .i64 (w64 (bright1.Num * least1.Den)) r7).bind fun q1 =>
 (div? .i64 (w64 (least1.Num * bright1.Den)) r7).bind fun q2 =>
 onL (loop (S := Int) (B := Unit) (R := (Int × Int)) (fun (to_1 : Int) =>
 if to_1 ≥ 1 then
 ((spec_l12Enough q1 q2 from_1 to_1).bind fun r8 =>
 if r8 then
 (some (.ret (to_1, 0)))
 else
 some (.next (w64 (to_1 - 1))))
 else
 some (.brk ())) loopLim 1000)
 (fun (_ : Unit) => some (0, 3)) (fun r => some r)
/-- loop.example/g01063/spec.LightThrough -/
def spec_LightThrough (lumens1 : Int) (losses1 : List Int) : Option (GFraction × Int) :=
 (spec_l00In lumens1 0 100000).bind fun r1 =>
 if r1 then
 (onL (loop (S := Int) (B := Unit) (R := (GFraction × Int)) (fun (i1 : Int) =>
 if i1 < (losses1.length : Int) then
 ((at? losses1 i1).bind fun v1 =>
 (spec_l00In v1 0 1000).bind fun r2 =>
 if r2 then
 (some (.next (w64 (i1 + 1))))
 else
 some (.ret ((GFraction.mk 0 0), 2)))
 else
 some (.brk ())) loopLim 0)
 (fun (_ : Unit) => if (losses1.length : Int) > 4 then
 (some ((GFraction.mk 0 0), 2))
 else
 onL (loop (S := (Int × Int × Int)) (B := (Int × Int)) (R := Empty) (fun ((num1, den1, i2) : Int × Int × Int) =>
 if i2 < (losses1.length : Int) then
 ((at? losses1 i2).bind fun v2 =>
 some (.next (w64 (num1 * (w64 (1000 - v2))), w64 (den1 * 1000), w64 (i2 + 1))))
 else
 some (.brk (num1, den1))) loopLim (lumens1, 1, 0))
 (fun ((num2, den2) : Int × Int) => (spec_l02Make num2 den2).bind fun r3 =>
 some (r3, 0)) Empty.elim) (fun r => some r))
 else
 some ((GFraction.mk 0 0), 2)
/-- loop.example/g01063/spec.ScreenArea -/
def spec_ScreenArea (wide1 : Int) (high1 : Int) : Option (Int × Int) :=
 (((spec_l12Side wide1).bind fun r1 =>
 if r1 then
 ((spec_l12Side high1).bind fun r2 =>
 some (!r2))
 else
 some true) : Option Bool).bind fun (x1 : Bool) =>
 if x1 then
 (some (0, 2))
 else
 some (w64 (wide1 * high1), 0)
/-- loop.example/g01063/laws.FnLight -/
def laws_FnLight (code1 : List Int) : Option Bool :=
 (laws_f6big code1).bind fun r1 =>
 if r1 then
 (some true)
 else
 (spec_DrawLightThrough code1).bind fun r2 =>
 (impl_LightThrough r2.1 r2.2).bind fun r3 =>
 (spec_LightThrough r2.1 r2.2).bind fun r4 =>
 (spec_DrawBrightnessAt code1).bind fun r5 =>
 (impl_BrightnessAt r5.1 r5.2.1 r5.2.2).bind fun r6 =>
 (spec_BrightnessAt r5.1 r5.2.1 r5.2.2).bind fun r7 =>
 (spec_DrawFarthestFor code1).bind fun r8 =>
 (impl_FarthestFor r8.1 r8.2.1 r8.2.2).bind fun r9 =>
 (spec_FarthestFor r8.1 r8.2.1 r8.2.2).bind fun r10 =>
 (spec_DrawBrightnessOf code1).bind fun r11 =>
 (impl_BrightnessOf r11.1 r11.2.1 r11.2.2).bind fun r12 =>
 (spec_BrightnessOf r11.1 r11.2.1 r11.2.2).bind fun r13 =>
 (spec_DrawCornerLight code1).bind fun r14 =>
 (impl_CornerLight r14.1 r14.2).bind fun r15 =>
 (spec_CornerLight r14.1 r14.2).bind fun r16 =>
 (spec_DrawScreenArea code1).bind fun r17 =>
 (impl_ScreenArea r17.1 r17.2).bind fun r18 =>
 (spec_ScreenArea r17.1 r17.2).bind fun r19 =>
 ((if r3.2 = r4.2 then
 (if (r3.1.Num == r4.1.Num && (r3.1.Den == r4.1.Den && true)) then
 (if r6.2 = r7.2 then
 (if (r6.1.Num == r7.1.Num && (r6.1.Den == r7.1.Den && true)) then
 (if r9.2 = r10.2 then
 (if r9.1 = r10.1 then
 (if r12.2 = r13.2 then
 (if (r12.1.Num == r13.1.Num && (r12.1.Den == r13.1.Den && true)) then
 (if r15.2 = r16.2 then
 (if (r15.1.Num == r16.1.Num && (r15.1.Den == r16.1.Den && true)) then
 (if r18.2 = r19.2 then
 (some (!(decide (r18.1 = r19.1))))
 else
 some true)
 else
 some true)
 else
 some true)
 else
 some true)
 else
 some true)
 else
 some true)
 else
 some true)
 else
 some true)
 else
 some true)
 else
 some true)
 else
 some true) : Option Bool).bind fun (x1 : Bool) =>
 if x1 then
 (some false)
 else
 ((if r3.2 = 0 then
 (if r4.1.Num > (w64 (r2.1 * r4.1.Den)) then
 (some true)
 else
 some (decide (r4.1.Num < 0)))
 else
 some false) : Option Bool).bind fun (x2 : Bool) =>
 if x2 then
 (some false)
 else
 ((if r15.2 = 0 then
 (if r16.1.Num > r16.1.Den then
 (some true)
 else
 some (decide (r16.1.Num < 1)))
 else
 some false) : Option Bool).bind fun (x3 : Bool) =>
 if x3 then
 (some false)
 else
 ((if r12.2 = 0 then
 (some (!(decide ((w64 ((w64 (r13.1.Num * r11.2.1)) * r11.2.2)) = (w64 (r11.1 * r13.1.Den))))))
 else
 some false) : Option Bool).bind fun (x4 : Bool) =>
 if x4 then
 (some false)
 else
 ((if r9.2 = 0 then
 (some (decide (r10.1 < 1000)))
 else
 some false) : Option Bool).bind fun (x5 : Bool) =>
 if x5 then
 ((impl_BrightnessAt r8.1 r8.2.1 (w64 (r10.1 + 1))).bind fun r20 =>
 ((if r20.2 = 0 then
 (if r20.1.Num < 0 then
 (some true)
 else
 if r20.1.Num > 1000000000000 then
 (some true)
 else
 if r20.1.Den < 1 then
 (some true)
 else
 if r20.1.Den > 1000000000000 then
 (some true)
 else
 some (decide (r8.2.2.Den > 100000)))
 else
 some true) : Option Bool).bind fun (x6 : Bool) =>
 if x6 then
 (some false)
 else
 (div? .i64 r20.1.Num r20.1.Den).bind fun q1 =>
 (div? .i64 r8.2.2.Num r8.2.2.Den).bind fun q2 =>
 if q1 > q2 then
 (some false)
 else
 some true)
 else
 some true
/-- loop.example/g01063/spec.l09Open -/
def spec_l09Open (b1 : GBlades) (part1 : Int) : Option Bool :=
 (div? .i64 1000 b1.Many).bind fun q1 =>
 (mod? part1 q1).bind fun q2 =>
 (div? .i64 b1.Open b1.Many).bind fun q3 =>
 some (decide (q2 < q3))
/-- loop.example/g01063/spec.l09Both -/
def spec_l09Both (a1 : GBlades) (b1 : GBlades) (by_1 : Int) : Option Int :=
 onL (loop (S := (Int × Int)) (B := Int) (R := Empty) (fun ((n1, part1) : Int × Int) =>
 if part1 < 1000 then
 ((((spec_l09Open a1 part1).bind fun r1 =>
 if r1 then
 ((spec_l09Open b1 (w64 (part1 + by_1))).bind fun r2 =>
 some r2)
 else
 some false) : Option Bool).bind fun (x1 : Bool) =>
 if x1 then
 (some (.next (w64 (n1 + 1), w64 (part1 + 1))))
 else
 some (.next (n1, w64 (part1 + 1))))
 else
 some (.brk n1)) loopLim (0, 0))
 (fun (n2 : Int) => some n2) Empty.elim
/-- loop.example/g01063/spec.l09Ok -/
def spec_l09Ok (b1 : GBlades) : Option Bool :=
 (spec_l00In b1.Many 1 12).bind fun r1 =>
 if r1 then
 ((spec_l00In b1.Open 1 999).bind fun r2 =>
 if r2 then
 ((mod? b1.Open b1.Many).bind fun q1 =>
 if q1 = 0 then
 ((mod? 1000 b1.Many).bind fun q2 =>
 some (decide (q2 = 0)))
 else
 some false)
 else
 some false)
 else
 some false
/-- loop.example/g01063/spec.BestOffset -/
def spec_BestOffset (a1 : GBlades) (b1 : GBlades) : Option (Int × Int × Int) :=
 (((spec_l09Ok a1).bind fun r1 =>
 if r1 then
 ((spec_l09Ok b1).bind fun r2 =>
 some (!r2))
 else
 some true) : Option Bool).bind fun (x1 : Bool) =>
 if x1 then
 (some (0, 0, 1))
 else
 onL (loop (S := (Int × Int × Int)) (B := (Int × Int)) (R := Empty) (fun ((best1, most1, by_1) : Int × Int × Int) =>
 if by_1 < 1000 then
 ((spec_l09Both a1 b1 by_1).bind fun r3 =>
 if r3 > most1 then
 (some (.next (by_1, r3, w64 (by_1 + 1))))
 else
 some (.next (best1, most1, w64 (by_1 + 1))))
 else
 some (.brk (best1, most1))) loopLim (0, (-1), 0))
 (fun ((best2, most2) : Int × Int) => some (best2, most2, 0)) Empty.elim
/-- loop.example/g01063/spec.l09Draw -/
def spec_l09Draw (s1 : GL00Src) : Option (GBlades × GL00Src) :=
 (spec_l00Src_among s1 [1, 2, 2, 4, 5, 8, 10]).bind fun r1 =>
 (div? .i64 1000 r1.1).bind fun q1 =>
 (spec_l00Src_pick r1.2 (w64 (q1 - 1))).bind fun r2 =>
 (spec_l00Src_pick r2.2 16).bind fun r3 =>
 if r3.1 = 0 then
 ((spec_l00Src_among r3.2 [(-1), 0, 3, 12, 13, (-9223372036854775808)]).bind fun r4 =>
 some ((GBlades.mk r4.1 (w64 (r1.1 * (w64 (1 + r2.1))))), r4.2))
 else
 if r3.1 = 1 then
 ((spec_l00Src_among r3.2 [(-1), 0, 1, 7, 999, 1000]).bind fun r5 =>
 some ((GBlades.mk r1.1 r5.1), r5.2))
 else
 some ((GBlades.mk r1.1 (w64 (r1.1 * (w64 (1 + r2.1))))), r3.2)
/-- loop.example/g01063/spec.DrawBestOffset -/
def spec_DrawBestOffset (code1 : List Int) : Option (GBlades × GBlades) :=
 (spec_l00From code1).bind fun r1 =>
 (spec_l09Draw r1).bind fun r2 =>
 (spec_l09Draw r2.2).bind fun r3 =>
 some (r2.1, r3.1)
/-- loop.example/g01063/laws.FnOffsets -/
def laws_FnOffsets (code1 : List Int) : Option Bool :=
 (laws_f6big code1).bind fun r1 =>
 if r1 then
 (some true)
 else
 (spec_DrawBestOffset code1).bind fun r2 =>
 (impl_BestOffset r2.1 r2.2).bind fun r3 =>
 (spec_BestOffset r2.1 r2.2).bind fun r4 =>
 ((if r3.2.2 = r4.2.2 then
 (if r3.1 = r4.1 then
 (some (!(decide (r3.2.1 = r4.2.1))))
 else
 some true)
 else
 some true) : Option Bool).bind fun (x1 : Bool) =>
 if x1 then
 (some false)
 else
 if r3.2.2 = 0 then
 ((impl_TwoWheels r2.1 r2.2 r4.1).bind fun r5 =>
 (impl_TwoWheels r2.1 r2.2 0).bind fun r6 =>
 if r5.2 = 0 then
 (if r5.1 = r4.2.1 then
 (if r6.2 = 0 then
 (some (decide (r6.1 ≤ r4.2.1)))
 else
 some false)
 else
 some false)
 else
 some false)
 else
 some true
/-- loop.example/g01063/laws.a2At -/
def laws_a2At (code1 : List Int) (at_1 : Int) (n1 : Int) : Option Int :=
 ((if at_1 ≥ (code1.length : Int) then
 (some true)
 else
 some (decide (n1 < 1))) : Option Bool).bind fun (x1 : Bool) =>
 if x1 then
 (some 0)
 else
 (at? code1 at_1).bind fun v1 =>
 (mod? (w64 (v1)) n1).bind fun q1 =>
 some q1
/-- loop.example/g01063/laws.a2Long -/
def laws_a2Long (code1 : List Int) (more1 : List Int) : Option Bool :=
 if (code1.length : Int) > 3000 then
 (some true)
 else
 some (decide ((more1.length : Int) > 3000))
/-- loop.example/g01063/spec.A2Fraction -/
def spec_A2Fraction (code1 : List Int) : Option GFraction :=
 (spec_l00From code1).bind fun r1 =>
 (spec_l02Draw r1).bind fun r2 =>
 some r2.1
/-- loop.example/g01063/laws.FnRates -/
def laws_FnRates (code1 : List Int) (more1 : List Int) : Option Bool :=
 (laws_a2Long code1 more1).bind fun r1 =>
 if r1 then
 (some true)
 else
 (spec_A2Fraction code1).bind fun r2 =>
 (spec_A2Fraction more1).bind fun r3 =>
 (laws_a2At more1 0 200).bind fun r4 =>
 (impl_WholeTurns r2 r4).bind fun r5 =>
 onS (S := Unit) (B := Empty) (R := Bool) (if r2.Num < 0 then
 (if r5.2 = 6 then
 (some (.next ()))
 else
 some (.ret false))
 else
 if r5.2 = 0 then
 (if r5.1 < 0 then
 (some (.ret false))
 else
 if r5.1 > 1000000 then
 (some (.ret false))
 else
 if (w64 (r5.1 * r2.Den)) > (w64 (r2.Num * r4)) then
 (some (.ret false))
 else
 if (w64 ((w64 (r5.1 + 1)) * r2.Den)) ≤ (w64 (r2.Num * r4)) then
 (some (.ret false))
 else
 some (.next ()))
 else
 some (.ret false))
 (fun (_ : Unit) => (laws_a2At more1 1 40).bind fun r6 =>
 (laws_a2At more1 2 40).bind fun r7 =>
 (impl_GearedRate r2 (w64 (8 + r6)) (w64 (8 + r7))).bind fun r8 =>
 (impl_GearedRate r8.1 (w64 (8 + r7)) (w64 (8 + r6))).bind fun r9 =>
 ((if r8.2 = 0 then
 (if (w64 ((w64 (r8.1.Num * r2.Den)) * (w64 (8 + r7)))) = (w64 ((w64 (r2.Num * (w64 (8 + r6)))) * r8.1.Den)) then
 (if r9.2 = 0 then
 (some (!(r9.1.Num == r2.Num && (r9.1.Den == r2.Den && true))))
 else
 some true)
 else
 some true)
 else
 some true) : Option Bool).bind fun (x1 : Bool) =>
 if x1 then
 (some false)
 else
 (impl_CommonTime r2 r3).bind fun r10 =>
 ((if r2.Num ≤ 0 then
 (some true)
 else
 some (decide (r3.Num ≤ 0))) : Option Bool).bind fun (x2 : Bool) =>
 if x2 then
 (some (decide (r10.2 = 6)))
 else
 ((if r10.2 = 0 then
 (if r10.1.Num < 1 then
 (some true)
 else
 if r10.1.Den < 1 then
 (some true)
 else
 if r10.1.Num > 1000000 then
 (some true)
 else
 if r10.1.Den > 1000000 then
 (some true)
 else
 (mod? (w64 (r2.Num * r10.1.Num)) (w64 (r2.Den * r10.1.Den))).bind fun q1 =>
 if q1 = 0 then
 ((mod? (w64 (r3.Num * r10.1.Num)) (w64 (r3.Den * r10.1.Den))).bind fun q2 =>
 some (!(decide (q2 = 0))))
 else
 some true)
 else
 some true) : Option Bool).bind fun (x3 : Bool) =>
 if x3 then
 (some false)
 else
 onL (loop (S := Int) (B := Unit) (R := Bool) (fun (k1 : Int) =>
 if k1 ≤ 60 then
 ((((mod? (w64 (r2.Num * r10.1.Num)) (w64 ((w64 (r2.Den * r10.1.Den)) * k1))).bind fun q3 =>
 if q3 = 0 then
 ((mod? (w64 (r3.Num * r10.1.Num)) (w64 ((w64 (r3.Den * r10.1.Den)) * k1))).bind fun q4 =>
 some (decide (q4 = 0)))
 else
 some false) : Option Bool).bind fun (x4 : Bool) =>
 if x4 then
 (some (.ret false))
 else
 some (.next (w64 (k1 + 1))))
 else
 some (.brk ())) loopLim 2)
 (fun (_ : Unit) => some true) (fun r => some r))
 Empty.elim (fun r => some r)
/-- loop.example/g01063/spec.l09DrawLeast -/
def spec_l09DrawLeast (s1 : GL00Src) : Option (Int × GL00Src) :=
 (spec_l00Src_one s1 10).bind fun r1 =>
 if r1.1 then
 ((spec_l00Src_among r1.2 [(-1), 0, 1, 200, 201, (-9223372036854775808)]).bind fun r2 =>
 some (r2.1, r2.2))
 else
 (spec_l00Src_pick r1.2 60).bind fun r3 =>
 some (w64 (5 + r3.1), r3.2)
/-- loop.example/g01063/spec.l09DrawRate -/
def spec_l09DrawRate (s1 : GL00Src) : Option (GFraction × GL00Src) :=
 (spec_l00Src_pick s1 12).bind fun r1 =>
 if r1.1 = 0 then
 ((spec_l02Bent r1.2).bind fun r2 =>
 some (r2.1, r2.2))
 else
 if r1.1 = 1 then
 ((spec_l00Src_among r1.2 [(-1), 1, 999, 1000, 1001]).bind fun r3 =>
 some ((GFraction.mk r3.1 1), r3.2))
 else
 if r1.1 = 2 then
 ((spec_l00Src_among r1.2 [1, 1000, 1001]).bind fun r4 =>
 some ((GFraction.mk 1 r4.1), r4.2))
 else
 (spec_l00Src_pick r1.2 90).bind fun r5 =>
 (spec_l00Src_pick r5.2 9).bind fun r6 =>
 (spec_l02Make (w64 (1 + r5.1)) (w64 (1 + r6.1))).bind fun r7 =>
 some (r7, r6.2)
/-- loop.example/g01063/spec.DrawFewestBlades -/
def spec_DrawFewestBlades (code1 : List Int) : Option (GFraction × Int) :=
 (spec_l00From code1).bind fun r1 =>
 (spec_l09DrawRate r1).bind fun r2 =>
 (spec_l09DrawLeast r2.2).bind fun r3 =>
 some (r2.1, r3.1)
/-- loop.example/g01063/spec.DrawIsSteady -/
def spec_DrawIsSteady (code1 : List Int) : Option (GBlades × GFraction × Int) :=
 (spec_l00From code1).bind fun r1 =>
 (spec_l09Draw r1).bind fun r2 =>
 (spec_l09DrawRate r2.2).bind fun r3 =>
 (spec_l09DrawLeast r3.2).bind fun r4 =>
 some (r2.1, r3.1, r4.1)
/-- loop.example/g01063/spec.l00Min -/
def spec_l00Min (a1 : Int) (b1 : Int) : Option Int :=
 if a1 < b1 then
 (some a1)
 else
 some b1
/-- loop.example/g01063/spec.l09Part -/
def spec_l09Part (s1 : GL00Src) : Option (Int × GL00Src) :=
 (spec_l00Src_one s1 10).bind fun r1 =>
 if r1.1 then
 ((spec_l00Src_among r1.2 [(-1), 0, 999, 1000, 1001]).bind fun r2 =>
 some (r2.1, r2.2))
 else
 (spec_l00Src_pick r1.2 1000).bind fun r3 =>
 some (r3.1, r3.2)
/-- loop.example/g01063/spec.DrawOpenParts -/
def spec_DrawOpenParts (code1 : List Int) : Option (GBlades × Int × Int) :=
 (spec_l00From code1).bind fun r1 =>
 (spec_l09Draw r1).bind fun r2 =>
 (spec_l09Part r2.2).bind fun r3 =>
 (spec_l00Src_one r3.2 8).bind fun r4 =>
 if r4.1 then
 ((spec_l09Part r4.2).bind fun r5 =>
 some (r2.1, r3.1, r5.1))
 else
 (spec_l00Src_pick r4.2 300).bind fun r6 =>
 (spec_l00Min 1000 (w64 (r3.1 + r6.1))).bind fun r7 =>
 some (r2.1, r3.1, r7)
/-- loop.example/g01063/spec.DrawSlowestSteady -/
def spec_DrawSlowestSteady (code1 : List Int) : Option (GBlades × Int) :=
 (spec_l00From code1).bind fun r1 =>
 (spec_l09Draw r1).bind fun r2 =>
 (spec_l09DrawLeast r2.2).bind fun r3 =>
 some (r2.1, r3.1)
/-- loop.example/g01063/spec.l09Least -/
def spec_l09Least (n1 : Int) : Option Bool :=
 (spec_l00In n1 1 200).bind fun r1 =>
 some r1
/-- loop.example/g01063/spec.l09Rate -/
def spec_l09Rate (f1 : GFraction) : Option Bool :=
 (spec_l02Ok f1).bind fun r1 =>
 if r1 then
 ((spec_l00In f1.Num 1 1000).bind fun r2 =>
 if r2 then
 (some (decide (f1.Den ≤ 1000)))
 else
 some false)
 else
 some false
/-- loop.example/g01063/spec.FewestBlades -/
def spec_FewestBlades (rate1 : GFraction) (least1 : Int) : Option (Int × Int) :=
 (spec_l02Ok rate1).bind fun r1 =>
 if r1 then
 ((((spec_l09Rate rate1).bind fun r2 =>
 if r2 then
 ((spec_l09Least least1).bind fun r3 =>
 some (!r3))
 else
 some true) : Option Bool).bind fun (x1 : Bool) =>
 if x1 then
 (some (0, 2))
 else
 onL (loop (S := Int) (B := Unit) (R := (Int × Int)) (fun (n1 : Int) =>
 if n1 ≤ 12 then
 ((((mod? 1000 n1).bind fun q1 =>
 if q1 = 0 then
 (some (decide ((w64 (rate1.Num * n1)) ≥ (w64 (least1 * rate1.Den)))))
 else
 some false) : Option Bool).bind fun (x2 : Bool) =>
 if x2 then
 (some (.ret (n1, 0)))
 else
 some (.next (w64 (n1 + 1))))
 else
 some (.brk ())) loopLim 1)
 (fun (_ : Unit) => some (0, 3)) (fun r => some r))
 else
 some (0, 1)
/-- loop.example/g01063/spec.l09Code -/
def spec_l09Code (b1 : GBlades) (rate1 : GFraction) : Option Int :=
 (((spec_l09Ok b1).bind fun r1 =>
 if r1 then
 ((spec_l02Ok rate1).bind fun r2 =>
 some (!r2))
 else
 some true) : Option Bool).bind fun (x1 : Bool) =>
 if x1 then
 (some 1)
 else
 (spec_l09Rate rate1).bind fun r3 =>
 if r3 then
 (some 0)
 else
 some 2
/-- loop.example/g01063/spec.FlickerRate -/
def spec_FlickerRate (b1 : GBlades) (rate1 : GFraction) : Option (GFraction × Int) :=
 (spec_l09Code b1 rate1).bind fun r1 =>
 if r1 = 0 then
 ((spec_l02Make (w64 (rate1.Num * b1.Many)) rate1.Den).bind fun r2 =>
 some (r2, 0))
 else
 some ((GFraction.mk 0 0), r1)
/-- loop.example/g01063/spec.IsSteady -/
def spec_IsSteady (b1 : GBlades) (rate1 : GFraction) (least1 : Int) : Option (Bool × Int) :=
 (spec_l09Code b1 rate1).bind fun r1 =>
 ((if r1 = 0 then
 ((spec_l09Least least1).bind fun r2 =>
 some (!r2))
 else
 some false) : Option Bool).bind fun (x1 : Bool) =>
 ((if x1 then
 (some 2)
 else
 some r1) : Option Int).bind fun (code1 : Int) =>
 if code1 = 0 then
 (some ((decide ((w64 (rate1.Num * b1.Many)) ≥ (w64 (least1 * rate1.Den)))), 0))
 else
 some (false, code1)
/-- loop.example/g01063/spec.OpenParts -/
def spec_OpenParts (b1 : GBlades) (from_1 : Int) (to_1 : Int) : Option (Int × Int) :=
 (spec_l09Ok b1).bind fun r1 =>
 if r1 then
 ((((spec_l00In from_1 0 1000).bind fun r2 =>
 if r2 then
 ((spec_l00In to_1 from_1 1000).bind fun r3 =>
 some (!r3))
 else
 some true) : Option Bool).bind fun (x1 : Bool) =>
 if x1 then
 (some (0, 2))
 else
 onL (loop (S := (Int × Int)) (B := Int) (R := Empty) (fun ((n1, part1) : Int × Int) =>
 if part1 < to_1 then
 ((spec_l09Open b1 part1).bind fun r4 =>
 if r4 then
 (some (.next (w64 (n1 + 1), w64 (part1 + 1))))
 else
 some (.next (n1, w64 (part1 + 1))))
 else
 some (.brk n1)) loopLim (0, from_1))
 (fun (n2 : Int) => some (n2, 0)) Empty.elim)
 else
 some (0, 1)
/-- loop.example/g01063/spec.SlowestSteady -/
def spec_SlowestSteady (b1 : GBlades) (least1 : Int) : Option (GFraction × Int) :=
 (spec_l09Ok b1).bind fun r1 =>
 if r1 then
 ((spec_l09Least least1).bind fun r2 =>
 if r2 then
 ((spec_l02Make least1 b1.Many).bind fun r3 =>
 some (r3, 0))
 else
 some ((GFraction.mk 0 0), 2))
 else
 some ((GFraction.mk 0 0), 1)
/-- loop.example/g01063/spec.ValidBlades -/
def spec_ValidBlades (b1 : GBlades) : Option Bool :=
 (spec_l09Ok b1).bind fun r1 =>
 some r1
/-- loop.example/g01063/laws.FnSteady -/
def laws_FnSteady (code1 : List Int) : Option Bool :=
 (laws_f6big code1).bind fun r1 =>
 if r1 then
 (some true)
 else
 (spec_DrawIsSteady code1).bind fun r2 =>
 (impl_IsSteady r2.1 r2.2.1 r2.2.2).bind fun r3 =>
 (spec_IsSteady r2.1 r2.2.1 r2.2.2).bind fun r4 =>
 (spec_DrawFewestBlades code1).bind fun r5 =>
 (impl_FewestBlades r5.1 r5.2).bind fun r6 =>
 (spec_FewestBlades r5.1 r5.2).bind fun r7 =>
 (spec_DrawSlowestSteady code1).bind fun r8 =>
 (impl_SlowestSteady r8.1 r8.2).bind fun r9 =>
 (spec_SlowestSteady r8.1 r8.2).bind fun r10 =>
 (spec_DrawOpenParts code1).bind fun r11 =>
 (impl_OpenParts r11.1 r11.2.1 r11.2.2).bind fun r12 =>
 (spec_OpenParts r11.1 r11.2.1 r11.2.2).bind fun r13 =>
 (impl_FlickerRate r2.1 r2.2.1).bind fun r14 =>
 (spec_FlickerRate r2.1 r2.2.1).bind fun r15 =>
 ((if r3.2 = r4.2 then
 (if (r3.1 == r4.1) then
 (if r6.2 = r7.2 then
 (if r6.1 = r7.1 then
 (if r9.2 = r10.2 then
 (if (r9.1.Num == r10.1.Num && (r9.1.Den == r10.1.Den && true)) then
 (if r12.2 = r13.2 then
 (if r12.1 = r13.1 then
 (if r14.2 = r15.2 then
 (if (r14.1.Num == r15.1.Num && (r14.1.Den == r15.1.Den && true)) then
 ((impl_ValidBlades r2.1).bind fun r16 =>
 (spec_ValidBlades r2.1).bind fun r17 =>
 some (!(r16 == r17)))
 else
 some true)
 else
 some true)
 else
 some true)
 else
 some true)
 else
 some true)
 else
 some true)
 else
 some true)
 else
 some true)
 else
 some true)
 else
 some true) : Option Bool).bind fun (x1 : Bool) =>
 if x1 then
 (some false)
 else
 ((if r3.2 = 0 then
 (some (!(r4.1 == (decide (r15.1.Num ≥ (w64 (r2.2.2 * r15.1.Den)))))))
 else
 some false) : Option Bool).bind fun (x2 : Bool) =>
 if x2 then
 (some false)
 else
 onS (S := Unit) (B := Empty) (R := Bool) (if r6.2 = 0 then
 ((impl_IsSteady (GBlades.mk r7.1 r7.1) r5.1 r5.2).bind fun r18 =>
 if r18.2 = 0 then
 (if r18.1 then
 (some (.next ()))
 else
 some (.ret false))
 else
 some (.ret false))
 else
 some (.next ()))
 (fun (_ : Unit) => ((if r9.2 = 0 then
 (if r8.2 ≤ 200 then
 (some (decide (r10.1.Num ≤ 1000)))
 else
 some false)
 else
 some false) : Option Bool).bind fun (x3 : Bool) =>
 onS (S := Unit) (B := Empty) (R := Bool) (if x3 then
 ((impl_IsSteady r8.1 r10.1 r8.2).bind fun r19 =>
 if r19.2 = 0 then
 (if r19.1 then
 (some (.next ()))
 else
 some (.ret false))
 else
 some (.ret false))
 else
 some (.next ()))
 (fun (_ : Unit) => if r12.2 = 0 then
 (onL (loop (S := (Int × Int)) (B := Int) (R := Bool) (fun ((count1, k1) : Int × Int) =>
 if k1 < r11.2.2 then
 ((impl_IsOpenAt r11.1 k1).bind fun r20 =>
 if r20.2 = 0 then
 (if r20.1 then
 (some (.next (w64 (count1 + 1), w64 (k1 + 1))))
 else
 some (.next (count1, w64 (k1 + 1))))
 else
 some (.ret false))
 else
 some (.brk count1)) loopLim (0, r11.2.1))
 (fun (count2 : Int) => some (decide (count2 = r13.1))) (fun r => some r))
 else
 some true)
 Empty.elim (fun r => some r))
 Empty.elim (fun r => some r)
/-- loop.example/g01063/spec.DrawIsOpenAt -/
def spec_DrawIsOpenAt (code1 : List Int) : Option (GBlades × Int) :=
 (spec_l00From code1).bind fun r1 =>
 (spec_l09Draw r1).bind fun r2 =>
 (spec_l09Part r2.2).bind fun r3 =>
 some (r2.1, r3.1)
/-- loop.example/g01063/spec.DrawLitShare -/
def spec_DrawLitShare (code1 : List Int) : Option GBlades :=
 (spec_l00From code1).bind fun r1 =>
 (spec_l09Draw r1).bind fun r2 =>
 some r2.1
/-- loop.example/g01063/spec.l09With -/
def spec_l09With (code1 : List Int) : Option (GBlades × GFraction) :=
 (spec_l00From code1).bind fun r1 =>
 (spec_l09Draw r1).bind fun r2 =>
 (spec_l09DrawRate r2.2).bind fun r3 =>
 some (r2.1, r3.1)
/-- loop.example/g01063/spec.DrawLongestDark -/
def spec_DrawLongestDark (code1 : List Int) : Option (GBlades × GFraction) :=
 (spec_l09With code1).bind fun r1 =>
 some (r1.1, r1.2)
/-- loop.example/g01063/spec.DrawTwoWheels -/
def spec_DrawTwoWheels (code1 : List Int) : Option (GBlades × GBlades × Int) :=
 (spec_l00From code1).bind fun r1 =>
 (spec_l09Draw r1).bind fun r2 =>
 (spec_l09Draw r2.2).bind fun r3 =>
 (spec_l09Part r3.2).bind fun r4 =>
 some (r2.1, r3.1, r4.1)
/-- loop.example/g01063/spec.IsOpenAt -/
def spec_IsOpenAt (b1 : GBlades) (part1 : Int) : Option (Bool × Int) :=
 (spec_l09Ok b1).bind fun r1 =>
 if r1 then
 ((spec_l00In part1 0 999).bind fun r2 =>
 if r2 then
 ((spec_l09Open b1 part1).bind fun r3 =>
 some (r3, 0))
 else
 some (false, 2))
 else
 some (false, 1)
/-- loop.example/g01063/spec.LitShare -/
def spec_LitShare (b1 : GBlades) : Option (GFraction × Int) :=
 (spec_l09Ok b1).bind fun r1 =>
 if r1 then
 ((spec_l02Make b1.Open 1000).bind fun r2 =>
 some (r2, 0))
 else
 some ((GFraction.mk 0 0), 1)
/-- loop.example/g01063/spec.LongestDark -/
def spec_LongestDark (b1 : GBlades) (rate1 : GFraction) : Option (GFraction × Int) :=
 (spec_l09Code b1 rate1).bind fun r1 =>
 if r1 = 0 then
 ((div? .i64 (w64 (1000 - b1.Open)) b1.Many).bind fun q1 =>
 (spec_l02Make (w64 (q1 * rate1.Den)) (w64 (1000 * rate1.Num))).bind fun r2 =>
 some (r2, 0))
 else
 some ((GFraction.mk 0 0), r1)
/-- loop.example/g01063/spec.TwoWheels -/
def spec_TwoWheels (a1 : GBlades) (b1 : GBlades) (by_1 : Int) : Option (Int × Int) :=
 (((spec_l09Ok a1).bind fun r1 =>
 if r1 then
 ((spec_l09Ok b1).bind fun r2 =>
 some (!r2))
 else
 some true) : Option Bool).bind fun (x1 : Bool) =>
 if x1 then
 (some (0, 1))
 else
 (spec_l00In by_1 0 999).bind fun r3 =>
 if r3 then
 ((spec_l09Both a1 b1 by_1).bind fun r4 =>
 some (r4, 0))
 else
 some (0, 2)
/-- loop.example/g01063/laws.FnWheelsOfLight -/
def laws_FnWheelsOfLight (code1 : List Int) : Option Bool :=
 (laws_f6big code1).bind fun r1 =>
 if r1 then
 (some true)
 else
 (spec_DrawTwoWheels code1).bind fun r2 =>
 (impl_TwoWheels r2.1 r2.2.1 r2.2.2).bind fun r3 =>
 (spec_TwoWheels r2.1 r2.2.1 r2.2.2).bind fun r4 =>
 (spec_DrawLitShare code1).bind fun r5 =>
 (impl_LitShare r5).bind fun r6 =>
 (spec_LitShare r5).bind fun r7 =>
 (spec_DrawLongestDark code1).bind fun r8 =>
 (impl_LongestDark r8.1 r8.2).bind fun r9 =>
 (spec_LongestDark r8.1 r8.2).bind fun r10 =>
 (spec_DrawIsOpenAt code1).bind fun r11 =>
 (impl_IsOpenAt r11.1 r11.2).bind fun r12 =>
 (spec_IsOpenAt r11.1 r11.2).bind fun r13 =>
 ((if r3.2 = r4.2 then
 (if r3.1 = r4.1 then
 (if r6.2 = r7.2 then
 (if (r6.1.Num == r7.1.Num && (r6.1.Den == r7.1.Den && true)) then
 (if r9.2 = r10.2 then
 (if (r9.1.Num == r10.1.Num && (r9.1.Den == r10.1.Den && true)) then
 (if r12.2 = r13.2 then
 (some (!(r12.1 == r13.1)))
 else
 some true)
 else
 some true)
 else
 some true)
 else
 some true)
 else
 some true)
 else
 some true)
 else
 some true) : Option Bool).bind fun (x1 : Bool) =>
 if x1 then
 (some false)
 else
 onS (S := Unit) (B := Empty) (R := Bool) (if r6.2 = 0 then
 ((impl_OpenParts r5 0 1000).bind fun r14 =>
 if r14.2 = 0 then
 (if r14.1 = r5.Open then
 (if (w64 (r7.1.Num * 1000)) = (w64 (r14.1 * r7.1.Den)) then
 (some (.next ()))
 else
 some (.ret false))
 else
 some (.ret false))
 else
 some (.ret false))
 else
 some (.next ()))
 (fun (_ : Unit) => ((if r9.2 = 0 then
 (some (decide (r10.1.Num < 0)))
 else
 some false) : Option Bool).bind fun (x2 : Bool) =>
 if x2 then
 (some false)
 else
 if r3.2 = 0 then
 (if r4.1 ≥ 0 then
 (if r4.1 ≤ (imin r2.1.Open r2.2.1.Open) then
 (some (decide (r4.1 ≥ (w64 ((w64 (r2.1.Open + r2.2.1.Open)) - 1000)))))
 else
 some false)
 else
 some false)
 else
 some true)
 Empty.elim (fun r => some r)
end Go.Vs.G
