/- The functions that the law reaches, as typed Lean functions, printed by program. No conditions. -/
import Derived.Test.YtiefnapeghkjnaaV5
set_option maxRecDepth 100000
open Go Go.Vs
namespace Go.Vs.G
structure GFraction where
  Num : Int
  Den : Int
  deriving DecidableEq, Inhabited
structure GL00Src where
  code : List Int
  at_ : Int
  seed : Int
  deriving DecidableEq, Inhabited
structure GLensHall where
  Throw : Int
  Least : Int
  Widest : Int
  deriving DecidableEq, Inhabited
def GLensHall.enc (x : GLensHall) : Tree := .agg [.int .i64 x.Throw, .int .i64 x.Least, .int .i64 x.Widest]
def GFraction.ok (x : GFraction) : Prop := (okI .i64) x.Num ∧ (okI .i64) x.Den
def GL00Src.ok (x : GL00Src) : Prop := (okL (okI .u8)) x.code ∧ (okI .i64) x.at_ ∧ (okI .u64) x.seed
def GLensHall.ok (x : GLensHall) : Prop := (okI .i64) x.Throw ∧ (okI .i64) x.Least ∧ (okI .i64) x.Widest
/-- loop.example/g01063/impl.within -/
def impl_within (n1 : Int) (low1 : Int) (high1 : Int) : Option Bool :=
 if n1 ≥ low1 then
 (some (decide (n1 ≤ high1)))
 else
 some false
/-- loop.example/g01063/impl.isThrow -/
def impl_isThrow (n1 : Int) : Option Bool :=
 (impl_within n1 1 100000).bind fun r1 =>
 some r1
/-- loop.example/g01063/impl.validHall -/
def impl_validHall (h1 : GLensHall) : Option Bool :=
 (impl_isThrow h1.Throw).bind fun r1 =>
 if r1 then
 (if 1 ≤ h1.Least then
 (if h1.Least ≤ h1.Widest then
 (some (decide (h1.Widest ≤ 100000)))
 else
 some false)
 else
 some false)
 else
 some false
/-- loop.example/g01063/impl.ValidLensHalls$1 -/
def impl_ValidLensHalls_1 (h1 : GLensHall) : Option Bool :=
 (impl_validHall h1).bind fun r1 =>
 some (!r1)
/-- slices.IndexFunc[[]loop.example/g01063/impl.LensHall,loop.example/g01063/impl.LensHall] -/
def slices_IndexFunc_impl_LensHall_impl_LensHall_824 (s1 : List GLensHall) (f1 : GLensHall → Option Bool) : Option Int :=
 onL (loop (S := Int) (B := Unit) (R := Int) (fun (x1 : Int) =>
 if x1 < (s1.length : Int) then
 ((at? s1 x1).bind fun v1 =>
 (f1 v1).bind fun r1 =>
 if r1 then
 (some (.ret x1))
 else
 some (.next (w64 (x1 + 1))))
 else
 some (.brk ())) loopLim 0)
 (fun (_ : Unit) => some (-1)) (fun r => some r)
/-- slices.ContainsFunc[[]loop.example/g01063/impl.LensHall,loop.example/g01063/impl.LensHall] -/
def slices_ContainsFunc_impl_LensHall_impl_LensHall_802 (s1 : List GLensHall) (f1 : GLensHall → Option Bool) : Option Bool :=
 (slices_IndexFunc_impl_LensHall_impl_LensHall_824 s1 f1).bind fun r1 =>
 some (decide (r1 ≥ 0))
/-- loop.example/g01063/impl.ValidLensHalls -/
def impl_ValidLensHalls (list1 : List GLensHall) : Option Bool :=
 if (list1.length : Int) ≤ 8 then
 ((slices_ContainsFunc_impl_LensHall_impl_LensHall_802 list1 (fun a0 => impl_ValidLensHalls_1 a0)).bind fun r1 =>
 some (!r1))
 else
 some false
/-- loop.example/g01063/impl.isFocal -/
def impl_isFocal (n1 : Int) : Option Bool :=
 (impl_within n1 1 2000).bind fun r1 =>
 some r1
/-- loop.example/g01063/impl.lensesOk$1 -/
def impl_lensesOk_1 (f1 : Int) : Option Bool :=
 (impl_isFocal f1).bind fun r1 =>
 some (!r1)
/-- slices.IndexFunc[[]int64,int64] -/
def slices_IndexFunc_int64_int64_818 (s1 : List Int) (f1 : Int → Option Bool) : Option Int :=
 onL (loop (S := Int) (B := Unit) (R := Int) (fun (x1 : Int) =>
 if x1 < (s1.length : Int) then
 ((at? s1 x1).bind fun v1 =>
 (f1 v1).bind fun r1 =>
 if r1 then
 (some (.ret x1))
 else
 some (.next (w64 (x1 + 1))))
 else
 some (.brk ())) loopLim 0)
 (fun (_ : Unit) => some (-1)) (fun r => some r)
/-- slices.ContainsFunc[[]int64,int64] -/
def slices_ContainsFunc_int64_int64_796 (s1 : List Int) (f1 : Int → Option Bool) : Option Bool :=
 (slices_IndexFunc_int64_int64_818 s1 f1).bind fun r1 =>
 some (decide (r1 ≥ 0))
/-- loop.example/g01063/impl.lensesOk -/
def impl_lensesOk (list1 : List Int) (most1 : Int) : Option Bool :=
 if (list1.length : Int) ≤ most1 then
 ((slices_ContainsFunc_int64_int64_796 list1 (fun a0 => impl_lensesOk_1 a0)).bind fun r1 =>
 some (!r1))
 else
 some false
/-- loop.example/g01063/impl.hallsCode -/
def impl_hallsCode (valid1 : Bool) (slide1 : Int) (focal1 : Int) (stock1 : List Int) : Option Int :=
 if valid1 then
 ((((impl_within slide1 1 200).bind fun r1 =>
 if r1 then
 ((impl_isFocal focal1).bind fun r2 =>
 if r2 then
 ((impl_lensesOk stock1 12).bind fun r3 =>
 some (!r3))
 else
 some true)
 else
 some true) : Option Bool).bind fun (x1 : Bool) =>
 if x1 then
 (some 2)
 else
 some 0)
 else
 some 1
/-- loop.example/g01063/impl.suits -/
def impl_suits (h1 : GLensHall) (slide1 : Int) (focal1 : Int) : Option Bool :=
 if (w64 (slide1 * (w64 (h1.Throw - focal1)))) ≥ (w64 (h1.Least * focal1)) then
 (some (decide ((w64 (slide1 * (w64 (h1.Throw - focal1)))) ≤ (w64 (h1.Widest * focal1)))))
 else
 some false
/-- loop.example/g01063/impl.anySuits$1 -/
def impl_anySuits_1 (f1 : Int) (x1 : GLensHall) (x2 : Int) : Option Bool :=
 (impl_suits x1 x2 f1).bind fun r1 =>
 some r1
/-- loop.example/g01063/impl.anySuits -/
def impl_anySuits (h1 : GLensHall) (slide1 : Int) (stock1 : List Int) : Option Bool :=
 (slices_ContainsFunc_int64_int64_796 stock1 (fun a0 => impl_anySuits_1 a0 h1 slide1)).bind fun r1 =>
 some r1
/-- loop.example/g01063/impl.hallsLeft -/
def impl_hallsLeft (list1 : List GLensHall) (slide1 : Int) (stock1 : List Int) : Option (List Int) :=
 onL (loop (S := ((List Int) × Int)) (B := (List Int)) (R := Empty) (fun ((out1, x1) : (List Int) × Int) =>
 if x1 < (list1.length : Int) then
 ((at? list1 x1).bind fun v1 =>
 (impl_anySuits v1 slide1 stock1).bind fun r1 =>
 if r1 then
 (some (.next (out1, w64 (x1 + 1))))
 else
 (app? out1 ([x1] : List Int)).bind fun l1 =>
 some (.next (l1, w64 (x1 + 1))))
 else
 some (.brk out1)) loopLim ([], 0))
 (fun (out2 : List Int) => some out2) Empty.elim
/-- loop.example/g01063/impl.BestLensMore -/
def impl_BestLensMore (list1 : List GLensHall) (slide1 : Int) (stock1 : List Int) : Option (Int × Int × Int) :=
 (impl_ValidLensHalls list1).bind fun r1 =>
 (impl_hallsCode r1 slide1 1 stock1).bind fun r2 =>
 if r2 = 0 then
 ((impl_hallsLeft list1 slide1 stock1).bind fun r3 =>
 onL (loop (S := (Int × Int × Int)) (B := (Int × Int)) (R := Empty) (fun ((best1, most1, f1) : Int × Int × Int) =>
 if f1 ≤ 2000 then
 (onL (loop (S := (Int × Int)) (B := Int) (R := Empty) (fun ((count1, x1) : Int × Int) =>
 if x1 < (r3.length : Int) then
 ((at? r3 x1).bind fun v1 =>
 (at? list1 v1).bind fun v2 =>
 (impl_suits v2 slide1 f1).bind fun r4 =>
 if r4 then
 (some (.next (w64 (count1 + 1), w64 (x1 + 1))))
 else
 some (.next (count1, w64 (x1 + 1))))
 else
 some (.brk count1)) loopLim (0, 0))
 (fun (count2 : Int) => if count2 > most1 then
 (some (.next (f1, count2, w64 (f1 + 1))))
 else
 some (.next (best1, most1, w64 (f1 + 1)))) Empty.elim)
 else
 some (.brk (best1, most1))) loopLim (0, 0, 1))
 (fun ((best2, most2) : Int × Int) => if most2 = 0 then
 (some (0, 0, 3))
 else
 some (best2, most2, 0)) Empty.elim)
 else
 some (0, 0, r2)
/-- loop.example/g01063/impl.FewestLenses$1 -/
def impl_FewestLenses_1 (h1 : GLensHall) (x1 : Int) (x2 : List Int) : Option Bool :=
 (impl_anySuits h1 x1 x2).bind fun r1 =>
 some (!r1)
/-- loop.example/g01063/impl.indicesOf -/
def impl_indicesOf (set1 : Int) : Option (List Int) :=
 onL (loop (S := ((List Int) × Int)) (B := (List Int)) (R := Empty) (fun ((out1, i1) : (List Int) × Int) =>
 (shr? .i64 set1 (IntKind.wrap .u64 (i1))).bind fun q1 =>
 if q1 > 0 then
 ((shr? .i64 set1 (IntKind.wrap .u64 (i1))).bind fun q2 =>
 if (bit_and .i64 q2 1) = 1 then
 ((app? out1 ([i1] : List Int)).bind fun l1 =>
 some (.next (l1, w64 (i1 + 1))))
 else
 some (.next (out1, w64 (i1 + 1))))
 else
 some (.brk out1)) loopLim ([], 0))
 (fun (out2 : List Int) => some out2) Empty.elim
/-- cmp.isNaN[int64] -/
def cmp_isNaN_int64_31 (x1 : Int) : Option Bool :=
 some (!(decide (x1 = x1)))
/-- cmp.Compare[int64] -/
def cmp_Compare_int64_27 (x1 : Int) (y1 : Int) : Option Int :=
 (cmp_isNaN_int64_31 x1).bind fun r1 =>
 (cmp_isNaN_int64_31 y1).bind fun r2 =>
 if r1 then
 (if r2 then
 (some 0)
 else
 some (-1))
 else
 if r2 then
 (some 1)
 else
 if x1 < y1 then
 (some (-1))
 else
 if x1 > y1 then
 (some 1)
 else
 some 0
/-- slices.Compare[[]int64,int64] -/
def slices_Compare_int64_int64_792 (s1 : List Int) (s2 : List Int) : Option Int :=
 onL (loop (S := Int) (B := Unit) (R := Int) (fun (x1 : Int) =>
 if x1 < (s1.length : Int) then
 ((at? s1 x1).bind fun v1 =>
 if x1 ≥ (s2.length : Int) then
 (some (.ret 1))
 else
 (at? s2 x1).bind fun v2 =>
 (cmp_Compare_int64_27 v1 v2).bind fun r1 =>
 if r1 = 0 then
 (some (.next (w64 (x1 + 1))))
 else
 some (.ret r1))
 else
 some (.brk ())) loopLim 0)
 (fun (_ : Unit) => if (s1.length : Int) < (s2.length : Int) then
 (some (-1))
 else
 some 0) (fun r => some r)
/-- loop.example/g01063/impl.FewestLenses -/
def impl_FewestLenses (list1 : List GLensHall) (slide1 : Int) (stock1 : List Int) : Option ((List Int) × Int) :=
 (impl_ValidLensHalls list1).bind fun r1 =>
 (impl_hallsCode r1 slide1 1 stock1).bind fun r2 =>
 if r2 = 0 then
 ((shl? .i64 1 (IntKind.wrap .u64 ((stock1.length : Int)))).bind fun q1 =>
 onL (loop (S := ((List Int) × Bool × Int)) (B := ((List Int) × Bool)) (R := Empty) (fun ((best1, found1, x1) : (List Int) × Bool × Int) =>
 if x1 < q1 then
 ((impl_indicesOf x1).bind fun r3 =>
 onL (loop (S := ((List Int) × Int)) (B := (List Int)) (R := Empty) (fun ((lenses1, x2) : (List Int) × Int) =>
 if x2 < (r3.length : Int) then
 ((at? r3 x2).bind fun v1 =>
 (at? stock1 v1).bind fun v2 =>
 (app? lenses1 ([v2] : List Int)).bind fun l1 =>
 some (.next (l1, w64 (x2 + 1))))
 else
 some (.brk lenses1)) loopLim ([], 0))
 (fun (lenses2 : List Int) => (slices_ContainsFunc_impl_LensHall_impl_LensHall_802 list1 (fun a0 => impl_FewestLenses_1 a0 slide1 lenses2)).bind fun r4 =>
 if r4 then
 (some (.next (best1, found1, w64 (x1 + 1))))
 else
 ((if found1 then
 (if (r3.length : Int) < (best1.length : Int) then
 (some true)
 else
 if (r3.length : Int) = (best1.length : Int) then
 ((slices_Compare_int64_int64_792 r3 best1).bind fun r5 =>
 some (decide (r5 < 0)))
 else
 some false)
 else
 some true) : Option Bool).bind fun (x3 : Bool) =>
 if x3 then
 (some (.next (r3, true, w64 (x1 + 1))))
 else
 some (.next (best1, found1, w64 (x1 + 1)))) Empty.elim)
 else
 some (.brk (best1, found1))) loopLim ([], false, 0))
 (fun ((best2, found2) : (List Int) × Bool) => if found2 then
 (some (best2, 0))
 else
 some ([], 3)) Empty.elim)
 else
 some ([], r2)
/-- loop.example/g01063/impl.HallsLeft -/
def impl_HallsLeft (list1 : List GLensHall) (slide1 : Int) (stock1 : List Int) : Option ((List Int) × Int) :=
 (impl_ValidLensHalls list1).bind fun r1 =>
 (impl_hallsCode r1 slide1 1 stock1).bind fun r2 =>
 if r2 = 0 then
 ((impl_hallsLeft list1 slide1 stock1).bind fun r3 =>
 some (r3, 0))
 else
 some ([], r2)
/-- loop.example/g01063/laws.f6big -/
def laws_f6big (code1 : List Int) : Option Bool :=
 some (decide ((code1.length : Int) > 4096))
/-- loop.example/g01063/laws.f6has -/
def laws_f6has (list1 : List Int) (n1 : Int) : Option Bool :=
 onL (loop (S := Int) (B := Unit) (R := Bool) (fun (i1 : Int) =>
 if i1 < (list1.length : Int) then
 ((at? list1 i1).bind fun v1 =>
 if v1 = n1 then
 (some (.ret true))
 else
 some (.next (w64 (i1 + 1))))
 else
 some (.brk ())) loopLim 0)
 (fun (_ : Unit) => some false) (fun r => some r)
/-- loop.example/g01063/laws.f6ints -/
def laws_f6ints (a1 : List Int) (b1 : List Int) : Option Bool :=
 if (a1.length : Int) = (b1.length : Int) then
 (onL (loop (S := Int) (B := Unit) (R := Bool) (fun (i1 : Int) =>
 if i1 < (a1.length : Int) then
 ((at? a1 i1).bind fun v1 =>
 (at? b1 i1).bind fun v2 =>
 if v1 = v2 then
 (some (.next (w64 (i1 + 1))))
 else
 some (.ret false))
 else
 some (.brk ())) loopLim 0)
 (fun (_ : Unit) => some true) (fun r => some r))
 else
 some false
/-- loop.example/g01063/spec.l00In -/
def spec_l00In (n1 : Int) (low1 : Int) (high1 : Int) : Option Bool :=
 if n1 ≥ low1 then
 (some (decide (n1 ≤ high1)))
 else
 some false
/-- loop.example/g01063/spec.l11One -/
def spec_l11One (h1 : GLensHall) : Option Bool :=
 (spec_l00In h1.Throw 1 100000).bind fun r1 =>
 if r1 then
 ((spec_l00In h1.Least 1 100000).bind fun r2 =>
 if r2 then
 ((spec_l00In h1.Widest h1.Least 100000).bind fun r3 =>
 some r3)
 else
 some false)
 else
 some false
/-- loop.example/g01063/spec.l11Ok -/
def spec_l11Ok (list1 : List GLensHall) : Option Bool :=
 onL (loop (S := Int) (B := Unit) (R := Bool) (fun (i1 : Int) =>
 if i1 < (list1.length : Int) then
 ((at? list1 i1).bind fun v1 =>
 (spec_l11One v1).bind fun r1 =>
 if r1 then
 (some (.next (w64 (i1 + 1))))
 else
 some (.ret false))
 else
 some (.brk ())) loopLim 0)
 (fun (_ : Unit) => some (decide ((list1.length : Int) ≤ 8))) (fun r => some r)
/-- loop.example/g01063/spec.l11Slide -/
def spec_l11Slide (n1 : Int) : Option Bool :=
 (spec_l00In n1 1 200).bind fun r1 =>
 some r1
/-- loop.example/g01063/spec.l11Focal -/
def spec_l11Focal (n1 : Int) : Option Bool :=
 (spec_l00In n1 1 2000).bind fun r1 =>
 some r1
/-- loop.example/g01063/spec.l11Stock -/
def spec_l11Stock (stock1 : List Int) : Option Bool :=
 onL (loop (S := Int) (B := Unit) (R := Bool) (fun (i1 : Int) =>
 if i1 < (stock1.length : Int) then
 ((at? stock1 i1).bind fun v1 =>
 (spec_l11Focal v1).bind fun r1 =>
 if r1 then
 (some (.next (w64 (i1 + 1))))
 else
 some (.ret false))
 else
 some (.brk ())) loopLim 0)
 (fun (_ : Unit) => some (decide ((stock1.length : Int) ≤ 12))) (fun r => some r)
/-- loop.example/g01063/spec.l11Code -/
def spec_l11Code (list1 : List GLensHall) (slide1 : Int) (stock1 : List Int) : Option Int :=
 (spec_l11Ok list1).bind fun r1 =>
 if r1 then
 ((((spec_l11Slide slide1).bind fun r2 =>
 if r2 then
 ((spec_l11Stock stock1).bind fun r3 =>
 some (!r3))
 else
 some true) : Option Bool).bind fun (x1 : Bool) =>
 if x1 then
 (some 2)
 else
 some 0)
 else
 some 1
/-- loop.example/g01063/spec.l11Suits -/
def spec_l11Suits (h1 : GLensHall) (slide1 : Int) (focal1 : Int) : Option Bool :=
 if (w64 (slide1 * (w64 (h1.Throw - focal1)))) ≥ (w64 (h1.Least * focal1)) then
 (some (decide ((w64 (slide1 * (w64 (h1.Throw - focal1)))) ≤ (w64 (h1.Widest * focal1)))))
 else
 some false
/-- loop.example/g01063/spec.l11Left -/
def spec_l11Left (list1 : List GLensHall) (slide1 : Int) (stock1 : List Int) (bits1 : Int) : Option (List Int) :=
 onL (loop (S := ((List Int) × Int)) (B := (List Int)) (R := Empty) (fun ((out1, i1) : (List Int) × Int) =>
 if i1 < (list1.length : Int) then
 (onL (loop (S := (Bool × Int)) (B := Bool) (R := Empty) (fun ((found1, k1) : Bool × Int) =>
 if k1 < (stock1.length : Int) then
 (if found1 then
 (some (.next (true, w64 (k1 + 1))))
 else
 (shr? .i64 bits1 (IntKind.wrap .u64 (k1))).bind fun q1 =>
 if (bit_and .i64 q1 1) = 1 then
 ((at? list1 i1).bind fun v1 =>
 (at? stock1 k1).bind fun v2 =>
 (spec_l11Suits v1 slide1 v2).bind fun r1 =>
 some (.next (r1, w64 (k1 + 1))))
 else
 some (.next (false, w64 (k1 + 1))))
 else
 some (.brk found1)) loopLim (false, 0))
 (fun (found2 : Bool) => if found2 then
 (some (.next (out1, w64 (i1 + 1))))
 else
 (app? out1 ([i1] : List Int)).bind fun l1 =>
 some (.next (l1, w64 (i1 + 1)))) Empty.elim)
 else
 some (.brk out1)) loopLim ([], 0))
 (fun (out2 : List Int) => some out2) Empty.elim
/-- loop.example/g01063/spec.BestLensMore -/
def spec_BestLensMore (list1 : List GLensHall) (slide1 : Int) (stock1 : List Int) : Option (Int × Int × Int) :=
 (spec_l11Code list1 slide1 stock1).bind fun r1 =>
 if r1 = 0 then
 ((shl? .i64 1 (IntKind.wrap .u64 ((stock1.length : Int)))).bind fun q1 =>
 (spec_l11Left list1 slide1 stock1 (w64 (q1 - 1))).bind fun r2 =>
 onL (loop (S := (Int × Int × Int)) (B := (Int × Int)) (R := Empty) (fun ((best1, most1, focal1) : Int × Int × Int) =>
 if focal1 ≤ 2000 then
 (onL (loop (S := (Int × Int)) (B := Int) (R := Empty) (fun ((n1, i1) : Int × Int) =>
 if i1 < (r2.length : Int) then
 ((at? r2 i1).bind fun v1 =>
 (at? list1 v1).bind fun v2 =>
 (spec_l11Suits v2 slide1 focal1).bind fun r3 =>
 if r3 then
 (some (.next (w64 (n1 + 1), w64 (i1 + 1))))
 else
 some (.next (n1, w64 (i1 + 1))))
 else
 some (.brk n1)) loopLim (0, 0))
 (fun (n2 : Int) => if n2 > most1 then
 (some (.next (focal1, n2, w64 (focal1 + 1))))
 else
 some (.next (best1, most1, w64 (focal1 + 1)))) Empty.elim)
 else
 some (.brk (best1, most1))) loopLim (0, 0, 1))
 (fun ((best2, most2) : Int × Int) => if most2 = 0 then
 (some (0, 0, 3))
 else
 some (best2, most2, 0)) Empty.elim)
 else
 some (0, 0, r1)
/-- loop.example/g01063/spec.l00From -/
def spec_l00From (code1 : List Int) : Option GL00Src :=
 some (GL00Src.mk code1 0 0)
/-- (*loop.example/g01063/spec.l00Src).next -/
def spec_l00Src_next (s1 : GL00Src) : Option (Int × GL00Src) :=
 ((if s1.at_ < (s1.code.length : Int) then
 ((at? s1.code s1.at_).bind fun v1 =>
 some (w64 (v1)))
 else
 some 0) : Option Int).bind fun (b1 : Int) =>
 if (w64 (s1.at_ + 1)) ≤ (s1.code.length : Int) then
 (some (b1, (GL00Src.mk s1.code (w64 (s1.at_ + 1)) (IntKind.wrap .u64 ((IntKind.wrap .u64 ((IntKind.wrap .u64 (s1.seed * 6364136223846793005)) + (IntKind.wrap .u64 (b1)))) + 1442695040888963407)))))
 else
 (shr? .u64 (IntKind.wrap .u64 ((IntKind.wrap .u64 ((IntKind.wrap .u64 (s1.seed * 6364136223846793005)) + (IntKind.wrap .u64 (b1)))) + 1442695040888963407)) 40).bind fun q1 =>
 some (w64 (bit_and .u64 q1 255), (GL00Src.mk s1.code (w64 (s1.at_ + 1)) (IntKind.wrap .u64 ((IntKind.wrap .u64 ((IntKind.wrap .u64 (s1.seed * 6364136223846793005)) + (IntKind.wrap .u64 (b1)))) + 1442695040888963407))))
/-- (*loop.example/g01063/spec.l00Src).pick -/
def spec_l00Src_pick (s1 : GL00Src) (n1 : Int) : Option (Int × GL00Src) :=
 if n1 ≤ 1 then
 (some (0, s1))
 else
 (spec_l00Src_next s1).bind fun r1 =>
 if n1 > 200 then
 ((spec_l00Src_next r1.2).bind fun r2 =>
 (mod? (w64 ((w64 (r1.1 * 256)) + r2.1)) n1).bind fun q1 =>
 some (q1, r2.2))
 else
 (mod? r1.1 n1).bind fun q2 =>
 some (q2, r1.2)
/-- (*loop.example/g01063/spec.l00Src).one -/
def spec_l00Src_one (s1 : GL00Src) (n1 : Int) : Option (Bool × GL00Src) :=
 (spec_l00Src_pick s1 n1).bind fun r1 =>
 some ((decide (r1.1 = 0)), r1.2)
/-- loop.example/g01063/spec.l11New -/
def spec_l11New (s1 : GL00Src) : Option (GLensHall × GL00Src) :=
 (spec_l00Src_pick s1 20).bind fun r1 =>
 (spec_l00Src_pick r1.2 20).bind fun r2 =>
 (spec_l00Src_pick r2.2 20).bind fun r3 =>
 some ((GLensHall.mk (w64 (3000 + (w64 (500 * r1.1)))) (w64 (800 + (w64 (100 * r2.1)))) (w64 ((w64 (800 + (w64 (100 * r2.1)))) + (w64 (100 * r3.1))))), r3.2)
/-- (*loop.example/g01063/spec.l00Src).among -/
def spec_l00Src_among (s1 : GL00Src) (list1 : List Int) : Option (Int × GL00Src) :=
 (spec_l00Src_pick s1 (list1.length : Int)).bind fun r1 =>
 (at? list1 r1.1).bind fun v1 =>
 some (v1, r1.2)
/-- loop.example/g01063/spec.l11Spoil -/
def spec_l11Spoil (s1 : GL00Src) (h1 : GLensHall) : Option (GL00Src × GLensHall) :=
 (spec_l00Src_pick s1 3).bind fun r1 =>
 if r1.1 = 0 then
 ((spec_l00Src_among r1.2 [(-1), 0, 1, 100000, 100001, (-9223372036854775808)]).bind fun r2 =>
 some (r2.2, (GLensHall.mk r2.1 h1.Least h1.Widest)))
 else
 if r1.1 = 1 then
 ((spec_l00Src_among r1.2 [(-1), 0, 1, h1.Widest, w64 (h1.Widest + 1)]).bind fun r3 =>
 some (r3.2, (GLensHall.mk h1.Throw r3.1 h1.Widest)))
 else
 if r1.1 = 2 then
 ((spec_l00Src_among r1.2 [(-1), 0, h1.Least, 100000, 100001]).bind fun r4 =>
 some (r4.2, (GLensHall.mk h1.Throw h1.Least r4.1)))
 else
 some (r1.2, h1)
/-- loop.example/g01063/spec.l11Draw -/
def spec_l11Draw (s1 : GL00Src) : Option ((List GLensHall) × GL00Src) :=
 (spec_l00Src_pick s1 6).bind fun r1 =>
 (spec_l00Src_one r1.2 20).bind fun r2 =>
 ((if r2.1 then
 ((spec_l00Src_pick r2.2 2).bind fun r3 =>
 some (r3.2, w64 (8 + r3.1)))
 else
 some (r2.2, r1.1)) : Option (GL00Src × Int)).bind fun ((s2, n1) : GL00Src × Int) =>
 onL (loop (S := (GL00Src × (List GLensHall) × Int)) (B := (GL00Src × (List GLensHall))) (R := Empty) (fun ((s3, out1, k1) : GL00Src × (List GLensHall) × Int) =>
 if k1 > 0 then
 ((spec_l11New s3).bind fun r4 =>
 (app? out1 ([r4.1] : List GLensHall)).bind fun l1 =>
 some (.next (r4.2, l1, w64 (k1 - 1))))
 else
 some (.brk (s3, out1))) loopLim (s2, [], n1))
 (fun ((s4, out2) : GL00Src × (List GLensHall)) => ((if n1 > 0 then
 ((spec_l00Src_one s4 10).bind fun r5 =>
 some (r5.2, r5.1))
 else
 some (s4, false)) : Option (GL00Src × Bool)).bind fun ((s5, x1) : GL00Src × Bool) =>
 if x1 then
 ((at? out2 0).bind fun v1 =>
 (spec_l11Spoil s5 v1).bind fun r6 =>
 some (out2.set 0 r6.2, r6.1))
 else
 some (out2, s5)) Empty.elim
/-- loop.example/g01063/spec.l11DrawSlide -/
def spec_l11DrawSlide (s1 : GL00Src) : Option (Int × GL00Src) :=
 (spec_l00Src_one s1 10).bind fun r1 =>
 if r1.1 then
 ((spec_l00Src_among r1.2 [(-1), 0, 1, 200, 201]).bind fun r2 =>
 some (r2.1, r2.2))
 else
 (spec_l00Src_among r1.2 [75, 80, 100]).bind fun r3 =>
 some (r3.1, r3.2)
/-- loop.example/g01063/spec.l11DrawFocal -/
def spec_l11DrawFocal (s1 : GL00Src) : Option (Int × GL00Src) :=
 (spec_l00Src_one s1 10).bind fun r1 =>
 if r1.1 then
 ((spec_l00Src_among r1.2 [(-1), 0, 1, 2000, 2001]).bind fun r2 =>
 some (r2.1, r2.2))
 else
 (spec_l00Src_pick r1.2 20).bind fun r3 =>
 some (w64 (100 + (w64 (25 * r3.1))), r3.2)
/-- loop.example/g01063/spec.l11DrawStock -/
def spec_l11DrawStock (s1 : GL00Src) : Option ((List Int) × GL00Src) :=
 (spec_l00Src_pick s1 7).bind fun r1 =>
 (spec_l00Src_one r1.2 20).bind fun r2 =>
 ((if r2.1 then
 ((spec_l00Src_pick r2.2 2).bind fun r3 =>
 some (r3.2, w64 (12 + r3.1)))
 else
 some (r2.2, r1.1)) : Option (GL00Src × Int)).bind fun ((s2, n1) : GL00Src × Int) =>
 onL (loop (S := (GL00Src × (List Int) × Int)) (B := (GL00Src × (List Int))) (R := Empty) (fun ((s3, out1, k1) : GL00Src × (List Int) × Int) =>
 if k1 > 0 then
 ((spec_l00Src_pick s3 20).bind fun r4 =>
 (app? out1 ([w64 (100 + (w64 (25 * r4.1)))] : List Int)).bind fun l1 =>
 some (.next (r4.2, l1, w64 (k1 - 1))))
 else
 some (.brk (s3, out1))) loopLim (s2, [], n1))
 (fun ((s4, out2) : GL00Src × (List Int)) => ((if n1 > 0 then
 ((spec_l00Src_one s4 10).bind fun r5 =>
 some (r5.2, r5.1))
 else
 some (s4, false)) : Option (GL00Src × Bool)).bind fun ((s5, x1) : GL00Src × Bool) =>
 if x1 then
 ((spec_l11DrawFocal s5).bind fun r6 =>
 (at? out2 0).bind fun v1 =>
 some (out2.set ((0 : Int).toNat) r6.1, r6.2))
 else
 some (out2, s5)) Empty.elim
/-- loop.example/g01063/spec.l11All -/
def spec_l11All (code1 : List Int) : Option ((List GLensHall) × Int × (List Int)) :=
 (spec_l00From code1).bind fun r1 =>
 (spec_l11Draw r1).bind fun r2 =>
 (spec_l11DrawSlide r2.2).bind fun r3 =>
 (spec_l11DrawStock r3.2).bind fun r4 =>
 some (r2.1, r3.1, r4.1)
/-- loop.example/g01063/spec.DrawFewestLenses -/
def spec_DrawFewestLenses (code1 : List Int) : Option ((List GLensHall) × Int × (List Int)) :=
 (spec_l11All code1).bind fun r1 =>
 some (r1.1, r1.2.1, r1.2.2)
/-- loop.example/g01063/spec.l11Less -/
def spec_l11Less (a1 : List Int) (b1 : List Int) : Option Bool :=
 if (a1.length : Int) = (b1.length : Int) then
 (onL (loop (S := Int) (B := Unit) (R := Bool) (fun (i1 : Int) =>
 if i1 < (a1.length : Int) then
 ((at? a1 i1).bind fun v1 =>
 (at? b1 i1).bind fun v2 =>
 if v1 = v2 then
 (some (.next (w64 (i1 + 1))))
 else
 (at? a1 i1).bind fun v3 =>
 (at? b1 i1).bind fun v4 =>
 some (.ret (decide (v3 < v4))))
 else
 some (.brk ())) loopLim 0)
 (fun (_ : Unit) => some false) (fun r => some r))
 else
 some (decide ((a1.length : Int) < (b1.length : Int)))
/-- loop.example/g01063/spec.FewestLenses -/
def spec_FewestLenses (list1 : List GLensHall) (slide1 : Int) (stock1 : List Int) : Option ((List Int) × Int) :=
 (spec_l11Code list1 slide1 stock1).bind fun r1 =>
 if r1 = 0 then
 (onL (loop (S := ((List Int) × Bool × Int)) (B := ((List Int) × Bool)) (R := Empty) (fun ((best1, found1, bits1) : (List Int) × Bool × Int) =>
 (shl? .i64 1 (IntKind.wrap .u64 ((stock1.length : Int)))).bind fun q1 =>
 if bits1 < q1 then
 (onL (loop (S := ((List Int) × Int)) (B := (List Int)) (R := Empty) (fun ((some_1, k1) : (List Int) × Int) =>
 if k1 < (stock1.length : Int) then
 ((shr? .i64 bits1 (IntKind.wrap .u64 (k1))).bind fun q2 =>
 if (bit_and .i64 q2 1) = 1 then
 ((app? some_1 ([k1] : List Int)).bind fun l1 =>
 some (.next (l1, w64 (k1 + 1))))
 else
 some (.next (some_1, w64 (k1 + 1))))
 else
 some (.brk some_1)) loopLim ([], 0))
 (fun (some_2 : List Int) => ((if found1 then
 ((spec_l11Less some_2 best1).bind fun r2 =>
 if r2 then
 ((spec_l11Left list1 slide1 stock1 bits1).bind fun r3 =>
 some (decide ((r3.length : Int) = 0)))
 else
 some false)
 else
 (spec_l11Left list1 slide1 stock1 bits1).bind fun r4 =>
 some (decide ((r4.length : Int) = 0))) : Option Bool).bind fun (x1 : Bool) =>
 if x1 then
 (some (.next (some_2, true, w64 (bits1 + 1))))
 else
 some (.next (best1, found1, w64 (bits1 + 1)))) Empty.elim)
 else
 some (.brk (best1, found1))) loopLim ([], false, 0))
 (fun ((best2, found2) : (List Int) × Bool) => if found2 then
 (some (best2, 0))
 else
 some ([], 3)) Empty.elim)
 else
 some ([], r1)
/-- loop.example/g01063/spec.HallsLeft -/
def spec_HallsLeft (list1 : List GLensHall) (slide1 : Int) (stock1 : List Int) : Option ((List Int) × Int) :=
 (spec_l11Code list1 slide1 stock1).bind fun r1 =>
 if r1 = 0 then
 ((shl? .i64 1 (IntKind.wrap .u64 ((stock1.length : Int)))).bind fun q1 =>
 (spec_l11Left list1 slide1 stock1 (w64 (q1 - 1))).bind fun r2 =>
 some (r2, 0))
 else
 some ([], r1)
/-- loop.example/g01063/spec.ValidLensHalls -/
def spec_ValidLensHalls (list1 : List GLensHall) : Option Bool :=
 (spec_l11Ok list1).bind fun r1 =>
 some r1
/-- loop.example/g01063/laws.FnLensSets -/
def laws_FnLensSets (code1 : List Int) : Option Bool :=
 (laws_f6big code1).bind fun r1 =>
 if r1 then
 (some true)
 else
 (spec_DrawFewestLenses code1).bind fun r2 =>
 (impl_FewestLenses r2.1 r2.2.1 r2.2.2).bind fun r3 =>
 (spec_FewestLenses r2.1 r2.2.1 r2.2.2).bind fun r4 =>
 (impl_HallsLeft r2.1 r2.2.1 r2.2.2).bind fun r5 =>
 (spec_HallsLeft r2.1 r2.2.1 r2.2.2).bind fun r6 =>
 (impl_BestLensMore r2.1 r2.2.1 r2.2.2).bind fun r7 =>
 (spec_BestLensMore r2.1 r2.2.1 r2.2.2).bind fun r8 =>
 ((if r3.2 = r4.2 then
 ((laws_f6ints r3.1 r4.1).bind fun r9 =>
 if r9 then
 (if r5.2 = r6.2 then
 ((laws_f6ints r5.1 r6.1).bind fun r10 =>
 if r10 then
 (if r7.2.2 = r8.2.2 then
 (if r7.1 = r8.1 then
 (if r7.2.1 = r8.2.1 then
 ((impl_ValidLensHalls r2.1).bind fun r11 =>
 (spec_ValidLensHalls r2.1).bind fun r12 =>
 some (!(r11 == r12)))
 else
 some true)
 else
 some true)
 else
 some true)
 else
 some true)
 else
 some true)
 else
 some true)
 else
 some true) : Option Bool).bind fun (x1 : Bool) =>
 if x1 then
 (some false)
 else
 ((if r5.2 = 0 then
 (some (!((decide ((r6.1.length : Int) = 0)) == (decide (r3.2 = 0)))))
 else
 some false) : Option Bool).bind fun (x2 : Bool) =>
 if x2 then
 (some false)
 else
 onS (S := Unit) (B := Empty) (R := Bool) (if r7.2.2 = 0 then
 ((impl_HallsLeft r2.1 r2.2.1 [r8.1]).bind fun r13 =>
 ((if r13.2 = 0 then
 (if r8.2.1 < 1 then
 (some true)
 else
 some (decide (r8.2.1 > (r6.1.length : Int))))
 else
 some true) : Option Bool).bind fun (x3 : Bool) =>
 if x3 then
 (some (.ret false))
 else
 onL (loop (S := (Int × Int)) (B := Int) (R := Empty) (fun ((count1, i1) : Int × Int) =>
 if i1 < (r6.1.length : Int) then
 ((at? r6.1 i1).bind fun v1 =>
 (laws_f6has r13.1 v1).bind fun r14 =>
 if r14 then
 (some (.next (count1, w64 (i1 + 1))))
 else
 some (.next (w64 (count1 + 1), w64 (i1 + 1))))
 else
 some (.brk count1)) loopLim (0, 0))
 (fun (count2 : Int) => if count2 = r8.2.1 then
 (some (.next ()))
 else
 some (.ret false)) Empty.elim)
 else
 some (.next ()))
 (fun (_ : Unit) => if r3.2 = 0 then
 (onL (loop (S := ((List Int) × Int)) (B := (List Int)) (R := Empty) (fun ((chosen1, i2) : (List Int) × Int) =>
 if i2 < (r4.1.length : Int) then
 ((at? r4.1 i2).bind fun v2 =>
 (at? r2.2.2 v2).bind fun v3 =>
 (app? chosen1 ([v3] : List Int)).bind fun l1 =>
 some (.next (l1, w64 (i2 + 1))))
 else
 some (.brk chosen1)) loopLim ([], 0))
 (fun (chosen2 : List Int) => (impl_HallsLeft r2.1 r2.2.1 chosen2).bind fun r15 =>
 if r15.2 = 0 then
 (some (decide ((r15.1.length : Int) = 0)))
 else
 some false) Empty.elim)
 else
 some true)
 Empty.elim (fun r => some r)
end Go.Vs.G
