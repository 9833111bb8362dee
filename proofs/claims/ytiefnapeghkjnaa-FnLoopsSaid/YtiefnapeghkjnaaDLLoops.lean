/- The functions that the law reaches, as typed Lean functions, printed by program. No conditions. -/
import Derived.Test.YtiefnapeghkjnaaV5
set_option maxRecDepth 100000
open Go Go.Vs
namespace Go.Vs.G
structure GFraction where
  Num : Int
  Den : Int
  deriving DecidableEq, Inhabited
structure GL00Src where
  code : List Int
  at_ : Int
  seed : Int
  deriving DecidableEq, Inhabited
structure GPoint where
  X : Int
  Y : Int
  deriving DecidableEq, Inhabited
def GFraction.ok (x : GFraction) : Prop := (okI .i64) x.Num ∧ (okI .i64) x.Den
def GL00Src.ok (x : GL00Src) : Prop := (okL (okI .u8)) x.code ∧ (okI .i64) x.at_ ∧ (okI .u64) x.seed
def GPoint.ok (x : GPoint) : Prop := (okI .i64) x.X ∧ (okI .i64) x.Y
/-- loop.example/g01063/impl.within -/
def impl_within (n1 : Int) (low1 : Int) (high1 : Int) : Option Bool :=
 if n1 ≥ low1 then
 (some (decide (n1 ≤ high1)))
 else
 some false
/-- loop.example/g01063/impl.ValidLoop$1 -/
def impl_ValidLoop_1 (p1 : Int) : Option Bool :=
 (impl_within p1 0 1000).bind fun r1 =>
 some (!r1)
/-- slices.IndexFunc[[]int64,int64] -/
def slices_IndexFunc_int64_int64_818 (s1 : List Int) (f1 : Int → Option Bool) : Option Int :=
 onL (loop (S := Int) (B := Unit) (R := Int) (fun (x1 : Int) =>
 if x1 < (s1.length : Int) then
 ((at? s1 x1).bind fun v1 =>
 (f1 v1).bind fun r1 =>
 if r1 then
 (some (.ret x1))
 else
 some (.next (w64 (x1 + 1))))
 else
 some (.brk ())) loopLim 0)
 (fun (_ : Unit) => some (-1)) (fun r => some r)
/-- slices.ContainsFunc[[]int64,int64] -/
def slices_ContainsFunc_int64_int64_796 (s1 : List Int) (f1 : Int → Option Bool) : Option Bool :=
 (slices_IndexFunc_int64_int64_818 s1 f1).bind fun r1 =>
 some (decide (r1 ≥ 0))
/-- loop.example/g01063/impl.ValidLoop -/
def impl_ValidLoop (places1 : List Int) : Option Bool :=
 if (places1.length : Int) ≥ 1 then
 (if (places1.length : Int) ≤ 60 then
 ((slices_ContainsFunc_int64_int64_796 places1 (fun a0 => impl_ValidLoop_1 a0)).bind fun r1 =>
 some (!r1))
 else
 some false)
 else
 some false
/-- loop.example/g01063/impl.apart -/
def impl_apart (a1 : Int) (b1 : Int) : Option Int :=
 some (imax (w64 (a1 - b1)) (w64 (b1 - a1)))
/-- slices.Concat[[]int64,int64] -/
def slices_Concat_int64_int64_793 (slices1 : List (List Int)) : Option (List Int) :=
 onL (loop (S := (Int × Int)) (B := Int) (R := Empty) (fun ((size1, x1) : Int × Int) =>
 if x1 < (slices1.length : Int) then
 ((at? slices1 x1).bind fun v1 =>
 if (w64 (size1 + (v1.length : Int))) < 0 then
 none
 else
 some (.next (w64 (size1 + (v1.length : Int)), w64 (x1 + 1))))
 else
 some (.brk size1)) loopLim (0, 0))
 (fun (size2 : Int) => (slices_Grow_int64 size2).bind fun r1 =>
 onL (loop (S := ((List Int) × Int)) (B := (List Int)) (R := Empty) (fun ((newslice1, x2) : (List Int) × Int) =>
 if x2 < (slices1.length : Int) then
 ((at? slices1 x2).bind fun v2 =>
 (app? newslice1 v2).bind fun l1 =>
 some (.next (l1, w64 (x2 + 1))))
 else
 some (.brk newslice1)) loopLim (r1, 0))
 (fun (newslice2 : List Int) => some newslice2) Empty.elim) Empty.elim
/-- loop.example/g01063/impl.turnLoop -/
def impl_turnLoop (places1 : List Int) (by_1 : Int) : Option (List Int) :=
 (mod? by_1 (places1.length : Int)).bind fun q1 =>
 (sub? places1 q1 places1.length).bind fun l1 =>
 (sub? places1 0 q1).bind fun l2 =>
 (slices_Concat_int64_int64_793 [l1, l2]).bind fun r1 =>
 some r1
/-- loop.example/g01063/impl.BestTurn -/
def impl_BestTurn (a1 : List Int) (b1 : List Int) : Option (Int × Int × Int) :=
 (((impl_ValidLoop a1).bind fun r1 =>
 if r1 then
 ((impl_ValidLoop b1).bind fun r2 =>
 some (!r2))
 else
 some true) : Option Bool).bind fun (x1 : Bool) =>
 if x1 then
 (some (0, 0, 1))
 else
 if (a1.length : Int) = (b1.length : Int) then
 (onL (loop (S := (Int × Int × Int)) (B := (Int × Int)) (R := Empty) (fun ((best1, least1, x2) : Int × Int × Int) =>
 if x2 < (a1.length : Int) then
 ((impl_turnLoop a1 x2).bind fun r3 =>
 onL (loop (S := (Int × Int)) (B := Int) (R := Empty) (fun ((sum1, x3) : Int × Int) =>
 if x3 < (r3.length : Int) then
 ((at? r3 x3).bind fun v1 =>
 (at? b1 x3).bind fun v2 =>
 (impl_apart v1 v2).bind fun r4 =>
 some (.next (w64 (sum1 + r4), w64 (x3 + 1))))
 else
 some (.brk sum1)) loopLim (0, 0))
 (fun (sum2 : Int) => ((if least1 < 0 then
 (some true)
 else
 some (decide (sum2 < least1))) : Option Bool).bind fun (x4 : Bool) =>
 if x4 then
 (some (.next (x2, sum2, w64 (x2 + 1))))
 else
 some (.next (best1, least1, w64 (x2 + 1)))) Empty.elim)
 else
 some (.brk (best1, least1))) loopLim (0, (-1), 0))
 (fun ((best2, least2) : Int × Int) => some (best2, least2, 0)) Empty.elim)
 else
 some (0, 0, 8)
/-- loop.example/g01063/impl.gcd -/
def impl_gcd (a1 : Int) (b1 : Int) : Option Int :=
 onL (loop (S := (Int × Int)) (B := Int) (R := Empty) (fun ((a2, b2) : Int × Int) =>
 if b2 = 0 then
 (some (.brk a2))
 else
 (mod? a2 b2).bind fun q1 =>
 some (.next (b2, q1))) loopLim (a1, b1))
 (fun (a3 : Int) => some (imax a3 (w64 (0 - a3)))) Empty.elim
/-- loop.example/g01063/impl.commonLength -/
def impl_commonLength (a1 : Int) (b1 : Int) : Option Int :=
 (impl_gcd a1 b1).bind fun r1 =>
 (div? .i64 a1 r1).bind fun q1 =>
 some (w64 (q1 * b1))
/-- loop.example/g01063/impl.CommonLength -/
def impl_CommonLength (a1 : Int) (b1 : Int) : Option (Int × Int) :=
 (((impl_within a1 1 60).bind fun r1 =>
 if r1 then
 ((impl_within b1 1 60).bind fun r2 =>
 some (!r2))
 else
 some true) : Option Bool).bind fun (x1 : Bool) =>
 if x1 then
 (some (0, 2))
 else
 (impl_commonLength a1 b1).bind fun r3 =>
 some (r3, 0)
/-- loop.example/g01063/impl.stepsOf -/
def impl_stepsOf (places1 : List Int) : Option (List Int) :=
 onL (loop (S := ((List Int) × Int)) (B := (List Int)) (R := Empty) (fun ((out1, x1) : (List Int) × Int) =>
 if x1 < (places1.length : Int) then
 ((at? places1 x1).bind fun v1 =>
 (mod? (w64 (x1 + 1)) (places1.length : Int)).bind fun q1 =>
 (at? places1 q1).bind fun v2 =>
 (app? out1 ([w64 (v2 - v1)] : List Int)).bind fun l1 =>
 some (.next (l1, w64 (x1 + 1))))
 else
 some (.brk out1)) loopLim ([], 0))
 (fun (out2 : List Int) => some out2) Empty.elim
/-- loop.example/g01063/impl.RoughestStep -/
def impl_RoughestStep (places1 : List Int) : Option (Int × Int × Int) :=
 (impl_ValidLoop places1).bind fun r1 =>
 if r1 then
 ((impl_stepsOf places1).bind fun r2 =>
 onL (loop (S := (Int × Int × Int)) (B := (Int × Int)) (R := Empty) (fun ((best1, most1, x1) : Int × Int × Int) =>
 if x1 < (r2.length : Int) then
 ((at? r2 x1).bind fun v1 =>
 (mod? (w64 ((w64 (x1 + (r2.length : Int))) - 1)) (r2.length : Int)).bind fun q1 =>
 (at? r2 q1).bind fun v2 =>
 (impl_apart v1 v2).bind fun r3 =>
 if r3 > most1 then
 (some (.next (x1, r3, w64 (x1 + 1))))
 else
 some (.next (best1, most1, w64 (x1 + 1))))
 else
 some (.brk (best1, most1))) loopLim (0, (-1), 0))
 (fun ((best2, most2) : Int × Int) => some (best2, most2, 0)) Empty.elim)
 else
 some (0, 0, 1)
/-- loop.example/g01063/impl.StepsOfLoop -/
def impl_StepsOfLoop (places1 : List Int) : Option ((List Int) × Int) :=
 (impl_ValidLoop places1).bind fun r1 =>
 if r1 then
 ((impl_stepsOf places1).bind fun r2 =>
 some (r2, 0))
 else
 some ([], 1)
/-- loop.example/g01063/impl.TurnLoop -/
def impl_TurnLoop (places1 : List Int) (by_1 : Int) : Option ((List Int) × Int) :=
 (impl_ValidLoop places1).bind fun r1 =>
 if r1 then
 ((impl_within by_1 0 60).bind fun r2 =>
 if r2 then
 ((impl_turnLoop places1 by_1).bind fun r3 =>
 some (r3, 0))
 else
 some ([], 2))
 else
 some ([], 1)
/-- loop.example/g01063/laws.f6abs -/
def laws_f6abs (n1 : Int) : Option Int :=
 if n1 < 0 then
 (some (w64 (0 - n1)))
 else
 some n1
/-- loop.example/g01063/laws.f6big -/
def laws_f6big (code1 : List Int) : Option Bool :=
 some (decide ((code1.length : Int) > 4096))
/-- loop.example/g01063/laws.f6ints -/
def laws_f6ints (a1 : List Int) (b1 : List Int) : Option Bool :=
 if (a1.length : Int) = (b1.length : Int) then
 (onL (loop (S := Int) (B := Unit) (R := Bool) (fun (i1 : Int) =>
 if i1 < (a1.length : Int) then
 ((at? a1 i1).bind fun v1 =>
 (at? b1 i1).bind fun v2 =>
 if v1 = v2 then
 (some (.next (w64 (i1 + 1))))
 else
 some (.ret false))
 else
 some (.brk ())) loopLim 0)
 (fun (_ : Unit) => some true) (fun r => some r))
 else
 some false
/-- loop.example/g01063/laws.f6sum -/
def laws_f6sum (list1 : List Int) : Option Int :=
 onL (loop (S := (Int × Int)) (B := Int) (R := Empty) (fun ((sum1, i1) : Int × Int) =>
 if i1 < (list1.length : Int) then
 ((at? list1 i1).bind fun v1 =>
 some (.next (w64 (sum1 + v1), w64 (i1 + 1))))
 else
 some (.brk sum1)) loopLim (0, 0))
 (fun (sum2 : Int) => some sum2) Empty.elim
/-- loop.example/g01063/spec.l00Size -/
def spec_l00Size (n1 : Int) : Option Int :=
 if n1 < 0 then
 (some (w64 (0 - n1)))
 else
 some n1
/-- loop.example/g01063/spec.l00In -/
def spec_l00In (n1 : Int) (low1 : Int) (high1 : Int) : Option Bool :=
 if n1 ≥ low1 then
 (some (decide (n1 ≤ high1)))
 else
 some false
/-- loop.example/g01063/spec.l05Ok -/
def spec_l05Ok (places1 : List Int) : Option Bool :=
 onL (loop (S := Int) (B := Unit) (R := Bool) (fun (i1 : Int) =>
 if i1 < (places1.length : Int) then
 ((at? places1 i1).bind fun v1 =>
 (spec_l00In v1 0 1000).bind fun r1 =>
 if r1 then
 (some (.next (w64 (i1 + 1))))
 else
 some (.ret false))
 else
 some (.brk ())) loopLim 0)
 (fun (_ : Unit) => (spec_l00In (places1.length : Int) 1 60).bind fun r2 =>
 some r2) (fun r => some r)
/-- loop.example/g01063/spec.l05Turned -/
def spec_l05Turned (places1 : List Int) (by_1 : Int) : Option (List Int) :=
 onL (loop (S := ((List Int) × Int)) (B := (List Int)) (R := Empty) (fun ((out1, i1) : (List Int) × Int) =>
 if i1 < (places1.length : Int) then
 ((mod? (w64 (i1 + by_1)) (places1.length : Int)).bind fun q1 =>
 (at? places1 q1).bind fun v1 =>
 (app? out1 ([v1] : List Int)).bind fun l1 =>
 some (.next (l1, w64 (i1 + 1))))
 else
 some (.brk out1)) loopLim ([], 0))
 (fun (out2 : List Int) => some out2) Empty.elim
/-- loop.example/g01063/spec.BestTurn -/
def spec_BestTurn (a1 : List Int) (b1 : List Int) : Option (Int × Int × Int) :=
 (((spec_l05Ok a1).bind fun r1 =>
 if r1 then
 ((spec_l05Ok b1).bind fun r2 =>
 some (!r2))
 else
 some true) : Option Bool).bind fun (x1 : Bool) =>
 if x1 then
 (some (0, 0, 1))
 else
 if (a1.length : Int) = (b1.length : Int) then
 (onL (loop (S := (Int × Int × Int)) (B := (Int × Int)) (R := Empty) (fun ((best1, least1, by_1) : Int × Int × Int) =>
 if by_1 < (a1.length : Int) then
 ((spec_l05Turned a1 by_1).bind fun r3 =>
 onL (loop (S := (Int × Int)) (B := Int) (R := Empty) (fun ((sum1, i1) : Int × Int) =>
 if i1 < (b1.length : Int) then
 ((at? r3 i1).bind fun v1 =>
 (at? b1 i1).bind fun v2 =>
 (spec_l00Size (w64 (v1 - v2))).bind fun r4 =>
 some (.next (w64 (sum1 + r4), w64 (i1 + 1))))
 else
 some (.brk sum1)) loopLim (0, 0))
 (fun (sum2 : Int) => ((if least1 < 0 then
 (some true)
 else
 some (decide (sum2 < least1))) : Option Bool).bind fun (x2 : Bool) =>
 if x2 then
 (some (.next (by_1, sum2, w64 (by_1 + 1))))
 else
 some (.next (best1, least1, w64 (by_1 + 1)))) Empty.elim)
 else
 some (.brk (best1, least1))) loopLim (0, (-1), 0))
 (fun ((best2, least2) : Int × Int) => some (best2, least2, 0)) Empty.elim)
 else
 some (0, 0, 8)
/-- loop.example/g01063/spec.l00Gcd -/
def spec_l00Gcd (a1 : Int) (b1 : Int) : Option Int :=
 onL (loop (S := (Int × Int)) (B := Int) (R := Empty) (fun ((a2, b2) : Int × Int) =>
 if b2 = 0 then
 (some (.brk a2))
 else
 (mod? a2 b2).bind fun q1 =>
 some (.next (b2, q1))) loopLim (a1, b1))
 (fun (a3 : Int) => some a3) Empty.elim
/-- loop.example/g01063/spec.l05Common -/
def spec_l05Common (a1 : Int) (b1 : Int) : Option Int :=
 (spec_l00Gcd a1 b1).bind fun r1 =>
 (div? .i64 a1 r1).bind fun q1 =>
 some (w64 (q1 * b1))
/-- loop.example/g01063/spec.CommonLength -/
def spec_CommonLength (a1 : Int) (b1 : Int) : Option (Int × Int) :=
 (((spec_l00In a1 1 60).bind fun r1 =>
 if r1 then
 ((spec_l00In b1 1 60).bind fun r2 =>
 some (!r2))
 else
 some true) : Option Bool).bind fun (x1 : Bool) =>
 if x1 then
 (some (0, 2))
 else
 (spec_l05Common a1 b1).bind fun r3 =>
 some (r3, 0)
/-- (*loop.example/g01063/spec.l00Src).next -/
def spec_l00Src_next (s1 : GL00Src) : Option (Int × GL00Src) :=
 ((if s1.at_ < (s1.code.length : Int) then
 ((at? s1.code s1.at_).bind fun v1 =>
 some (w64 (v1)))
 else
 some 0) : Option Int).bind fun (b1 : Int) =>
 if (w64 (s1.at_ + 1)) ≤ (s1.code.length : Int) then
 (some (b1, (GL00Src.mk s1.code (w64 (s1.at_ + 1)) (IntKind.wrap .u64 ((IntKind.wrap .u64 ((IntKind.wrap .u64 (s1.seed * 6364136223846793005)) + (IntKind.wrap .u64 (b1)))) + 1442695040888963407)))))
 else
 (shr? .u64 (IntKind.wrap .u64 ((IntKind.wrap .u64 ((IntKind.wrap .u64 (s1.seed * 6364136223846793005)) + (IntKind.wrap .u64 (b1)))) + 1442695040888963407)) 40).bind fun q1 =>
 some (w64 (bit_and .u64 q1 255), (GL00Src.mk s1.code (w64 (s1.at_ + 1)) (IntKind.wrap .u64 ((IntKind.wrap .u64 ((IntKind.wrap .u64 (s1.seed * 6364136223846793005)) + (IntKind.wrap .u64 (b1)))) + 1442695040888963407))))
/-- (*loop.example/g01063/spec.l00Src).pick -/
def spec_l00Src_pick (s1 : GL00Src) (n1 : Int) : Option (Int × GL00Src) :=
 if n1 ≤ 1 then
 (some (0, s1))
 else
 (spec_l00Src_next s1).bind fun r1 =>
 if n1 > 200 then
 ((spec_l00Src_next r1.2).bind fun r2 =>
 (mod? (w64 ((w64 (r1.1 * 256)) + r2.1)) n1).bind fun q1 =>
 some (q1, r2.2))
 else
 (mod? r1.1 n1).bind fun q2 =>
 some (q2, r1.2)
/-- (*loop.example/g01063/spec.l00Src).one -/
def spec_l00Src_one (s1 : GL00Src) (n1 : Int) : Option (Bool × GL00Src) :=
 (spec_l00Src_pick s1 n1).bind fun r1 =>
 some ((decide (r1.1 = 0)), r1.2)
/-- loop.example/g01063/spec.l00From -/
def spec_l00From (code1 : List Int) : Option GL00Src :=
 some (GL00Src.mk code1 0 0)
/-- (*loop.example/g01063/spec.l00Src).among -/
def spec_l00Src_among (s1 : GL00Src) (list1 : List Int) : Option (Int × GL00Src) :=
 (spec_l00Src_pick s1 (list1.length : Int)).bind fun r1 =>
 (at? list1 r1.1).bind fun v1 =>
 some (v1, r1.2)
/-- loop.example/g01063/spec.l00Max -/
def spec_l00Max (a1 : Int) (b1 : Int) : Option Int :=
 if a1 > b1 then
 (some a1)
 else
 some b1
/-- loop.example/g01063/spec.l05New -/
def spec_l05New (s1 : GL00Src) (n1 : Int) : Option ((List Int) × GL00Src) :=
 (spec_l00Src_pick s1 100).bind fun r1 =>
 onL (loop (S := (GL00Src × (List Int) × Int × Int)) (B := (GL00Src × (List Int))) (R := Empty) (fun ((s2, out1, at_1, k1) : GL00Src × (List Int) × Int × Int) =>
 if k1 > 0 then
 ((app? out1 ([at_1] : List Int)).bind fun l1 =>
 (spec_l00Src_pick s2 30).bind fun r2 =>
 (spec_l00Max 0 (w64 ((w64 (at_1 + r2.1)) - 14))).bind fun r3 =>
 some (.next (r2.2, l1, r3, w64 (k1 - 1))))
 else
 some (.brk (s2, out1))) loopLim (r1.2, [], r1.1, n1))
 (fun ((s3, out2) : GL00Src × (List Int)) => some (out2, s3)) Empty.elim
/-- loop.example/g01063/spec.l05Draw -/
def spec_l05Draw (s1 : GL00Src) : Option ((List Int) × GL00Src) :=
 (spec_l00Src_pick s1 12).bind fun r1 =>
 (spec_l00Src_one r1.2 16).bind fun r2 =>
 ((if r2.1 then
 ((spec_l00Src_among r2.2 [0, 1, 60, 61]).bind fun r3 =>
 some (r3.2, r3.1))
 else
 some (r2.2, w64 (1 + r1.1))) : Option (GL00Src × Int)).bind fun ((s2, n1) : GL00Src × Int) =>
 (spec_l05New s2 n1).bind fun r4 =>
 ((if n1 > 0 then
 ((spec_l00Src_one r4.2 12).bind fun r5 =>
 some (r5.2, r5.1))
 else
 some (r4.2, false)) : Option (GL00Src × Bool)).bind fun ((s3, x1) : GL00Src × Bool) =>
 if x1 then
 ((spec_l00Src_pick s3 n1).bind fun r6 =>
 (spec_l00Src_among r6.2 [(-1), 0, 1000, 1001, (-9223372036854775808)]).bind fun r7 =>
 (at? r4.1 r6.1).bind fun v1 =>
 some (r4.1.set r6.1.toNat r7.1, r7.2))
 else
 some (r4.1, s3)
/-- loop.example/g01063/spec.DrawBestTurn -/
def spec_DrawBestTurn (code1 : List Int) : Option ((List Int) × (List Int)) :=
 (spec_l00From code1).bind fun r1 =>
 (spec_l05Draw r1).bind fun r2 =>
 (spec_l00Src_one r2.2 8).bind fun r3 =>
 if r3.1 then
 ((spec_l05Draw r3.2).bind fun r4 =>
 some (r2.1, r4.1))
 else
 (((spec_l00Src_one r3.2 2).bind fun r5 =>
 if r5.1 then
 (some (r5.2, (decide ((r2.1.length : Int) > 0))))
 else
 some (r5.2, false)) : Option (GL00Src × Bool)).bind fun ((s1, x1) : GL00Src × Bool) =>
 if x1 then
 ((spec_l00Src_pick s1 (r2.1.length : Int)).bind fun r6 =>
 (spec_l05Turned r2.1 r6.1).bind fun r7 =>
 some (r2.1, r7))
 else
 (spec_l05New s1 (r2.1.length : Int)).bind fun r8 =>
 some (r2.1, r8.1)
/-- loop.example/g01063/spec.DrawCommonLength -/
def spec_DrawCommonLength (code1 : List Int) : Option (Int × Int) :=
 (spec_l00From code1).bind fun r1 =>
 (spec_l00Src_pick r1 24).bind fun r2 =>
 (spec_l00Src_one r2.2 10).bind fun r3 =>
 ((if r3.1 then
 ((spec_l00Src_among r3.2 [(-1), 0, 1, 60, 61]).bind fun r4 =>
 some (r4.2, r4.1))
 else
 some (r3.2, w64 (1 + r2.1))) : Option (GL00Src × Int)).bind fun ((s1, a1) : GL00Src × Int) =>
 (spec_l00Src_one s1 10).bind fun r5 =>
 if r5.1 then
 ((spec_l00Src_among r5.2 [(-1), 0, 1, 60, 61]).bind fun r6 =>
 some (a1, r6.1))
 else
 (spec_l00Src_pick r5.2 24).bind fun r7 =>
 some (a1, w64 (1 + r7.1))
/-- loop.example/g01063/spec.DrawStepsOfLoop -/
def spec_DrawStepsOfLoop (code1 : List Int) : Option (List Int) :=
 (spec_l00From code1).bind fun r1 =>
 (spec_l05Draw r1).bind fun r2 =>
 some r2.1
/-- loop.example/g01063/spec.l05Steps -/
def spec_l05Steps (places1 : List Int) : Option (List Int) :=
 onL (loop (S := ((List Int) × Int)) (B := (List Int)) (R := Empty) (fun ((out1, i1) : (List Int) × Int) =>
 if i1 < (places1.length : Int) then
 ((mod? (w64 (i1 + 1)) (places1.length : Int)).bind fun q1 =>
 (at? places1 q1).bind fun v1 =>
 (at? places1 i1).bind fun v2 =>
 (app? out1 ([w64 (v1 - v2)] : List Int)).bind fun l1 =>
 some (.next (l1, w64 (i1 + 1))))
 else
 some (.brk out1)) loopLim ([], 0))
 (fun (out2 : List Int) => some out2) Empty.elim
/-- loop.example/g01063/spec.RoughestStep -/
def spec_RoughestStep (places1 : List Int) : Option (Int × Int × Int) :=
 (spec_l05Ok places1).bind fun r1 =>
 if r1 then
 ((spec_l05Steps places1).bind fun r2 =>
 onL (loop (S := (Int × Int × Int)) (B := (Int × Int)) (R := Empty) (fun ((best1, most1, i1) : Int × Int × Int) =>
 if i1 < (r2.length : Int) then
 ((at? r2 i1).bind fun v1 =>
 (mod? (w64 ((w64 (i1 + (r2.length : Int))) - 1)) (r2.length : Int)).bind fun q1 =>
 (at? r2 q1).bind fun v2 =>
 (spec_l00Size (w64 (v1 - v2))).bind fun r3 =>
 if r3 > most1 then
 (some (.next (i1, r3, w64 (i1 + 1))))
 else
 some (.next (best1, most1, w64 (i1 + 1))))
 else
 some (.brk (best1, most1))) loopLim (0, (-1), 0))
 (fun ((best2, most2) : Int × Int) => some (best2, most2, 0)) Empty.elim)
 else
 some (0, 0, 1)
/-- loop.example/g01063/spec.StepsOfLoop -/
def spec_StepsOfLoop (places1 : List Int) : Option ((List Int) × Int) :=
 (spec_l05Ok places1).bind fun r1 =>
 if r1 then
 ((spec_l05Steps places1).bind fun r2 =>
 some (r2, 0))
 else
 some ([], 1)
/-- loop.example/g01063/spec.ValidLoop -/
def spec_ValidLoop (places1 : List Int) : Option Bool :=
 (spec_l05Ok places1).bind fun r1 =>
 some r1
/-- loop.example/g01063/laws.FnLoops -/
def laws_FnLoops (code1 : List Int) : Option Bool :=
 (laws_f6big code1).bind fun r1 =>
 if r1 then
 (some true)
 else
 (spec_DrawStepsOfLoop code1).bind fun r2 =>
 (impl_StepsOfLoop r2).bind fun r3 =>
 (spec_StepsOfLoop r2).bind fun r4 =>
 (spec_DrawBestTurn code1).bind fun r5 =>
 (impl_BestTurn r5.1 r5.2).bind fun r6 =>
 (spec_BestTurn r5.1 r5.2).bind fun r7 =>
 (spec_DrawCommonLength code1).bind fun r8 =>
 (impl_CommonLength r8.1 r8.2).bind fun r9 =>
 (spec_CommonLength r8.1 r8.2).bind fun r10 =>
 (impl_RoughestStep r2).bind fun r11 =>
 (spec_RoughestStep r2).bind fun r12 =>
 ((if r3.2 = r4.2 then
 ((laws_f6ints r3.1 r4.1).bind fun r13 =>
 if r13 then
 (if r6.2.2 = r7.2.2 then
 (if r6.1 = r7.1 then
 (if r6.2.1 = r7.2.1 then
 (if r9.2 = r10.2 then
 (if r9.1 = r10.1 then
 (if r11.2.2 = r12.2.2 then
 (if r11.1 = r12.1 then
 (if r11.2.1 = r12.2.1 then
 ((impl_ValidLoop r2).bind fun r14 =>
 (spec_ValidLoop r2).bind fun r15 =>
 some (!(r14 == r15)))
 else
 some true)
 else
 some true)
 else
 some true)
 else
 some true)
 else
 some true)
 else
 some true)
 else
 some true)
 else
 some true)
 else
 some true)
 else
 some true) : Option Bool).bind fun (x1 : Bool) =>
 if x1 then
 (some false)
 else
 ((if r9.2 = 0 then
 ((mod? r10.1 r8.1).bind fun q1 =>
 if q1 = 0 then
 ((mod? r10.1 r8.2).bind fun q2 =>
 if q2 = 0 then
 (if r10.1 < 1 then
 (some true)
 else
 some (decide (r10.1 > (w64 (r8.1 * r8.2)))))
 else
 some true)
 else
 some true)
 else
 some false) : Option Bool).bind fun (x2 : Bool) =>
 if x2 then
 (some false)
 else
 onS (S := Unit) (B := Empty) (R := Bool) (if r6.2.2 = 0 then
 ((impl_TurnLoop r5.1 r7.1).bind fun r16 =>
 ((if r16.2 = 0 then
 (some (!(decide ((r16.1.length : Int) = (r5.2.length : Int)))))
 else
 some true) : Option Bool).bind fun (x3 : Bool) =>
 if x3 then
 (some (.ret false))
 else
 onL (loop (S := (Int × Int)) (B := Int) (R := Empty) (fun ((sum1, i1) : Int × Int) =>
 if i1 < (r5.2.length : Int) then
 ((at? r16.1 i1).bind fun v1 =>
 (at? r5.2 i1).bind fun v2 =>
 (laws_f6abs (w64 (v1 - v2))).bind fun r17 =>
 some (.next (w64 (sum1 + r17), w64 (i1 + 1))))
 else
 some (.brk sum1)) loopLim (0, 0))
 (fun (sum2 : Int) => onL (loop (S := (Int × Int)) (B := Int) (R := Empty) (fun ((straight1, i2) : Int × Int) =>
 if i2 < (r5.2.length : Int) then
 ((at? r5.1 i2).bind fun v3 =>
 (at? r5.2 i2).bind fun v4 =>
 (laws_f6abs (w64 (v3 - v4))).bind fun r18 =>
 some (.next (w64 (straight1 + r18), w64 (i2 + 1))))
 else
 some (.brk straight1)) loopLim (0, 0))
 (fun (straight2 : Int) => if sum2 = r7.2.1 then
 (if straight2 < r7.2.1 then
 (some (.ret false))
 else
 some (.next ()))
 else
 some (.ret false)) Empty.elim) Empty.elim)
 else
 some (.next ()))
 (fun (_ : Unit) => if r3.2 = 0 then
 ((laws_f6sum r4.1).bind fun r19 =>
 if r19 = 0 then
 (some (decide ((r4.1.length : Int) = (r2.length : Int))))
 else
 some false)
 else
 some true)
 Empty.elim (fun r => some r)
end Go.Vs.G
