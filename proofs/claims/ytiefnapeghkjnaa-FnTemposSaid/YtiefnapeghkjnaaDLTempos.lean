/- The functions that the law reaches, as typed Lean functions, printed by program. No conditions. -/
import Derived.Test.YtiefnapeghkjnaaV5
set_option maxRecDepth 100000
open Go Go.Vs
namespace Go.Vs.G
structure GFraction where
  Num : Int
  Den : Int
  deriving DecidableEq, Inhabited
structure GL00Src where
  code : List Int
  at_ : Int
  seed : Int
  deriving DecidableEq, Inhabited
structure GPart where
  Bars : Int
  Beats : Int
  Tempo : Int
  deriving DecidableEq, Inhabited
structure GPoint where
  X : Int
  Y : Int
  deriving DecidableEq, Inhabited
def GPart.enc (x : GPart) : Tree := .agg [.int .i64 x.Bars, .int .i64 x.Beats, .int .i64 x.Tempo]
def GFraction.ok (x : GFraction) : Prop := (okI .i64) x.Num ∧ (okI .i64) x.Den
def GL00Src.ok (x : GL00Src) : Prop := (okL (okI .u8)) x.code ∧ (okI .i64) x.at_ ∧ (okI .u64) x.seed
def GPart.ok (x : GPart) : Prop := (okI .i64) x.Bars ∧ (okI .i64) x.Beats ∧ (okI .i64) x.Tempo
def GPoint.ok (x : GPoint) : Prop := (okI .i64) x.X ∧ (okI .i64) x.Y
/-- loop.example/g01063/impl.within -/
def impl_within (n1 : Int) (low1 : Int) (high1 : Int) : Option Bool :=
 if n1 ≥ low1 then
 (some (decide (n1 ≤ high1)))
 else
 some false
/-- loop.example/g01063/impl.BeatAt$1 -/
def impl_BeatAt_1 (x1 : Int) : Option Bool :=
 (impl_within x1 0 100000).bind fun r1 =>
 some r1
/-- loop.example/g01063/impl.validPart -/
def impl_validPart (x1 : GPart) : Option Bool :=
 (impl_within x1.Bars 1 200).bind fun r1 =>
 if r1 then
 ((impl_within x1.Beats 1 12).bind fun r2 =>
 if r2 then
 ((impl_within x1.Tempo 20 300).bind fun r3 =>
 some r3)
 else
 some false)
 else
 some false
/-- loop.example/g01063/impl.ValidPiece$1 -/
def impl_ValidPiece_1 (x1 : GPart) : Option Bool :=
 (impl_validPart x1).bind fun r1 =>
 some (!r1)
/-- slices.IndexFunc[[]loop.example/g01063/impl.Part,loop.example/g01063/impl.Part] -/
def slices_IndexFunc_impl_Part_impl_Part_825 (s1 : List GPart) (f1 : GPart → Option Bool) : Option Int :=
 onL (loop (S := Int) (B := Unit) (R := Int) (fun (x1 : Int) =>
 if x1 < (s1.length : Int) then
 ((at? s1 x1).bind fun v1 =>
 (f1 v1).bind fun r1 =>
 if r1 then
 (some (.ret x1))
 else
 some (.next (w64 (x1 + 1))))
 else
 some (.brk ())) loopLim 0)
 (fun (_ : Unit) => some (-1)) (fun r => some r)
/-- slices.ContainsFunc[[]loop.example/g01063/impl.Part,loop.example/g01063/impl.Part] -/
def slices_ContainsFunc_impl_Part_impl_Part_803 (s1 : List GPart) (f1 : GPart → Option Bool) : Option Bool :=
 (slices_IndexFunc_impl_Part_impl_Part_825 s1 f1).bind fun r1 =>
 some (decide (r1 ≥ 0))
/-- loop.example/g01063/impl.ValidPiece -/
def impl_ValidPiece (list1 : List GPart) : Option Bool :=
 if (list1.length : Int) ≥ 1 then
 (if (list1.length : Int) ≤ 12 then
 ((slices_ContainsFunc_impl_Part_impl_Part_803 list1 (fun a0 => impl_ValidPiece_1 a0)).bind fun r1 =>
 some (!r1))
 else
 some false)
 else
 some false
/-- loop.example/g01063/impl.beginsOf -/
def impl_beginsOf (list1 : List GPart) (units1 : Int) : Option (List Int) :=
 onL (loop (S := ((List Int) × Int × Int)) (B := ((List Int) × Int)) (R := Empty) (fun ((out1, at_1, x1) : (List Int) × Int × Int) =>
 if x1 < (list1.length : Int) then
 ((at? list1 x1).bind fun v1 =>
 onL (loop (S := ((List Int) × Int × Int)) (B := ((List Int) × Int)) (R := Empty) (fun ((out2, at_2, x2) : (List Int) × Int × Int) =>
 if x2 < (w64 (v1.Bars * v1.Beats)) then
 ((app? out2 ([at_2] : List Int)).bind fun l1 =>
 (div? .i64 (w64 (60 * units1)) v1.Tempo).bind fun q1 =>
 some (.next (l1, w64 (at_2 + q1), w64 (x2 + 1))))
 else
 some (.brk (out2, at_2))) loopLim (out1, at_1, 0))
 (fun ((out3, at_3) : (List Int) × Int) => some (.next (out3, at_3, w64 (x1 + 1)))) Empty.elim)
 else
 some (.brk (out1, at_1))) loopLim ([], 0, 0))
 (fun ((out4, at_4) : (List Int) × Int) => (app? out4 ([at_4] : List Int)).bind fun l2 =>
 some l2) Empty.elim
/-- loop.example/g01063/impl.gcd -/
def impl_gcd (a1 : Int) (b1 : Int) : Option Int :=
 onL (loop (S := (Int × Int)) (B := Int) (R := Empty) (fun ((a2, b2) : Int × Int) =>
 if b2 = 0 then
 (some (.brk a2))
 else
 (mod? a2 b2).bind fun q1 =>
 some (.next (b2, q1))) loopLim (a1, b1))
 (fun (a3 : Int) => some (imax a3 (w64 (0 - a3)))) Empty.elim
/-- loop.example/g01063/impl.commonLength -/
def impl_commonLength (a1 : Int) (b1 : Int) : Option Int :=
 (impl_gcd a1 b1).bind fun r1 =>
 (div? .i64 a1 r1).bind fun q1 =>
 some (w64 (q1 * b1))
/-- loop.example/g01063/impl.unitsOf -/
def impl_unitsOf (list1 : List GPart) : Option Int :=
 onL (loop (S := (Int × Int)) (B := Int) (R := Int) (fun ((units1, x1) : Int × Int) =>
 if x1 < (list1.length : Int) then
 ((at? list1 x1).bind fun v1 =>
 (impl_commonLength units1 v1.Tempo).bind fun r1 =>
 if r1 > 100000000 then
 (some (.ret 0))
 else
 some (.next (r1, w64 (x1 + 1))))
 else
 some (.brk units1)) loopLim (1, 0))
 (fun (units2 : Int) => some units2) (fun r => some r)
/-- loop.example/g01063/impl.timesOf -/
def impl_timesOf (list1 : List GPart) (f1 : Option Bool) : Option (Int × (List Int) × Int) :=
 (impl_ValidPiece list1).bind fun r1 =>
 if r1 then
 ((f1 ).bind fun r2 =>
 if r2 then
 ((impl_unitsOf list1).bind fun r3 =>
 if r3 = 0 then
 (some (0, [], 5))
 else
 (impl_beginsOf list1 r3).bind fun r4 =>
 some (r3, r4, 0))
 else
 some (0, [], 2))
 else
 some (0, [], 1)
/-- loop.example/g01063/impl.BeatAt -/
def impl_BeatAt (list1 : List GPart) (second1 : Int) : Option (Int × Int) :=
 (impl_timesOf list1 (impl_BeatAt_1 second1)).bind fun r1 =>
 if r1.2.2 = 0 then
 ((at? r1.2.1 (w64 ((r1.2.1.length : Int) - 1))).bind fun v1 =>
 if (w64 (second1 * r1.1)) ≥ v1 then
 (some (0, 3))
 else
 onL (loop (S := Int) (B := Int) (R := Empty) (fun (k1 : Int) =>
 (at? r1.2.1 (w64 (k1 + 1))).bind fun v2 =>
 if v2 ≤ (w64 (second1 * r1.1)) then
 (some (.next (w64 (k1 + 1))))
 else
 some (.brk k1)) loopLim 0)
 (fun (k2 : Int) => some (k2, 0)) Empty.elim)
 else
 some (0, r1.2.2)
/-- loop.example/g01063/impl.beatsOf -/
def impl_beatsOf (list1 : List GPart) : Option Int :=
 onL (loop (S := (Int × Int)) (B := Int) (R := Empty) (fun ((sum1, x1) : Int × Int) =>
 if x1 < (list1.length : Int) then
 ((at? list1 x1).bind fun v1 =>
 some (.next (w64 (sum1 + (w64 (v1.Bars * v1.Beats))), w64 (x1 + 1))))
 else
 some (.brk sum1)) loopLim (0, 0))
 (fun (sum2 : Int) => some sum2) Empty.elim
/-- loop.example/g01063/impl.BeatsOf -/
def impl_BeatsOf (list1 : List GPart) : Option (Int × Int) :=
 (impl_ValidPiece list1).bind fun r1 =>
 if r1 then
 ((impl_beatsOf list1).bind fun r2 =>
 some (r2, 0))
 else
 some (0, 1)
/-- loop.example/g01063/impl.FitCues$1$1 -/
def impl_FitCues_1_1 (s1 : Int) : Option Bool :=
 (impl_within s1 0 100000).bind fun r1 =>
 some (!r1)
/-- slices.IndexFunc[[]int64,int64] -/
def slices_IndexFunc_int64_int64_818 (s1 : List Int) (f1 : Int → Option Bool) : Option Int :=
 onL (loop (S := Int) (B := Unit) (R := Int) (fun (x1 : Int) =>
 if x1 < (s1.length : Int) then
 ((at? s1 x1).bind fun v1 =>
 (f1 v1).bind fun r1 =>
 if r1 then
 (some (.ret x1))
 else
 some (.next (w64 (x1 + 1))))
 else
 some (.brk ())) loopLim 0)
 (fun (_ : Unit) => some (-1)) (fun r => some r)
/-- slices.ContainsFunc[[]int64,int64] -/
def slices_ContainsFunc_int64_int64_796 (s1 : List Int) (f1 : Int → Option Bool) : Option Bool :=
 (slices_IndexFunc_int64_int64_818 s1 f1).bind fun r1 =>
 some (decide (r1 ≥ 0))
/-- loop.example/g01063/impl.FitCues$1 -/
def impl_FitCues_1 (x1 : List Int) : Option Bool :=
 if (x1.length : Int) ≤ 20 then
 ((slices_ContainsFunc_int64_int64_796 x1 (fun a0 => impl_FitCues_1_1 a0)).bind fun r1 =>
 some (!r1))
 else
 some false
/-- loop.example/g01063/impl.apart -/
def impl_apart (a1 : Int) (b1 : Int) : Option Int :=
 some (imax (w64 (a1 - b1)) (w64 (b1 - a1)))
/-- loop.example/g01063/impl.FitCues -/
def impl_FitCues (list1 : List GPart) (seconds1 : List Int) : Option ((List Int) × Int) :=
 (impl_timesOf list1 (impl_FitCues_1 seconds1)).bind fun r1 =>
 if r1.2.2 = 0 then
 (onL (loop (S := ((List Int) × Int)) (B := (List Int)) (R := Empty) (fun ((out1, x1) : (List Int) × Int) =>
 if x1 < (seconds1.length : Int) then
 ((at? seconds1 x1).bind fun v1 =>
 onL (loop (S := (Int × Int)) (B := Int) (R := Empty) (fun ((best1, x2) : Int × Int) =>
 if x2 < (w64 ((r1.2.1.length : Int) - 1)) then
 ((at? r1.2.1 x2).bind fun v2 =>
 (impl_apart v2 (w64 (v1 * r1.1))).bind fun r2 =>
 (at? r1.2.1 best1).bind fun v3 =>
 (impl_apart v3 (w64 (v1 * r1.1))).bind fun r3 =>
 if r2 < r3 then
 (some (.next (x2, w64 (x2 + 1))))
 else
 some (.next (best1, w64 (x2 + 1))))
 else
 some (.brk best1)) loopLim (0, 0))
 (fun (best2 : Int) => (app? out1 ([best2] : List Int)).bind fun l1 =>
 some (.next (l1, w64 (x1 + 1)))) Empty.elim)
 else
 some (.brk out1)) loopLim ([], 0))
 (fun (out2 : List Int) => some (out2, 0)) Empty.elim)
 else
 some ([], r1.2.2)
/-- loop.example/g01063/impl.LengthOfPiece$1 -/
def impl_LengthOfPiece_1  : Option Bool :=
 some true
/-- loop.example/g01063/impl.lowest -/
def impl_lowest (num1 : Int) (den1 : Int) : Option GFraction :=
 ((if den1 < 0 then
 (some (w64 (0 - num1), w64 (0 - den1)))
 else
 some (num1, den1)) : Option (Int × Int)).bind fun ((num2, den2) : Int × Int) =>
 (impl_gcd num2 den2).bind fun r1 =>
 (div? .i64 num2 r1).bind fun q1 =>
 (div? .i64 den2 r1).bind fun q2 =>
 some (GFraction.mk q1 q2)
/-- loop.example/g01063/impl.LengthOfPiece -/
def impl_LengthOfPiece (list1 : List GPart) : Option (GFraction × Int) :=
 (impl_timesOf list1 (impl_LengthOfPiece_1 )).bind fun r1 =>
 if r1.2.2 = 0 then
 ((at? r1.2.1 (w64 ((r1.2.1.length : Int) - 1))).bind fun v1 =>
 (impl_lowest v1 r1.1).bind fun r2 =>
 some (r2, 0))
 else
 some ((GFraction.mk 0 0), r1.2.2)
/-- loop.example/g01063/impl.TempoFor -/
def impl_TempoFor (x1 : GPart) (seconds1 : Int) : Option (Int × Int) :=
 (impl_validPart x1).bind fun r1 =>
 if r1 then
 ((impl_within seconds1 1 100000).bind fun r2 =>
 if r2 then
 (onL (loop (S := Int) (B := Unit) (R := (Int × Int)) (fun (tempo1 : Int) =>
 if tempo1 ≤ 300 then
 (if (w64 ((w64 (x1.Bars * x1.Beats)) * 60)) ≤ (w64 (seconds1 * tempo1)) then
 (some (.ret (tempo1, 0)))
 else
 some (.next (w64 (tempo1 + 1))))
 else
 some (.brk ())) loopLim 20)
 (fun (_ : Unit) => some (0, 3)) (fun r => some r))
 else
 some (0, 2))
 else
 some (0, 1)
/-- loop.example/g01063/impl.TimeOfBeat$1 -/
def impl_TimeOfBeat_1 (x1 : Int) (x2 : List GPart) : Option Bool :=
 (impl_beatsOf x2).bind fun r1 =>
 (impl_within x1 0 (w64 (r1 - 1))).bind fun r2 =>
 some r2
/-- loop.example/g01063/impl.TimeOfBeat -/
def impl_TimeOfBeat (list1 : List GPart) (beat1 : Int) : Option (GFraction × Int) :=
 (impl_timesOf list1 (impl_TimeOfBeat_1 beat1 list1)).bind fun r1 =>
 if r1.2.2 = 0 then
 ((at? r1.2.1 beat1).bind fun v1 =>
 (impl_lowest v1 r1.1).bind fun r2 =>
 some (r2, 0))
 else
 some ((GFraction.mk 0 0), r1.2.2)
/-- loop.example/g01063/laws.f6big -/
def laws_f6big (code1 : List Int) : Option Bool :=
 some (decide ((code1.length : Int) > 4096))
/-- loop.example/g01063/laws.f6ints -/
def laws_f6ints (a1 : List Int) (b1 : List Int) : Option Bool :=
 if (a1.length : Int) = (b1.length : Int) then
 (onL (loop (S := Int) (B := Unit) (R := Bool) (fun (i1 : Int) =>
 if i1 < (a1.length : Int) then
 ((at? a1 i1).bind fun v1 =>
 (at? b1 i1).bind fun v2 =>
 if v1 = v2 then
 (some (.next (w64 (i1 + 1))))
 else
 some (.ret false))
 else
 some (.brk ())) loopLim 0)
 (fun (_ : Unit) => some true) (fun r => some r))
 else
 some false
/-- loop.example/g01063/spec.l00In -/
def spec_l00In (n1 : Int) (low1 : Int) (high1 : Int) : Option Bool :=
 if n1 ≥ low1 then
 (some (decide (n1 ≤ high1)))
 else
 some false
/-- loop.example/g01063/spec.l19Beats -/
def spec_l19Beats (list1 : List GPart) : Option Int :=
 onL (loop (S := (Int × Int)) (B := Int) (R := Empty) (fun ((sum1, i1) : Int × Int) =>
 if i1 < (list1.length : Int) then
 ((at? list1 i1).bind fun v1 =>
 (at? list1 i1).bind fun v2 =>
 some (.next (w64 (sum1 + (w64 (v1.Bars * v2.Beats))), w64 (i1 + 1))))
 else
 some (.brk sum1)) loopLim (0, 0))
 (fun (sum2 : Int) => some sum2) Empty.elim
/-- loop.example/g01063/spec.l19One -/
def spec_l19One (x1 : GPart) : Option Bool :=
 (spec_l00In x1.Bars 1 200).bind fun r1 =>
 if r1 then
 ((spec_l00In x1.Beats 1 12).bind fun r2 =>
 if r2 then
 ((spec_l00In x1.Tempo 20 300).bind fun r3 =>
 some r3)
 else
 some false)
 else
 some false
/-- loop.example/g01063/spec.l19Ok -/
def spec_l19Ok (list1 : List GPart) : Option Bool :=
 onL (loop (S := Int) (B := Unit) (R := Bool) (fun (i1 : Int) =>
 if i1 < (list1.length : Int) then
 ((at? list1 i1).bind fun v1 =>
 (spec_l19One v1).bind fun r1 =>
 if r1 then
 (some (.next (w64 (i1 + 1))))
 else
 some (.ret false))
 else
 some (.brk ())) loopLim 0)
 (fun (_ : Unit) => (spec_l00In (list1.length : Int) 1 12).bind fun r2 =>
 some r2) (fun r => some r)
/-- loop.example/g01063/spec.l00Gcd -/
def spec_l00Gcd (a1 : Int) (b1 : Int) : Option Int :=
 onL (loop (S := (Int × Int)) (B := Int) (R := Empty) (fun ((a2, b2) : Int × Int) =>
 if b2 = 0 then
 (some (.brk a2))
 else
 (mod? a2 b2).bind fun q1 =>
 some (.next (b2, q1))) loopLim (a1, b1))
 (fun (a3 : Int) => some a3) Empty.elim
/-- loop.example/g01063/spec.l19Parts -/
def spec_l19Parts (list1 : List GPart) : Option Int :=
 onL (loop (S := (Int × Int)) (B := Int) (R := Int) (fun ((n1, i1) : Int × Int) =>
 if i1 < (list1.length : Int) then
 ((at? list1 i1).bind fun v1 =>
 (spec_l00Gcd n1 v1.Tempo).bind fun r1 =>
 (div? .i64 n1 r1).bind fun q1 =>
 (at? list1 i1).bind fun v2 =>
 if (w64 (q1 * v2.Tempo)) > 100000000 then
 (some (.ret 0))
 else
 some (.next (w64 (q1 * v2.Tempo), w64 (i1 + 1))))
 else
 some (.brk n1)) loopLim (1, 0))
 (fun (n2 : Int) => some n2) (fun r => some r)
/-- loop.example/g01063/spec.l00Min -/
def spec_l00Min (a1 : Int) (b1 : Int) : Option Int :=
 if a1 < b1 then
 (some a1)
 else
 some b1
/-- loop.example/g01063/spec.l19Units -/
def spec_l19Units (list1 : List GPart) (beat1 : Int) (parts1 : Int) : Option Int :=
 onL (loop (S := (Int × Int × Int)) (B := Int) (R := Empty) (fun ((beat2, sum1, i1) : Int × Int × Int) =>
 ((if i1 < (list1.length : Int) then
 (some (decide (beat2 > 0)))
 else
 some false) : Option Bool).bind fun (x1 : Bool) =>
 if x1 then
 ((at? list1 i1).bind fun v1 =>
 (at? list1 i1).bind fun v2 =>
 (spec_l00Min beat2 (w64 (v1.Bars * v2.Beats))).bind fun r1 =>
 (at? list1 i1).bind fun v3 =>
 (div? .i64 (w64 (60 * parts1)) v3.Tempo).bind fun q1 =>
 some (.next (w64 (beat2 - r1), w64 (sum1 + (w64 (r1 * q1))), w64 (i1 + 1))))
 else
 some (.brk sum1)) loopLim (beat1, 0, 0))
 (fun (sum2 : Int) => some sum2) Empty.elim
/-- loop.example/g01063/spec.BeatAt -/
def spec_BeatAt (list1 : List GPart) (second1 : Int) : Option (Int × Int) :=
 (spec_l19Ok list1).bind fun r1 =>
 if r1 then
 ((spec_l00In second1 0 100000).bind fun r2 =>
 if r2 then
 ((spec_l19Parts list1).bind fun r3 =>
 if r3 = 0 then
 (some (0, 5))
 else
 (spec_l19Beats list1).bind fun r4 =>
 (spec_l19Units list1 r4 r3).bind fun r5 =>
 if r5 ≤ (w64 (second1 * r3)) then
 (some (0, 3))
 else
 onL (loop (S := (Int × Int)) (B := Int) (R := Empty) (fun ((low1, high1) : Int × Int) =>
 if (w64 (high1 - low1)) > 1 then
 ((spec_l19Units list1 (w64 ((w64 (low1 + high1)).tdiv 2)) r3).bind fun r6 =>
 if r6 ≤ (w64 (second1 * r3)) then
 (some (.next (w64 ((w64 (low1 + high1)).tdiv 2), high1)))
 else
 some (.next (low1, w64 ((w64 (low1 + high1)).tdiv 2))))
 else
 some (.brk low1)) loopLim (0, r4))
 (fun (low2 : Int) => some (low2, 0)) Empty.elim)
 else
 some (0, 2))
 else
 some (0, 1)
/-- loop.example/g01063/spec.l00From -/
def spec_l00From (code1 : List Int) : Option GL00Src :=
 some (GL00Src.mk code1 0 0)
/-- (*loop.example/g01063/spec.l00Src).next -/
def spec_l00Src_next (s1 : GL00Src) : Option (Int × GL00Src) :=
 ((if s1.at_ < (s1.code.length : Int) then
 ((at? s1.code s1.at_).bind fun v1 =>
 some (w64 (v1)))
 else
 some 0) : Option Int).bind fun (b1 : Int) =>
 if (w64 (s1.at_ + 1)) ≤ (s1.code.length : Int) then
 (some (b1, (GL00Src.mk s1.code (w64 (s1.at_ + 1)) (IntKind.wrap .u64 ((IntKind.wrap .u64 ((IntKind.wrap .u64 (s1.seed * 6364136223846793005)) + (IntKind.wrap .u64 (b1)))) + 1442695040888963407)))))
 else
 (shr? .u64 (IntKind.wrap .u64 ((IntKind.wrap .u64 ((IntKind.wrap .u64 (s1.seed * 6364136223846793005)) + (IntKind.wrap .u64 (b1)))) + 1442695040888963407)) 40).bind fun q1 =>
 some (w64 (bit_and .u64 q1 255), (GL00Src.mk s1.code (w64 (s1.at_ + 1)) (IntKind.wrap .u64 ((IntKind.wrap .u64 ((IntKind.wrap .u64 (s1.seed * 6364136223846793005)) + (IntKind.wrap .u64 (b1)))) + 1442695040888963407))))
/-- (*loop.example/g01063/spec.l00Src).pick -/
def spec_l00Src_pick (s1 : GL00Src) (n1 : Int) : Option (Int × GL00Src) :=
 if n1 ≤ 1 then
 (some (0, s1))
 else
 (spec_l00Src_next s1).bind fun r1 =>
 if n1 > 200 then
 ((spec_l00Src_next r1.2).bind fun r2 =>
 (mod? (w64 ((w64 (r1.1 * 256)) + r2.1)) n1).bind fun q1 =>
 some (q1, r2.2))
 else
 (mod? r1.1 n1).bind fun q2 =>
 some (q2, r1.2)
/-- (*loop.example/g01063/spec.l00Src).among -/
def spec_l00Src_among (s1 : GL00Src) (list1 : List Int) : Option (Int × GL00Src) :=
 (spec_l00Src_pick s1 (list1.length : Int)).bind fun r1 =>
 (at? list1 r1.1).bind fun v1 =>
 some (v1, r1.2)
/-- (*loop.example/g01063/spec.l00Src).one -/
def spec_l00Src_one (s1 : GL00Src) (n1 : Int) : Option (Bool × GL00Src) :=
 (spec_l00Src_pick s1 n1).bind fun r1 =>
 some ((decide (r1.1 = 0)), r1.2)
/-- loop.example/g01063/spec.l19New -/
def spec_l19New (s1 : GL00Src) : Option (GPart × GL00Src) :=
 (spec_l00Src_pick s1 12).bind fun r1 =>
 (spec_l00Src_among r1.2 [2, 3, 4, 6]).bind fun r2 =>
 (spec_l00Src_among r2.2 [60, 72, 80, 90, 100, 120, 132, 144]).bind fun r3 =>
 some ((GPart.mk (w64 (1 + r1.1)) r2.1 r3.1), r3.2)
/-- loop.example/g01063/spec.l19Spoil -/
def spec_l19Spoil (s1 : GL00Src) (x1 : GPart) : Option (GL00Src × GPart) :=
 (spec_l00Src_pick s1 3).bind fun r1 =>
 if r1.1 = 0 then
 ((spec_l00Src_among r1.2 [(-1), 0, 1, 200, 201, (-9223372036854775808)]).bind fun r2 =>
 some (r2.2, (GPart.mk r2.1 x1.Beats x1.Tempo)))
 else
 if r1.1 = 1 then
 ((spec_l00Src_among r1.2 [(-1), 0, 1, 12, 13]).bind fun r3 =>
 some (r3.2, (GPart.mk x1.Bars r3.1 x1.Tempo)))
 else
 if r1.1 = 2 then
 ((spec_l00Src_among r1.2 [(-1), 19, 20, 300, 301]).bind fun r4 =>
 some (r4.2, (GPart.mk x1.Bars x1.Beats r4.1)))
 else
 some (r1.2, x1)
/-- loop.example/g01063/spec.l19Draw -/
def spec_l19Draw (s1 : GL00Src) : Option ((List GPart) × GL00Src) :=
 (spec_l00Src_pick s1 4).bind fun r1 =>
 (spec_l00Src_one r1.2 20).bind fun r2 =>
 ((if r2.1 then
 ((spec_l00Src_among r2.2 [0, 12, 13]).bind fun r3 =>
 some (r3.2, r3.1))
 else
 some (r2.2, w64 (1 + r1.1))) : Option (GL00Src × Int)).bind fun ((s2, n1) : GL00Src × Int) =>
 onL (loop (S := (GL00Src × (List GPart) × Int)) (B := (GL00Src × (List GPart))) (R := Empty) (fun ((s3, out1, k1) : GL00Src × (List GPart) × Int) =>
 if k1 > 0 then
 ((spec_l19New s3).bind fun r4 =>
 (app? out1 ([r4.1] : List GPart)).bind fun l1 =>
 some (.next (r4.2, l1, w64 (k1 - 1))))
 else
 some (.brk (s3, out1))) loopLim (s2, [], n1))
 (fun ((s4, out2) : GL00Src × (List GPart)) => (spec_l00Src_one s4 24).bind fun r5 =>
 ((if r5.1 then
 (some [(GPart.mk 1 1 293), (GPart.mk 1 1 283), (GPart.mk 1 1 281), (GPart.mk 1 1 277)])
 else
 some out2) : Option (List GPart)).bind fun (out3 : List GPart) =>
 ((if (out3.length : Int) > 0 then
 ((spec_l00Src_one r5.2 12).bind fun r6 =>
 some (r6.2, r6.1))
 else
 some (r5.2, false)) : Option (GL00Src × Bool)).bind fun ((s5, x1) : GL00Src × Bool) =>
 if x1 then
 ((at? out3 0).bind fun v1 =>
 (spec_l19Spoil s5 v1).bind fun r7 =>
 some (out3.set 0 r7.2, r7.1))
 else
 some (out3, s5)) Empty.elim
/-- loop.example/g01063/spec.l19Second -/
def spec_l19Second (s1 : GL00Src) : Option (Int × GL00Src) :=
 (spec_l00Src_one s1 10).bind fun r1 =>
 if r1.1 then
 ((spec_l00Src_among r1.2 [(-1), 0, 100000, 100001, (-9223372036854775808)]).bind fun r2 =>
 some (r2.1, r2.2))
 else
 (spec_l00Src_pick r1.2 60).bind fun r3 =>
 some (r3.1, r3.2)
/-- loop.example/g01063/spec.DrawBeatAt -/
def spec_DrawBeatAt (code1 : List Int) : Option ((List GPart) × Int) :=
 (spec_l00From code1).bind fun r1 =>
 (spec_l19Draw r1).bind fun r2 =>
 (spec_l19Second r2.2).bind fun r3 =>
 some (r2.1, r3.1)
/-- loop.example/g01063/spec.DrawFitCues -/
def spec_DrawFitCues (code1 : List Int) : Option ((List GPart) × (List Int)) :=
 (spec_l00From code1).bind fun r1 =>
 (spec_l19Draw r1).bind fun r2 =>
 (spec_l00Src_pick r2.2 6).bind fun r3 =>
 (spec_l00Src_one r3.2 16).bind fun r4 =>
 ((if r4.1 then
 ((spec_l00Src_pick r4.2 2).bind fun r5 =>
 some (r5.2, w64 (20 + r5.1)))
 else
 some (r4.2, r3.1)) : Option (GL00Src × Int)).bind fun ((s1, n1) : GL00Src × Int) =>
 onL (loop (S := (GL00Src × (List Int) × Int)) (B := (GL00Src × (List Int))) (R := Empty) (fun ((s2, out1, k1) : GL00Src × (List Int) × Int) =>
 if k1 > 0 then
 ((spec_l00Src_pick s2 60).bind fun r6 =>
 (app? out1 ([r6.1] : List Int)).bind fun l1 =>
 some (.next (r6.2, l1, w64 (k1 - 1))))
 else
 some (.brk (s2, out1))) loopLim (s1, [], n1))
 (fun ((s3, out2) : GL00Src × (List Int)) => ((if n1 > 0 then
 ((spec_l00Src_one s3 8).bind fun r7 =>
 some (r7.2, r7.1))
 else
 some (s3, false)) : Option (GL00Src × Bool)).bind fun ((s4, x1) : GL00Src × Bool) =>
 if x1 then
 ((spec_l19Second s4).bind fun r8 =>
 (at? out2 0).bind fun v1 =>
 some (r2.1, out2.set ((0 : Int).toNat) r8.1))
 else
 some (r2.1, out2)) Empty.elim
/-- loop.example/g01063/spec.DrawTempoFor -/
def spec_DrawTempoFor (code1 : List Int) : Option (GPart × Int) :=
 (spec_l00From code1).bind fun r1 =>
 (spec_l19New r1).bind fun r2 =>
 (spec_l00Src_one r2.2 8).bind fun r3 =>
 if r3.1 then
 ((spec_l19Spoil r3.2 r2.1).bind fun r4 =>
 (spec_l19Second r4.1).bind fun r5 =>
 some (r4.2, r5.1))
 else
 (spec_l19Second r3.2).bind fun r6 =>
 some (r2.1, r6.1)
/-- loop.example/g01063/spec.FitCues -/
def spec_FitCues (list1 : List GPart) (seconds1 : List Int) : Option ((List Int) × Int) :=
 (spec_l19Ok list1).bind fun r1 =>
 if r1 then
 (onL (loop (S := Int) (B := Unit) (R := ((List Int) × Int)) (fun (i1 : Int) =>
 if i1 < (seconds1.length : Int) then
 ((at? seconds1 i1).bind fun v1 =>
 (spec_l00In v1 0 100000).bind fun r2 =>
 if r2 then
 (some (.next (w64 (i1 + 1))))
 else
 some (.ret ([], 2)))
 else
 some (.brk ())) loopLim 0)
 (fun (_ : Unit) => if (seconds1.length : Int) > 20 then
 (some ([], 2))
 else
 (spec_l19Parts list1).bind fun r3 =>
 if r3 = 0 then
 (some ([], 5))
 else
 (spec_l19Beats list1).bind fun r4 =>
 onL (loop (S := ((List Int) × Int)) (B := (List Int)) (R := Empty) (fun ((out1, i2) : (List Int) × Int) =>
 if i2 < (seconds1.length : Int) then
 (onL (loop (S := (Int × Int)) (B := Int) (R := Empty) (fun ((low1, high1) : Int × Int) =>
 if (w64 (high1 - low1)) > 1 then
 ((spec_l19Units list1 (w64 ((w64 (low1 + high1)).tdiv 2)) r3).bind fun r5 =>
 (at? seconds1 i2).bind fun v2 =>
 if r5 ≤ (w64 (v2 * r3)) then
 (some (.next (w64 ((w64 (low1 + high1)).tdiv 2), high1)))
 else
 some (.next (low1, w64 ((w64 (low1 + high1)).tdiv 2))))
 else
 some (.brk low1)) loopLim (0, r4))
 (fun (low2 : Int) => (at? seconds1 i2).bind fun v3 =>
 (spec_l19Units list1 low2 r3).bind fun r6 =>
 ((if (w64 (low2 + 1)) < r4 then
 ((spec_l19Units list1 (w64 (low2 + 1)) r3).bind fun r7 =>
 (at? seconds1 i2).bind fun v4 =>
 some (decide ((w64 (r7 - (w64 (v4 * r3)))) < (w64 ((w64 (v3 * r3)) - r6)))))
 else
 some false) : Option Bool).bind fun (x1 : Bool) =>
 ((if x1 then
 (some (w64 (low2 + 1)))
 else
 some low2) : Option Int).bind fun (low3 : Int) =>
 (app? out1 ([low3] : List Int)).bind fun l1 =>
 some (.next (l1, w64 (i2 + 1)))) Empty.elim)
 else
 some (.brk out1)) loopLim ([], 0))
 (fun (out2 : List Int) => some (out2, 0)) Empty.elim) (fun r => some r))
 else
 some ([], 1)
/-- loop.example/g01063/spec.l00Size -/
def spec_l00Size (n1 : Int) : Option Int :=
 if n1 < 0 then
 (some (w64 (0 - n1)))
 else
 some n1
/-- loop.example/g01063/spec.l02Make -/
def spec_l02Make (num1 : Int) (den1 : Int) : Option GFraction :=
 (spec_l00Size num1).bind fun r1 =>
 (spec_l00Gcd r1 den1).bind fun r2 =>
 (div? .i64 num1 r2).bind fun q1 =>
 (div? .i64 den1 r2).bind fun q2 =>
 some (GFraction.mk q1 q2)
/-- loop.example/g01063/spec.LengthOfPiece -/
def spec_LengthOfPiece (list1 : List GPart) : Option (GFraction × Int) :=
 (spec_l19Ok list1).bind fun r1 =>
 if r1 then
 ((spec_l19Parts list1).bind fun r2 =>
 if r2 = 0 then
 (some ((GFraction.mk 0 0), 5))
 else
 (spec_l19Beats list1).bind fun r3 =>
 (spec_l19Units list1 r3 r2).bind fun r4 =>
 (spec_l02Make r4 r2).bind fun r5 =>
 some (r5, 0))
 else
 some ((GFraction.mk 0 0), 1)
/-- loop.example/g01063/spec.TempoFor -/
def spec_TempoFor (x1 : GPart) (seconds1 : Int) : Option (Int × Int) :=
 (spec_l19One x1).bind fun r1 =>
 if r1 then
 ((spec_l00In seconds1 1 100000).bind fun r2 =>
 if r2 then
 (onL (loop (S := Int) (B := Unit) (R := (Int × Int)) (fun (tempo1 : Int) =>
 if tempo1 ≤ 300 then
 (if (w64 ((w64 (60 * x1.Bars)) * x1.Beats)) ≤ (w64 (seconds1 * tempo1)) then
 (some (.ret (tempo1, 0)))
 else
 some (.next (w64 (tempo1 + 1))))
 else
 some (.brk ())) loopLim 20)
 (fun (_ : Unit) => some (0, 3)) (fun r => some r))
 else
 some (0, 2))
 else
 some (0, 1)
/-- loop.example/g01063/laws.FnTempos -/
def laws_FnTempos (code1 : List Int) : Option Bool :=
 (laws_f6big code1).bind fun r1 =>
 if r1 then
 (some true)
 else
 (spec_DrawBeatAt code1).bind fun r2 =>
 (impl_BeatAt r2.1 r2.2).bind fun r3 =>
 (spec_BeatAt r2.1 r2.2).bind fun r4 =>
 (impl_LengthOfPiece r2.1).bind fun r5 =>
 (spec_LengthOfPiece r2.1).bind fun r6 =>
 (spec_DrawTempoFor code1).bind fun r7 =>
 (impl_TempoFor r7.1 r7.2).bind fun r8 =>
 (spec_TempoFor r7.1 r7.2).bind fun r9 =>
 (spec_DrawFitCues code1).bind fun r10 =>
 (impl_FitCues r10.1 r10.2).bind fun r11 =>
 (spec_FitCues r10.1 r10.2).bind fun r12 =>
 ((if r3.2 = r4.2 then
 (if r3.1 = r4.1 then
 (if r5.2 = r6.2 then
 (if (r5.1.Num == r6.1.Num && (r5.1.Den == r6.1.Den && true)) then
 (if r8.2 = r9.2 then
 (if r8.1 = r9.1 then
 (if r11.2 = r12.2 then
 ((laws_f6ints r11.1 r12.1).bind fun r13 =>
 some (!r13))
 else
 some true)
 else
 some true)
 else
 some true)
 else
 some true)
 else
 some true)
 else
 some true)
 else
 some true) : Option Bool).bind fun (x1 : Bool) =>
 if x1 then
 (some false)
 else
 onS (S := Unit) (B := Empty) (R := Bool) (if r8.2 = 0 then
 ((impl_LengthOfPiece [(GPart.mk r7.1.Bars r7.1.Beats r9.1)]).bind fun r14 =>
 if r14.2 = 0 then
 (if r14.1.Den < 1 then
 (some (.ret false))
 else
 if r14.1.Den > 300 then
 (some (.ret false))
 else
 if r14.1.Num > (w64 (r7.2 * r14.1.Den)) then
 (some (.ret false))
 else
 some (.next ()))
 else
 some (.ret false))
 else
 some (.next ()))
 (fun (_ : Unit) => ((if r11.2 = 0 then
 (some (!(decide ((r12.1.length : Int) = (r10.2.length : Int)))))
 else
 some false) : Option Bool).bind fun (x2 : Bool) =>
 if x2 then
 (some false)
 else
 if r3.2 = 0 then
 ((impl_TimeOfBeat r2.1 r4.1).bind fun r15 =>
 ((if r15.2 = 0 then
 (if r15.1.Den < 1 then
 (some true)
 else
 if r15.1.Den > 100000000 then
 (some true)
 else
 if r15.1.Num > (w64 (r2.2 * r15.1.Den)) then
 (some true)
 else
 some (decide (r6.1.Num ≤ (w64 (r2.2 * r6.1.Den)))))
 else
 some true) : Option Bool).bind fun (x3 : Bool) =>
 if x3 then
 (some false)
 else
 (impl_BeatsOf r2.1).bind fun r16 =>
 ((if r16.2 = 0 then
 (some (decide ((w64 (r4.1 + 1)) ≥ r16.1)))
 else
 some true) : Option Bool).bind fun (x4 : Bool) =>
 if x4 then
 (some (decide (r16.2 = 0)))
 else
 (impl_TimeOfBeat r2.1 (w64 (r4.1 + 1))).bind fun r17 =>
 if r17.2 = 0 then
 (if r17.1.Den ≥ 1 then
 (if r17.1.Den ≤ 100000000 then
 (some (decide (r17.1.Num > (w64 (r2.2 * r17.1.Den)))))
 else
 some false)
 else
 some false)
 else
 some false)
 else
 ((if r3.2 = 3 then
 (some (decide (r6.1.Num ≤ (w64 (r2.2 * r6.1.Den)))))
 else
 some true) : Option Bool).bind fun (x5 : Bool) =>
 some x5)
 Empty.elim (fun r => some r)
end Go.Vs.G
