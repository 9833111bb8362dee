/- The functions that the law reaches, as typed Lean functions, printed by program. No conditions. -/
import Derived.Test.YtglbcomjdcbbaaaDoorV5
set_option maxRecDepth 100000
open Go Go.Vs
namespace Go.Vs.G
structure GFraction where
  Num : Int
  Den : Int
  deriving DecidableEq, Inhabited
structure GL00Src where
  code : List Int
  at_ : Int
  seed : Int
  deriving DecidableEq, Inhabited
structure GPart where
  Bars : Int
  Beats : Int
  Tempo : Int
  deriving DecidableEq, Inhabited
structure GPoint where
  X : Int
  Y : Int
  deriving DecidableEq, Inhabited
def GPart.enc (x : GPart) : Tree := .agg [.int .i64 x.Bars, .int .i64 x.Beats, .int .i64 x.Tempo]
def GFraction.ok (x : GFraction) : Prop := (okI .i64) x.Num ∧ (okI .i64) x.Den
def GL00Src.ok (x : GL00Src) : Prop := (okL (okI .u8)) x.code ∧ (okI .i64) x.at_ ∧ (okI .u64) x.seed
def GPart.ok (x : GPart) : Prop := (okI .i64) x.Bars ∧ (okI .i64) x.Beats ∧ (okI .i64) x.Tempo
def GPoint.ok (x : GPoint) : Prop := (okI .i64) x.X ∧ (okI .i64) x.Y
/-- loop.example/g01063/impl.within -/
def impl_within (n1 : Int) (low1 : Int) (high1 : Int) : Option Bool :=
 if n1 ≥ low1 then
 (some (decide (n1 ≤ high1)))
 else
 some false
/-- loop.example/g01063/impl.validPart -/
def impl_validPart (x1 : GPart) : Option Bool :=
 (impl_within x1.Bars 1 200).bind fun r1 =>
 if r1 then
 ((impl_within x1.Beats 1 12).bind fun r2 =>
 if r2 then
 ((impl_within x1.Tempo 20 300).bind fun r3 =>
 some r3)
 else
 some false)
 else
 some false
/-- loop.example/g01063/impl.ValidPiece$1 -/
def impl_ValidPiece_1 (x1 : GPart) : Option Bool :=
 (impl_validPart x1).bind fun r1 =>
 some (!r1)
/-- slices.IndexFunc[[]loop.example/g01063/impl.Part,loop.example/g01063/impl.Part] -/
def slices_IndexFunc_impl_Part_impl_Part_825 (s1 : List GPart) (f1 : GPart → Option Bool) : Option Int :=
 onL (loop (S := Int) (B := Unit) (R := Int) (fun (x1 : Int) =>
 if x1 < (s1.length : Int) then
 ((at? s1 x1).bind fun v1 =>
 (f1 v1).bind fun r1 =>
 if r1 then
 (some (.ret x1))
 else
 some (.next (w64 (x1 + 1))))
 else
 some (.brk ())) loopLim 0)
 (fun (_ : Unit) => some (-1)) (fun r => some r)
/-- slices.ContainsFunc[[]loop.example/g01063/impl.Part,loop.example/g01063/impl.Part] -/
def slices_ContainsFunc_impl_Part_impl_Part_803 (s1 : List GPart) (f1 : GPart → Option Bool) : Option Bool :=
 (slices_IndexFunc_impl_Part_impl_Part_825 s1 f1).bind fun r1 =>
 some (decide (r1 ≥ 0))
/-- loop.example/g01063/impl.ValidPiece -/
def impl_ValidPiece (list1 : List GPart) : Option Bool :=
 if (list1.length : Int) ≥ 1 then
 (if (list1.length : Int) ≤ 12 then
 ((slices_ContainsFunc_impl_Part_impl_Part_803 list1 (fun a0 => impl_ValidPiece_1 a0)).bind fun r1 =>
 some (!r1))
 else
 some false)
 else
 some false
/-- loop.example/g01063/impl.beatsOf -/
def impl_beatsOf (list1 : List GPart) : Option Int :=
 onL (loop (S := (Int × Int)) (B := Int) (R := Empty) (fun ((sum1, x1) : Int × Int) =>
 if x1 < (list1.length : Int) then
 ((at? list1 x1).bind fun v1 =>
 some (.next (w64 (sum1 + (w64 (v1.Bars * v1.Beats))), w64 (x1 + 1))))
 else
 some (.brk sum1)) loopLim (0, 0))
 (fun (sum2 : Int) => some sum2) Empty.elim
/-- loop.example/g01063/impl.BeatsOf -/
def impl_BeatsOf (list1 : List GPart) : Option (Int × Int) :=
 (impl_ValidPiece list1).bind fun r1 =>
 if r1 then
 ((impl_beatsOf list1).bind fun r2 =>
 some (r2, 0))
 else
 some (0, 1)
/-- loop.example/g01063/impl.TimeOfBeat$1 -/
def impl_TimeOfBeat_1 (x1 : Int) (x2 : List GPart) : Option Bool :=
 (impl_beatsOf x2).bind fun r1 =>
 (impl_within x1 0 (w64 (r1 - 1))).bind fun r2 =>
 some r2
/-- loop.example/g01063/impl.gcd -/
def impl_gcd (a1 : Int) (b1 : Int) : Option Int :=
 onL (loop (S := (Int × Int)) (B := Int) (R := Empty) (fun ((a2, b2) : Int × Int) =>
 if b2 = 0 then
 (some (.brk a2))
 else
 (mod? a2 b2).bind fun q1 =>
 some (.next (b2, q1))) loopLim (a1, b1))
 (fun (a3 : Int) => some (imax a3 (w64 (0 - a3)))) Empty.elim
/-- loop.example/g01063/impl.lowest -/
def impl_lowest (num1 : Int) (den1 : Int) : Option GFraction :=
 ((if den1 < 0 then
 (some (w64 (0 - num1), w64 (0 - den1)))
 else
 some (num1, den1)) : Option (Int × Int)).bind fun ((num2, den2) : Int × Int) =>
 (impl_gcd num2 den2).bind fun r1 =>
 (div? .i64 num2 r1).bind fun q1 =>
 (div? .i64 den2 r1).bind fun q2 =>
 some (GFraction.mk q1 q2)
/-- loop.example/g01063/impl.beginsOf -/
def impl_beginsOf (list1 : List GPart) (units1 : Int) : Option (List Int) :=
 onL (loop (S := ((List Int) × Int × Int)) (B := ((List Int) × Int)) (R := Empty) (fun ((out1, at_1, x1) : (List Int) × Int × Int) =>
 if x1 < (list1.length : Int) then
 ((at? list1 x1).bind fun v1 =>
 onL (loop (S := ((List Int) × Int × Int)) (B := ((List Int) × Int)) (R := Empty) (fun ((out2, at_2, x2) : (List Int) × Int × Int) =>
 if x2 < (w64 (v1.Bars * v1.Beats)) then
 ((app? out2 ([at_2] : List Int)).bind fun l1 =>
 (div? .i64 (w64 (60 * units1)) v1.Tempo).bind fun q1 =>
 some (.next (l1, w64 (at_2 + q1), w64 (x2 + 1))))
 else
 some (.brk (out2, at_2))) loopLim (out1, at_1, 0))
 (fun ((out3, at_3) : (List Int) × Int) => some (.next (out3, at_3, w64 (x1 + 1)))) Empty.elim)
 else
 some (.brk (out1, at_1))) loopLim ([], 0, 0))
 (fun ((out4, at_4) : (List Int) × Int) => (app? out4 ([at_4] : List Int)).bind fun l2 =>
 some l2) Empty.elim
/-- loop.example/g01063/impl.commonLength -/
def impl_commonLength (a1 : Int) (b1 : Int) : Option Int :=
 (impl_gcd a1 b1).bind fun r1 =>
 (div? .i64 a1 r1).bind fun q1 =>
 some (w64 (q1 * b1))
/-- loop.example/g01063/impl.unitsOf -/
def impl_unitsOf (list1 : List GPart) : Option Int :=
 onL (loop (S := (Int × Int)) (B := Int) (R := Int) (fun ((units1, x1) : Int × Int) =>
 if x1 < (list1.length : Int) then
 ((at? list1 x1).bind fun v1 =>
 (impl_commonLength units1 v1.Tempo).bind fun r1 =>
 if r1 > 100000000 then
 (some (.ret 0))
 else
 some (.next (r1, w64 (x1 + 1))))
 else
 some (.brk units1)) loopLim (1, 0))
 (fun (units2 : Int) => some units2) (fun r => some r)
/-- loop.example/g01063/impl.timesOf -/
def impl_timesOf (list1 : List GPart) (f1 : Option Bool) : Option (Int × (List Int) × Int) :=
 (impl_ValidPiece list1).bind fun r1 =>
 if r1 then
 ((f1 ).bind fun r2 =>
 if r2 then
 ((impl_unitsOf list1).bind fun r3 =>
 if r3 = 0 then
 (some (0, [], 5))
 else
 (impl_beginsOf list1 r3).bind fun r4 =>
 some (r3, r4, 0))
 else
 some (0, [], 2))
 else
 some (0, [], 1)
/-- loop.example/g01063/impl.TimeOfBeat -/
def impl_TimeOfBeat (list1 : List GPart) (beat1 : Int) : Option (GFraction × Int) :=
 (impl_timesOf list1 (impl_TimeOfBeat_1 beat1 list1)).bind fun r1 =>
 if r1.2.2 = 0 then
 ((at? r1.2.1 beat1).bind fun v1 =>
 (impl_lowest v1 r1.1).bind fun r2 =>
 some (r2, 0))
 else
 some ((GFraction.mk 0 0), r1.2.2)
/-- loop.example/g01063/laws.f6big -/
def laws_f6big (code1 : List Int) : Option Bool :=
 some (decide ((code1.length : Int) > 4096))
/-- (*loop.example/g01063/spec.l00Src).next -/
def spec_l00Src_next (s1 : GL00Src) : Option (Int × GL00Src) :=
 ((if s1.at_ < (s1.code.length : Int) then
 ((at? s1.code s1.at_).bind fun v1 =>
 some (w64 (v1)))
 else
 some 0) : Option Int).bind fun (b1 : Int) =>
 if (w64 (s1.at_ + 1)) ≤ (s1.code.length : Int) then
 (some (b1, (GL00Src.mk s1.code (w64 (s1.at_ + 1)) (IntKind.wrap .u64 ((IntKind.wrap .u64 ((IntKind.wrap .u64 (s1.seed * 6364136223846793005)) + (IntKind.wrap .u64 (b1)))) + 1442695040888963407)))))
 else
 (shr? .u64 (IntKind.wrap .u64 ((IntKind.wrap .u64 ((IntKind.wrap .u64 (s1.seed * 6364136223846793005)) + (IntKind.wrap .u64 (b1)))) + 1442695040888963407)) 40).bind fun q1 =>
 some (w64 (bit_and .u64 q1 255), (GL00Src.mk s1.code (w64 (s1.at_ + 1)) (IntKind.wrap .u64 ((IntKind.wrap .u64 ((IntKind.wrap .u64 (s1.seed * 6364136223846793005)) + (IntKind.wrap .u64 (b1)))) + 1442695040888963407))))
/-- (*loop.example/g01063/spec.l00Src).pick -/
def spec_l00Src_pick (s1 : GL00Src) (n1 : Int) : Option (Int × GL00Src) :=
 if n1 ≤ 1 then
 (some (0, s1))
 else
 (spec_l00Src_next s1).bind fun r1 =>
 if n1 > 200 then
 ((spec_l00Src_next r1.2).bind fun r2 =>
 (mod? (w64 ((w64 (r1.1 * 256)) + r2.1)) n1).bind fun q1 =>
 some (q1, r2.2))
 else
 (mod? r1.1 n1).bind fun q2 =>
 some (q2, r1.2)
/-- (*loop.example/g01063/spec.l00Src).among -/
def spec_l00Src_among (s1 : GL00Src) (list1 : List Int) : Option (Int × GL00Src) :=
 (spec_l00Src_pick s1 (list1.length : Int)).bind fun r1 =>
 (at? list1 r1.1).bind fun v1 =>
 some (v1, r1.2)
/-- (*loop.example/g01063/spec.l00Src).one -/
def spec_l00Src_one (s1 : GL00Src) (n1 : Int) : Option (Bool × GL00Src) :=
 (spec_l00Src_pick s1 n1).bind fun r1 =>
 some ((decide (r1.1 = 0)), r1.2)
/-- loop.example/g01063/spec.l00From -/
def spec_l00From (code1 : List Int) : Option GL00Src :=
 some (GL00Src.mk code1 0 0)
/-- loop.example/g01063/spec.l19Beats -/
def spec_l19Beats (list1 : List GPart) : Option Int :=
 onL (loop (S := (Int × Int)) (B := Int) (R := Empty) (fun ((sum1, i1) : Int × Int) =>
 if i1 < (list1.length : Int) then
 ((at? list1 i1).bind fun v1 =>
 (at? list1 i1).bind fun v2 =>
 some (.next (w64 (sum1 + (w64 (v1.Bars * v2.Beats))), w64 (i1 + 1))))
 else
 some (.brk sum1)) loopLim (0, 0))
 (fun (sum2 : Int) => some sum2) Empty.elim
/-- loop.example/g01063/spec.l19New -/
def spec_l19New (s1 : GL00Src) : Option (GPart × GL00Src) :=
 (spec_l00Src_pick s1 12).bind fun r1 =>
 (spec_l00Src_among r1.2 [2, 3, 4, 6]).bind fun r2 =>
 (spec_l00Src_among r2.2 [60, 72, 80, 90, 100, 120, 132, 144]).bind fun r3 =>
 some ((GPart.mk (w64 (1 + r1.1)) r2.1 r3.1), r3.2)
/-- loop.example/g01063/spec.l19Spoil -/
def spec_l19Spoil (s1 : GL00Src) (x1 : GPart) : Option (GL00Src × GPart) :=
 (spec_l00Src_pick s1 3).bind fun r1 =>
 if r1.1 = 0 then
 ((spec_l00Src_among r1.2 [(-1), 0, 1, 200, 201, (-9223372036854775808)]).bind fun r2 =>
 some (r2.2, (GPart.mk r2.1 x1.Beats x1.Tempo)))
 else
 if r1.1 = 1 then
 ((spec_l00Src_among r1.2 [(-1), 0, 1, 12, 13]).bind fun r3 =>
 some (r3.2, (GPart.mk x1.Bars r3.1 x1.Tempo)))
 else
 if r1.1 = 2 then
 ((spec_l00Src_among r1.2 [(-1), 19, 20, 300, 301]).bind fun r4 =>
 some (r4.2, (GPart.mk x1.Bars x1.Beats r4.1)))
 else
 some (r1.2, x1)
/-- loop.example/g01063/spec.l19Draw -/
def spec_l19Draw (s1 : GL00Src) : Option ((List GPart) × GL00Src) :=
 (spec_l00Src_pick s1 4).bind fun r1 =>
 (spec_l00Src_one r1.2 20).bind fun r2 =>
 ((if r2.1 then
 ((spec_l00Src_among r2.2 [0, 12, 13]).bind fun r3 =>
 some (r3.2, r3.1))
 else
 some (r2.2, w64 (1 + r1.1))) : Option (GL00Src × Int)).bind fun ((s2, n1) : GL00Src × Int) =>
 onL (loop (S := (GL00Src × (List GPart) × Int)) (B := (GL00Src × (List GPart))) (R := Empty) (fun ((s3, out1, k1) : GL00Src × (List GPart) × Int) =>
 if k1 > 0 then
 ((spec_l19New s3).bind fun r4 =>
 (app? out1 ([r4.1] : List GPart)).bind fun l1 =>
 some (.next (r4.2, l1, w64 (k1 - 1))))
 else
 some (.brk (s3, out1))) loopLim (s2, [], n1))
 (fun ((s4, out2) : GL00Src × (List GPart)) => (spec_l00Src_one s4 24).bind fun r5 =>
 ((if r5.1 then
 (some [(GPart.mk 1 1 293), (GPart.mk 1 1 283), (GPart.mk 1 1 281), (GPart.mk 1 1 277)])
 else
 some out2) : Option (List GPart)).bind fun (out3 : List GPart) =>
 ((if (out3.length : Int) > 0 then
 ((spec_l00Src_one r5.2 12).bind fun r6 =>
 some (r6.2, r6.1))
 else
 some (r5.2, false)) : Option (GL00Src × Bool)).bind fun ((s5, x1) : GL00Src × Bool) =>
 if x1 then
 ((at? out3 0).bind fun v1 =>
 (spec_l19Spoil s5 v1).bind fun r7 =>
 some (out3.set 0 r7.2, r7.1))
 else
 some (out3, s5)) Empty.elim
/-- loop.example/g01063/spec.l00In -/
def spec_l00In (n1 : Int) (low1 : Int) (high1 : Int) : Option Bool :=
 if n1 ≥ low1 then
 (some (decide (n1 ≤ high1)))
 else
 some false
/-- loop.example/g01063/spec.l19One -/
def spec_l19One (x1 : GPart) : Option Bool :=
 (spec_l00In x1.Bars 1 200).bind fun r1 =>
 if r1 then
 ((spec_l00In x1.Beats 1 12).bind fun r2 =>
 if r2 then
 ((spec_l00In x1.Tempo 20 300).bind fun r3 =>
 some r3)
 else
 some false)
 else
 some false
/-- loop.example/g01063/spec.l19Ok -/
def spec_l19Ok (list1 : List GPart) : Option Bool :=
 onL (loop (S := Int) (B := Unit) (R := Bool) (fun (i1 : Int) =>
 if i1 < (list1.length : Int) then
 ((at? list1 i1).bind fun v1 =>
 (spec_l19One v1).bind fun r1 =>
 if r1 then
 (some (.next (w64 (i1 + 1))))
 else
 some (.ret false))
 else
 some (.brk ())) loopLim 0)
 (fun (_ : Unit) => (spec_l00In (list1.length : Int) 1 12).bind fun r2 =>
 some r2) (fun r => some r)
/-- loop.example/g01063/spec.l19Beat -/
def spec_l19Beat (code1 : List Int) : Option ((List GPart) × Int) :=
 (spec_l00From code1).bind fun r1 =>
 (spec_l19Draw r1).bind fun r2 =>
 (((spec_l00Src_one r2.2 8).bind fun r3 =>
 if r3.1 then
 ((spec_l19Ok r2.1).bind fun r4 =>
 some (r3.2, r4))
 else
 some (r3.2, false)) : Option (GL00Src × Bool)).bind fun ((s1, x1) : GL00Src × Bool) =>
 if x1 then
 ((spec_l19Beats r2.1).bind fun r5 =>
 (spec_l19Beats r2.1).bind fun r6 =>
 (spec_l00Src_among s1 [(-1), 0, w64 (r5 - 1), r6]).bind fun r7 =>
 some (r2.1, r7.1))
 else
 (spec_l00Src_pick s1 60).bind fun r8 =>
 some (r2.1, r8.1)
/-- loop.example/g01063/spec.DrawPlaceOfBeat -/
def spec_DrawPlaceOfBeat (code1 : List Int) : Option ((List GPart) × Int) :=
 (spec_l19Beat code1).bind fun r1 =>
 some (r1.1, r1.2)
/-- loop.example/g01063/impl.PlaceOfBeat -/
def impl_PlaceOfBeat (list1 : List GPart) (beat1 : Int) : Option (Int × Int × Int × Int) :=
 (impl_ValidPiece list1).bind fun r1 =>
 if r1 then
 ((impl_beatsOf list1).bind fun r2 =>
 (impl_within beat1 0 (w64 (r2 - 1))).bind fun r3 =>
 if r3 then
 (onL (loop (S := (Int × Int)) (B := (Int × Int)) (R := Empty) (fun ((beat2, part1) : Int × Int) =>
 (at? list1 part1).bind fun v1 =>
 (at? list1 part1).bind fun v2 =>
 if beat2 ≥ (w64 (v1.Bars * v2.Beats)) then
 ((at? list1 part1).bind fun v3 =>
 (at? list1 part1).bind fun v4 =>
 some (.next (w64 (beat2 - (w64 (v3.Bars * v4.Beats))), w64 (part1 + 1))))
 else
 some (.brk (beat2, part1))) loopLim (beat1, 0))
 (fun ((beat3, part2) : Int × Int) => (at? list1 part2).bind fun v5 =>
 (div? .i64 beat3 v5.Beats).bind fun q1 =>
 (at? list1 part2).bind fun v6 =>
 (mod? beat3 v6.Beats).bind fun q2 =>
 some (part2, q1, q2, 0)) Empty.elim)
 else
 some (0, 0, 0, 2))
 else
 some (0, 0, 0, 1)
/-- loop.example/g01063/spec.l19Code -/
def spec_l19Code (list1 : List GPart) (beat1 : Int) : Option Int :=
 (spec_l19Ok list1).bind fun r1 =>
 if r1 then
 ((spec_l19Beats list1).bind fun r2 =>
 (spec_l00In beat1 0 (w64 (r2 - 1))).bind fun r3 =>
 if r3 then
 (some 0)
 else
 some 2)
 else
 some 1
/-- loop.example/g01063/spec.PlaceOfBeat -/
def spec_PlaceOfBeat (list1 : List GPart) (beat1 : Int) : Option (Int × Int × Int × Int) :=
 (spec_l19Code list1 beat1).bind fun r1 =>
 if r1 = 0 then
 (onL (loop (S := (Int × Int)) (B := (Int × Int)) (R := Empty) (fun ((beat2, k1) : Int × Int) =>
 (at? list1 k1).bind fun v1 =>
 (at? list1 k1).bind fun v2 =>
 if beat2 ≥ (w64 (v1.Bars * v2.Beats)) then
 ((at? list1 k1).bind fun v3 =>
 (at? list1 k1).bind fun v4 =>
 some (.next (w64 (beat2 - (w64 (v3.Bars * v4.Beats))), w64 (k1 + 1))))
 else
 some (.brk (beat2, k1))) loopLim (beat1, 0))
 (fun ((beat3, k2) : Int × Int) => (at? list1 k2).bind fun v5 =>
 (div? .i64 beat3 v5.Beats).bind fun q1 =>
 (at? list1 k2).bind fun v6 =>
 (mod? beat3 v6.Beats).bind fun q2 =>
 some (k2, q1, q2, 0)) Empty.elim)
 else
 some (0, 0, 0, r1)
/-- loop.example/g01063/spec.l00Gcd -/
def spec_l00Gcd (a1 : Int) (b1 : Int) : Option Int :=
 onL (loop (S := (Int × Int)) (B := Int) (R := Empty) (fun ((a2, b2) : Int × Int) =>
 if b2 = 0 then
 (some (.brk a2))
 else
 (mod? a2 b2).bind fun q1 =>
 some (.next (b2, q1))) loopLim (a1, b1))
 (fun (a3 : Int) => some a3) Empty.elim
/-- loop.example/g01063/spec.l00Size -/
def spec_l00Size (n1 : Int) : Option Int :=
 if n1 < 0 then
 (some (w64 (0 - n1)))
 else
 some n1
/-- loop.example/g01063/spec.l02Make -/
def spec_l02Make (num1 : Int) (den1 : Int) : Option GFraction :=
 (spec_l00Size num1).bind fun r1 =>
 (spec_l00Gcd r1 den1).bind fun r2 =>
 (div? .i64 num1 r2).bind fun q1 =>
 (div? .i64 den1 r2).bind fun q2 =>
 some (GFraction.mk q1 q2)
/-- loop.example/g01063/spec.l19Parts -/
def spec_l19Parts (list1 : List GPart) : Option Int :=
 onL (loop (S := (Int × Int)) (B := Int) (R := Int) (fun ((n1, i1) : Int × Int) =>
 if i1 < (list1.length : Int) then
 ((at? list1 i1).bind fun v1 =>
 (spec_l00Gcd n1 v1.Tempo).bind fun r1 =>
 (div? .i64 n1 r1).bind fun q1 =>
 (at? list1 i1).bind fun v2 =>
 if (w64 (q1 * v2.Tempo)) > 100000000 then
 (some (.ret 0))
 else
 some (.next (w64 (q1 * v2.Tempo), w64 (i1 + 1))))
 else
 some (.brk n1)) loopLim (1, 0))
 (fun (n2 : Int) => some n2) (fun r => some r)
/-- loop.example/g01063/spec.l00Min -/
def spec_l00Min (a1 : Int) (b1 : Int) : Option Int :=
 if a1 < b1 then
 (some a1)
 else
 some b1
/-- loop.example/g01063/spec.l19Units -/
def spec_l19Units (list1 : List GPart) (beat1 : Int) (parts1 : Int) : Option Int :=
 onL (loop (S := (Int × Int × Int)) (B := Int) (R := Empty) (fun ((beat2, sum1, i1) : Int × Int × Int) =>
 ((if i1 < (list1.length : Int) then
 (some (decide (beat2 > 0)))
 else
 some false) : Option Bool).bind fun (x1 : Bool) =>
 if x1 then
 ((at? list1 i1).bind fun v1 =>
 (at? list1 i1).bind fun v2 =>
 (spec_l00Min beat2 (w64 (v1.Bars * v2.Beats))).bind fun r1 =>
 (at? list1 i1).bind fun v3 =>
 (div? .i64 (w64 (60 * parts1)) v3.Tempo).bind fun q1 =>
 some (.next (w64 (beat2 - r1), w64 (sum1 + (w64 (r1 * q1))), w64 (i1 + 1))))
 else
 some (.brk sum1)) loopLim (beat1, 0, 0))
 (fun (sum2 : Int) => some sum2) Empty.elim
/-- loop.example/g01063/spec.TimeOfBeat -/
def spec_TimeOfBeat (list1 : List GPart) (beat1 : Int) : Option (GFraction × Int) :=
 (spec_l19Code list1 beat1).bind fun r1 =>
 ((if r1 = 0 then
 ((spec_l19Parts list1).bind fun r2 =>
 if r2 = 0 then
 (some (5, r2))
 else
 some (r1, r2))
 else
 some (r1, 0)) : Option (Int × Int)).bind fun ((code1, parts1) : Int × Int) =>
 if code1 = 0 then
 ((spec_l19Units list1 beat1 parts1).bind fun r3 =>
 (spec_l02Make r3 parts1).bind fun r4 =>
 some (r4, 0))
 else
 some ((GFraction.mk 0 0), code1)
/-- loop.example/g01063/spec.BeatsOf -/
def spec_BeatsOf (list1 : List GPart) : Option (Int × Int) :=
 (spec_l19Ok list1).bind fun r1 =>
 if r1 then
 ((spec_l19Beats list1).bind fun r2 =>
 some (r2, 0))
 else
 some (0, 1)
/-- loop.example/g01063/spec.DrawBeatOfPlace -/
def spec_DrawBeatOfPlace (code1 : List Int) : Option ((List GPart) × Int × Int × Int) :=
 (spec_l00From code1).bind fun r1 =>
 (spec_l19Draw r1).bind fun r2 =>
 (spec_l00Src_pick r2.2 (w64 ((r2.1.length : Int) + 1))).bind fun r3 =>
 (spec_l00Src_pick r3.2 16).bind fun r4 =>
 (spec_l00Src_pick r4.2 9).bind fun r5 =>
 (spec_l00Src_pick r5.2 16).bind fun r6 =>
 (spec_l00Src_pick r6.2 5).bind fun r7 =>
 (spec_l00Src_pick r7.2 16).bind fun r8 =>
 some (r2.1, w64 (r3.1 - (w64 (r4.1.tdiv 15))), w64 (r5.1 - (w64 (r6.1.tdiv 15))), w64 (r7.1 - (w64 (r8.1.tdiv 15))))
/-- loop.example/g01063/impl.BeatOfPlace -/
def impl_BeatOfPlace (list1 : List GPart) (part1 : Int) (bar1 : Int) (beat1 : Int) : Option (Int × Int) :=
 (impl_ValidPiece list1).bind fun r1 =>
 if r1 then
 ((((impl_within part1 0 (w64 ((list1.length : Int) - 1))).bind fun r2 =>
 if r2 then
 ((at? list1 part1).bind fun v1 =>
 (impl_within bar1 0 (w64 (v1.Bars - 1))).bind fun r3 =>
 if r3 then
 ((at? list1 part1).bind fun v2 =>
 (impl_within beat1 0 (w64 (v2.Beats - 1))).bind fun r4 =>
 some (!r4))
 else
 some true)
 else
 some true) : Option Bool).bind fun (x1 : Bool) =>
 if x1 then
 (some (0, 2))
 else
 (sub? list1 0 part1).bind fun l1 =>
 (impl_beatsOf l1).bind fun r5 =>
 (at? list1 part1).bind fun v3 =>
 some (w64 ((w64 (r5 + (w64 (bar1 * v3.Beats)))) + beat1), 0))
 else
 some (0, 1)
/-- loop.example/g01063/spec.BeatOfPlace -/
def spec_BeatOfPlace (list1 : List GPart) (part1 : Int) (bar1 : Int) (beat1 : Int) : Option (Int × Int) :=
 (spec_l19Ok list1).bind fun r1 =>
 if r1 then
 ((spec_l00In part1 0 (w64 ((list1.length : Int) - 1))).bind fun r2 =>
 if r2 then
 ((at? list1 part1).bind fun v1 =>
 (((spec_l00In bar1 0 (w64 (v1.Bars - 1))).bind fun r3 =>
 if r3 then
 ((spec_l00In beat1 0 (w64 (v1.Beats - 1))).bind fun r4 =>
 some (!r4))
 else
 some true) : Option Bool).bind fun (x1 : Bool) =>
 if x1 then
 (some (0, 2))
 else
 (sub? list1 0 part1).bind fun l1 =>
 (spec_l19Beats l1).bind fun r5 =>
 some (w64 ((w64 (r5 + (w64 (bar1 * v1.Beats)))) + beat1), 0))
 else
 some (0, 2))
 else
 some (0, 1)
/-- loop.example/g01063/impl.Decimal -/
def impl_Decimal (n1 : Int) : Option (List UInt8) :=
 (strconv_FormatInt n1 10).bind fun r1 =>
 some r1
/-- loop.example/g01063/impl.PieceText -/
def impl_PieceText (list1 : List GPart) : Option (List UInt8) :=
 (impl_ValidPiece list1).bind fun r1 =>
 if r1 then
 (onL (loop (S := ((List (List UInt8)) × Int)) (B := (List (List UInt8))) (R := Empty) (fun ((out1, x1) : (List (List UInt8)) × Int) =>
 if x1 < (list1.length : Int) then
 ((at? list1 x1).bind fun v1 =>
 (impl_Decimal v1.Bars).bind fun r2 =>
 (app? (r2 : List UInt8) [120]).bind fun s1 =>
 (impl_Decimal v1.Beats).bind fun r3 =>
 (app? (s1 : List UInt8) r3).bind fun s2 =>
 (app? (s2 : List UInt8) [64]).bind fun s3 =>
 (impl_Decimal v1.Tempo).bind fun r4 =>
 (app? (s3 : List UInt8) r4).bind fun s4 =>
 (app? out1 ([s4] : List (List UInt8))).bind fun l1 =>
 some (.next (l1, w64 (x1 + 1))))
 else
 some (.brk out1)) loopLim ([], 0))
 (fun (out2 : List (List UInt8)) => (strings_Join out2 [44, 32]).bind fun r5 =>
 some r5) Empty.elim)
 else
 some []
/-- loop.example/g01063/spec.l01Dec -/
def spec_l01Dec (n1 : Int) : Option (List UInt8) :=
 onL (loop (S := ((List Int) × Int)) (B := (List Int)) (R := Empty) (fun ((out1, k1) : (List Int) × Int) =>
 if k1 = 0 then
 (some (.brk out1))
 else
 ((if (k1.tmod 10) < 0 then
 (some (w64 (0 - (k1.tmod 10))))
 else
 some (k1.tmod 10)) : Option Int).bind fun (d1 : Int) =>
 (app? ([IntKind.wrap .u8 (w64 (48 + d1))] : List Int) out1).bind fun l1 =>
 some (.next (l1, w64 (k1.tdiv 10)))) loopLim ([], n1))
 (fun (out2 : List Int) => if (out2.length : Int) = 0 then
 (some [48])
 else
 if n1 < 0 then
 ((app? ([45] : List UInt8) (b2s out2)).bind fun s1 =>
 some s1)
 else
 some (b2s out2)) Empty.elim
/-- loop.example/g01063/spec.PieceText -/
def spec_PieceText (list1 : List GPart) : Option (List UInt8) :=
 (spec_l19Ok list1).bind fun r1 =>
 if r1 then
 (onL (loop (S := ((List UInt8) × Int)) (B := (List UInt8)) (R := Empty) (fun ((out1, i1) : (List UInt8) × Int) =>
 if i1 < (list1.length : Int) then
 (((if i1 > 0 then
 ((app? (out1 : List UInt8) [44, 32]).bind fun s1 =>
 some s1)
 else
 some out1) : Option (List UInt8)).bind fun (out2 : List UInt8) =>
 (at? list1 i1).bind fun v1 =>
 (spec_l01Dec v1.Bars).bind fun r2 =>
 (app? (r2 : List UInt8) [120]).bind fun s2 =>
 (at? list1 i1).bind fun v2 =>
 (spec_l01Dec v2.Beats).bind fun r3 =>
 (app? (s2 : List UInt8) r3).bind fun s3 =>
 (app? (s3 : List UInt8) [64]).bind fun s4 =>
 (at? list1 i1).bind fun v3 =>
 (spec_l01Dec v3.Tempo).bind fun r4 =>
 (app? (s4 : List UInt8) r4).bind fun s5 =>
 (app? (out2 : List UInt8) s5).bind fun s6 =>
 some (.next (s6, w64 (i1 + 1))))
 else
 some (.brk out1)) loopLim ([], 0))
 (fun (out3 : List UInt8) => some out3) Empty.elim)
 else
 some []
/-- loop.example/g01063/spec.ValidPiece -/
def spec_ValidPiece (list1 : List GPart) : Option Bool :=
 (spec_l19Ok list1).bind fun r1 =>
 some r1
/-- loop.example/g01063/laws.FnPieces -/
def laws_FnPieces (code1 : List Int) : Option Bool :=
 (laws_f6big code1).bind fun r1 =>
 if r1 then
 (some true)
 else
 (spec_DrawPlaceOfBeat code1).bind fun r2 =>
 (impl_PlaceOfBeat r2.1 r2.2).bind fun r3 =>
 (spec_PlaceOfBeat r2.1 r2.2).bind fun r4 =>
 (impl_TimeOfBeat r2.1 r2.2).bind fun r5 =>
 (spec_TimeOfBeat r2.1 r2.2).bind fun r6 =>
 (impl_BeatsOf r2.1).bind fun r7 =>
 (spec_BeatsOf r2.1).bind fun r8 =>
 (spec_DrawBeatOfPlace code1).bind fun r9 =>
 (impl_BeatOfPlace r9.1 r9.2.1 r9.2.2.1 r9.2.2.2).bind fun r10 =>
 (spec_BeatOfPlace r9.1 r9.2.1 r9.2.2.1 r9.2.2.2).bind fun r11 =>
 ((if r3.2.2.2 = r4.2.2.2 then
 (if r3.1 = r4.1 then
 (if r3.2.1 = r4.2.1 then
 (if r3.2.2.1 = r4.2.2.1 then
 (if r5.2 = r6.2 then
 (if (r5.1.Num == r6.1.Num && (r5.1.Den == r6.1.Den && true)) then
 (if r7.2 = r8.2 then
 (if r7.1 = r8.1 then
 (if r10.2 = r11.2 then
 (if r10.1 = r11.1 then
 ((impl_PieceText r2.1).bind fun r12 =>
 (spec_PieceText r2.1).bind fun r13 =>
 if (r12 == r13) then
 ((impl_ValidPiece r2.1).bind fun r14 =>
 (spec_ValidPiece r2.1).bind fun r15 =>
 some (!(r14 == r15)))
 else
 some true)
 else
 some true)
 else
 some true)
 else
 some true)
 else
 some true)
 else
 some true)
 else
 some true)
 else
 some true)
 else
 some true)
 else
 some true)
 else
 some true) : Option Bool).bind fun (x1 : Bool) =>
 if x1 then
 (some false)
 else
 onS (S := Unit) (B := Empty) (R := Bool) (if r10.2 = 0 then
 ((impl_PlaceOfBeat r9.1 r11.1).bind fun r16 =>
 if r16.2.2.2 = 0 then
 (if r16.1 = r9.2.1 then
 (if r16.2.1 = r9.2.2.1 then
 (if r16.2.2.1 = r9.2.2.2 then
 (some (.next ()))
 else
 some (.ret false))
 else
 some (.ret false))
 else
 some (.ret false))
 else
 some (.ret false))
 else
 some (.next ()))
 (fun (_ : Unit) => if r3.2.2.2 = 0 then
 ((impl_BeatOfPlace r2.1 r4.1 r4.2.1 r4.2.2.1).bind fun r17 =>
 ((if r17.2 = 0 then
 (if r17.1 = r2.2 then
 (some (decide (r2.2 ≥ r8.1)))
 else
 some true)
 else
 some true) : Option Bool).bind fun (x2 : Bool) =>
 if x2 then
 (some false)
 else
 ((if r5.2 = 0 then
 (some (decide ((w64 (r2.2 + 1)) ≥ r8.1)))
 else
 some true) : Option Bool).bind fun (x3 : Bool) =>
 if x3 then
 (some true)
 else
 (impl_TimeOfBeat r2.1 (w64 (r2.2 + 1))).bind fun r18 =>
 ((if r18.2 = 0 then
 (if r18.1.Den < 1 then
 (some true)
 else
 if r18.1.Den > 100000000 then
 (some true)
 else
 if r6.1.Den > 100000000 then
 (some true)
 else
 if r18.1.Num < 0 then
 (some true)
 else
 if r18.1.Num > (w64 (100000 * r18.1.Den)) then
 (some true)
 else
 some (decide (r6.1.Num > (w64 (100000 * r6.1.Den)))))
 else
 some true) : Option Bool).bind fun (x4 : Bool) =>
 if x4 then
 (some false)
 else
 (div? .i64 r18.1.Num r18.1.Den).bind fun q1 =>
 (div? .i64 r6.1.Num r6.1.Den).bind fun q2 =>
 if q1 ≥ q2 then
 ((div? .i64 r18.1.Num r18.1.Den).bind fun q3 =>
 (div? .i64 r6.1.Num r6.1.Den).bind fun q4 =>
 some (decide (q3 ≤ (w64 (q4 + 4)))))
 else
 some false)
 else
 some true)
 Empty.elim (fun r => some r)
end Go.Vs.G
