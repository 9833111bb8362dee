/- The functions that the law reaches, as typed Lean functions, printed by program. No conditions. -/
import Derived.Test.YtolinhiimdajhaaV5
set_option maxRecDepth 100000
open Go Go.Vs
namespace Go.Vs.G
structure GAct where
  Tick : Int
  Word : List UInt8
  Slide : List UInt8
  Many : Int
  deriving DecidableEq, Inhabited
structure GCue where
  At : Int
  Ticks : Int
  Hands : Int
  Slack : Int
  deriving DecidableEq, Inhabited
structure GFraction where
  Num : Int
  Den : Int
  deriving DecidableEq, Inhabited
structure GL00Src where
  code : List Int
  at_ : Int
  seed : Int
  deriving DecidableEq, Inhabited
structure GPoint where
  X : Int
  Y : Int
  deriving DecidableEq, Inhabited
structure GShown where
  On : Int
  Off : Int
  Fade : Int
  deriving DecidableEq, Inhabited
def GAct.enc (x : GAct) : Tree := .agg [.int .i64 x.Tick, .str x.Word, .str x.Slide, .int .i64 x.Many]
def GCue.enc (x : GCue) : Tree := .agg [.int .i64 x.At, .int .i64 x.Ticks, .int .i64 x.Hands, .int .i64 x.Slack]
def GPoint.enc (x : GPoint) : Tree := .agg [.int .i64 x.X, .int .i64 x.Y]
def GShown.enc (x : GShown) : Tree := .agg [.int .i64 x.On, .int .i64 x.Off, .int .i64 x.Fade]
def GAct.ok (x : GAct) : Prop := (okI .i64) x.Tick ∧ okS x.Word ∧ okS x.Slide ∧ (okI .i64) x.Many
def GCue.ok (x : GCue) : Prop := (okI .i64) x.At ∧ (okI .i64) x.Ticks ∧ (okI .i64) x.Hands ∧ (okI .i64) x.Slack
def GFraction.ok (x : GFraction) : Prop := (okI .i64) x.Num ∧ (okI .i64) x.Den
def GL00Src.ok (x : GL00Src) : Prop := (okL (okI .u8)) x.code ∧ (okI .i64) x.at_ ∧ (okI .u64) x.seed
def GPoint.ok (x : GPoint) : Prop := (okI .i64) x.X ∧ (okI .i64) x.Y
def GShown.ok (x : GShown) : Prop := (okI .i64) x.On ∧ (okI .i64) x.Off ∧ (okI .i64) x.Fade
/-- loop.example/g01063/impl.within -/
def impl_within (n1 : Int) (low1 : Int) (high1 : Int) : Option Bool :=
 if n1 ≥ low1 then
 (some (decide (n1 ≤ high1)))
 else
 some false
/-- loop.example/g01063/impl.ValidLoop$1 -/
def impl_ValidLoop_1 (p1 : Int) : Option Bool :=
 (impl_within p1 0 1000).bind fun r1 =>
 some (!r1)
/-- slices.IndexFunc[[]int64,int64] -/
def slices_IndexFunc_int64_int64_818 (s1 : List Int) (f1 : Int → Option Bool) : Option Int :=
 onL (loop (S := Int) (B := Unit) (R := Int) (fun (x1 : Int) =>
 if x1 < (s1.length : Int) then
 ((at? s1 x1).bind fun v1 =>
 (f1 v1).bind fun r1 =>
 if r1 then
 (some (.ret x1))
 else
 some (.next (w64 (x1 + 1))))
 else
 some (.brk ())) loopLim 0)
 (fun (_ : Unit) => some (-1)) (fun r => some r)
/-- slices.ContainsFunc[[]int64,int64] -/
def slices_ContainsFunc_int64_int64_796 (s1 : List Int) (f1 : Int → Option Bool) : Option Bool :=
 (slices_IndexFunc_int64_int64_818 s1 f1).bind fun r1 =>
 some (decide (r1 ≥ 0))
/-- loop.example/g01063/impl.ValidLoop -/
def impl_ValidLoop (places1 : List Int) : Option Bool :=
 if (places1.length : Int) ≥ 1 then
 (if (places1.length : Int) ≤ 60 then
 ((slices_ContainsFunc_int64_int64_796 places1 (fun a0 => impl_ValidLoop_1 a0)).bind fun r1 =>
 some (!r1))
 else
 some false)
 else
 some false
/-- loop.example/g01063/impl.rounded -/
def impl_rounded (num1 : Int) (den1 : Int) : Option Int :=
 (div? .i64 (w64 ((w64 (2 * num1)) + den1)) (w64 (2 * den1))).bind fun q1 =>
 (mod? (w64 ((w64 (2 * num1)) + den1)) (w64 (2 * den1))).bind fun q2 =>
 if q2 < 0 then
 (some (w64 (q1 - 1)))
 else
 some q1
/-- loop.example/g01063/impl.CloseLoop -/
def impl_CloseLoop (places1 : List Int) (over1 : Int) : Option ((List Int) × Int) :=
 (impl_ValidLoop places1).bind fun r1 =>
 if r1 then
 ((impl_within over1 1 (places1.length : Int)).bind fun r2 =>
 if r2 then
 ((cloneL places1).bind fun r3 =>
 (at? places1 0).bind fun v1 =>
 (at? places1 (w64 ((places1.length : Int) - 1))).bind fun v2 =>
 onL (loop (S := ((List Int) × Int)) (B := (List Int)) (R := Empty) (fun ((out1, j1) : (List Int) × Int) =>
 if j1 ≤ over1 then
 ((at? out1 (w64 ((w64 ((w64 ((places1.length : Int) - over1)) + j1)) - 1))).bind fun v3 =>
 (impl_rounded (w64 (j1 * (w64 (v1 - v2)))) (w64 (over1 + 1))).bind fun r4 =>
 (at? out1 (w64 ((w64 ((w64 ((places1.length : Int) - over1)) + j1)) - 1))).bind fun v4 =>
 some (.next (out1.set ((w64 ((w64 ((w64 ((places1.length : Int) - over1)) + j1)) - 1)).toNat) (imin (imax (w64 (v3 + r4)) 0) 1000), w64 (j1 + 1))))
 else
 some (.brk out1)) loopLim (r3, 1))
 (fun (out2 : List Int) => some (out2, 0)) Empty.elim)
 else
 some ([], 2))
 else
 some ([], 1)
/-- loop.example/g01063/impl.gcd -/
def impl_gcd (a1 : Int) (b1 : Int) : Option Int :=
 onL (loop (S := (Int × Int)) (B := Int) (R := Empty) (fun ((a2, b2) : Int × Int) =>
 if b2 = 0 then
 (some (.brk a2))
 else
 (mod? a2 b2).bind fun q1 =>
 some (.next (b2, q1))) loopLim (a1, b1))
 (fun (a3 : Int) => some (imax a3 (w64 (0 - a3)))) Empty.elim
/-- loop.example/g01063/impl.commonLength -/
def impl_commonLength (a1 : Int) (b1 : Int) : Option Int :=
 (impl_gcd a1 b1).bind fun r1 =>
 (div? .i64 a1 r1).bind fun q1 =>
 some (w64 (q1 * b1))
/-- loop.example/g01063/impl.JoinLoops -/
def impl_JoinLoops (a1 : List Int) (b1 : List Int) : Option ((List (List Int)) × Int) :=
 (((impl_ValidLoop a1).bind fun r1 =>
 if r1 then
 ((impl_ValidLoop b1).bind fun r2 =>
 some (!r2))
 else
 some true) : Option Bool).bind fun (x1 : Bool) =>
 if x1 then
 (some ([], 1))
 else
 (impl_commonLength (a1.length : Int) (b1.length : Int)).bind fun r3 =>
 if r3 > 360 then
 (some ([], 5))
 else
 onL (loop (S := ((List (List Int)) × Int)) (B := (List (List Int))) (R := Empty) (fun ((out1, x2) : (List (List Int)) × Int) =>
 if x2 < r3 then
 ((mod? x2 (a1.length : Int)).bind fun q1 =>
 (at? a1 q1).bind fun v1 =>
 (mod? x2 (b1.length : Int)).bind fun q2 =>
 (at? b1 q2).bind fun v2 =>
 (app? out1 ([[v1, v2]] : List (List Int))).bind fun l1 =>
 some (.next (l1, w64 (x2 + 1))))
 else
 some (.brk out1)) loopLim ([], 0))
 (fun (out2 : List (List Int)) => some (out2, 0)) Empty.elim
/-- loop.example/g01063/impl.ThinLoop -/
def impl_ThinLoop (places1 : List Int) (each1 : Int) : Option ((List Int) × Int) :=
 (impl_ValidLoop places1).bind fun r1 =>
 if r1 then
 ((impl_within each1 1 60).bind fun r2 =>
 if r2 then
 ((mod? (places1.length : Int) each1).bind fun q1 =>
 if q1 = 0 then
 (onL (loop (S := ((List Int) × Int)) (B := (List Int)) (R := Empty) (fun ((out1, i1) : (List Int) × Int) =>
 if i1 < (places1.length : Int) then
 ((at? places1 i1).bind fun v1 =>
 (app? out1 ([v1] : List Int)).bind fun l1 =>
 some (.next (l1, w64 (i1 + each1))))
 else
 some (.brk out1)) loopLim ([], 0))
 (fun (out2 : List Int) => some (out2, 0)) Empty.elim)
 else
 some ([], 8))
 else
 some ([], 2))
 else
 some ([], 1)
/-- slices.Concat[[]int64,int64] -/
def slices_Concat_int64_int64_793 (slices1 : List (List Int)) : Option (List Int) :=
 onL (loop (S := (Int × Int)) (B := Int) (R := Empty) (fun ((size1, x1) : Int × Int) =>
 if x1 < (slices1.length : Int) then
 ((at? slices1 x1).bind fun v1 =>
 if (w64 (size1 + (v1.length : Int))) < 0 then
 none
 else
 some (.next (w64 (size1 + (v1.length : Int)), w64 (x1 + 1))))
 else
 some (.brk size1)) loopLim (0, 0))
 (fun (size2 : Int) => (slices_Grow_int64 size2).bind fun r1 =>
 onL (loop (S := ((List Int) × Int)) (B := (List Int)) (R := Empty) (fun ((newslice1, x2) : (List Int) × Int) =>
 if x2 < (slices1.length : Int) then
 ((at? slices1 x2).bind fun v2 =>
 (app? newslice1 v2).bind fun l1 =>
 some (.next (l1, w64 (x2 + 1))))
 else
 some (.brk newslice1)) loopLim (r1, 0))
 (fun (newslice2 : List Int) => some newslice2) Empty.elim) Empty.elim
/-- loop.example/g01063/impl.turnLoop -/
def impl_turnLoop (places1 : List Int) (by_1 : Int) : Option (List Int) :=
 (mod? by_1 (places1.length : Int)).bind fun q1 =>
 (sub? places1 q1 places1.length).bind fun l1 =>
 (sub? places1 0 q1).bind fun l2 =>
 (slices_Concat_int64_int64_793 [l1, l2]).bind fun r1 =>
 some r1
/-- loop.example/g01063/impl.TurnLoop -/
def impl_TurnLoop (places1 : List Int) (by_1 : Int) : Option ((List Int) × Int) :=
 (impl_ValidLoop places1).bind fun r1 =>
 if r1 then
 ((impl_within by_1 0 60).bind fun r2 =>
 if r2 then
 ((impl_turnLoop places1 by_1).bind fun r3 =>
 some (r3, 0))
 else
 some ([], 2))
 else
 some ([], 1)
/-- loop.example/g01063/laws.f6big -/
def laws_f6big (code1 : List Int) : Option Bool :=
 some (decide ((code1.length : Int) > 4096))
/-- loop.example/g01063/laws.f6ints -/
def laws_f6ints (a1 : List Int) (b1 : List Int) : Option Bool :=
 if (a1.length : Int) = (b1.length : Int) then
 (onL (loop (S := Int) (B := Unit) (R := Bool) (fun (i1 : Int) =>
 if i1 < (a1.length : Int) then
 ((at? a1 i1).bind fun v1 =>
 (at? b1 i1).bind fun v2 =>
 if v1 = v2 then
 (some (.next (w64 (i1 + 1))))
 else
 some (.ret false))
 else
 some (.brk ())) loopLim 0)
 (fun (_ : Unit) => some true) (fun r => some r))
 else
 some false
/-- loop.example/g01063/laws.f6sum -/
def laws_f6sum (list1 : List Int) : Option Int :=
 onL (loop (S := (Int × Int)) (B := Int) (R := Empty) (fun ((sum1, i1) : Int × Int) =>
 if i1 < (list1.length : Int) then
 ((at? list1 i1).bind fun v1 =>
 some (.next (w64 (sum1 + v1), w64 (i1 + 1))))
 else
 some (.brk sum1)) loopLim (0, 0))
 (fun (sum2 : Int) => some sum2) Empty.elim
/-- loop.example/g01063/spec.l00In -/
def spec_l00In (n1 : Int) (low1 : Int) (high1 : Int) : Option Bool :=
 if n1 ≥ low1 then
 (some (decide (n1 ≤ high1)))
 else
 some false
/-- loop.example/g01063/spec.l00Max -/
def spec_l00Max (a1 : Int) (b1 : Int) : Option Int :=
 if a1 > b1 then
 (some a1)
 else
 some b1
/-- loop.example/g01063/spec.l00Min -/
def spec_l00Min (a1 : Int) (b1 : Int) : Option Int :=
 if a1 < b1 then
 (some a1)
 else
 some b1
/-- loop.example/g01063/spec.l00Floor -/
def spec_l00Floor (num1 : Int) (den1 : Int) : Option Int :=
 (div? .i64 num1 den1).bind fun q1 =>
 (mod? num1 den1).bind fun q2 =>
 if q2 < 0 then
 (some (w64 (q1 - 1)))
 else
 some q1
/-- loop.example/g01063/spec.l00Round -/
def spec_l00Round (num1 : Int) (den1 : Int) : Option Int :=
 (spec_l00Floor (w64 ((w64 (2 * num1)) + den1)) (w64 (2 * den1))).bind fun r1 =>
 some r1
/-- loop.example/g01063/spec.l05Ok -/
def spec_l05Ok (places1 : List Int) : Option Bool :=
 onL (loop (S := Int) (B := Unit) (R := Bool) (fun (i1 : Int) =>
 if i1 < (places1.length : Int) then
 ((at? places1 i1).bind fun v1 =>
 (spec_l00In v1 0 1000).bind fun r1 =>
 if r1 then
 (some (.next (w64 (i1 + 1))))
 else
 some (.ret false))
 else
 some (.brk ())) loopLim 0)
 (fun (_ : Unit) => (spec_l00In (places1.length : Int) 1 60).bind fun r2 =>
 some r2) (fun r => some r)
/-- loop.example/g01063/spec.CloseLoop -/
def spec_CloseLoop (places1 : List Int) (over1 : Int) : Option ((List Int) × Int) :=
 (spec_l05Ok places1).bind fun r1 =>
 if r1 then
 ((spec_l00In over1 1 (places1.length : Int)).bind fun r2 =>
 if r2 then
 ((at? places1 0).bind fun v1 =>
 (at? places1 (w64 ((places1.length : Int) - 1))).bind fun v2 =>
 onL (loop (S := ((List Int) × Int)) (B := (List Int)) (R := Empty) (fun ((out1, i1) : (List Int) × Int) =>
 if i1 < (places1.length : Int) then
 ((spec_l00Max 0 (w64 ((w64 (i1 - (w64 ((places1.length : Int) - over1)))) + 1))).bind fun r3 =>
 (at? places1 i1).bind fun v3 =>
 (spec_l00Round (w64 ((w64 (v1 - v2)) * r3)) (w64 (over1 + 1))).bind fun r4 =>
 (spec_l00Max 0 (w64 (v3 + r4))).bind fun r5 =>
 (spec_l00Min 1000 r5).bind fun r6 =>
 (app? out1 ([r6] : List Int)).bind fun l1 =>
 some (.next (l1, w64 (i1 + 1))))
 else
 some (.brk out1)) loopLim ([], 0))
 (fun (out2 : List Int) => some (out2, 0)) Empty.elim)
 else
 some ([], 2))
 else
 some ([], 1)
/-- (*loop.example/g01063/spec.l00Src).next -/
def spec_l00Src_next (s1 : GL00Src) : Option (Int × GL00Src) :=
 ((if s1.at_ < (s1.code.length : Int) then
 ((at? s1.code s1.at_).bind fun v1 =>
 some (w64 (v1)))
 else
 some 0) : Option Int).bind fun (b1 : Int) =>
 if (w64 (s1.at_ + 1)) ≤ (s1.code.length : Int) then
 (some (b1, (GL00Src.mk s1.code (w64 (s1.at_ + 1)) (IntKind.wrap .u64 ((IntKind.wrap .u64 ((IntKind.wrap .u64 (s1.seed * 6364136223846793005)) + (IntKind.wrap .u64 (b1)))) + 1442695040888963407)))))
 else
 (shr? .u64 (IntKind.wrap .u64 ((IntKind.wrap .u64 ((IntKind.wrap .u64 (s1.seed * 6364136223846793005)) + (IntKind.wrap .u64 (b1)))) + 1442695040888963407)) 40).bind fun q1 =>
 some (w64 (bit_and .u64 q1 255), (GL00Src.mk s1.code (w64 (s1.at_ + 1)) (IntKind.wrap .u64 ((IntKind.wrap .u64 ((IntKind.wrap .u64 (s1.seed * 6364136223846793005)) + (IntKind.wrap .u64 (b1)))) + 1442695040888963407))))
/-- (*loop.example/g01063/spec.l00Src).pick -/
def spec_l00Src_pick (s1 : GL00Src) (n1 : Int) : Option (Int × GL00Src) :=
 if n1 ≤ 1 then
 (some (0, s1))
 else
 (spec_l00Src_next s1).bind fun r1 =>
 if n1 > 200 then
 ((spec_l00Src_next r1.2).bind fun r2 =>
 (mod? (w64 ((w64 (r1.1 * 256)) + r2.1)) n1).bind fun q1 =>
 some (q1, r2.2))
 else
 (mod? r1.1 n1).bind fun q2 =>
 some (q2, r1.2)
/-- (*loop.example/g01063/spec.l00Src).among -/
def spec_l00Src_among (s1 : GL00Src) (list1 : List Int) : Option (Int × GL00Src) :=
 (spec_l00Src_pick s1 (list1.length : Int)).bind fun r1 =>
 (at? list1 r1.1).bind fun v1 =>
 some (v1, r1.2)
/-- (*loop.example/g01063/spec.l00Src).one -/
def spec_l00Src_one (s1 : GL00Src) (n1 : Int) : Option (Bool × GL00Src) :=
 (spec_l00Src_pick s1 n1).bind fun r1 =>
 some ((decide (r1.1 = 0)), r1.2)
/-- loop.example/g01063/spec.l00From -/
def spec_l00From (code1 : List Int) : Option GL00Src :=
 some (GL00Src.mk code1 0 0)
/-- loop.example/g01063/spec.l05New -/
def spec_l05New (s1 : GL00Src) (n1 : Int) : Option ((List Int) × GL00Src) :=
 (spec_l00Src_pick s1 100).bind fun r1 =>
 onL (loop (S := (GL00Src × (List Int) × Int × Int)) (B := (GL00Src × (List Int))) (R := Empty) (fun ((s2, out1, at_1, k1) : GL00Src × (List Int) × Int × Int) =>
 if k1 > 0 then
 ((app? out1 ([at_1] : List Int)).bind fun l1 =>
 (spec_l00Src_pick s2 30).bind fun r2 =>
 (spec_l00Max 0 (w64 ((w64 (at_1 + r2.1)) - 14))).bind fun r3 =>
 some (.next (r2.2, l1, r3, w64 (k1 - 1))))
 else
 some (.brk (s2, out1))) loopLim (r1.2, [], r1.1, n1))
 (fun ((s3, out2) : GL00Src × (List Int)) => some (out2, s3)) Empty.elim
/-- loop.example/g01063/spec.l05Draw -/
def spec_l05Draw (s1 : GL00Src) : Option ((List Int) × GL00Src) :=
 (spec_l00Src_pick s1 12).bind fun r1 =>
 (spec_l00Src_one r1.2 16).bind fun r2 =>
 ((if r2.1 then
 ((spec_l00Src_among r2.2 [0, 1, 60, 61]).bind fun r3 =>
 some (r3.2, r3.1))
 else
 some (r2.2, w64 (1 + r1.1))) : Option (GL00Src × Int)).bind fun ((s2, n1) : GL00Src × Int) =>
 (spec_l05New s2 n1).bind fun r4 =>
 ((if n1 > 0 then
 ((spec_l00Src_one r4.2 12).bind fun r5 =>
 some (r5.2, r5.1))
 else
 some (r4.2, false)) : Option (GL00Src × Bool)).bind fun ((s3, x1) : GL00Src × Bool) =>
 if x1 then
 ((spec_l00Src_pick s3 n1).bind fun r6 =>
 (spec_l00Src_among r6.2 [(-1), 0, 1000, 1001, (-9223372036854775808)]).bind fun r7 =>
 (at? r4.1 r6.1).bind fun v1 =>
 some (r4.1.set r6.1.toNat r7.1, r7.2))
 else
 some (r4.1, s3)
/-- loop.example/g01063/spec.l05By -/
def spec_l05By (code1 : List Int) : Option ((List Int) × Int) :=
 (spec_l00From code1).bind fun r1 =>
 (spec_l05Draw r1).bind fun r2 =>
 (spec_l00Src_one r2.2 8).bind fun r3 =>
 if r3.1 then
 ((spec_l00Src_among r3.2 [(-1), 0, 1, (r2.1.length : Int), w64 ((r2.1.length : Int) + 1), 60, 61]).bind fun r4 =>
 some (r2.1, r4.1))
 else
 (spec_l00Src_pick r3.2 6).bind fun r5 =>
 some (r2.1, w64 (1 + r5.1))
/-- loop.example/g01063/spec.DrawCloseLoop -/
def spec_DrawCloseLoop (code1 : List Int) : Option ((List Int) × Int) :=
 (spec_l05By code1).bind fun r1 =>
 some (r1.1, r1.2)
/-- loop.example/g01063/spec.DrawJoinLoops -/
def spec_DrawJoinLoops (code1 : List Int) : Option ((List Int) × (List Int)) :=
 (spec_l00From code1).bind fun r1 =>
 (spec_l05Draw r1).bind fun r2 =>
 (spec_l00Src_one r2.2 12).bind fun r3 =>
 if r3.1 then
 ((spec_l05New r3.2 20).bind fun r4 =>
 (spec_l00Src_pick r4.2 2).bind fun r5 =>
 (spec_l05New r5.2 (w64 (18 + r5.1))).bind fun r6 =>
 some (r4.1, r6.1))
 else
 (spec_l05Draw r3.2).bind fun r7 =>
 some (r2.1, r7.1)
/-- loop.example/g01063/spec.DrawThinLoop -/
def spec_DrawThinLoop (code1 : List Int) : Option ((List Int) × Int) :=
 (spec_l05By code1).bind fun r1 =>
 (spec_l00From code1).bind fun r2 =>
 ((if (r1.1.length : Int) > 0 then
 ((spec_l00Src_one r2 2).bind fun r3 =>
 some (r3.2, r3.1))
 else
 some (r2, false)) : Option (GL00Src × Bool)).bind fun ((s1, x1) : GL00Src × Bool) =>
 if x1 then
 ((spec_l05New s1 12).bind fun r4 =>
 (spec_l00Src_pick r4.2 6).bind fun r5 =>
 some (r4.1, w64 (1 + r5.1)))
 else
 some (r1.1, r1.2)
/-- loop.example/g01063/spec.DrawTurnLoop -/
def spec_DrawTurnLoop (code1 : List Int) : Option ((List Int) × Int) :=
 (spec_l05By code1).bind fun r1 =>
 some (r1.1, r1.2)
/-- loop.example/g01063/spec.l00Gcd -/
def spec_l00Gcd (a1 : Int) (b1 : Int) : Option Int :=
 onL (loop (S := (Int × Int)) (B := Int) (R := Empty) (fun ((a2, b2) : Int × Int) =>
 if b2 = 0 then
 (some (.brk a2))
 else
 (mod? a2 b2).bind fun q1 =>
 some (.next (b2, q1))) loopLim (a1, b1))
 (fun (a3 : Int) => some a3) Empty.elim
/-- loop.example/g01063/spec.l05Common -/
def spec_l05Common (a1 : Int) (b1 : Int) : Option Int :=
 (spec_l00Gcd a1 b1).bind fun r1 =>
 (div? .i64 a1 r1).bind fun q1 =>
 some (w64 (q1 * b1))
/-- loop.example/g01063/spec.JoinLoops -/
def spec_JoinLoops (a1 : List Int) (b1 : List Int) : Option ((List (List Int)) × Int) :=
 (((spec_l05Ok a1).bind fun r1 =>
 if r1 then
 ((spec_l05Ok b1).bind fun r2 =>
 some (!r2))
 else
 some true) : Option Bool).bind fun (x1 : Bool) =>
 if x1 then
 (some ([], 1))
 else
 (spec_l05Common (a1.length : Int) (b1.length : Int)).bind fun r3 =>
 if r3 > 360 then
 (some ([], 5))
 else
 onL (loop (S := ((List (List Int)) × Int)) (B := (List (List Int))) (R := Empty) (fun ((out1, i1) : (List (List Int)) × Int) =>
 if i1 < r3 then
 ((mod? i1 (a1.length : Int)).bind fun q1 =>
 (at? a1 q1).bind fun v1 =>
 (mod? i1 (b1.length : Int)).bind fun q2 =>
 (at? b1 q2).bind fun v2 =>
 (app? out1 ([[v1, v2]] : List (List Int))).bind fun l1 =>
 some (.next (l1, w64 (i1 + 1))))
 else
 some (.brk out1)) loopLim ([], 0))
 (fun (out2 : List (List Int)) => some (out2, 0)) Empty.elim
/-- loop.example/g01063/spec.ThinLoop -/
def spec_ThinLoop (places1 : List Int) (each1 : Int) : Option ((List Int) × Int) :=
 (spec_l05Ok places1).bind fun r1 =>
 if r1 then
 ((spec_l00In each1 1 60).bind fun r2 =>
 if r2 then
 ((mod? (places1.length : Int) each1).bind fun q1 =>
 if q1 = 0 then
 (onL (loop (S := ((List Int) × Int)) (B := (List Int)) (R := Empty) (fun ((out1, i1) : (List Int) × Int) =>
 if i1 < (places1.length : Int) then
 ((at? places1 i1).bind fun v1 =>
 (app? out1 ([v1] : List Int)).bind fun l1 =>
 some (.next (l1, w64 (i1 + each1))))
 else
 some (.brk out1)) loopLim ([], 0))
 (fun (out2 : List Int) => some (out2, 0)) Empty.elim)
 else
 some ([], 8))
 else
 some ([], 2))
 else
 some ([], 1)
/-- loop.example/g01063/spec.l05Turned -/
def spec_l05Turned (places1 : List Int) (by_1 : Int) : Option (List Int) :=
 onL (loop (S := ((List Int) × Int)) (B := (List Int)) (R := Empty) (fun ((out1, i1) : (List Int) × Int) =>
 if i1 < (places1.length : Int) then
 ((mod? (w64 (i1 + by_1)) (places1.length : Int)).bind fun q1 =>
 (at? places1 q1).bind fun v1 =>
 (app? out1 ([v1] : List Int)).bind fun l1 =>
 some (.next (l1, w64 (i1 + 1))))
 else
 some (.brk out1)) loopLim ([], 0))
 (fun (out2 : List Int) => some out2) Empty.elim
/-- loop.example/g01063/spec.TurnLoop -/
def spec_TurnLoop (places1 : List Int) (by_1 : Int) : Option ((List Int) × Int) :=
 (spec_l05Ok places1).bind fun r1 =>
 if r1 then
 ((spec_l00In by_1 0 60).bind fun r2 =>
 if r2 then
 ((spec_l05Turned places1 by_1).bind fun r3 =>
 some (r3, 0))
 else
 some ([], 2))
 else
 some ([], 1)
/-- loop.example/g01063/laws.FnJoinedLoops -/
def laws_FnJoinedLoops (code1 : List Int) : Option Bool :=
 (laws_f6big code1).bind fun r1 =>
 if r1 then
 (some true)
 else
 (spec_DrawJoinLoops code1).bind fun r2 =>
 (impl_JoinLoops r2.1 r2.2).bind fun r3 =>
 (spec_JoinLoops r2.1 r2.2).bind fun r4 =>
 (spec_DrawCloseLoop code1).bind fun r5 =>
 (impl_CloseLoop r5.1 r5.2).bind fun r6 =>
 (spec_CloseLoop r5.1 r5.2).bind fun r7 =>
 (spec_DrawThinLoop code1).bind fun r8 =>
 (impl_ThinLoop r8.1 r8.2).bind fun r9 =>
 (spec_ThinLoop r8.1 r8.2).bind fun r10 =>
 (spec_DrawTurnLoop code1).bind fun r11 =>
 (impl_TurnLoop r11.1 r11.2).bind fun r12 =>
 (spec_TurnLoop r11.1 r11.2).bind fun r13 =>
 ((if r3.2 = r4.2 then
 (if (r3.1.length : Int) = (r4.1.length : Int) then
 (if r6.2 = r7.2 then
 ((laws_f6ints r6.1 r7.1).bind fun r14 =>
 if r14 then
 (if r9.2 = r10.2 then
 ((laws_f6ints r9.1 r10.1).bind fun r15 =>
 if r15 then
 (if r12.2 = r13.2 then
 ((laws_f6ints r12.1 r13.1).bind fun r16 =>
 some (!r16))
 else
 some true)
 else
 some true)
 else
 some true)
 else
 some true)
 else
 some true)
 else
 some true)
 else
 some true) : Option Bool).bind fun (x1 : Bool) =>
 if x1 then
 (some false)
 else
 onS (S := Unit) (B := Empty) (R := Bool) (if r6.2 = 0 then
 (onL (loop (S := Int) (B := Unit) (R := Bool) (fun (i1 : Int) =>
 if i1 < (w64 ((r5.1.length : Int) - r5.2)) then
 ((at? r7.1 i1).bind fun v1 =>
 (at? r5.1 i1).bind fun v2 =>
 if v1 = v2 then
 (some (.next (w64 (i1 + 1))))
 else
 some (.ret false))
 else
 some (.brk ())) loopLim 0)
 (fun (_ : Unit) => some (.next ())) (fun r => some (.ret r)))
 else
 some (.next ()))
 (fun (_ : Unit) => ((if r9.2 = 0 then
 (some (!(decide ((w64 ((r10.1.length : Int) * r8.2)) = (r8.1.length : Int)))))
 else
 some false) : Option Bool).bind fun (x2 : Bool) =>
 if x2 then
 (some false)
 else
 ((if r12.2 = 0 then
 ((laws_f6sum r13.1).bind fun r17 =>
 (laws_f6sum r11.1).bind fun r18 =>
 some (!(decide (r17 = r18))))
 else
 some false) : Option Bool).bind fun (x3 : Bool) =>
 if x3 then
 (some false)
 else
 onL (loop (S := Int) (B := Unit) (R := Bool) (fun (i2 : Int) =>
 if i2 < (r4.1.length : Int) then
 ((((at? r3.1 i2).bind fun v3 =>
 (at? r4.1 i2).bind fun v4 =>
 (laws_f6ints v3 v4).bind fun r19 =>
 if r19 then
 ((at? r4.1 i2).bind fun v5 =>
 if (v5.length : Int) = 2 then
 ((at? r4.1 i2).bind fun v6 =>
 (at? v6 0).bind fun v7 =>
 (mod? i2 (r2.1.length : Int)).bind fun q1 =>
 (at? r2.1 q1).bind fun v8 =>
 if v7 = v8 then
 ((at? r4.1 i2).bind fun v9 =>
 (at? v9 1).bind fun v10 =>
 (mod? i2 (r2.2.length : Int)).bind fun q2 =>
 (at? r2.2 q2).bind fun v11 =>
 some (!(decide (v10 = v11))))
 else
 some true)
 else
 some true)
 else
 some true) : Option Bool).bind fun (x4 : Bool) =>
 if x4 then
 (some (.ret false))
 else
 some (.next (w64 (i2 + 1))))
 else
 some (.brk ())) loopLim 0)
 (fun (_ : Unit) => if r3.2 = 0 then
 ((mod? (r4.1.length : Int) (r2.1.length : Int)).bind fun q3 =>
 if q3 = 0 then
 ((mod? (r4.1.length : Int) (r2.2.length : Int)).bind fun q4 =>
 some (decide (q4 = 0)))
 else
 some false)
 else
 some true) (fun r => some r))
 Empty.elim (fun r => some r)
end Go.Vs.G
