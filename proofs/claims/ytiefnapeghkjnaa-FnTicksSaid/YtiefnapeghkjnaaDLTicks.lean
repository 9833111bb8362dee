/- The functions that the law reaches, as typed Lean functions, printed by program. No conditions. -/
import Derived.Test.YtiefnapeghkjnaaV5
set_option maxRecDepth 100000
open Go Go.Vs
namespace Go.Vs.G
structure GFraction where
  Num : Int
  Den : Int
  deriving DecidableEq, Inhabited
structure GL00Src where
  code : List Int
  at_ : Int
  seed : Int
  deriving DecidableEq, Inhabited
structure GPoint where
  X : Int
  Y : Int
  deriving DecidableEq, Inhabited
structure GScene where
  Pose : List UInt8
  Ticks : Int
  deriving DecidableEq, Inhabited
def GScene.enc (x : GScene) : Tree := .agg [.str x.Pose, .int .i64 x.Ticks]
def GFraction.ok (x : GFraction) : Prop := (okI .i64) x.Num ∧ (okI .i64) x.Den
def GL00Src.ok (x : GL00Src) : Prop := (okL (okI .u8)) x.code ∧ (okI .i64) x.at_ ∧ (okI .u64) x.seed
def GPoint.ok (x : GPoint) : Prop := (okI .i64) x.X ∧ (okI .i64) x.Y
def GScene.ok (x : GScene) : Prop := okS x.Pose ∧ (okI .i64) x.Ticks
/-- loop.example/g01063/impl.isLetters -/
def impl_isLetters (s1 : List UInt8) (most1 : Int) : Option Bool :=
 onL (loop (S := Int) (B := Unit) (R := Bool) (fun (i1 : Int) =>
 if i1 < (s1.length : Int) then
 ((((at? s1 i1).bind fun c1 =>
 if (c1.toNat : Int) < 97 then
 (some true)
 else
 (at? s1 i1).bind fun c2 =>
 some (decide ((c2.toNat : Int) > 122))) : Option Bool).bind fun (x1 : Bool) =>
 if x1 then
 (some (.ret false))
 else
 some (.next (w64 (i1 + 1))))
 else
 some (.brk ())) loopLim 0)
 (fun (_ : Unit) => if (s1.length : Int) ≥ 1 then
 (some (decide ((s1.length : Int) ≤ most1)))
 else
 some false) (fun r => some r)
/-- loop.example/g01063/impl.within -/
def impl_within (n1 : Int) (low1 : Int) (high1 : Int) : Option Bool :=
 if n1 ≥ low1 then
 (some (decide (n1 ≤ high1)))
 else
 some false
/-- loop.example/g01063/impl.ValidScenes -/
def impl_ValidScenes (list1 : List GScene) : Option Bool :=
 onL (loop (S := Int) (B := Unit) (R := Bool) (fun (x1 : Int) =>
 if x1 < (list1.length : Int) then
 ((at? list1 x1).bind fun v1 =>
 (((impl_isLetters v1.Pose 1).bind fun r1 =>
 if r1 then
 ((impl_within v1.Ticks 1 1000).bind fun r2 =>
 if r2 then
 (if x1 > 0 then
 ((at? list1 (w64 (x1 - 1))).bind fun v2 =>
 some (v2.Pose == v1.Pose))
 else
 some false)
 else
 some true)
 else
 some true) : Option Bool).bind fun (x2 : Bool) =>
 if x2 then
 (some (.ret false))
 else
 some (.next (w64 (x1 + 1))))
 else
 some (.brk ())) loopLim 0)
 (fun (_ : Unit) => if (list1.length : Int) ≥ 1 then
 (some (decide ((list1.length : Int) ≤ 12)))
 else
 some false) (fun r => some r)
/-- loop.example/g01063/impl.apart -/
def impl_apart (a1 : Int) (b1 : Int) : Option Int :=
 some (imax (w64 (a1 - b1)) (w64 (b1 - a1)))
/-- loop.example/g01063/impl.rounded -/
def impl_rounded (num1 : Int) (den1 : Int) : Option Int :=
 (div? .i64 (w64 ((w64 (2 * num1)) + den1)) (w64 (2 * den1))).bind fun q1 =>
 (mod? (w64 ((w64 (2 * num1)) + den1)) (w64 (2 * den1))).bind fun q2 =>
 if q2 < 0 then
 (some (w64 (q1 - 1)))
 else
 some q1
/-- loop.example/g01063/impl.pagesOf -/
def impl_pagesOf (list1 : List GScene) (each1 : Int) : Option (List Int) :=
 onL (loop (S := ((List Int) × Int)) (B := (List Int)) (R := Empty) (fun ((out1, x1) : (List Int) × Int) =>
 if x1 < (list1.length : Int) then
 ((at? list1 x1).bind fun v1 =>
 (impl_rounded v1.Ticks each1).bind fun r1 =>
 (app? out1 ([imax r1 1] : List Int)).bind fun l1 =>
 some (.next (l1, w64 (x1 + 1))))
 else
 some (.brk out1)) loopLim ([], 0))
 (fun (out2 : List Int) => some out2) Empty.elim
/-- loop.example/g01063/impl.errorOf -/
def impl_errorOf (list1 : List GScene) (each1 : Int) : Option Int :=
 (impl_pagesOf list1 each1).bind fun r1 =>
 onL (loop (S := (Int × Int)) (B := Int) (R := Empty) (fun ((sum1, x1) : Int × Int) =>
 if x1 < (r1.length : Int) then
 ((at? r1 x1).bind fun v1 =>
 (at? list1 x1).bind fun v2 =>
 (impl_apart (w64 (v1 * each1)) v2.Ticks).bind fun r2 =>
 some (.next (w64 (sum1 + r2), w64 (x1 + 1))))
 else
 some (.brk sum1)) loopLim (0, 0))
 (fun (sum2 : Int) => some sum2) Empty.elim
/-- loop.example/g01063/impl.sumOf -/
def impl_sumOf (list1 : List Int) : Option Int :=
 onL (loop (S := (Int × Int)) (B := Int) (R := Empty) (fun ((sum1, x1) : Int × Int) =>
 if x1 < (list1.length : Int) then
 ((at? list1 x1).bind fun v1 =>
 some (.next (w64 (sum1 + v1), w64 (x1 + 1))))
 else
 some (.brk sum1)) loopLim (0, 0))
 (fun (sum2 : Int) => some sum2) Empty.elim
/-- loop.example/g01063/impl.BestTick -/
def impl_BestTick (list1 : List GScene) (most1 : Int) : Option (Int × Int × Int) :=
 (impl_ValidScenes list1).bind fun r1 =>
 if r1 then
 ((impl_within most1 1 60).bind fun r2 =>
 if r2 then
 (onL (loop (S := (Int × Int × Int)) (B := (Int × Int)) (R := Empty) (fun ((best1, least1, each1) : Int × Int × Int) =>
 if each1 ≤ 100 then
 ((impl_pagesOf list1 each1).bind fun r3 =>
 (impl_sumOf r3).bind fun r4 =>
 if r4 > most1 then
 (some (.next (best1, least1, w64 (each1 + 1))))
 else
 (impl_errorOf list1 each1).bind fun r5 =>
 ((if least1 < 0 then
 (some true)
 else
 some (decide (r5 ≤ least1))) : Option Bool).bind fun (x1 : Bool) =>
 if x1 then
 (some (.next (each1, r5, w64 (each1 + 1))))
 else
 some (.next (best1, least1, w64 (each1 + 1))))
 else
 some (.brk (best1, least1))) loopLim (0, (-1), 1))
 (fun ((best2, least2) : Int × Int) => if least2 < 0 then
 (some (0, 0, 3))
 else
 some (best2, least2, 0)) Empty.elim)
 else
 some (0, 0, 2))
 else
 some (0, 0, 1)
/-- loop.example/g01063/impl.bookCode -/
def impl_bookCode (list1 : List GScene) (each1 : Int) : Option Int :=
 (impl_ValidScenes list1).bind fun r1 =>
 if r1 then
 ((impl_within each1 1 100).bind fun r2 =>
 if r2 then
 ((impl_pagesOf list1 each1).bind fun r3 =>
 (impl_sumOf r3).bind fun r4 =>
 if r4 > 60 then
 (some 5)
 else
 some 0)
 else
 some 2)
 else
 some 1
/-- loop.example/g01063/impl.BookFor -/
def impl_BookFor (list1 : List GScene) (each1 : Int) : Option ((List UInt8) × Int) :=
 (impl_bookCode list1 each1).bind fun r1 =>
 if r1 = 0 then
 ((impl_pagesOf list1 each1).bind fun r2 =>
 onL (loop (S := ((List UInt8) × Int)) (B := (List UInt8)) (R := Empty) (fun ((out1, x1) : (List UInt8) × Int) =>
 if x1 < (r2.length : Int) then
 ((at? r2 x1).bind fun v1 =>
 (at? list1 x1).bind fun v2 =>
 (strings_Repeat v2.Pose v1).bind fun r3 =>
 (app? (out1 : List UInt8) r3).bind fun s1 =>
 some (.next (s1, w64 (x1 + 1))))
 else
 some (.brk out1)) loopLim ([], 0))
 (fun (out2 : List UInt8) => some (out2, 0)) Empty.elim)
 else
 some ([], r1)
/-- loop.example/g01063/impl.ErrorOfBook -/
def impl_ErrorOfBook (list1 : List GScene) (each1 : Int) : Option (Int × Int) :=
 (impl_bookCode list1 each1).bind fun r1 =>
 if r1 = 0 then
 ((impl_errorOf list1 each1).bind fun r2 =>
 some (r2, 0))
 else
 some (0, r1)
/-- loop.example/g01063/laws.a2At -/
def laws_a2At (code1 : List Int) (at_1 : Int) (n1 : Int) : Option Int :=
 ((if at_1 ≥ (code1.length : Int) then
 (some true)
 else
 some (decide (n1 < 1))) : Option Bool).bind fun (x1 : Bool) =>
 if x1 then
 (some 0)
 else
 (at? code1 at_1).bind fun v1 =>
 (mod? (w64 (v1)) n1).bind fun q1 =>
 some q1
/-- loop.example/g01063/laws.a2Long -/
def laws_a2Long (code1 : List Int) (more1 : List Int) : Option Bool :=
 if (code1.length : Int) > 3000 then
 (some true)
 else
 some (decide ((more1.length : Int) > 3000))
/-- loop.example/g01063/spec.l00From -/
def spec_l00From (code1 : List Int) : Option GL00Src :=
 some (GL00Src.mk code1 0 0)
/-- (*loop.example/g01063/spec.l00Src).next -/
def spec_l00Src_next (s1 : GL00Src) : Option (Int × GL00Src) :=
 ((if s1.at_ < (s1.code.length : Int) then
 ((at? s1.code s1.at_).bind fun v1 =>
 some (w64 (v1)))
 else
 some 0) : Option Int).bind fun (b1 : Int) =>
 if (w64 (s1.at_ + 1)) ≤ (s1.code.length : Int) then
 (some (b1, (GL00Src.mk s1.code (w64 (s1.at_ + 1)) (IntKind.wrap .u64 ((IntKind.wrap .u64 ((IntKind.wrap .u64 (s1.seed * 6364136223846793005)) + (IntKind.wrap .u64 (b1)))) + 1442695040888963407)))))
 else
 (shr? .u64 (IntKind.wrap .u64 ((IntKind.wrap .u64 ((IntKind.wrap .u64 (s1.seed * 6364136223846793005)) + (IntKind.wrap .u64 (b1)))) + 1442695040888963407)) 40).bind fun q1 =>
 some (w64 (bit_and .u64 q1 255), (GL00Src.mk s1.code (w64 (s1.at_ + 1)) (IntKind.wrap .u64 ((IntKind.wrap .u64 ((IntKind.wrap .u64 (s1.seed * 6364136223846793005)) + (IntKind.wrap .u64 (b1)))) + 1442695040888963407))))
/-- (*loop.example/g01063/spec.l00Src).pick -/
def spec_l00Src_pick (s1 : GL00Src) (n1 : Int) : Option (Int × GL00Src) :=
 if n1 ≤ 1 then
 (some (0, s1))
 else
 (spec_l00Src_next s1).bind fun r1 =>
 if n1 > 200 then
 ((spec_l00Src_next r1.2).bind fun r2 =>
 (mod? (w64 ((w64 (r1.1 * 256)) + r2.1)) n1).bind fun q1 =>
 some (q1, r2.2))
 else
 (mod? r1.1 n1).bind fun q2 =>
 some (q2, r1.2)
/-- (*loop.example/g01063/spec.l00Src).one -/
def spec_l00Src_one (s1 : GL00Src) (n1 : Int) : Option (Bool × GL00Src) :=
 (spec_l00Src_pick s1 n1).bind fun r1 =>
 some ((decide (r1.1 = 0)), r1.2)
/-- (*loop.example/g01063/spec.l00Src).text -/
def spec_l00Src_text (s1 : GL00Src) (list1 : List (List UInt8)) : Option ((List UInt8) × GL00Src) :=
 (spec_l00Src_pick s1 (list1.length : Int)).bind fun r1 =>
 (at? list1 r1.1).bind fun v1 =>
 some (v1, r1.2)
/-- loop.example/g01063/spec.l08Draw -/
def spec_l08Draw (s1 : GL00Src) : Option ((List GScene) × GL00Src) :=
 (spec_l00Src_pick s1 6).bind fun r1 =>
 (spec_l00Src_pick r1.2 6).bind fun r2 =>
 onL (loop (S := (GL00Src × (List GScene) × (List UInt8) × Int)) (B := (GL00Src × (List GScene))) (R := Empty) (fun ((s2, out1, last1, k1) : GL00Src × (List GScene) × (List UInt8) × Int) =>
 if k1 > 0 then
 ((spec_l00Src_text s2 [[97], [98], [99], [100]]).bind fun r3 =>
 ((if (r3.1 == last1) then
 (some [101])
 else
 some r3.1) : Option (List UInt8)).bind fun (x1 : List UInt8) =>
 (spec_l00Src_pick r3.2 12).bind fun r4 =>
 (spec_l00Src_one r4.2 6).bind fun r5 =>
 ((if r5.1 then
 (some (w64 ((w64 ((w64 (1 + r1.1)) * (w64 (1 + r4.1)))) + 1)))
 else
 some (w64 ((w64 (1 + r1.1)) * (w64 (1 + r4.1))))) : Option Int).bind fun (x2 : Int) =>
 (app? out1 ([(GScene.mk x1 x2)] : List GScene)).bind fun l1 =>
 some (.next (r5.2, l1, x1, w64 (k1 - 1))))
 else
 some (.brk (s2, out1))) loopLim (r2.2, [], [], w64 (1 + r2.1)))
 (fun ((s3, out2) : GL00Src × (List GScene)) => some (out2, s3)) Empty.elim
/-- loop.example/g01063/spec.A2Scenes -/
def spec_A2Scenes (code1 : List Int) : Option (List GScene) :=
 (spec_l00From code1).bind fun r1 =>
 (spec_l08Draw r1).bind fun r2 =>
 some r2.1
/-- loop.example/g01063/laws.FnTicks -/
def laws_FnTicks (code1 : List Int) (more1 : List Int) : Option Bool :=
 (laws_a2Long code1 more1).bind fun r1 =>
 if r1 then
 (some true)
 else
 (spec_A2Scenes code1).bind fun r2 =>
 (laws_a2At more1 0 40).bind fun r3 =>
 (impl_BestTick r2 (w64 (1 + r3))).bind fun r4 =>
 (laws_a2At more1 1 100).bind fun r5 =>
 (impl_BookFor r2 (w64 (1 + r5))).bind fun r6 =>
 (impl_ErrorOfBook r2 (w64 (1 + r5))).bind fun r7 =>
 ((if r6.2 = r7.2 then
 (if r6.2 = 0 then
 (some false)
 else
 some (!(decide (r6.2 = 5))))
 else
 some true) : Option Bool).bind fun (x1 : Bool) =>
 if x1 then
 (some false)
 else
 ((if r6.2 = 0 then
 (if (r6.1.length : Int) ≤ (w64 (1 + r3)) then
 (if r4.2.2 = 0 then
 (if r7.1 < r4.2.1 then
 (some true)
 else
 if r7.1 = r4.2.1 then
 (some (decide ((w64 (1 + r5)) > r4.1)))
 else
 some false)
 else
 some true)
 else
 some false)
 else
 some false) : Option Bool).bind fun (x2 : Bool) =>
 if x2 then
 (some false)
 else
 if r4.2.2 = 0 then
 ((impl_BookFor r2 r4.1).bind fun r8 =>
 (impl_ErrorOfBook r2 r4.1).bind fun r9 =>
 if r4.1 ≥ 1 then
 (if r4.1 ≤ 100 then
 (if r8.2 = 0 then
 (if (r8.1.length : Int) ≤ (w64 (1 + r3)) then
 (if (r8.1.length : Int) ≥ (r2.length : Int) then
 (if r9.2 = 0 then
 (if r9.1 = r4.2.1 then
 (some (decide (r4.2.1 ≥ 0)))
 else
 some false)
 else
 some false)
 else
 some false)
 else
 some false)
 else
 some false)
 else
 some false)
 else
 some false)
 else
 ((if r4.2.2 = 3 then
 (some (decide ((w64 (1 + r3)) < (r2.length : Int))))
 else
 some false) : Option Bool).bind fun (x3 : Bool) =>
 some x3
end Go.Vs.G
