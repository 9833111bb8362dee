/- The functions that the law reaches, as typed Lean functions, printed by program. No conditions. -/
import Derived.Test.YtiefnapeghkjnaaV5
set_option maxRecDepth 100000
open Go Go.Vs
namespace Go.Vs.G
structure GFraction where
  Num : Int
  Den : Int
  deriving DecidableEq, Inhabited
structure GL00Src where
  code : List Int
  at_ : Int
  seed : Int
  deriving DecidableEq, Inhabited
structure GPoint where
  X : Int
  Y : Int
  deriving DecidableEq, Inhabited
structure GScene where
  Pose : List UInt8
  Ticks : Int
  deriving DecidableEq, Inhabited
def GScene.enc (x : GScene) : Tree := .agg [.str x.Pose, .int .i64 x.Ticks]
def GFraction.ok (x : GFraction) : Prop := (okI .i64) x.Num ∧ (okI .i64) x.Den
def GL00Src.ok (x : GL00Src) : Prop := (okL (okI .u8)) x.code ∧ (okI .i64) x.at_ ∧ (okI .u64) x.seed
def GPoint.ok (x : GPoint) : Prop := (okI .i64) x.X ∧ (okI .i64) x.Y
def GScene.ok (x : GScene) : Prop := okS x.Pose ∧ (okI .i64) x.Ticks
/-- loop.example/g01063/impl.isLetters -/
def impl_isLetters (s1 : List UInt8) (most1 : Int) : Option Bool :=
 onL (loop (S := Int) (B := Unit) (R := Bool) (fun (i1 : Int) =>
 if i1 < (s1.length : Int) then
 ((((at? s1 i1).bind fun c1 =>
 if (c1.toNat : Int) < 97 then
 (some true)
 else
 (at? s1 i1).bind fun c2 =>
 some (decide ((c2.toNat : Int) > 122))) : Option Bool).bind fun (x1 : Bool) =>
 if x1 then
 (some (.ret false))
 else
 some (.next (w64 (i1 + 1))))
 else
 some (.brk ())) loopLim 0)
 (fun (_ : Unit) => if (s1.length : Int) ≥ 1 then
 (some (decide ((s1.length : Int) ≤ most1)))
 else
 some false) (fun r => some r)
/-- loop.example/g01063/impl.within -/
def impl_within (n1 : Int) (low1 : Int) (high1 : Int) : Option Bool :=
 if n1 ≥ low1 then
 (some (decide (n1 ≤ high1)))
 else
 some false
/-- loop.example/g01063/impl.ValidScenes -/
def impl_ValidScenes (list1 : List GScene) : Option Bool :=
 onL (loop (S := Int) (B := Unit) (R := Bool) (fun (x1 : Int) =>
 if x1 < (list1.length : Int) then
 ((at? list1 x1).bind fun v1 =>
 (((impl_isLetters v1.Pose 1).bind fun r1 =>
 if r1 then
 ((impl_within v1.Ticks 1 1000).bind fun r2 =>
 if r2 then
 (if x1 > 0 then
 ((at? list1 (w64 (x1 - 1))).bind fun v2 =>
 some (v2.Pose == v1.Pose))
 else
 some false)
 else
 some true)
 else
 some true) : Option Bool).bind fun (x2 : Bool) =>
 if x2 then
 (some (.ret false))
 else
 some (.next (w64 (x1 + 1))))
 else
 some (.brk ())) loopLim 0)
 (fun (_ : Unit) => if (list1.length : Int) ≥ 1 then
 (some (decide ((list1.length : Int) ≤ 12)))
 else
 some false) (fun r => some r)
/-- loop.example/g01063/impl.rounded -/
def impl_rounded (num1 : Int) (den1 : Int) : Option Int :=
 (div? .i64 (w64 ((w64 (2 * num1)) + den1)) (w64 (2 * den1))).bind fun q1 =>
 (mod? (w64 ((w64 (2 * num1)) + den1)) (w64 (2 * den1))).bind fun q2 =>
 if q2 < 0 then
 (some (w64 (q1 - 1)))
 else
 some q1
/-- loop.example/g01063/impl.pagesOf -/
def impl_pagesOf (list1 : List GScene) (each1 : Int) : Option (List Int) :=
 onL (loop (S := ((List Int) × Int)) (B := (List Int)) (R := Empty) (fun ((out1, x1) : (List Int) × Int) =>
 if x1 < (list1.length : Int) then
 ((at? list1 x1).bind fun v1 =>
 (impl_rounded v1.Ticks each1).bind fun r1 =>
 (app? out1 ([imax r1 1] : List Int)).bind fun l1 =>
 some (.next (l1, w64 (x1 + 1))))
 else
 some (.brk out1)) loopLim ([], 0))
 (fun (out2 : List Int) => some out2) Empty.elim
/-- loop.example/g01063/impl.sumOf -/
def impl_sumOf (list1 : List Int) : Option Int :=
 onL (loop (S := (Int × Int)) (B := Int) (R := Empty) (fun ((sum1, x1) : Int × Int) =>
 if x1 < (list1.length : Int) then
 ((at? list1 x1).bind fun v1 =>
 some (.next (w64 (sum1 + v1), w64 (x1 + 1))))
 else
 some (.brk sum1)) loopLim (0, 0))
 (fun (sum2 : Int) => some sum2) Empty.elim
/-- loop.example/g01063/impl.bookCode -/
def impl_bookCode (list1 : List GScene) (each1 : Int) : Option Int :=
 (impl_ValidScenes list1).bind fun r1 =>
 if r1 then
 ((impl_within each1 1 100).bind fun r2 =>
 if r2 then
 ((impl_pagesOf list1 each1).bind fun r3 =>
 (impl_sumOf r3).bind fun r4 =>
 if r4 > 60 then
 (some 5)
 else
 some 0)
 else
 some 2)
 else
 some 1
/-- loop.example/g01063/impl.BookFor -/
def impl_BookFor (list1 : List GScene) (each1 : Int) : Option ((List UInt8) × Int) :=
 (impl_bookCode list1 each1).bind fun r1 =>
 if r1 = 0 then
 ((impl_pagesOf list1 each1).bind fun r2 =>
 onL (loop (S := ((List UInt8) × Int)) (B := (List UInt8)) (R := Empty) (fun ((out1, x1) : (List UInt8) × Int) =>
 if x1 < (r2.length : Int) then
 ((at? r2 x1).bind fun v1 =>
 (at? list1 x1).bind fun v2 =>
 (strings_Repeat v2.Pose v1).bind fun r3 =>
 (app? (out1 : List UInt8) r3).bind fun s1 =>
 some (.next (s1, w64 (x1 + 1))))
 else
 some (.brk out1)) loopLim ([], 0))
 (fun (out2 : List UInt8) => some (out2, 0)) Empty.elim)
 else
 some ([], r1)
/-- loop.example/g01063/impl.apart -/
def impl_apart (a1 : Int) (b1 : Int) : Option Int :=
 some (imax (w64 (a1 - b1)) (w64 (b1 - a1)))
/-- loop.example/g01063/impl.errorOf -/
def impl_errorOf (list1 : List GScene) (each1 : Int) : Option Int :=
 (impl_pagesOf list1 each1).bind fun r1 =>
 onL (loop (S := (Int × Int)) (B := Int) (R := Empty) (fun ((sum1, x1) : Int × Int) =>
 if x1 < (r1.length : Int) then
 ((at? r1 x1).bind fun v1 =>
 (at? list1 x1).bind fun v2 =>
 (impl_apart (w64 (v1 * each1)) v2.Ticks).bind fun r2 =>
 some (.next (w64 (sum1 + r2), w64 (x1 + 1))))
 else
 some (.brk sum1)) loopLim (0, 0))
 (fun (sum2 : Int) => some sum2) Empty.elim
/-- loop.example/g01063/impl.ErrorOfBook -/
def impl_ErrorOfBook (list1 : List GScene) (each1 : Int) : Option (Int × Int) :=
 (impl_bookCode list1 each1).bind fun r1 =>
 if r1 = 0 then
 ((impl_errorOf list1 each1).bind fun r2 =>
 some (r2, 0))
 else
 some (0, r1)
/-- loop.example/g01063/impl.ExactTick$1 -/
def impl_ExactTick_1 (s1 : GScene) (x1 : Int) : Option Bool :=
 (mod? s1.Ticks x1).bind fun q1 =>
 some (!(decide (q1 = 0)))
/-- slices.IndexFunc[[]loop.example/g01063/impl.Scene,loop.example/g01063/impl.Scene] -/
def slices_IndexFunc_impl_Scene_impl_Scene_827 (s1 : List GScene) (f1 : GScene → Option Bool) : Option Int :=
 onL (loop (S := Int) (B := Unit) (R := Int) (fun (x1 : Int) =>
 if x1 < (s1.length : Int) then
 ((at? s1 x1).bind fun v1 =>
 (f1 v1).bind fun r1 =>
 if r1 then
 (some (.ret x1))
 else
 some (.next (w64 (x1 + 1))))
 else
 some (.brk ())) loopLim 0)
 (fun (_ : Unit) => some (-1)) (fun r => some r)
/-- slices.ContainsFunc[[]loop.example/g01063/impl.Scene,loop.example/g01063/impl.Scene] -/
def slices_ContainsFunc_impl_Scene_impl_Scene_805 (s1 : List GScene) (f1 : GScene → Option Bool) : Option Bool :=
 (slices_IndexFunc_impl_Scene_impl_Scene_827 s1 f1).bind fun r1 =>
 some (decide (r1 ≥ 0))
/-- loop.example/g01063/impl.ExactTick -/
def impl_ExactTick (list1 : List GScene) : Option (Int × Int) :=
 (impl_ValidScenes list1).bind fun r1 =>
 if r1 then
 (onL (loop (S := Int) (B := Int) (R := Empty) (fun (n1 : Int) =>
 (slices_ContainsFunc_impl_Scene_impl_Scene_805 list1 (fun a0 => impl_ExactTick_1 a0 n1)).bind fun r2 =>
 if r2 then
 (some (.next (w64 (n1 - 1))))
 else
 some (.brk n1)) loopLim 100)
 (fun (n2 : Int) => some (n2, 0)) Empty.elim)
 else
 some (0, 1)
/-- loop.example/g01063/impl.LengthOfScenes -/
def impl_LengthOfScenes (list1 : List GScene) : Option (Int × Int) :=
 (impl_ValidScenes list1).bind fun r1 =>
 if r1 then
 (onL (loop (S := (Int × Int)) (B := Int) (R := Empty) (fun ((sum1, x1) : Int × Int) =>
 if x1 < (list1.length : Int) then
 ((at? list1 x1).bind fun v1 =>
 some (.next (w64 (sum1 + v1.Ticks), w64 (x1 + 1))))
 else
 some (.brk sum1)) loopLim (0, 0))
 (fun (sum2 : Int) => some (sum2, 0)) Empty.elim)
 else
 some (0, 1)
/-- loop.example/g01063/impl.pagesCode -/
def impl_pagesCode (pages1 : List UInt8) (each1 : Int) : Option Int :=
 (impl_isLetters pages1 60).bind fun r1 =>
 if r1 then
 ((impl_within each1 1 100).bind fun r2 =>
 if r2 then
 (some 0)
 else
 some 2)
 else
 some 1
/-- loop.example/g01063/impl.PageAt -/
def impl_PageAt (pages1 : List UInt8) (each1 : Int) (tick1 : Int) : Option ((List UInt8) × Int) :=
 (impl_pagesCode pages1 each1).bind fun r1 =>
 if r1 = 0 then
 ((impl_within tick1 0 6000).bind fun r2 =>
 if r2 then
 ((div? .i64 tick1 each1).bind fun q1 =>
 if q1 ≥ (pages1.length : Int) then
 (some ([], 3))
 else
 (div? .i64 tick1 each1).bind fun q2 =>
 (sub? pages1 q2 (w64 (q2 + 1))).bind fun s1 =>
 some (s1, 0))
 else
 some ([], 2))
 else
 some ([], r1)
/-- loop.example/g01063/impl.ScenesOf -/
def impl_ScenesOf (pages1 : List UInt8) (each1 : Int) : Option ((List GScene) × Int) :=
 (impl_pagesCode pages1 each1).bind fun r1 =>
 if r1 = 0 then
 (onL (loop (S := ((List GScene) × Int)) (B := (List GScene)) (R := Empty) (fun ((out1, x1) : (List GScene) × Int) =>
 if x1 < (pages1.length : Int) then
 (((if x1 = 0 then
 (some true)
 else
 (at? pages1 (w64 (x1 - 1))).bind fun c1 =>
 (at? pages1 x1).bind fun c2 =>
 some (!(decide ((c1.toNat : Int) = (c2.toNat : Int))))) : Option Bool).bind fun (x2 : Bool) =>
 ((if x2 then
 ((sub? pages1 x1 (w64 (x1 + 1))).bind fun s1 =>
 (app? out1 ([(GScene.mk s1 0)] : List GScene)).bind fun l1 =>
 some l1)
 else
 some out1) : Option (List GScene)).bind fun (out2 : List GScene) =>
 (at? out2 (w64 ((out2.length : Int) - 1))).bind fun v1 =>
 (at? out2 (w64 ((out2.length : Int) - 1))).bind fun v2 =>
 some (.next (out2.set ((w64 ((out2.length : Int) - 1)).toNat) (GScene.mk v2.Pose (w64 (v1.Ticks + each1))), w64 (x1 + 1))))
 else
 some (.brk out1)) loopLim ([], 0))
 (fun (out3 : List GScene) => (impl_ValidScenes out3).bind fun r2 =>
 if r2 then
 (some (out3, 0))
 else
 some ([], 5)) Empty.elim)
 else
 some ([], r1)
/-- loop.example/g01063/laws.a2At -/
def laws_a2At (code1 : List Int) (at_1 : Int) (n1 : Int) : Option Int :=
 ((if at_1 ≥ (code1.length : Int) then
 (some true)
 else
 some (decide (n1 < 1))) : Option Bool).bind fun (x1 : Bool) =>
 if x1 then
 (some 0)
 else
 (at? code1 at_1).bind fun v1 =>
 (mod? (w64 (v1)) n1).bind fun q1 =>
 some q1
/-- loop.example/g01063/laws.a2Long -/
def laws_a2Long (code1 : List Int) (more1 : List Int) : Option Bool :=
 if (code1.length : Int) > 3000 then
 (some true)
 else
 some (decide ((more1.length : Int) > 3000))
/-- loop.example/g01063/spec.l00From -/
def spec_l00From (code1 : List Int) : Option GL00Src :=
 some (GL00Src.mk code1 0 0)
/-- (*loop.example/g01063/spec.l00Src).next -/
def spec_l00Src_next (s1 : GL00Src) : Option (Int × GL00Src) :=
 ((if s1.at_ < (s1.code.length : Int) then
 ((at? s1.code s1.at_).bind fun v1 =>
 some (w64 (v1)))
 else
 some 0) : Option Int).bind fun (b1 : Int) =>
 if (w64 (s1.at_ + 1)) ≤ (s1.code.length : Int) then
 (some (b1, (GL00Src.mk s1.code (w64 (s1.at_ + 1)) (IntKind.wrap .u64 ((IntKind.wrap .u64 ((IntKind.wrap .u64 (s1.seed * 6364136223846793005)) + (IntKind.wrap .u64 (b1)))) + 1442695040888963407)))))
 else
 (shr? .u64 (IntKind.wrap .u64 ((IntKind.wrap .u64 ((IntKind.wrap .u64 (s1.seed * 6364136223846793005)) + (IntKind.wrap .u64 (b1)))) + 1442695040888963407)) 40).bind fun q1 =>
 some (w64 (bit_and .u64 q1 255), (GL00Src.mk s1.code (w64 (s1.at_ + 1)) (IntKind.wrap .u64 ((IntKind.wrap .u64 ((IntKind.wrap .u64 (s1.seed * 6364136223846793005)) + (IntKind.wrap .u64 (b1)))) + 1442695040888963407))))
/-- (*loop.example/g01063/spec.l00Src).pick -/
def spec_l00Src_pick (s1 : GL00Src) (n1 : Int) : Option (Int × GL00Src) :=
 if n1 ≤ 1 then
 (some (0, s1))
 else
 (spec_l00Src_next s1).bind fun r1 =>
 if n1 > 200 then
 ((spec_l00Src_next r1.2).bind fun r2 =>
 (mod? (w64 ((w64 (r1.1 * 256)) + r2.1)) n1).bind fun q1 =>
 some (q1, r2.2))
 else
 (mod? r1.1 n1).bind fun q2 =>
 some (q2, r1.2)
/-- (*loop.example/g01063/spec.l00Src).one -/
def spec_l00Src_one (s1 : GL00Src) (n1 : Int) : Option (Bool × GL00Src) :=
 (spec_l00Src_pick s1 n1).bind fun r1 =>
 some ((decide (r1.1 = 0)), r1.2)
/-- (*loop.example/g01063/spec.l00Src).text -/
def spec_l00Src_text (s1 : GL00Src) (list1 : List (List UInt8)) : Option ((List UInt8) × GL00Src) :=
 (spec_l00Src_pick s1 (list1.length : Int)).bind fun r1 =>
 (at? list1 r1.1).bind fun v1 =>
 some (v1, r1.2)
/-- loop.example/g01063/spec.l08Draw -/
def spec_l08Draw (s1 : GL00Src) : Option ((List GScene) × GL00Src) :=
 (spec_l00Src_pick s1 6).bind fun r1 =>
 (spec_l00Src_pick r1.2 6).bind fun r2 =>
 onL (loop (S := (GL00Src × (List GScene) × (List UInt8) × Int)) (B := (GL00Src × (List GScene))) (R := Empty) (fun ((s2, out1, last1, k1) : GL00Src × (List GScene) × (List UInt8) × Int) =>
 if k1 > 0 then
 ((spec_l00Src_text s2 [[97], [98], [99], [100]]).bind fun r3 =>
 ((if (r3.1 == last1) then
 (some [101])
 else
 some r3.1) : Option (List UInt8)).bind fun (x1 : List UInt8) =>
 (spec_l00Src_pick r3.2 12).bind fun r4 =>
 (spec_l00Src_one r4.2 6).bind fun r5 =>
 ((if r5.1 then
 (some (w64 ((w64 ((w64 (1 + r1.1)) * (w64 (1 + r4.1)))) + 1)))
 else
 some (w64 ((w64 (1 + r1.1)) * (w64 (1 + r4.1))))) : Option Int).bind fun (x2 : Int) =>
 (app? out1 ([(GScene.mk x1 x2)] : List GScene)).bind fun l1 =>
 some (.next (r5.2, l1, x1, w64 (k1 - 1))))
 else
 some (.brk (s2, out1))) loopLim (r2.2, [], [], w64 (1 + r2.1)))
 (fun ((s3, out2) : GL00Src × (List GScene)) => some (out2, s3)) Empty.elim
/-- loop.example/g01063/spec.A2Scenes -/
def spec_A2Scenes (code1 : List Int) : Option (List GScene) :=
 (spec_l00From code1).bind fun r1 =>
 (spec_l08Draw r1).bind fun r2 =>
 some r2.1
/-- loop.example/g01063/spec.SameScenes -/
def spec_SameScenes (a1 : List GScene) (b1 : List GScene) : Option Bool :=
 if (a1.length : Int) = (b1.length : Int) then
 (onL (loop (S := Int) (B := Unit) (R := Bool) (fun (i1 : Int) =>
 if i1 < (a1.length : Int) then
 ((at? a1 i1).bind fun v1 =>
 (at? b1 i1).bind fun v2 =>
 if (v1.Pose == v2.Pose && (v1.Ticks == v2.Ticks && true)) then
 (some (.next (w64 (i1 + 1))))
 else
 some (.ret false))
 else
 some (.brk ())) loopLim 0)
 (fun (_ : Unit) => some true) (fun r => some r))
 else
 some false
/-- loop.example/g01063/laws.FnBooks -/
def laws_FnBooks (code1 : List Int) (more1 : List Int) : Option Bool :=
 (laws_a2Long code1 more1).bind fun r1 =>
 if r1 then
 (some true)
 else
 (spec_A2Scenes code1).bind fun r2 =>
 (impl_ExactTick r2).bind fun r3 =>
 (impl_LengthOfScenes r2).bind fun r4 =>
 ((if r3.2 = 0 then
 (if r3.1 < 1 then
 (some true)
 else
 if r3.1 > 100 then
 (some true)
 else
 some (!(decide (r4.2 = 0))))
 else
 some true) : Option Bool).bind fun (x1 : Bool) =>
 if x1 then
 (some false)
 else
 onL (loop (S := (Int × Int)) (B := Int) (R := Bool) (fun ((sum1, i1) : Int × Int) =>
 if i1 < (r2.length : Int) then
 ((at? r2 i1).bind fun v1 =>
 (mod? v1.Ticks r3.1).bind fun q1 =>
 if q1 = 0 then
 ((at? r2 i1).bind fun v2 =>
 some (.next (w64 (sum1 + v2.Ticks), w64 (i1 + 1))))
 else
 some (.ret false))
 else
 some (.brk sum1)) loopLim (0, 0))
 (fun (sum2 : Int) => (impl_BookFor r2 r3.1).bind fun r5 =>
 (impl_ErrorOfBook r2 r3.1).bind fun r6 =>
 ((if sum2 = r4.1 then
 (if r5.2 = r6.2 then
 (if ((decide (r5.2 = 0)) == (decide (sum2 ≤ (w64 (60 * r3.1))))) then
 (if r5.2 = 0 then
 (some false)
 else
 some (!(decide (r5.2 = 5))))
 else
 some true)
 else
 some true)
 else
 some true) : Option Bool).bind fun (x2 : Bool) =>
 if x2 then
 (some false)
 else
 if r5.2 = 0 then
 ((impl_ScenesOf r5.1 r3.1).bind fun r7 =>
 ((if (w64 ((r5.1.length : Int) * r3.1)) = sum2 then
 (if r6.1 = 0 then
 (if r7.2 = 0 then
 ((spec_SameScenes r7.1 r2).bind fun r8 =>
 some (!r8))
 else
 some true)
 else
 some true)
 else
 some true) : Option Bool).bind fun (x3 : Bool) =>
 if x3 then
 (some false)
 else
 (laws_a2At more1 0 sum2).bind fun r9 =>
 (impl_PageAt r5.1 r3.1 r9).bind fun r10 =>
 (impl_PageAt r5.1 r3.1 sum2).bind fun r11 =>
 onL (loop (S := (Int × Int)) (B := Int) (R := Empty) (fun ((at_1, k1) : Int × Int) =>
 ((if k1 < (r2.length : Int) then
 ((at? r2 k1).bind fun v3 =>
 some (decide ((w64 (at_1 + v3.Ticks)) ≤ r9)))
 else
 some false) : Option Bool).bind fun (x4 : Bool) =>
 if x4 then
 ((at? r2 k1).bind fun v4 =>
 some (.next (w64 (at_1 + v4.Ticks), w64 (k1 + 1))))
 else
 some (.brk k1)) loopLim (0, 0))
 (fun (k2 : Int) => if r10.2 = 0 then
 (if k2 < (r2.length : Int) then
 ((at? r2 k2).bind fun v5 =>
 if (r10.1 == v5.Pose) then
 (some (decide (r11.2 = 3)))
 else
 some false)
 else
 some false)
 else
 some false) Empty.elim)
 else
 some true) (fun r => some r)
end Go.Vs.G
