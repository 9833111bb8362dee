/- The functions that the law reaches, as typed Lean functions, printed by program. No conditions. -/
import Derived.Test.YtiefnapeghkjnaaV5
set_option maxRecDepth 100000
open Go Go.Vs
namespace Go.Vs.G
structure GFraction where
  Num : Int
  Den : Int
  deriving DecidableEq, Inhabited
structure GL00Src where
  code : List Int
  at_ : Int
  seed : Int
  deriving DecidableEq, Inhabited
structure GLensHall where
  Throw : Int
  Least : Int
  Widest : Int
  deriving DecidableEq, Inhabited
structure GPoint where
  X : Int
  Y : Int
  deriving DecidableEq, Inhabited
def GLensHall.enc (x : GLensHall) : Tree := .agg [.int .i64 x.Throw, .int .i64 x.Least, .int .i64 x.Widest]
def GFraction.ok (x : GFraction) : Prop := (okI .i64) x.Num ∧ (okI .i64) x.Den
def GL00Src.ok (x : GL00Src) : Prop := (okL (okI .u8)) x.code ∧ (okI .i64) x.at_ ∧ (okI .u64) x.seed
def GLensHall.ok (x : GLensHall) : Prop := (okI .i64) x.Throw ∧ (okI .i64) x.Least ∧ (okI .i64) x.Widest
def GPoint.ok (x : GPoint) : Prop := (okI .i64) x.X ∧ (okI .i64) x.Y
/-- loop.example/g01063/impl.within -/
def impl_within (n1 : Int) (low1 : Int) (high1 : Int) : Option Bool :=
 if n1 ≥ low1 then
 (some (decide (n1 ≤ high1)))
 else
 some false
/-- loop.example/g01063/impl.isFocal -/
def impl_isFocal (n1 : Int) : Option Bool :=
 (impl_within n1 1 2000).bind fun r1 =>
 some r1
/-- loop.example/g01063/impl.lensesOk$1 -/
def impl_lensesOk_1 (f1 : Int) : Option Bool :=
 (impl_isFocal f1).bind fun r1 =>
 some (!r1)
/-- slices.IndexFunc[[]int64,int64] -/
def slices_IndexFunc_int64_int64_818 (s1 : List Int) (f1 : Int → Option Bool) : Option Int :=
 onL (loop (S := Int) (B := Unit) (R := Int) (fun (x1 : Int) =>
 if x1 < (s1.length : Int) then
 ((at? s1 x1).bind fun v1 =>
 (f1 v1).bind fun r1 =>
 if r1 then
 (some (.ret x1))
 else
 some (.next (w64 (x1 + 1))))
 else
 some (.brk ())) loopLim 0)
 (fun (_ : Unit) => some (-1)) (fun r => some r)
/-- slices.ContainsFunc[[]int64,int64] -/
def slices_ContainsFunc_int64_int64_796 (s1 : List Int) (f1 : Int → Option Bool) : Option Bool :=
 (slices_IndexFunc_int64_int64_818 s1 f1).bind fun r1 =>
 some (decide (r1 ≥ 0))
/-- loop.example/g01063/impl.lensesOk -/
def impl_lensesOk (list1 : List Int) (most1 : Int) : Option Bool :=
 if (list1.length : Int) ≤ most1 then
 ((slices_ContainsFunc_int64_int64_796 list1 (fun a0 => impl_lensesOk_1 a0)).bind fun r1 =>
 some (!r1))
 else
 some false
/-- loop.example/g01063/impl.hallsCode -/
def impl_hallsCode (valid1 : Bool) (slide1 : Int) (focal1 : Int) (stock1 : List Int) : Option Int :=
 if valid1 then
 ((((impl_within slide1 1 200).bind fun r1 =>
 if r1 then
 ((impl_isFocal focal1).bind fun r2 =>
 if r2 then
 ((impl_lensesOk stock1 12).bind fun r3 =>
 some (!r3))
 else
 some true)
 else
 some true) : Option Bool).bind fun (x1 : Bool) =>
 if x1 then
 (some 2)
 else
 some 0)
 else
 some 1
/-- loop.example/g01063/impl.suits -/
def impl_suits (h1 : GLensHall) (slide1 : Int) (focal1 : Int) : Option Bool :=
 if (w64 (slide1 * (w64 (h1.Throw - focal1)))) ≥ (w64 (h1.Least * focal1)) then
 (some (decide ((w64 (slide1 * (w64 (h1.Throw - focal1)))) ≤ (w64 (h1.Widest * focal1)))))
 else
 some false
/-- loop.example/g01063/impl.isThrow -/
def impl_isThrow (n1 : Int) : Option Bool :=
 (impl_within n1 1 100000).bind fun r1 =>
 some r1
/-- loop.example/g01063/impl.validHall -/
def impl_validHall (h1 : GLensHall) : Option Bool :=
 (impl_isThrow h1.Throw).bind fun r1 =>
 if r1 then
 (if 1 ≤ h1.Least then
 (if h1.Least ≤ h1.Widest then
 (some (decide (h1.Widest ≤ 100000)))
 else
 some false)
 else
 some false)
 else
 some false
/-- loop.example/g01063/impl.FocalRange -/
def impl_FocalRange (h1 : GLensHall) (slide1 : Int) : Option (Int × Int × Int) :=
 (impl_validHall h1).bind fun r1 =>
 (impl_hallsCode r1 slide1 1 []).bind fun r2 =>
 if r2 = 0 then
 (onL (loop (S := (Int × Int × Int)) (B := (Int × Int)) (R := Empty) (fun ((low1, high1, f1) : Int × Int × Int) =>
 if f1 ≤ 2000 then
 ((impl_suits h1 slide1 f1).bind fun r3 =>
 if r3 then
 (if low1 = 0 then
 (some (.next (f1, f1, w64 (f1 + 1))))
 else
 some (.next (low1, f1, w64 (f1 + 1))))
 else
 some (.next (low1, high1, w64 (f1 + 1))))
 else
 some (.brk (low1, high1))) loopLim (0, 0, 1))
 (fun ((low2, high2) : Int × Int) => if low2 = 0 then
 (some (0, 0, 3))
 else
 some (low2, high2, 0)) Empty.elim)
 else
 some (0, 0, r2)
/-- loop.example/g01063/impl.ValidLensHalls$1 -/
def impl_ValidLensHalls_1 (h1 : GLensHall) : Option Bool :=
 (impl_validHall h1).bind fun r1 =>
 some (!r1)
/-- slices.IndexFunc[[]loop.example/g01063/impl.LensHall,loop.example/g01063/impl.LensHall] -/
def slices_IndexFunc_impl_LensHall_impl_LensHall_824 (s1 : List GLensHall) (f1 : GLensHall → Option Bool) : Option Int :=
 onL (loop (S := Int) (B := Unit) (R := Int) (fun (x1 : Int) =>
 if x1 < (s1.length : Int) then
 ((at? s1 x1).bind fun v1 =>
 (f1 v1).bind fun r1 =>
 if r1 then
 (some (.ret x1))
 else
 some (.next (w64 (x1 + 1))))
 else
 some (.brk ())) loopLim 0)
 (fun (_ : Unit) => some (-1)) (fun r => some r)
/-- slices.ContainsFunc[[]loop.example/g01063/impl.LensHall,loop.example/g01063/impl.LensHall] -/
def slices_ContainsFunc_impl_LensHall_impl_LensHall_802 (s1 : List GLensHall) (f1 : GLensHall → Option Bool) : Option Bool :=
 (slices_IndexFunc_impl_LensHall_impl_LensHall_824 s1 f1).bind fun r1 =>
 some (decide (r1 ≥ 0))
/-- loop.example/g01063/impl.ValidLensHalls -/
def impl_ValidLensHalls (list1 : List GLensHall) : Option Bool :=
 if (list1.length : Int) ≤ 8 then
 ((slices_ContainsFunc_impl_LensHall_impl_LensHall_802 list1 (fun a0 => impl_ValidLensHalls_1 a0)).bind fun r1 =>
 some (!r1))
 else
 some false
/-- loop.example/g01063/impl.HallsFor -/
def impl_HallsFor (list1 : List GLensHall) (slide1 : Int) (focal1 : Int) : Option ((List Int) × Int) :=
 (impl_ValidLensHalls list1).bind fun r1 =>
 (impl_hallsCode r1 slide1 focal1 []).bind fun r2 =>
 if r2 = 0 then
 (onL (loop (S := ((List Int) × Int)) (B := (List Int)) (R := Empty) (fun ((out1, x1) : (List Int) × Int) =>
 if x1 < (list1.length : Int) then
 ((at? list1 x1).bind fun v1 =>
 (impl_suits v1 slide1 focal1).bind fun r3 =>
 if r3 then
 ((app? out1 ([x1] : List Int)).bind fun l1 =>
 some (.next (l1, w64 (x1 + 1))))
 else
 some (.next (out1, w64 (x1 + 1))))
 else
 some (.brk out1)) loopLim ([], 0))
 (fun (out2 : List Int) => some (out2, 0)) Empty.elim)
 else
 some ([], r2)
/-- loop.example/g01063/impl.LensesFor -/
def impl_LensesFor (h1 : GLensHall) (slide1 : Int) (stock1 : List Int) : Option ((List Int) × Int) :=
 (impl_validHall h1).bind fun r1 =>
 (impl_hallsCode r1 slide1 1 stock1).bind fun r2 =>
 if r2 = 0 then
 (onL (loop (S := ((List Int) × Int)) (B := (List Int)) (R := Empty) (fun ((out1, x1) : (List Int) × Int) =>
 if x1 < (stock1.length : Int) then
 ((at? stock1 x1).bind fun v1 =>
 (impl_suits h1 slide1 v1).bind fun r3 =>
 if r3 then
 ((app? out1 ([x1] : List Int)).bind fun l1 =>
 some (.next (l1, w64 (x1 + 1))))
 else
 some (.next (out1, w64 (x1 + 1))))
 else
 some (.brk out1)) loopLim ([], 0))
 (fun (out2 : List Int) => some (out2, 0)) Empty.elim)
 else
 some ([], r2)
/-- loop.example/g01063/impl.SuitsHall -/
def impl_SuitsHall (h1 : GLensHall) (slide1 : Int) (focal1 : Int) : Option (Bool × Int) :=
 (impl_validHall h1).bind fun r1 =>
 (impl_hallsCode r1 slide1 focal1 []).bind fun r2 =>
 if r2 = 0 then
 ((impl_suits h1 slide1 focal1).bind fun r3 =>
 some (r3, 0))
 else
 some (false, r2)
/-- loop.example/g01063/laws.f6big -/
def laws_f6big (code1 : List Int) : Option Bool :=
 some (decide ((code1.length : Int) > 4096))
/-- loop.example/g01063/laws.f6has -/
def laws_f6has (list1 : List Int) (n1 : Int) : Option Bool :=
 onL (loop (S := Int) (B := Unit) (R := Bool) (fun (i1 : Int) =>
 if i1 < (list1.length : Int) then
 ((at? list1 i1).bind fun v1 =>
 if v1 = n1 then
 (some (.ret true))
 else
 some (.next (w64 (i1 + 1))))
 else
 some (.brk ())) loopLim 0)
 (fun (_ : Unit) => some false) (fun r => some r)
/-- loop.example/g01063/laws.f6ints -/
def laws_f6ints (a1 : List Int) (b1 : List Int) : Option Bool :=
 if (a1.length : Int) = (b1.length : Int) then
 (onL (loop (S := Int) (B := Unit) (R := Bool) (fun (i1 : Int) =>
 if i1 < (a1.length : Int) then
 ((at? a1 i1).bind fun v1 =>
 (at? b1 i1).bind fun v2 =>
 if v1 = v2 then
 (some (.next (w64 (i1 + 1))))
 else
 some (.ret false))
 else
 some (.brk ())) loopLim 0)
 (fun (_ : Unit) => some true) (fun r => some r))
 else
 some false
/-- loop.example/g01063/spec.l00From -/
def spec_l00From (code1 : List Int) : Option GL00Src :=
 some (GL00Src.mk code1 0 0)
/-- (*loop.example/g01063/spec.l00Src).next -/
def spec_l00Src_next (s1 : GL00Src) : Option (Int × GL00Src) :=
 ((if s1.at_ < (s1.code.length : Int) then
 ((at? s1.code s1.at_).bind fun v1 =>
 some (w64 (v1)))
 else
 some 0) : Option Int).bind fun (b1 : Int) =>
 if (w64 (s1.at_ + 1)) ≤ (s1.code.length : Int) then
 (some (b1, (GL00Src.mk s1.code (w64 (s1.at_ + 1)) (IntKind.wrap .u64 ((IntKind.wrap .u64 ((IntKind.wrap .u64 (s1.seed * 6364136223846793005)) + (IntKind.wrap .u64 (b1)))) + 1442695040888963407)))))
 else
 (shr? .u64 (IntKind.wrap .u64 ((IntKind.wrap .u64 ((IntKind.wrap .u64 (s1.seed * 6364136223846793005)) + (IntKind.wrap .u64 (b1)))) + 1442695040888963407)) 40).bind fun q1 =>
 some (w64 (bit_and .u64 q1 255), (GL00Src.mk s1.code (w64 (s1.at_ + 1)) (IntKind.wrap .u64 ((IntKind.wrap .u64 ((IntKind.wrap .u64 (s1.seed * 6364136223846793005)) + (IntKind.wrap .u64 (b1)))) + 1442695040888963407))))
/-- (*loop.example/g01063/spec.l00Src).pick -/
def spec_l00Src_pick (s1 : GL00Src) (n1 : Int) : Option (Int × GL00Src) :=
 if n1 ≤ 1 then
 (some (0, s1))
 else
 (spec_l00Src_next s1).bind fun r1 =>
 if n1 > 200 then
 ((spec_l00Src_next r1.2).bind fun r2 =>
 (mod? (w64 ((w64 (r1.1 * 256)) + r2.1)) n1).bind fun q1 =>
 some (q1, r2.2))
 else
 (mod? r1.1 n1).bind fun q2 =>
 some (q2, r1.2)
/-- (*loop.example/g01063/spec.l00Src).one -/
def spec_l00Src_one (s1 : GL00Src) (n1 : Int) : Option (Bool × GL00Src) :=
 (spec_l00Src_pick s1 n1).bind fun r1 =>
 some ((decide (r1.1 = 0)), r1.2)
/-- loop.example/g01063/spec.l11New -/
def spec_l11New (s1 : GL00Src) : Option (GLensHall × GL00Src) :=
 (spec_l00Src_pick s1 20).bind fun r1 =>
 (spec_l00Src_pick r1.2 20).bind fun r2 =>
 (spec_l00Src_pick r2.2 20).bind fun r3 =>
 some ((GLensHall.mk (w64 (3000 + (w64 (500 * r1.1)))) (w64 (800 + (w64 (100 * r2.1)))) (w64 ((w64 (800 + (w64 (100 * r2.1)))) + (w64 (100 * r3.1))))), r3.2)
/-- (*loop.example/g01063/spec.l00Src).among -/
def spec_l00Src_among (s1 : GL00Src) (list1 : List Int) : Option (Int × GL00Src) :=
 (spec_l00Src_pick s1 (list1.length : Int)).bind fun r1 =>
 (at? list1 r1.1).bind fun v1 =>
 some (v1, r1.2)
/-- loop.example/g01063/spec.l11Spoil -/
def spec_l11Spoil (s1 : GL00Src) (h1 : GLensHall) : Option (GL00Src × GLensHall) :=
 (spec_l00Src_pick s1 3).bind fun r1 =>
 if r1.1 = 0 then
 ((spec_l00Src_among r1.2 [(-1), 0, 1, 100000, 100001, (-9223372036854775808)]).bind fun r2 =>
 some (r2.2, (GLensHall.mk r2.1 h1.Least h1.Widest)))
 else
 if r1.1 = 1 then
 ((spec_l00Src_among r1.2 [(-1), 0, 1, h1.Widest, w64 (h1.Widest + 1)]).bind fun r3 =>
 some (r3.2, (GLensHall.mk h1.Throw r3.1 h1.Widest)))
 else
 if r1.1 = 2 then
 ((spec_l00Src_among r1.2 [(-1), 0, h1.Least, 100000, 100001]).bind fun r4 =>
 some (r4.2, (GLensHall.mk h1.Throw h1.Least r4.1)))
 else
 some (r1.2, h1)
/-- loop.example/g01063/spec.l11Draw -/
def spec_l11Draw (s1 : GL00Src) : Option ((List GLensHall) × GL00Src) :=
 (spec_l00Src_pick s1 6).bind fun r1 =>
 (spec_l00Src_one r1.2 20).bind fun r2 =>
 ((if r2.1 then
 ((spec_l00Src_pick r2.2 2).bind fun r3 =>
 some (r3.2, w64 (8 + r3.1)))
 else
 some (r2.2, r1.1)) : Option (GL00Src × Int)).bind fun ((s2, n1) : GL00Src × Int) =>
 onL (loop (S := (GL00Src × (List GLensHall) × Int)) (B := (GL00Src × (List GLensHall))) (R := Empty) (fun ((s3, out1, k1) : GL00Src × (List GLensHall) × Int) =>
 if k1 > 0 then
 ((spec_l11New s3).bind fun r4 =>
 (app? out1 ([r4.1] : List GLensHall)).bind fun l1 =>
 some (.next (r4.2, l1, w64 (k1 - 1))))
 else
 some (.brk (s3, out1))) loopLim (s2, [], n1))
 (fun ((s4, out2) : GL00Src × (List GLensHall)) => ((if n1 > 0 then
 ((spec_l00Src_one s4 10).bind fun r5 =>
 some (r5.2, r5.1))
 else
 some (s4, false)) : Option (GL00Src × Bool)).bind fun ((s5, x1) : GL00Src × Bool) =>
 if x1 then
 ((at? out2 0).bind fun v1 =>
 (spec_l11Spoil s5 v1).bind fun r6 =>
 some (out2.set 0 r6.2, r6.1))
 else
 some (out2, s5)) Empty.elim
/-- loop.example/g01063/spec.l11DrawFocal -/
def spec_l11DrawFocal (s1 : GL00Src) : Option (Int × GL00Src) :=
 (spec_l00Src_one s1 10).bind fun r1 =>
 if r1.1 then
 ((spec_l00Src_among r1.2 [(-1), 0, 1, 2000, 2001]).bind fun r2 =>
 some (r2.1, r2.2))
 else
 (spec_l00Src_pick r1.2 20).bind fun r3 =>
 some (w64 (100 + (w64 (25 * r3.1))), r3.2)
/-- loop.example/g01063/spec.l11DrawSlide -/
def spec_l11DrawSlide (s1 : GL00Src) : Option (Int × GL00Src) :=
 (spec_l00Src_one s1 10).bind fun r1 =>
 if r1.1 then
 ((spec_l00Src_among r1.2 [(-1), 0, 1, 200, 201]).bind fun r2 =>
 some (r2.1, r2.2))
 else
 (spec_l00Src_among r1.2 [75, 80, 100]).bind fun r3 =>
 some (r3.1, r3.2)
/-- loop.example/g01063/spec.DrawHallsFor -/
def spec_DrawHallsFor (code1 : List Int) : Option ((List GLensHall) × Int × Int) :=
 (spec_l00From code1).bind fun r1 =>
 (spec_l11Draw r1).bind fun r2 =>
 (spec_l11DrawSlide r2.2).bind fun r3 =>
 (spec_l11DrawFocal r3.2).bind fun r4 =>
 some (r2.1, r3.1, r4.1)
/-- loop.example/g01063/spec.l11Any -/
def spec_l11Any (s1 : GL00Src) : Option (GLensHall × GL00Src) :=
 (spec_l11New s1).bind fun r1 =>
 (spec_l00Src_one r1.2 10).bind fun r2 =>
 if r2.1 then
 ((spec_l11Spoil r2.2 r1.1).bind fun r3 =>
 some (r3.2, r3.1))
 else
 some (r1.1, r2.2)
/-- loop.example/g01063/spec.l11DrawStock -/
def spec_l11DrawStock (s1 : GL00Src) : Option ((List Int) × GL00Src) :=
 (spec_l00Src_pick s1 7).bind fun r1 =>
 (spec_l00Src_one r1.2 20).bind fun r2 =>
 ((if r2.1 then
 ((spec_l00Src_pick r2.2 2).bind fun r3 =>
 some (r3.2, w64 (12 + r3.1)))
 else
 some (r2.2, r1.1)) : Option (GL00Src × Int)).bind fun ((s2, n1) : GL00Src × Int) =>
 onL (loop (S := (GL00Src × (List Int) × Int)) (B := (GL00Src × (List Int))) (R := Empty) (fun ((s3, out1, k1) : GL00Src × (List Int) × Int) =>
 if k1 > 0 then
 ((spec_l00Src_pick s3 20).bind fun r4 =>
 (app? out1 ([w64 (100 + (w64 (25 * r4.1)))] : List Int)).bind fun l1 =>
 some (.next (r4.2, l1, w64 (k1 - 1))))
 else
 some (.brk (s3, out1))) loopLim (s2, [], n1))
 (fun ((s4, out2) : GL00Src × (List Int)) => ((if n1 > 0 then
 ((spec_l00Src_one s4 10).bind fun r5 =>
 some (r5.2, r5.1))
 else
 some (s4, false)) : Option (GL00Src × Bool)).bind fun ((s5, x1) : GL00Src × Bool) =>
 if x1 then
 ((spec_l11DrawFocal s5).bind fun r6 =>
 (at? out2 0).bind fun v1 =>
 some (out2.set ((0 : Int).toNat) r6.1, r6.2))
 else
 some (out2, s5)) Empty.elim
/-- loop.example/g01063/spec.DrawLensesFor -/
def spec_DrawLensesFor (code1 : List Int) : Option (GLensHall × Int × (List Int)) :=
 (spec_l00From code1).bind fun r1 =>
 (spec_l11Any r1).bind fun r2 =>
 (spec_l11DrawSlide r2.2).bind fun r3 =>
 (spec_l11DrawStock r3.2).bind fun r4 =>
 some (r2.1, r3.1, r4.1)
/-- loop.example/g01063/spec.DrawSuitsHall -/
def spec_DrawSuitsHall (code1 : List Int) : Option (GLensHall × Int × Int) :=
 (spec_l00From code1).bind fun r1 =>
 (spec_l11Any r1).bind fun r2 =>
 (spec_l11DrawSlide r2.2).bind fun r3 =>
 (spec_l11DrawFocal r3.2).bind fun r4 =>
 some (r2.1, r3.1, r4.1)
/-- loop.example/g01063/spec.l00In -/
def spec_l00In (n1 : Int) (low1 : Int) (high1 : Int) : Option Bool :=
 if n1 ≥ low1 then
 (some (decide (n1 ≤ high1)))
 else
 some false
/-- loop.example/g01063/spec.l11One -/
def spec_l11One (h1 : GLensHall) : Option Bool :=
 (spec_l00In h1.Throw 1 100000).bind fun r1 =>
 if r1 then
 ((spec_l00In h1.Least 1 100000).bind fun r2 =>
 if r2 then
 ((spec_l00In h1.Widest h1.Least 100000).bind fun r3 =>
 some r3)
 else
 some false)
 else
 some false
/-- loop.example/g01063/spec.l11Slide -/
def spec_l11Slide (n1 : Int) : Option Bool :=
 (spec_l00In n1 1 200).bind fun r1 =>
 some r1
/-- loop.example/g01063/spec.l11Suits -/
def spec_l11Suits (h1 : GLensHall) (slide1 : Int) (focal1 : Int) : Option Bool :=
 if (w64 (slide1 * (w64 (h1.Throw - focal1)))) ≥ (w64 (h1.Least * focal1)) then
 (some (decide ((w64 (slide1 * (w64 (h1.Throw - focal1)))) ≤ (w64 (h1.Widest * focal1)))))
 else
 some false
/-- loop.example/g01063/spec.FocalRange -/
def spec_FocalRange (h1 : GLensHall) (slide1 : Int) : Option (Int × Int × Int) :=
 (spec_l11One h1).bind fun r1 =>
 if r1 then
 ((spec_l11Slide slide1).bind fun r2 =>
 if r2 then
 (onL (loop (S := (Int × Int × Int)) (B := (Int × Int)) (R := Empty) (fun ((low1, high1, focal1) : Int × Int × Int) =>
 if focal1 ≤ 2000 then
 ((spec_l11Suits h1 slide1 focal1).bind fun r3 =>
 if r3 then
 (if low1 = 0 then
 (some (.next (focal1, focal1, w64 (focal1 + 1))))
 else
 some (.next (low1, focal1, w64 (focal1 + 1))))
 else
 some (.next (low1, high1, w64 (focal1 + 1))))
 else
 some (.brk (low1, high1))) loopLim (0, 0, 1))
 (fun ((low2, high2) : Int × Int) => if low2 = 0 then
 (some (0, 0, 3))
 else
 some (low2, high2, 0)) Empty.elim)
 else
 some (0, 0, 2))
 else
 some (0, 0, 1)
/-- loop.example/g01063/spec.l11Focal -/
def spec_l11Focal (n1 : Int) : Option Bool :=
 (spec_l00In n1 1 2000).bind fun r1 =>
 some r1
/-- loop.example/g01063/spec.l11Ok -/
def spec_l11Ok (list1 : List GLensHall) : Option Bool :=
 onL (loop (S := Int) (B := Unit) (R := Bool) (fun (i1 : Int) =>
 if i1 < (list1.length : Int) then
 ((at? list1 i1).bind fun v1 =>
 (spec_l11One v1).bind fun r1 =>
 if r1 then
 (some (.next (w64 (i1 + 1))))
 else
 some (.ret false))
 else
 some (.brk ())) loopLim 0)
 (fun (_ : Unit) => some (decide ((list1.length : Int) ≤ 8))) (fun r => some r)
/-- loop.example/g01063/spec.HallsFor -/
def spec_HallsFor (list1 : List GLensHall) (slide1 : Int) (focal1 : Int) : Option ((List Int) × Int) :=
 (spec_l11Ok list1).bind fun r1 =>
 if r1 then
 ((((spec_l11Slide slide1).bind fun r2 =>
 if r2 then
 ((spec_l11Focal focal1).bind fun r3 =>
 some (!r3))
 else
 some true) : Option Bool).bind fun (x1 : Bool) =>
 if x1 then
 (some ([], 2))
 else
 onL (loop (S := ((List Int) × Int)) (B := (List Int)) (R := Empty) (fun ((out1, i1) : (List Int) × Int) =>
 if i1 < (list1.length : Int) then
 ((at? list1 i1).bind fun v1 =>
 (spec_l11Suits v1 slide1 focal1).bind fun r4 =>
 if r4 then
 ((app? out1 ([i1] : List Int)).bind fun l1 =>
 some (.next (l1, w64 (i1 + 1))))
 else
 some (.next (out1, w64 (i1 + 1))))
 else
 some (.brk out1)) loopLim ([], 0))
 (fun (out2 : List Int) => some (out2, 0)) Empty.elim)
 else
 some ([], 1)
/-- loop.example/g01063/spec.l11Stock -/
def spec_l11Stock (stock1 : List Int) : Option Bool :=
 onL (loop (S := Int) (B := Unit) (R := Bool) (fun (i1 : Int) =>
 if i1 < (stock1.length : Int) then
 ((at? stock1 i1).bind fun v1 =>
 (spec_l11Focal v1).bind fun r1 =>
 if r1 then
 (some (.next (w64 (i1 + 1))))
 else
 some (.ret false))
 else
 some (.brk ())) loopLim 0)
 (fun (_ : Unit) => some (decide ((stock1.length : Int) ≤ 12))) (fun r => some r)
/-- loop.example/g01063/spec.LensesFor -/
def spec_LensesFor (h1 : GLensHall) (slide1 : Int) (stock1 : List Int) : Option ((List Int) × Int) :=
 (spec_l11One h1).bind fun r1 =>
 if r1 then
 ((((spec_l11Slide slide1).bind fun r2 =>
 if r2 then
 ((spec_l11Stock stock1).bind fun r3 =>
 some (!r3))
 else
 some true) : Option Bool).bind fun (x1 : Bool) =>
 if x1 then
 (some ([], 2))
 else
 onL (loop (S := ((List Int) × Int)) (B := (List Int)) (R := Empty) (fun ((out1, i1) : (List Int) × Int) =>
 if i1 < (stock1.length : Int) then
 ((at? stock1 i1).bind fun v1 =>
 (spec_l11Suits h1 slide1 v1).bind fun r4 =>
 if r4 then
 ((app? out1 ([i1] : List Int)).bind fun l1 =>
 some (.next (l1, w64 (i1 + 1))))
 else
 some (.next (out1, w64 (i1 + 1))))
 else
 some (.brk out1)) loopLim ([], 0))
 (fun (out2 : List Int) => some (out2, 0)) Empty.elim)
 else
 some ([], 1)
/-- loop.example/g01063/spec.SuitsHall -/
def spec_SuitsHall (h1 : GLensHall) (slide1 : Int) (focal1 : Int) : Option (Bool × Int) :=
 (spec_l11One h1).bind fun r1 =>
 if r1 then
 ((((spec_l11Slide slide1).bind fun r2 =>
 if r2 then
 ((spec_l11Focal focal1).bind fun r3 =>
 some (!r3))
 else
 some true) : Option Bool).bind fun (x1 : Bool) =>
 if x1 then
 (some (false, 2))
 else
 (spec_l11Suits h1 slide1 focal1).bind fun r4 =>
 some (r4, 0))
 else
 some (false, 1)
/-- loop.example/g01063/laws.FnLensFits -/
def laws_FnLensFits (code1 : List Int) : Option Bool :=
 (laws_f6big code1).bind fun r1 =>
 if r1 then
 (some true)
 else
 (spec_DrawSuitsHall code1).bind fun r2 =>
 (impl_SuitsHall r2.1 r2.2.1 r2.2.2).bind fun r3 =>
 (spec_SuitsHall r2.1 r2.2.1 r2.2.2).bind fun r4 =>
 (impl_FocalRange r2.1 r2.2.1).bind fun r5 =>
 (spec_FocalRange r2.1 r2.2.1).bind fun r6 =>
 (spec_DrawLensesFor code1).bind fun r7 =>
 (impl_LensesFor r7.1 r7.2.1 r7.2.2).bind fun r8 =>
 (spec_LensesFor r7.1 r7.2.1 r7.2.2).bind fun r9 =>
 (spec_DrawHallsFor code1).bind fun r10 =>
 (impl_HallsFor r10.1 r10.2.1 r10.2.2).bind fun r11 =>
 (spec_HallsFor r10.1 r10.2.1 r10.2.2).bind fun r12 =>
 ((if r3.2 = r4.2 then
 (if (r3.1 == r4.1) then
 (if r5.2.2 = r6.2.2 then
 (if r5.1 = r6.1 then
 (if r5.2.1 = r6.2.1 then
 (if r8.2 = r9.2 then
 ((laws_f6ints r8.1 r9.1).bind fun r13 =>
 if r13 then
 (if r11.2 = r12.2 then
 ((laws_f6ints r11.1 r12.1).bind fun r14 =>
 some (!r14))
 else
 some true)
 else
 some true)
 else
 some true)
 else
 some true)
 else
 some true)
 else
 some true)
 else
 some true)
 else
 some true) : Option Bool).bind fun (x1 : Bool) =>
 if x1 then
 (some false)
 else
 onS (S := Unit) (B := Empty) (R := Bool) (if r8.2 = 0 then
 (onL (loop (S := Int) (B := Unit) (R := Bool) (fun (i1 : Int) =>
 if i1 < (r7.2.2.length : Int) then
 ((at? r7.2.2 i1).bind fun v1 =>
 (impl_SuitsHall r7.1 r7.2.1 v1).bind fun r15 =>
 ((if r15.2 = 0 then
 ((laws_f6has r9.1 i1).bind fun r16 =>
 some (!(r15.1 == r16)))
 else
 some true) : Option Bool).bind fun (x2 : Bool) =>
 if x2 then
 (some (.ret false))
 else
 some (.next (w64 (i1 + 1))))
 else
 some (.brk ())) loopLim 0)
 (fun (_ : Unit) => some (.next ())) (fun r => some (.ret r)))
 else
 some (.next ()))
 (fun (_ : Unit) => onS (S := Unit) (B := Empty) (R := Bool) (if r11.2 = 0 then
 (onL (loop (S := Int) (B := Unit) (R := Bool) (fun (i2 : Int) =>
 if i2 < (r10.1.length : Int) then
 ((at? r10.1 i2).bind fun v2 =>
 (impl_SuitsHall v2 r10.2.1 r10.2.2).bind fun r17 =>
 ((if r17.2 = 0 then
 ((laws_f6has r12.1 i2).bind fun r18 =>
 some (!(r17.1 == r18)))
 else
 some true) : Option Bool).bind fun (x3 : Bool) =>
 if x3 then
 (some (.ret false))
 else
 some (.next (w64 (i2 + 1))))
 else
 some (.brk ())) loopLim 0)
 (fun (_ : Unit) => some (.next ())) (fun r => some (.ret r)))
 else
 some (.next ()))
 (fun (_ : Unit) => ((if r3.2 = 0 then
 (some (!r4.1))
 else
 some true) : Option Bool).bind fun (x4 : Bool) =>
 if x4 then
 (some true)
 else
 if r5.2.2 = 0 then
 (if r2.2.2 ≥ r6.1 then
 (some (decide (r2.2.2 ≤ r6.2.1)))
 else
 some false)
 else
 some false)
 Empty.elim (fun r => some r))
 Empty.elim (fun r => some r)
end Go.Vs.G
