/- The functions that the law reaches, as typed Lean functions, printed by program. No conditions. -/
import Derived.Test.YtiefnapeghkjnaaV5
set_option maxRecDepth 100000
open Go Go.Vs
namespace Go.Vs.G
structure GCause where
  Name : List UInt8
  Signs : List Int
  deriving DecidableEq, Inhabited
structure GFraction where
  Num : Int
  Den : Int
  deriving DecidableEq, Inhabited
structure GL00Src where
  code : List Int
  at_ : Int
  seed : Int
  deriving DecidableEq, Inhabited
structure GShown where
  On : Int
  Off : Int
  Fade : Int
  deriving DecidableEq, Inhabited
def GShown.enc (x : GShown) : Tree := .agg [.int .i64 x.On, .int .i64 x.Off, .int .i64 x.Fade]
def GCause.ok (x : GCause) : Prop := okS x.Name ∧ (okL (okI .i64)) x.Signs
def GFraction.ok (x : GFraction) : Prop := (okI .i64) x.Num ∧ (okI .i64) x.Den
def GL00Src.ok (x : GL00Src) : Prop := (okL (okI .u8)) x.code ∧ (okI .i64) x.at_ ∧ (okI .u64) x.seed
def GShown.ok (x : GShown) : Prop := (okI .i64) x.On ∧ (okI .i64) x.Off ∧ (okI .i64) x.Fade
/-- loop.example/g01063/impl.AssignLanterns$1 -/
def impl_AssignLanterns_1 (a1 : Int) (b1 : Int) (x1 : List GShown) : Option Int :=
 (at? x1 a1).bind fun v1 =>
 (at? x1 b1).bind fun v2 =>
 some (w64 (v1.On - v2.On))
/-- loop.example/g01063/impl.AssignLanterns$2 -/
def impl_AssignLanterns_2 (tick1 : Int) (x1 : List GShown) (x2 : Int) : Option Bool :=
 (at? x1 x2).bind fun v1 =>
 some (decide (tick1 ≤ v1.On))
/-- loop.example/g01063/impl.within -/
def impl_within (n1 : Int) (low1 : Int) (high1 : Int) : Option Bool :=
 if n1 ≥ low1 then
 (some (decide (n1 ≤ high1)))
 else
 some false
/-- loop.example/g01063/impl.ValidShown$1 -/
def impl_ValidShown_1 (x1 : GShown) : Option Bool :=
 (impl_within x1.On 0 10000).bind fun r1 =>
 if r1 then
 ((impl_within x1.Off (w64 (x1.On + 1)) 20000).bind fun r2 =>
 if r2 then
 ((impl_within x1.Fade 0 500).bind fun r3 =>
 some (!r3))
 else
 some true)
 else
 some true
/-- slices.IndexFunc[[]loop.example/g01063/impl.Shown,loop.example/g01063/impl.Shown] -/
def slices_IndexFunc_impl_Shown_impl_Shown_828 (s1 : List GShown) (f1 : GShown → Option Bool) : Option Int :=
 onL (loop (S := Int) (B := Unit) (R := Int) (fun (x1 : Int) =>
 if x1 < (s1.length : Int) then
 ((at? s1 x1).bind fun v1 =>
 (f1 v1).bind fun r1 =>
 if r1 then
 (some (.ret x1))
 else
 some (.next (w64 (x1 + 1))))
 else
 some (.brk ())) loopLim 0)
 (fun (_ : Unit) => some (-1)) (fun r => some r)
/-- slices.ContainsFunc[[]loop.example/g01063/impl.Shown,loop.example/g01063/impl.Shown] -/
def slices_ContainsFunc_impl_Shown_impl_Shown_806 (s1 : List GShown) (f1 : GShown → Option Bool) : Option Bool :=
 (slices_IndexFunc_impl_Shown_impl_Shown_828 s1 f1).bind fun r1 =>
 some (decide (r1 ≥ 0))
/-- loop.example/g01063/impl.ValidShown -/
def impl_ValidShown (list1 : List GShown) : Option Bool :=
 if (list1.length : Int) ≤ 12 then
 ((slices_ContainsFunc_impl_Shown_impl_Shown_806 list1 (fun a0 => impl_ValidShown_1 a0)).bind fun r1 =>
 some (!r1))
 else
 some false
/-- slices.IndexFunc[[]int64,int64] -/
def slices_IndexFunc_int64_int64_818 (s1 : List Int) (f1 : Int → Option Bool) : Option Int :=
 onL (loop (S := Int) (B := Unit) (R := Int) (fun (x1 : Int) =>
 if x1 < (s1.length : Int) then
 ((at? s1 x1).bind fun v1 =>
 (f1 v1).bind fun r1 =>
 if r1 then
 (some (.ret x1))
 else
 some (.next (w64 (x1 + 1))))
 else
 some (.brk ())) loopLim 0)
 (fun (_ : Unit) => some (-1)) (fun r => some r)
/-- slices.insertionSortCmpFunc[int] -/
def slices_insertionSortCmpFunc_int_843 (data1 : List Int) (a1 : Int) (b1 : Int) (f1 : Int → Int → Option Int) : Option (List Int) :=
 onL (loop (S := ((List Int) × Int)) (B := (List Int)) (R := Empty) (fun ((data2, i1) : (List Int) × Int) =>
 if i1 < b1 then
 (onL (loop (S := ((List Int) × Int)) (B := (List Int)) (R := Empty) (fun ((data3, j1) : (List Int) × Int) =>
 ((if j1 > a1 then
 ((at? data3 j1).bind fun v1 =>
 (at? data3 (w64 (j1 - 1))).bind fun v2 =>
 (f1 v1 v2).bind fun r1 =>
 some (decide (r1 < 0)))
 else
 some false) : Option Bool).bind fun (x1 : Bool) =>
 if x1 then
 ((at? data3 (w64 (j1 - 1))).bind fun v3 =>
 (at? data3 j1).bind fun v4 =>
 (at? data3 j1).bind fun v5 =>
 (at? (data3.set j1.toNat v3) (w64 (j1 - 1))).bind fun v6 =>
 some (.next ((data3.set j1.toNat v3).set ((w64 (j1 - 1)).toNat) v4, w64 (j1 - 1))))
 else
 some (.brk data3)) loopLim (data2, i1))
 (fun (data4 : List Int) => some (.next (data4, w64 (i1 + 1)))) Empty.elim)
 else
 some (.brk data2)) loopLim (data1, w64 (a1 + 1)))
 (fun (data5 : List Int) => some data5) Empty.elim
/-- slices.stableCmpFunc[int] -/
def slices_stableCmpFunc_int_866 (data1 : List Int) (n1 : Int) (f1 : Int → Int → Option Int) : Option (List Int) :=
 onL (loop (S := ((List Int) × Int × Int)) (B := ((List Int) × Int)) (R := Empty) (fun ((data2, a1, b1) : (List Int) × Int × Int) =>
 if b1 ≤ n1 then
 ((slices_insertionSortCmpFunc_int_843 data2 a1 b1 f1).bind fun r1 =>
 some (.next (r1, b1, w64 (b1 + 20))))
 else
 some (.brk (data2, a1))) loopLim (data1, 0, 20))
 (fun ((data3, a2) : (List Int) × Int) => (slices_insertionSortCmpFunc_int_843 data3 a2 n1 f1).bind fun r2 =>
 onL (loop (S := Int) (B := Unit) (R := Empty) (fun (blockSize1 : Int) =>
 if blockSize1 < n1 then
 (onL (loop (S := Unit) (B := Unit) (R := Empty) (fun (_ : Unit) =>
 if (w64 (2 * blockSize1)) ≤ n1 then
 none
 else
 some (.brk ())) loopLim ())
 (fun (_ : Unit) => if (w64 (0 + blockSize1)) < n1 then
 none
 else
 some (.next (w64 (blockSize1 * 2)))) Empty.elim)
 else
 some (.brk ())) loopLim 20)
 (fun (_ : Unit) => some r2) Empty.elim) Empty.elim
/-- slices.SortStableFunc[[]int,int] -/
def slices_SortStableFunc_int_int_834 (x1 : List Int) (f1 : Int → Int → Option Int) : Option (List Int) :=
 (slices_stableCmpFunc_int_866 x1 (x1.length : Int) f1).bind fun r1 =>
 some r1
/-- loop.example/g01063/impl.AssignLanterns -/
def impl_AssignLanterns (list1 : List GShown) : Option ((List Int) × Int) :=
 (impl_ValidShown list1).bind fun r1 =>
 if r1 then
 ((mk? (list1.length : Int) (0 : Int)).bind fun l1 =>
 onL (loop (S := ((List Int) × Int)) (B := (List Int)) (R := Empty) (fun ((order1, x1) : (List Int) × Int) =>
 if x1 < (list1.length : Int) then
 ((app? order1 ([x1] : List Int)).bind fun l2 =>
 some (.next (l2, w64 (x1 + 1))))
 else
 some (.brk order1)) loopLim ([], 0))
 (fun (order2 : List Int) => (slices_SortStableFunc_int_int_834 order2 (fun a0 a1 => impl_AssignLanterns_1 a0 a1 list1)).bind fun r2 =>
 onL (loop (S := ((List Int) × (List Int) × Int)) (B := (List Int)) (R := Empty) (fun ((out1, free1, x2) : (List Int) × (List Int) × Int) =>
 if x2 < (r2.length : Int) then
 ((at? r2 x2).bind fun v1 =>
 (slices_IndexFunc_int64_int64_818 free1 (fun a0 => impl_AssignLanterns_2 a0 list1 v1)).bind fun r3 =>
 ((if r3 < 0 then
 ((app? free1 ([0] : List Int)).bind fun l3 =>
 some (l3, (free1.length : Int)))
 else
 some (free1, r3)) : Option ((List Int) × Int)).bind fun ((free2, k1) : (List Int) × Int) =>
 (at? list1 v1).bind fun v2 =>
 (at? free2 k1).bind fun v3 =>
 (at? out1 v1).bind fun v4 =>
 some (.next (out1.set v1.toNat k1, free2.set k1.toNat v2.Off, w64 (x2 + 1))))
 else
 some (.brk out1)) loopLim (l1, [], 0))
 (fun (out2 : List Int) => some (out2, 0)) Empty.elim) Empty.elim)
 else
 some ([], 1)
/-- (loop.example/g01063/impl.Shown).isOn -/
def impl_Shown_isOn (x1 : GShown) (tick1 : Int) : Option Bool :=
 if x1.On ≤ tick1 then
 (some (decide (tick1 < x1.Off)))
 else
 some false
/-- (loop.example/g01063/impl.Shown).level -/
def impl_Shown_level (x1 : GShown) (tick1 : Int) : Option Int :=
 (impl_Shown_isOn x1 tick1).bind fun r1 =>
 if r1 then
 (if x1.Fade = 0 then
 (some 100)
 else
 (div? .i64 (w64 (100 * (w64 (tick1 - x1.On)))) x1.Fade).bind fun q1 =>
 (div? .i64 (w64 (100 * (w64 (x1.Off - tick1)))) x1.Fade).bind fun q2 =>
 some (imin (imin 100 q1) q2))
 else
 some 0
/-- loop.example/g01063/impl.light -/
def impl_light (list1 : List GShown) (tick1 : Int) : Option Int :=
 onL (loop (S := (Int × Int)) (B := Int) (R := Empty) (fun ((sum1, x1) : Int × Int) =>
 if x1 < (list1.length : Int) then
 ((at? list1 x1).bind fun v1 =>
 (impl_Shown_level v1 tick1).bind fun r1 =>
 some (.next (w64 (sum1 + r1), w64 (x1 + 1))))
 else
 some (.brk sum1)) loopLim (0, 0))
 (fun (sum2 : Int) => some sum2) Empty.elim
/-- loop.example/g01063/impl.Brightest -/
def impl_Brightest (list1 : List GShown) : Option (Int × Int × Int) :=
 (impl_ValidShown list1).bind fun r1 =>
 if r1 then
 (onL (loop (S := (Int × Int × Int)) (B := (Int × Int)) (R := Empty) (fun ((best1, most1, x1) : Int × Int × Int) =>
 if x1 < 20000 then
 ((impl_light list1 x1).bind fun r2 =>
 if r2 > most1 then
 (some (.next (x1, r2, w64 (x1 + 1))))
 else
 some (.next (best1, most1, w64 (x1 + 1))))
 else
 some (.brk (best1, most1))) loopLim (0, 0, 0))
 (fun ((best2, most2) : Int × Int) => if most2 = 0 then
 (some (0, 0, 10))
 else
 some (best2, most2, 0)) Empty.elim)
 else
 some (0, 0, 1)
/-- loop.example/g01063/impl.ticksCode -/
def impl_ticksCode (list1 : List GShown) (from_1 : Int) (to_1 : Int) : Option Int :=
 (impl_ValidShown list1).bind fun r1 =>
 if r1 then
 ((((impl_within from_1 0 20000).bind fun r2 =>
 if r2 then
 ((impl_within to_1 from_1 20000).bind fun r3 =>
 some (!r3))
 else
 some true) : Option Bool).bind fun (x1 : Bool) =>
 if x1 then
 (some 2)
 else
 some 0)
 else
 some 1
/-- loop.example/g01063/impl.DarkTicks -/
def impl_DarkTicks (list1 : List GShown) (from_1 : Int) (to_1 : Int) : Option (Int × Int) :=
 (impl_ticksCode list1 from_1 to_1).bind fun r1 =>
 if r1 = 0 then
 (onL (loop (S := (Int × Int)) (B := Int) (R := Empty) (fun ((count1, tick1) : Int × Int) =>
 if tick1 < to_1 then
 ((impl_light list1 tick1).bind fun r2 =>
 if r2 = 0 then
 (some (.next (w64 (count1 + 1), w64 (tick1 + 1))))
 else
 some (.next (count1, w64 (tick1 + 1))))
 else
 some (.brk count1)) loopLim (0, from_1))
 (fun (count2 : Int) => some (count2, 0)) Empty.elim)
 else
 some (0, r1)
/-- loop.example/g01063/impl.EvenDissolve -/
def impl_EvenDissolve (many1 : Int) (each1 : Int) (fade1 : Int) : Option ((List GShown) × Int) :=
 (((impl_within many1 1 12).bind fun r1 =>
 if r1 then
 ((impl_within each1 1 500).bind fun r2 =>
 if r2 then
 ((impl_within fade1 0 500).bind fun r3 =>
 some (!r3))
 else
 some true)
 else
 some true) : Option Bool).bind fun (x1 : Bool) =>
 if x1 then
 (some ([], 2))
 else
 onL (loop (S := ((List GShown) × Int)) (B := (List GShown)) (R := Empty) (fun ((out1, x2) : (List GShown) × Int) =>
 if x2 < many1 then
 ((app? out1 ([(GShown.mk (w64 (x2 * each1)) (w64 ((w64 ((w64 (x2 + 1)) * each1)) + fade1)) fade1)] : List GShown)).bind fun l1 =>
 some (.next (l1, w64 (x2 + 1))))
 else
 some (.brk out1)) loopLim ([], 0))
 (fun (out2 : List GShown) => some (out2, 0)) Empty.elim
/-- loop.example/g01063/impl.FewestLanterns -/
def impl_FewestLanterns (list1 : List GShown) : Option (Int × Int) :=
 (impl_ValidShown list1).bind fun r1 =>
 if r1 then
 (onL (loop (S := (Int × Int)) (B := Int) (R := Empty) (fun ((most1, x1) : Int × Int) =>
 if x1 < (list1.length : Int) then
 ((at? list1 x1).bind fun v1 =>
 onL (loop (S := (Int × Int)) (B := Int) (R := Empty) (fun ((count1, x2) : Int × Int) =>
 if x2 < (list1.length : Int) then
 ((at? list1 x2).bind fun v2 =>
 (impl_Shown_isOn v2 v1.On).bind fun r2 =>
 if r2 then
 (some (.next (w64 (count1 + 1), w64 (x2 + 1))))
 else
 some (.next (count1, w64 (x2 + 1))))
 else
 some (.brk count1)) loopLim (0, 0))
 (fun (count2 : Int) => some (.next (imax most1 count2, w64 (x1 + 1)))) Empty.elim)
 else
 some (.brk most1)) loopLim (0, 0))
 (fun (most2 : Int) => some (most2, 0)) Empty.elim)
 else
 some (0, 1)
/-- loop.example/g01063/laws.a2At -/
def laws_a2At (code1 : List Int) (at_1 : Int) (n1 : Int) : Option Int :=
 ((if at_1 ≥ (code1.length : Int) then
 (some true)
 else
 some (decide (n1 < 1))) : Option Bool).bind fun (x1 : Bool) =>
 if x1 then
 (some 0)
 else
 (at? code1 at_1).bind fun v1 =>
 (mod? (w64 (v1)) n1).bind fun q1 =>
 some q1
/-- loop.example/g01063/laws.a2Long -/
def laws_a2Long (code1 : List Int) (more1 : List Int) : Option Bool :=
 if (code1.length : Int) > 3000 then
 (some true)
 else
 some (decide ((more1.length : Int) > 3000))
/-- loop.example/g01063/spec.l00From -/
def spec_l00From (code1 : List Int) : Option GL00Src :=
 some (GL00Src.mk code1 0 0)
/-- (*loop.example/g01063/spec.l00Src).next -/
def spec_l00Src_next (s1 : GL00Src) : Option (Int × GL00Src) :=
 ((if s1.at_ < (s1.code.length : Int) then
 ((at? s1.code s1.at_).bind fun v1 =>
 some (w64 (v1)))
 else
 some 0) : Option Int).bind fun (b1 : Int) =>
 if (w64 (s1.at_ + 1)) ≤ (s1.code.length : Int) then
 (some (b1, (GL00Src.mk s1.code (w64 (s1.at_ + 1)) (IntKind.wrap .u64 ((IntKind.wrap .u64 ((IntKind.wrap .u64 (s1.seed * 6364136223846793005)) + (IntKind.wrap .u64 (b1)))) + 1442695040888963407)))))
 else
 (shr? .u64 (IntKind.wrap .u64 ((IntKind.wrap .u64 ((IntKind.wrap .u64 (s1.seed * 6364136223846793005)) + (IntKind.wrap .u64 (b1)))) + 1442695040888963407)) 40).bind fun q1 =>
 some (w64 (bit_and .u64 q1 255), (GL00Src.mk s1.code (w64 (s1.at_ + 1)) (IntKind.wrap .u64 ((IntKind.wrap .u64 ((IntKind.wrap .u64 (s1.seed * 6364136223846793005)) + (IntKind.wrap .u64 (b1)))) + 1442695040888963407))))
/-- (*loop.example/g01063/spec.l00Src).pick -/
def spec_l00Src_pick (s1 : GL00Src) (n1 : Int) : Option (Int × GL00Src) :=
 if n1 ≤ 1 then
 (some (0, s1))
 else
 (spec_l00Src_next s1).bind fun r1 =>
 if n1 > 200 then
 ((spec_l00Src_next r1.2).bind fun r2 =>
 (mod? (w64 ((w64 (r1.1 * 256)) + r2.1)) n1).bind fun q1 =>
 some (q1, r2.2))
 else
 (mod? r1.1 n1).bind fun q2 =>
 some (q2, r1.2)
/-- loop.example/g01063/spec.l00Max -/
def spec_l00Max (a1 : Int) (b1 : Int) : Option Int :=
 if a1 > b1 then
 (some a1)
 else
 some b1
/-- loop.example/g01063/spec.l15Draw -/
def spec_l15Draw (s1 : GL00Src) : Option ((List GShown) × GL00Src) :=
 (spec_l00Src_pick s1 6).bind fun r1 =>
 (spec_l00Src_pick r1.2 6).bind fun r2 =>
 onL (loop (S := (GL00Src × (List GShown) × Int × Int)) (B := (GL00Src × (List GShown))) (R := Empty) (fun ((s2, out1, at_1, k1) : GL00Src × (List GShown) × Int × Int) =>
 if k1 > 0 then
 ((spec_l00Src_pick s2 20).bind fun r3 =>
 (spec_l00Src_pick r3.2 7).bind fun r4 =>
 (app? out1 ([(GShown.mk at_1 (w64 ((w64 (at_1 + 1)) + r3.1)) r4.1)] : List GShown)).bind fun l1 =>
 (spec_l00Src_pick r4.2 18).bind fun r5 =>
 (spec_l00Max 0 (w64 ((w64 (at_1 + r5.1)) - 3))).bind fun r6 =>
 some (.next (r5.2, l1, r6, w64 (k1 - 1))))
 else
 some (.brk (s2, out1))) loopLim (r2.2, [], r1.1, r2.1))
 (fun ((s3, out2) : GL00Src × (List GShown)) => some (out2, s3)) Empty.elim
/-- loop.example/g01063/spec.A2Shown -/
def spec_A2Shown (code1 : List Int) : Option (List GShown) :=
 (spec_l00From code1).bind fun r1 =>
 (spec_l15Draw r1).bind fun r2 =>
 some r2.1
/-- loop.example/g01063/spec.l00In -/
def spec_l00In (n1 : Int) (low1 : Int) (high1 : Int) : Option Bool :=
 if n1 ≥ low1 then
 (some (decide (n1 ≤ high1)))
 else
 some false
/-- loop.example/g01063/spec.l00Min -/
def spec_l00Min (a1 : Int) (b1 : Int) : Option Int :=
 if a1 < b1 then
 (some a1)
 else
 some b1
/-- loop.example/g01063/spec.l15Level -/
def spec_l15Level (x1 : GShown) (tick1 : Int) : Option Int :=
 (spec_l00In tick1 x1.On (w64 (x1.Off - 1))).bind fun r1 =>
 if r1 then
 (if x1.Fade = 0 then
 (some 100)
 else
 (div? .i64 (w64 (100 * (w64 (tick1 - x1.On)))) x1.Fade).bind fun q1 =>
 (div? .i64 (w64 (100 * (w64 (x1.Off - tick1)))) x1.Fade).bind fun q2 =>
 (spec_l00Min q1 q2).bind fun r2 =>
 (spec_l00Min 100 r2).bind fun r3 =>
 some r3)
 else
 some 0
/-- loop.example/g01063/spec.l15Light -/
def spec_l15Light (list1 : List GShown) (tick1 : Int) : Option Int :=
 onL (loop (S := (Int × Int)) (B := Int) (R := Empty) (fun ((sum1, i1) : Int × Int) =>
 if i1 < (list1.length : Int) then
 ((at? list1 i1).bind fun v1 =>
 (spec_l15Level v1 tick1).bind fun r1 =>
 some (.next (w64 (sum1 + r1), w64 (i1 + 1))))
 else
 some (.brk sum1)) loopLim (0, 0))
 (fun (sum2 : Int) => some sum2) Empty.elim
/-- loop.example/g01063/spec.l15One -/
def spec_l15One (x1 : GShown) : Option Bool :=
 (spec_l00In x1.On 0 10000).bind fun r1 =>
 if r1 then
 ((spec_l00In x1.Off (w64 (x1.On + 1)) 20000).bind fun r2 =>
 if r2 then
 ((spec_l00In x1.Fade 0 500).bind fun r3 =>
 some r3)
 else
 some false)
 else
 some false
/-- loop.example/g01063/spec.l15Ok -/
def spec_l15Ok (list1 : List GShown) : Option Bool :=
 onL (loop (S := Int) (B := Unit) (R := Bool) (fun (i1 : Int) =>
 if i1 < (list1.length : Int) then
 ((at? list1 i1).bind fun v1 =>
 (spec_l15One v1).bind fun r1 =>
 if r1 then
 (some (.next (w64 (i1 + 1))))
 else
 some (.ret false))
 else
 some (.brk ())) loopLim 0)
 (fun (_ : Unit) => some (decide ((list1.length : Int) ≤ 12))) (fun r => some r)
/-- loop.example/g01063/spec.l15Tick -/
def spec_l15Tick (n1 : Int) : Option Bool :=
 (spec_l00In n1 0 20000).bind fun r1 =>
 some r1
/-- loop.example/g01063/spec.LightAt -/
def spec_LightAt (list1 : List GShown) (tick1 : Int) : Option (Int × Int) :=
 (spec_l15Ok list1).bind fun r1 =>
 if r1 then
 ((spec_l15Tick tick1).bind fun r2 =>
 if r2 then
 ((spec_l15Light list1 tick1).bind fun r3 =>
 some (r3, 0))
 else
 some (0, 2))
 else
 some (0, 1)
/-- loop.example/g01063/spec.ValidShown -/
def spec_ValidShown (list1 : List GShown) : Option Bool :=
 (spec_l15Ok list1).bind fun r1 =>
 some r1
/-- loop.example/g01063/laws.FnLanterns -/
def laws_FnLanterns (code1 : List Int) (more1 : List Int) : Option Bool :=
 (laws_a2Long code1 more1).bind fun r1 =>
 if r1 then
 (some true)
 else
 (spec_A2Shown code1).bind fun r2 =>
 (impl_FewestLanterns r2).bind fun r3 =>
 (impl_AssignLanterns r2).bind fun r4 =>
 (impl_Brightest r2).bind fun r5 =>
 ((if r3.2 = 0 then
 (if r3.1 < 0 then
 (some true)
 else
 if r4.2 = 0 then
 (if (r4.1.length : Int) = (r2.length : Int) then
 (some (!((decide (r3.1 > 0)) == (decide ((r2.length : Int) > 0)))))
 else
 some true)
 else
 some true)
 else
 some true) : Option Bool).bind fun (x1 : Bool) =>
 if x1 then
 (some false)
 else
 onL (loop (S := (Int × Int)) (B := Int) (R := Bool) (fun ((great1, i1) : Int × Int) =>
 if i1 < (r2.length : Int) then
 ((((at? r4.1 i1).bind fun v1 =>
 if v1 < 0 then
 (some true)
 else
 (at? r4.1 i1).bind fun v2 =>
 some (decide (v2 ≥ r3.1))) : Option Bool).bind fun (x2 : Bool) =>
 if x2 then
 (some (.ret false))
 else
 (at? r4.1 i1).bind fun v3 =>
 onL (loop (S := Int) (B := Unit) (R := Bool) (fun (k1 : Int) =>
 if k1 < i1 then
 ((((at? r4.1 i1).bind fun v4 =>
 (at? r4.1 k1).bind fun v5 =>
 if v4 = v5 then
 ((at? r2 i1).bind fun v6 =>
 (at? r2 k1).bind fun v7 =>
 if v6.On < v7.Off then
 ((at? r2 k1).bind fun v8 =>
 (at? r2 i1).bind fun v9 =>
 some (decide (v8.On < v9.Off)))
 else
 some false)
 else
 some false) : Option Bool).bind fun (x3 : Bool) =>
 if x3 then
 (some (.ret false))
 else
 some (.next (w64 (k1 + 1))))
 else
 some (.brk ())) loopLim 0)
 (fun (_ : Unit) => some (.next (imax great1 (w64 (v3 + 1)), w64 (i1 + 1)))) (fun r => some (.ret r)))
 else
 some (.brk great1)) loopLim (0, 0))
 (fun (great2 : Int) => if great2 = r3.1 then
 (onS (S := Unit) (B := Empty) (R := Bool) (if r5.2.2 = 0 then
 ((spec_LightAt r2 r5.1).bind fun r6 =>
 (laws_a2At more1 0 90).bind fun r7 =>
 (spec_LightAt r2 r7).bind fun r8 =>
 if r6.2 = 0 then
 (if r6.1 = r5.2.1 then
 (if r5.2.1 < 1 then
 (some (.ret false))
 else
 if r8.2 = 0 then
 (if r8.1 > r5.2.1 then
 (some (.ret false))
 else
 some (.next ()))
 else
 some (.ret false))
 else
 some (.ret false))
 else
 some (.ret false))
 else
 if r5.2.2 = 10 then
 (some (.next ()))
 else
 some (.ret false))
 (fun (_ : Unit) => (laws_a2At more1 1 6).bind fun r9 =>
 (laws_a2At more1 2 10).bind fun r10 =>
 (laws_a2At more1 3 20).bind fun r11 =>
 (impl_EvenDissolve (w64 (2 + r9)) (w64 ((w64 (r10 + 1)) + r11)) r10).bind fun r12 =>
 (impl_FewestLanterns r12.1).bind fun r13 =>
 (impl_DarkTicks r12.1 1 (w64 ((w64 (2 + r9)) * (w64 ((w64 (r10 + 1)) + r11))))).bind fun r14 =>
 if r12.2 = 0 then
 (if (r12.1.length : Int) = (w64 (2 + r9)) then
 ((spec_ValidShown r12.1).bind fun r15 =>
 if r15 then
 (if r13.2 = 0 then
 (if ((decide (r13.1 = 1)) == (decide (r10 = 0))) then
 (if r13.1 ≤ 2 then
 (if r14.2 = 0 then
 (if r10 > 0 then
 (some true)
 else
 some (decide (r14.1 = 0)))
 else
 some false)
 else
 some false)
 else
 some false)
 else
 some false)
 else
 some false)
 else
 some false)
 else
 some false)
 Empty.elim (fun r => some r))
 else
 some false) (fun r => some r)
end Go.Vs.G
