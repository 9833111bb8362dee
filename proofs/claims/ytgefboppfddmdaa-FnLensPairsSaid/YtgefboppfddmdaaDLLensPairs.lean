/- The functions that the law reaches, as typed Lean functions, printed by program. No conditions. -/
import Derived.Test.YtgefboppfddmdaaV5
set_option maxRecDepth 100000
open Go Go.Vs
namespace Go.Vs.G
structure GFraction where
  Num : Int
  Den : Int
  deriving DecidableEq, Inhabited
structure GL00Src where
  code : List Int
  at_ : Int
  seed : Int
  deriving DecidableEq, Inhabited
def GFraction.ok (x : GFraction) : Prop := (okI .i64) x.Num ∧ (okI .i64) x.Den
def GL00Src.ok (x : GL00Src) : Prop := (okL (okI .u8)) x.code ∧ (okI .i64) x.at_ ∧ (okI .u64) x.seed
/-- loop.example/g01063/impl.gcd -/
def impl_gcd (a1 : Int) (b1 : Int) : Option Int :=
 onL (loop (S := (Int × Int)) (B := Int) (R := Empty) (fun ((a2, b2) : Int × Int) =>
 if b2 = 0 then
 (some (.brk a2))
 else
 (mod? a2 b2).bind fun q1 =>
 some (.next (b2, q1))) loopLim (a1, b1))
 (fun (a3 : Int) => some (imax a3 (w64 (0 - a3)))) Empty.elim
/-- loop.example/g01063/impl.within -/
def impl_within (n1 : Int) (low1 : Int) (high1 : Int) : Option Bool :=
 if n1 ≥ low1 then
 (some (decide (n1 ≤ high1)))
 else
 some false
/-- loop.example/g01063/impl.ValidFraction -/
def impl_ValidFraction (f1 : GFraction) : Option Bool :=
 (impl_within f1.Den 1 1000000).bind fun r1 =>
 if r1 then
 ((impl_within f1.Num (-1000000) 1000000).bind fun r2 =>
 if r2 then
 ((impl_gcd f1.Num f1.Den).bind fun r3 =>
 some (decide (r3 = 1)))
 else
 some false)
 else
 some false
/-- loop.example/g01063/impl.checked -/
def impl_checked (f1 : GFraction) : Option (GFraction × Int) :=
 (impl_ValidFraction f1).bind fun r1 =>
 if r1 then
 (some (f1, 0))
 else
 some ((GFraction.mk 0 0), 5)
/-- loop.example/g01063/impl.isFocal -/
def impl_isFocal (n1 : Int) : Option Bool :=
 (impl_within n1 1 2000).bind fun r1 =>
 some r1
/-- loop.example/g01063/impl.lowest -/
def impl_lowest (num1 : Int) (den1 : Int) : Option GFraction :=
 ((if den1 < 0 then
 (some (w64 (0 - num1), w64 (0 - den1)))
 else
 some (num1, den1)) : Option (Int × Int)).bind fun ((num2, den2) : Int × Int) =>
 (impl_gcd num2 den2).bind fun r1 =>
 (div? .i64 num2 r1).bind fun q1 =>
 (div? .i64 den2 r1).bind fun q2 =>
 some (GFraction.mk q1 q2)
/-- loop.example/g01063/impl.joinLenses -/
def impl_joinLenses (a1 : Int) (b1 : Int) : Option GFraction :=
 (impl_lowest (w64 (a1 * b1)) (w64 (a1 + b1))).bind fun r1 =>
 some r1
/-- loop.example/g01063/impl.JoinLenses -/
def impl_JoinLenses (a1 : Int) (b1 : Int) : Option (GFraction × Int) :=
 (((impl_isFocal a1).bind fun r1 =>
 if r1 then
 ((impl_isFocal b1).bind fun r2 =>
 some (!r2))
 else
 some true) : Option Bool).bind fun (x1 : Bool) =>
 if x1 then
 (some ((GFraction.mk 0 0), 2))
 else
 (impl_joinLenses a1 b1).bind fun r3 =>
 (impl_checked r3).bind fun r4 =>
 some (r4.1, r4.2)
/-- loop.example/g01063/impl.apart -/
def impl_apart (a1 : Int) (b1 : Int) : Option Int :=
 some (imax (w64 (a1 - b1)) (w64 (b1 - a1)))
/-- loop.example/g01063/impl.lensesOk$1 -/
def impl_lensesOk_1 (f1 : Int) : Option Bool :=
 (impl_isFocal f1).bind fun r1 =>
 some (!r1)
/-- slices.IndexFunc[[]int64,int64] -/
def slices_IndexFunc_int64_int64_818 (s1 : List Int) (f1 : Int → Option Bool) : Option Int :=
 onL (loop (S := Int) (B := Unit) (R := Int) (fun (x1 : Int) =>
 if x1 < (s1.length : Int) then
 ((at? s1 x1).bind fun v1 =>
 (f1 v1).bind fun r1 =>
 if r1 then
 (some (.ret x1))
 else
 some (.next (w64 (x1 + 1))))
 else
 some (.brk ())) loopLim 0)
 (fun (_ : Unit) => some (-1)) (fun r => some r)
/-- slices.ContainsFunc[[]int64,int64] -/
def slices_ContainsFunc_int64_int64_796 (s1 : List Int) (f1 : Int → Option Bool) : Option Bool :=
 (slices_IndexFunc_int64_int64_818 s1 f1).bind fun r1 =>
 some (decide (r1 ≥ 0))
/-- loop.example/g01063/impl.lensesOk -/
def impl_lensesOk (list1 : List Int) (most1 : Int) : Option Bool :=
 if (list1.length : Int) ≤ most1 then
 ((slices_ContainsFunc_int64_int64_796 list1 (fun a0 => impl_lensesOk_1 a0)).bind fun r1 =>
 some (!r1))
 else
 some false
/-- loop.example/g01063/impl.NearestLens -/
def impl_NearestLens (list1 : List Int) (wanted1 : Int) : Option (Int × Int) :=
 (((impl_lensesOk list1 12).bind fun r1 =>
 if r1 then
 ((impl_isFocal wanted1).bind fun r2 =>
 some (!r2))
 else
 some true) : Option Bool).bind fun (x1 : Bool) =>
 if x1 then
 (some (0, 2))
 else
 if (list1.length : Int) = 0 then
 (some (0, 3))
 else
 onL (loop (S := (Int × Int)) (B := Int) (R := Empty) (fun ((best1, x2) : Int × Int) =>
 if x2 < (list1.length : Int) then
 ((at? list1 x2).bind fun v1 =>
 (impl_apart v1 wanted1).bind fun r3 =>
 (at? list1 best1).bind fun v2 =>
 (impl_apart v2 wanted1).bind fun r4 =>
 if r3 < r4 then
 (some (.next (x2, w64 (x2 + 1))))
 else
 some (.next (best1, w64 (x2 + 1))))
 else
 some (.brk best1)) loopLim (0, 0))
 (fun (best2 : Int) => some (best2, 0)) Empty.elim
/-- loop.example/g01063/impl.NearestPair -/
def impl_NearestPair (list1 : List Int) (wanted1 : Int) : Option (Int × Int × Int) :=
 (((impl_lensesOk list1 12).bind fun r1 =>
 if r1 then
 ((impl_isFocal wanted1).bind fun r2 =>
 some (!r2))
 else
 some true) : Option Bool).bind fun (x1 : Bool) =>
 if x1 then
 (some (0, 0, 2))
 else
 if (list1.length : Int) < 2 then
 (some (0, 0, 3))
 else
 onL (loop (S := (GFraction × Int × Int × Int)) (B := (Int × Int)) (R := Empty) (fun ((best1, a1, b1, x2) : GFraction × Int × Int × Int) =>
 if x2 < (list1.length : Int) then
 (onL (loop (S := (GFraction × Int × Int × Int)) (B := (GFraction × Int × Int)) (R := Empty) (fun ((best2, a2, b2, k1) : GFraction × Int × Int × Int) =>
 if k1 < (list1.length : Int) then
 ((at? list1 x2).bind fun v1 =>
 (at? list1 k1).bind fun v2 =>
 (impl_joinLenses v1 v2).bind fun r3 =>
 (impl_apart r3.Num (w64 (wanted1 * r3.Den))).bind fun r4 =>
 ((if best2.Num < 0 then
 (some true)
 else
 some (decide ((w64 (r4 * best2.Den)) < (w64 (best2.Num * r3.Den))))) : Option Bool).bind fun (x3 : Bool) =>
 if x3 then
 (some (.next ((GFraction.mk r4 r3.Den), x2, k1, w64 (k1 + 1))))
 else
 some (.next (best2, a2, b2, w64 (k1 + 1))))
 else
 some (.brk (best2, a2, b2))) loopLim (best1, a1, b1, w64 (x2 + 1)))
 (fun ((best3, a3, b3) : GFraction × Int × Int) => some (.next (best3, a3, b3, w64 (x2 + 1)))) Empty.elim)
 else
 some (.brk (a1, b1))) loopLim ((GFraction.mk (-1) 0), 0, 0, 0))
 (fun ((a4, b4) : Int × Int) => some (a4, b4, 0)) Empty.elim
/-- loop.example/g01063/laws.a2At -/
def laws_a2At (code1 : List Int) (at_1 : Int) (n1 : Int) : Option Int :=
 ((if at_1 ≥ (code1.length : Int) then
 (some true)
 else
 some (decide (n1 < 1))) : Option Bool).bind fun (x1 : Bool) =>
 if x1 then
 (some 0)
 else
 (at? code1 at_1).bind fun v1 =>
 (mod? (w64 (v1)) n1).bind fun q1 =>
 some q1
/-- loop.example/g01063/laws.a2Long -/
def laws_a2Long (code1 : List Int) (more1 : List Int) : Option Bool :=
 if (code1.length : Int) > 3000 then
 (some true)
 else
 some (decide ((more1.length : Int) > 3000))
/-- (*loop.example/g01063/spec.l00Src).next -/
def spec_l00Src_next (s1 : GL00Src) : Option (Int × GL00Src) :=
 ((if s1.at_ < (s1.code.length : Int) then
 ((at? s1.code s1.at_).bind fun v1 =>
 some (w64 (v1)))
 else
 some 0) : Option Int).bind fun (b1 : Int) =>
 if (w64 (s1.at_ + 1)) ≤ (s1.code.length : Int) then
 (some (b1, (GL00Src.mk s1.code (w64 (s1.at_ + 1)) (IntKind.wrap .u64 ((IntKind.wrap .u64 ((IntKind.wrap .u64 (s1.seed * 6364136223846793005)) + (IntKind.wrap .u64 (b1)))) + 1442695040888963407)))))
 else
 (shr? .u64 (IntKind.wrap .u64 ((IntKind.wrap .u64 ((IntKind.wrap .u64 (s1.seed * 6364136223846793005)) + (IntKind.wrap .u64 (b1)))) + 1442695040888963407)) 40).bind fun q1 =>
 some (w64 (bit_and .u64 q1 255), (GL00Src.mk s1.code (w64 (s1.at_ + 1)) (IntKind.wrap .u64 ((IntKind.wrap .u64 ((IntKind.wrap .u64 (s1.seed * 6364136223846793005)) + (IntKind.wrap .u64 (b1)))) + 1442695040888963407))))
/-- (*loop.example/g01063/spec.l00Src).pick -/
def spec_l00Src_pick (s1 : GL00Src) (n1 : Int) : Option (Int × GL00Src) :=
 if n1 ≤ 1 then
 (some (0, s1))
 else
 (spec_l00Src_next s1).bind fun r1 =>
 if n1 > 200 then
 ((spec_l00Src_next r1.2).bind fun r2 =>
 (mod? (w64 ((w64 (r1.1 * 256)) + r2.1)) n1).bind fun q1 =>
 some (q1, r2.2))
 else
 (mod? r1.1 n1).bind fun q2 =>
 some (q2, r1.2)
/-- loop.example/g01063/spec.l00From -/
def spec_l00From (code1 : List Int) : Option GL00Src :=
 some (GL00Src.mk code1 0 0)
/-- loop.example/g01063/spec.A2Lenses -/
def spec_A2Lenses (code1 : List Int) : Option (List Int) :=
 (spec_l00From code1).bind fun r1 =>
 (spec_l00Src_pick r1 7).bind fun r2 =>
 onL (loop (S := (GL00Src × (List Int) × Int)) (B := (List Int)) (R := Empty) (fun ((s1, out1, k1) : GL00Src × (List Int) × Int) =>
 if k1 > 0 then
 ((spec_l00Src_pick s1 40).bind fun r3 =>
 (app? out1 ([w64 (10 * (w64 (1 + r3.1)))] : List Int)).bind fun l1 =>
 some (.next (r3.2, l1, w64 (k1 - 1))))
 else
 some (.brk out1)) loopLim (r2.2, [], r2.1))
 (fun (out2 : List Int) => some out2) Empty.elim
/-- loop.example/g01063/laws.FnLensPairs -/
def laws_FnLensPairs (code1 : List Int) (more1 : List Int) : Option Bool :=
 (laws_a2Long code1 more1).bind fun r1 =>
 if r1 then
 (some true)
 else
 (spec_A2Lenses code1).bind fun r2 =>
 (laws_a2At more1 0 40).bind fun r3 =>
 (impl_NearestLens r2 (w64 (10 * (w64 (1 + r3))))).bind fun r4 =>
 (impl_NearestPair r2 (w64 (10 * (w64 (1 + r3))))).bind fun r5 =>
 ((if ((decide (r4.2 = 0)) == (decide ((r2.length : Int) > 0))) then
 (if ((decide (r5.2.2 = 0)) == (decide ((r2.length : Int) > 1))) then
 (if r4.2 = 0 then
 (if r5.2.2 = 0 then
 (some false)
 else
 some (!(decide (r5.2.2 = 3))))
 else
 if r4.2 = 3 then
 (if r5.2.2 = 0 then
 (some false)
 else
 some (!(decide (r5.2.2 = 3))))
 else
 some true)
 else
 some true)
 else
 some true) : Option Bool).bind fun (x1 : Bool) =>
 if x1 then
 (some false)
 else
 ((if r4.2 = 0 then
 (if r4.1 < 0 then
 (some true)
 else
 if r4.1 ≥ (r2.length : Int) then
 (some true)
 else
 if r5.2.2 = 0 then
 (if r5.1 < 0 then
 (some true)
 else
 if r5.2.1 ≤ r5.1 then
 (some true)
 else
 some (decide (r5.2.1 ≥ (r2.length : Int))))
 else
 some false)
 else
 if r5.2.2 = 0 then
 (if r5.1 < 0 then
 (some true)
 else
 if r5.2.1 ≤ r5.1 then
 (some true)
 else
 some (decide (r5.2.1 ≥ (r2.length : Int))))
 else
 some false) : Option Bool).bind fun (x2 : Bool) =>
 if x2 then
 (some false)
 else
 onL (loop (S := Int) (B := Unit) (R := Bool) (fun (i1 : Int) =>
 if i1 < (r2.length : Int) then
 ((at? r2 i1).bind fun v1 =>
 (at? r2 i1).bind fun v2 =>
 (at? r2 r4.1).bind fun v3 =>
 (at? r2 r4.1).bind fun v4 =>
 ((if (imax (w64 (v1 - (w64 (10 * (w64 (1 + r3)))))) (w64 ((w64 (10 * (w64 (1 + r3)))) - v2))) < (imax (w64 (v3 - (w64 (10 * (w64 (1 + r3)))))) (w64 ((w64 (10 * (w64 (1 + r3)))) - v4))) then
 (some true)
 else
 if (imax (w64 (v1 - (w64 (10 * (w64 (1 + r3)))))) (w64 ((w64 (10 * (w64 (1 + r3)))) - v2))) = (imax (w64 (v3 - (w64 (10 * (w64 (1 + r3)))))) (w64 ((w64 (10 * (w64 (1 + r3)))) - v4))) then
 (some (decide (i1 < r4.1)))
 else
 some false) : Option Bool).bind fun (x3 : Bool) =>
 if x3 then
 (some (.ret false))
 else
 onL (loop (S := Int) (B := Unit) (R := Bool) (fun (j1 : Int) =>
 if j1 < (r2.length : Int) then
 ((at? r2 i1).bind fun v5 =>
 (at? r2 j1).bind fun v6 =>
 (impl_JoinLenses v5 v6).bind fun r6 =>
 ((if r6.2 = 0 then
 (if r6.1.Den < 1 then
 (some true)
 else
 (at? r2 i1).bind fun v7 =>
 (at? r2 j1).bind fun v8 =>
 (at? r2 i1).bind fun v9 =>
 (at? r2 j1).bind fun v10 =>
 if (w64 (r6.1.Num * (w64 (v7 + v8)))) = (w64 ((w64 (v9 * v10)) * r6.1.Den)) then
 ((at? r2 i1).bind fun v11 =>
 (at? r2 j1).bind fun v12 =>
 some (decide (r6.1.Num ≥ (w64 (r6.1.Den * (imin v11 v12))))))
 else
 some true)
 else
 some true) : Option Bool).bind fun (x4 : Bool) =>
 if x4 then
 (some (.ret false))
 else
 (at? r2 i1).bind fun v13 =>
 (at? r2 j1).bind fun v14 =>
 (at? r2 i1).bind fun v15 =>
 (at? r2 j1).bind fun v16 =>
 (at? r2 r5.1).bind fun v17 =>
 (at? r2 r5.2.1).bind fun v18 =>
 (at? r2 r5.1).bind fun v19 =>
 (at? r2 r5.2.1).bind fun v20 =>
 (at? r2 r5.1).bind fun v21 =>
 (at? r2 r5.2.1).bind fun v22 =>
 (at? r2 i1).bind fun v23 =>
 (at? r2 j1).bind fun v24 =>
 if (w64 ((imax (w64 ((w64 (v13 * v14)) - (w64 ((w64 (10 * (w64 (1 + r3)))) * (w64 (v15 + v16)))))) (w64 (0 - (w64 ((w64 (v13 * v14)) - (w64 ((w64 (10 * (w64 (1 + r3)))) * (w64 (v15 + v16))))))))) * (w64 (v21 + v22)))) < (w64 ((imax (w64 ((w64 (v17 * v18)) - (w64 ((w64 (10 * (w64 (1 + r3)))) * (w64 (v19 + v20)))))) (w64 (0 - (w64 ((w64 (v17 * v18)) - (w64 ((w64 (10 * (w64 (1 + r3)))) * (w64 (v19 + v20))))))))) * (w64 (v23 + v24)))) then
 (some (.ret false))
 else
 some (.next (w64 (j1 + 1))))
 else
 some (.brk ())) loopLim (w64 (i1 + 1)))
 (fun (_ : Unit) => some (.next (w64 (i1 + 1)))) (fun r => some (.ret r)))
 else
 some (.brk ())) loopLim 0)
 (fun (_ : Unit) => some true) (fun r => some r)
/-- (*loop.example/g01063/spec.l00Src).among -/
def spec_l00Src_among (s1 : GL00Src) (list1 : List Int) : Option (Int × GL00Src) :=
 (spec_l00Src_pick s1 (list1.length : Int)).bind fun r1 =>
 (at? list1 r1.1).bind fun v1 =>
 some (v1, r1.2)
/-- loop.example/g01063/impl.CommonTime -/
def impl_CommonTime (a1 : GFraction) (b1 : GFraction) : Option (GFraction × Int) :=
 (((impl_ValidFraction a1).bind fun r1 =>
 if r1 then
 ((impl_ValidFraction b1).bind fun r2 =>
 some (!r2))
 else
 some true) : Option Bool).bind fun (x1 : Bool) =>
 if x1 then
 (some ((GFraction.mk 0 0), 1))
 else
 ((if a1.Num ≤ 0 then
 (some true)
 else
 some (decide (b1.Num ≤ 0))) : Option Bool).bind fun (x2 : Bool) =>
 if x2 then
 (some ((GFraction.mk 0 0), 6))
 else
 (impl_gcd a1.Den b1.Den).bind fun r3 =>
 (div? .i64 a1.Den r3).bind fun q1 =>
 (impl_gcd a1.Num b1.Num).bind fun r4 =>
 (impl_lowest (w64 (q1 * b1.Den)) r4).bind fun r5 =>
 (impl_checked r5).bind fun r6 =>
 some (r6.1, r6.2)
/-- loop.example/g01063/impl.discOk -/
def impl_discOk (pictures1 : Int) (slits1 : Int) : Option Bool :=
 (impl_within pictures1 1 48).bind fun r1 =>
 if r1 then
 ((impl_within slits1 1 48).bind fun r2 =>
 some r2)
 else
 some false
/-- loop.example/g01063/impl.driftOf -/
def impl_driftOf (pictures1 : Int) (slits1 : Int) : Option GFraction :=
 (div? .i64 (w64 ((w64 ((w64 (2 * pictures1)) + slits1)) - 1)) (w64 (2 * slits1))).bind fun q1 =>
 (impl_lowest (w64 (pictures1 - (w64 (q1 * slits1)))) slits1).bind fun r1 =>
 some r1
/-- loop.example/g01063/impl.DriftOf -/
def impl_DriftOf (pictures1 : Int) (slits1 : Int) : Option (GFraction × Int) :=
 (impl_discOk pictures1 slits1).bind fun r1 =>
 if r1 then
 ((impl_driftOf pictures1 slits1).bind fun r2 =>
 (impl_checked r2).bind fun r3 =>
 some (r3.1, r3.2))
 else
 some ((GFraction.mk 0 0), 2)
/-- loop.example/g01063/impl.DriftRate -/
def impl_DriftRate (rate1 : GFraction) (pictures1 : Int) (slits1 : Int) : Option (GFraction × Int) :=
 (impl_ValidFraction rate1).bind fun r1 =>
 if r1 then
 ((impl_discOk pictures1 slits1).bind fun r2 =>
 if r2 then
 ((impl_driftOf pictures1 slits1).bind fun r3 =>
 (impl_lowest (w64 ((w64 (rate1.Num * slits1)) * r3.Num)) (w64 ((w64 (rate1.Den * r3.Den)) * pictures1))).bind fun r4 =>
 (impl_checked r4).bind fun r5 =>
 some (r5.1, r5.2))
 else
 some ((GFraction.mk 0 0), 2))
 else
 some ((GFraction.mk 0 0), 1)
/-- loop.example/g01063/impl.GearedRate -/
def impl_GearedRate (rate1 : GFraction) (driver1 : Int) (driven1 : Int) : Option (GFraction × Int) :=
 (impl_ValidFraction rate1).bind fun r1 =>
 if r1 then
 ((((impl_within driver1 1 1000).bind fun r2 =>
 if r2 then
 ((impl_within driven1 1 1000).bind fun r3 =>
 some (!r3))
 else
 some true) : Option Bool).bind fun (x1 : Bool) =>
 if x1 then
 (some ((GFraction.mk 0 0), 2))
 else
 (impl_lowest (w64 (rate1.Num * driver1)) (w64 (rate1.Den * driven1))).bind fun r4 =>
 (impl_checked r4).bind fun r5 =>
 some (r5.1, r5.2))
 else
 some ((GFraction.mk 0 0), 1)
/-- loop.example/g01063/impl.GhostsOf -/
def impl_GhostsOf (pictures1 : Int) (slits1 : Int) : Option (Int × Int) :=
 (impl_discOk pictures1 slits1).bind fun r1 =>
 if r1 then
 ((impl_gcd pictures1 slits1).bind fun r2 =>
 (div? .i64 slits1 r2).bind fun q1 =>
 some (q1, 0))
 else
 some (0, 2)
/-- loop.example/g01063/impl.nearest -/
def impl_nearest (pictures1 : Int) (slits1 : Int) (flash1 : Int) : Option Int :=
 (div? .i64 (w64 ((w64 ((w64 (2 * flash1)) * pictures1)) + slits1)) (w64 (2 * slits1))).bind fun q1 =>
 some q1
/-- loop.example/g01063/impl.seenOrder -/
def impl_seenOrder (pictures1 : Int) (slits1 : Int) : Option (List Int) :=
 onL (loop (S := ((List Int) × Int)) (B := (List Int)) (R := Empty) (fun ((out1, x1) : (List Int) × Int) =>
 if x1 < slits1 then
 ((impl_nearest pictures1 slits1 x1).bind fun r1 =>
 (mod? r1 pictures1).bind fun q1 =>
 (app? out1 ([q1] : List Int)).bind fun l1 =>
 some (.next (l1, w64 (x1 + 1))))
 else
 some (.brk out1)) loopLim ([], 0))
 (fun (out2 : List Int) => some out2) Empty.elim
/-- loop.example/g01063/impl.MissedPictures -/
def impl_MissedPictures (pictures1 : Int) (slits1 : Int) : Option ((List Int) × Int) :=
 (impl_discOk pictures1 slits1).bind fun r1 =>
 if r1 then
 ((mk? pictures1 (false : Bool)).bind fun l1 =>
 (impl_seenOrder pictures1 slits1).bind fun r2 =>
 onL (loop (S := ((List Bool) × Int)) (B := (List Bool)) (R := Empty) (fun ((seen1, x1) : (List Bool) × Int) =>
 if x1 < (r2.length : Int) then
 ((at? r2 x1).bind fun v1 =>
 (at? seen1 v1).bind fun v2 =>
 some (.next (seen1.set v1.toNat true, w64 (x1 + 1))))
 else
 some (.brk seen1)) loopLim (l1, 0))
 (fun (seen2 : List Bool) => onL (loop (S := ((List Int) × Int)) (B := (List Int)) (R := Empty) (fun ((out1, x2) : (List Int) × Int) =>
 if x2 < (seen2.length : Int) then
 ((at? seen2 x2).bind fun v3 =>
 if v3 then
 (some (.next (out1, w64 (x2 + 1))))
 else
 (app? out1 ([x2] : List Int)).bind fun l2 =>
 some (.next (l2, w64 (x2 + 1))))
 else
 some (.brk out1)) loopLim ([], 0))
 (fun (out2 : List Int) => some (out2, 0)) Empty.elim) Empty.elim)
 else
 some ([], 2)
/-- loop.example/g01063/impl.PictureRate -/
def impl_PictureRate (rate1 : GFraction) (slits1 : Int) : Option (GFraction × Int) :=
 (impl_ValidFraction rate1).bind fun r1 =>
 if r1 then
 ((impl_discOk 1 slits1).bind fun r2 =>
 if r2 then
 ((impl_lowest (w64 (rate1.Num * slits1)) rate1.Den).bind fun r3 =>
 (impl_checked r3).bind fun r4 =>
 some (r4.1, r4.2))
 else
 some ((GFraction.mk 0 0), 2))
 else
 some ((GFraction.mk 0 0), 1)
/-- loop.example/g01063/impl.SeenAt -/
def impl_SeenAt (pictures1 : Int) (slits1 : Int) (flash1 : Int) : Option (Int × GFraction × Int) :=
 (((impl_discOk pictures1 slits1).bind fun r1 =>
 if r1 then
 ((impl_within flash1 0 1000000).bind fun r2 =>
 some (!r2))
 else
 some true) : Option Bool).bind fun (x1 : Bool) =>
 if x1 then
 (some (0, (GFraction.mk 0 0), 2))
 else
 (impl_nearest pictures1 slits1 flash1).bind fun r3 =>
 (impl_lowest (w64 ((w64 (r3 * slits1)) - (w64 (flash1 * pictures1)))) slits1).bind fun r4 =>
 (impl_checked r4).bind fun r5 =>
 if r5.2 = 0 then
 ((mod? r3 pictures1).bind fun q1 =>
 some (q1, r5.1, 0))
 else
 some (0, (GFraction.mk 0 0), r5.2)
/-- loop.example/g01063/impl.SeenOrder -/
def impl_SeenOrder (pictures1 : Int) (slits1 : Int) : Option ((List Int) × Int) :=
 (impl_discOk pictures1 slits1).bind fun r1 =>
 if r1 then
 ((impl_seenOrder pictures1 slits1).bind fun r2 =>
 some (r2, 0))
 else
 some ([], 2)
/-- loop.example/g01063/impl.SlitsForDrift -/
def impl_SlitsForDrift (pictures1 : Int) (drift1 : GFraction) : Option ((List Int) × Int) :=
 (impl_ValidFraction drift1).bind fun r1 =>
 if r1 then
 ((impl_discOk pictures1 1).bind fun r2 =>
 if r2 then
 (onL (loop (S := ((List Int) × Int)) (B := (List Int)) (R := Empty) (fun ((out1, slits1) : (List Int) × Int) =>
 if slits1 ≤ 48 then
 ((impl_driftOf pictures1 slits1).bind fun r3 =>
 if (r3.Num == drift1.Num && (r3.Den == drift1.Den && true)) then
 ((app? out1 ([slits1] : List Int)).bind fun l1 =>
 some (.next (l1, w64 (slits1 + 1))))
 else
 some (.next (out1, w64 (slits1 + 1))))
 else
 some (.brk out1)) loopLim ([], 1))
 (fun (out2 : List Int) => some (out2, 0)) Empty.elim)
 else
 some ([], 2))
 else
 some ([], 1)
/-- loop.example/g01063/impl.StandsStill -/
def impl_StandsStill (pictures1 : Int) (slits1 : Int) : Option (Bool × Int) :=
 (impl_discOk pictures1 slits1).bind fun r1 =>
 if r1 then
 ((mod? pictures1 slits1).bind fun q1 =>
 some ((decide (q1 = 0)), 0))
 else
 some (false, 2)
/-- loop.example/g01063/impl.WholeTurns -/
def impl_WholeTurns (rate1 : GFraction) (seconds1 : Int) : Option (Int × Int) :=
 (impl_ValidFraction rate1).bind fun r1 =>
 if r1 then
 ((impl_within seconds1 0 1000000).bind fun r2 =>
 if r2 then
 (if rate1.Num < 0 then
 (some (0, 6))
 else
 (div? .i64 (w64 (rate1.Num * seconds1)) rate1.Den).bind fun q1 =>
 some (q1, 0))
 else
 some (0, 2))
 else
 some (0, 1)
/-- loop.example/g01063/laws.a2Has -/
def laws_a2Has (list1 : List Int) (n1 : Int) : Option Bool :=
 onL (loop (S := Int) (B := Unit) (R := Bool) (fun (i1 : Int) =>
 if i1 < (list1.length : Int) then
 ((at? list1 i1).bind fun v1 =>
 if v1 = n1 then
 (some (.ret true))
 else
 some (.next (w64 (i1 + 1))))
 else
 some (.brk ())) loopLim 0)
 (fun (_ : Unit) => some false) (fun r => some r)
/-- loop.example/g01063/spec.l00Max -/
def spec_l00Max (a1 : Int) (b1 : Int) : Option Int :=
 if a1 > b1 then
 (some a1)
 else
 some b1
/-- loop.example/g01063/spec.A2Disc -/
def spec_A2Disc (code1 : List Int) : Option (Int × Int) :=
 (spec_l00From code1).bind fun r1 =>
 (spec_l00Src_pick r1 16).bind fun r2 =>
 (spec_l00Src_pick r2.2 9).bind fun r3 =>
 (spec_l00Max 1 (w64 ((w64 ((w64 (1 + r2.1)) + r3.1)) - 4))).bind fun r4 =>
 some (w64 (1 + r2.1), r4)
/-- loop.example/g01063/spec.l00Gcd -/
def spec_l00Gcd (a1 : Int) (b1 : Int) : Option Int :=
 onL (loop (S := (Int × Int)) (B := Int) (R := Empty) (fun ((a2, b2) : Int × Int) =>
 if b2 = 0 then
 (some (.brk a2))
 else
 (mod? a2 b2).bind fun q1 =>
 some (.next (b2, q1))) loopLim (a1, b1))
 (fun (a3 : Int) => some a3) Empty.elim
/-- loop.example/g01063/spec.l00Size -/
def spec_l00Size (n1 : Int) : Option Int :=
 if n1 < 0 then
 (some (w64 (0 - n1)))
 else
 some n1
/-- loop.example/g01063/spec.l02Make -/
def spec_l02Make (num1 : Int) (den1 : Int) : Option GFraction :=
 (spec_l00Size num1).bind fun r1 =>
 (spec_l00Gcd r1 den1).bind fun r2 =>
 (div? .i64 num1 r2).bind fun q1 =>
 (div? .i64 den1 r2).bind fun q2 =>
 some (GFraction.mk q1 q2)
/-- loop.example/g01063/spec.l02Draw -/
def spec_l02Draw (s1 : GL00Src) : Option (GFraction × GL00Src) :=
 (spec_l00Src_pick s1 60).bind fun r1 =>
 (spec_l00Src_pick r1.2 20).bind fun r2 =>
 (spec_l02Make (w64 (r1.1 - 15)) (w64 (1 + r2.1))).bind fun r3 =>
 some (r3, r2.2)
/-- loop.example/g01063/spec.A2Fraction -/
def spec_A2Fraction (code1 : List Int) : Option GFraction :=
 (spec_l00From code1).bind fun r1 =>
 (spec_l02Draw r1).bind fun r2 =>
 some r2.1
/-- loop.example/g01063/spec.l00In -/
def spec_l00In (n1 : Int) (low1 : Int) (high1 : Int) : Option Bool :=
 if n1 ≥ low1 then
 (some (decide (n1 ≤ high1)))
 else
 some false
/-- loop.example/g01063/spec.l03Many -/
def spec_l03Many (n1 : Int) : Option Bool :=
 (spec_l00In n1 1 48).bind fun r1 =>
 some r1
/-- loop.example/g01063/spec.l03Code -/
def spec_l03Code (pictures1 : Int) (slits1 : Int) : Option Int :=
 (((spec_l03Many pictures1).bind fun r1 =>
 if r1 then
 ((spec_l03Many slits1).bind fun r2 =>
 some (!r2))
 else
 some true) : Option Bool).bind fun (x1 : Bool) =>
 if x1 then
 (some 2)
 else
 some 0
/-- loop.example/g01063/spec.l03Drift -/
def spec_l03Drift (pictures1 : Int) (slits1 : Int) : Option GFraction :=
 (mod? pictures1 slits1).bind fun q1 =>
 if (w64 (2 * q1)) > slits1 then
 ((spec_l02Make (w64 (q1 - slits1)) slits1).bind fun r1 =>
 some r1)
 else
 (spec_l02Make q1 slits1).bind fun r2 =>
 some r2
/-- loop.example/g01063/spec.DriftOf -/
def spec_DriftOf (pictures1 : Int) (slits1 : Int) : Option (GFraction × Int) :=
 (spec_l03Code pictures1 slits1).bind fun r1 =>
 if r1 = 0 then
 ((spec_l03Drift pictures1 slits1).bind fun r2 =>
 some (r2, 0))
 else
 some ((GFraction.mk 0 0), r1)
/-- loop.example/g01063/laws.FnDrifts -/
def laws_FnDrifts (code1 : List Int) (more1 : List Int) : Option Bool :=
 (laws_a2Long code1 more1).bind fun r1 =>
 if r1 then
 (some true)
 else
 (spec_A2Disc code1).bind fun r2 =>
 (impl_DriftOf r2.1 r2.2).bind fun r3 =>
 (impl_StandsStill r2.1 r2.2).bind fun r4 =>
 (impl_GhostsOf r2.1 r2.2).bind fun r5 =>
 (impl_SlitsForDrift r2.1 r3.1).bind fun r6 =>
 ((if r3.2 = 0 then
 (if r3.1.Den < 1 then
 (some true)
 else
 if r3.1.Den > r2.2 then
 (some true)
 else
 if (w64 (2 * r3.1.Num)) > r3.1.Den then
 (some true)
 else
 if (w64 (2 * r3.1.Num)) ≤ (w64 (0 - r3.1.Den)) then
 (some true)
 else
 (mod? (w64 ((w64 (r2.1 * r3.1.Den)) - (w64 (r3.1.Num * r2.2)))) (w64 (r2.2 * r3.1.Den))).bind fun q1 =>
 if q1 = 0 then
 (if r4.2 = 0 then
 (if (r4.1 == (decide (r3.1.Num = 0))) then
 (if r5.2 = 0 then
 (if r5.1 = r3.1.Den then
 (if r6.2 = 0 then
 ((laws_a2Has r6.1 r2.2).bind fun r7 =>
 some (!r7))
 else
 some true)
 else
 some true)
 else
 some true)
 else
 some true)
 else
 some true)
 else
 some true)
 else
 some true) : Option Bool).bind fun (x1 : Bool) =>
 if x1 then
 (some false)
 else
 onL (loop (S := Int) (B := Unit) (R := Bool) (fun (i1 : Int) =>
 if i1 < (r6.1.length : Int) then
 ((at? r6.1 i1).bind fun v1 =>
 (spec_DriftOf r2.1 v1).bind fun r8 =>
 ((if r8.2 = 0 then
 (if (r8.1.Num == r3.1.Num && (r8.1.Den == r3.1.Den && true)) then
 (if i1 > 0 then
 ((at? r6.1 (w64 (i1 - 1))).bind fun v2 =>
 (at? r6.1 i1).bind fun v3 =>
 some (decide (v2 ≥ v3)))
 else
 some false)
 else
 some true)
 else
 some true) : Option Bool).bind fun (x2 : Bool) =>
 if x2 then
 (some (.ret false))
 else
 some (.next (w64 (i1 + 1))))
 else
 some (.brk ())) loopLim 0)
 (fun (_ : Unit) => (spec_A2Fraction more1).bind fun r9 =>
 (impl_PictureRate r9 r2.2).bind fun r10 =>
 (impl_DriftRate r9 r2.1 r2.2).bind fun r11 =>
 if r10.2 = 0 then
 (if r10.1.Den ≥ 1 then
 (if (w64 (r10.1.Num * r9.Den)) = (w64 ((w64 (r9.Num * r2.2)) * r10.1.Den)) then
 (if r11.2 = 0 then
 (if r11.1.Den ≥ 1 then
 (some (decide ((w64 ((w64 ((w64 (r11.1.Num * r10.1.Den)) * r3.1.Den)) * r2.1)) = (w64 ((w64 (r10.1.Num * r3.1.Num)) * r11.1.Den)))))
 else
 some false)
 else
 some false)
 else
 some false)
 else
 some false)
 else
 some false) (fun r => some r)
/-- loop.example/g01063/laws.FnRates -/
def laws_FnRates (code1 : List Int) (more1 : List Int) : Option Bool :=
 (laws_a2Long code1 more1).bind fun r1 =>
 if r1 then
 (some true)
 else
 (spec_A2Fraction code1).bind fun r2 =>
 (spec_A2Fraction more1).bind fun r3 =>
 (laws_a2At more1 0 200).bind fun r4 =>
 (impl_WholeTurns r2 r4).bind fun r5 =>
 onS (S := Unit) (B := Empty) (R := Bool) (if r2.Num < 0 then
 (if r5.2 = 6 then
 (some (.next ()))
 else
 some (.ret false))
 else
 if r5.2 = 0 then
 (if r5.1 < 0 then
 (some (.ret false))
 else
 if r5.1 > 1000000 then
 (some (.ret false))
 else
 if (w64 (r5.1 * r2.Den)) > (w64 (r2.Num * r4)) then
 (some (.ret false))
 else
 if (w64 ((w64 (r5.1 + 1)) * r2.Den)) ≤ (w64 (r2.Num * r4)) then
 (some (.ret false))
 else
 some (.next ()))
 else
 some (.ret false))
 (fun (_ : Unit) => (laws_a2At more1 1 40).bind fun r6 =>
 (laws_a2At more1 2 40).bind fun r7 =>
 (impl_GearedRate r2 (w64 (8 + r6)) (w64 (8 + r7))).bind fun r8 =>
 (impl_GearedRate r8.1 (w64 (8 + r7)) (w64 (8 + r6))).bind fun r9 =>
 ((if r8.2 = 0 then
 (if (w64 ((w64 (r8.1.Num * r2.Den)) * (w64 (8 + r7)))) = (w64 ((w64 (r2.Num * (w64 (8 + r6)))) * r8.1.Den)) then
 (if r9.2 = 0 then
 (some (!(r9.1.Num == r2.Num && (r9.1.Den == r2.Den && true))))
 else
 some true)
 else
 some true)
 else
 some true) : Option Bool).bind fun (x1 : Bool) =>
 if x1 then
 (some false)
 else
 (impl_CommonTime r2 r3).bind fun r10 =>
 ((if r2.Num ≤ 0 then
 (some true)
 else
 some (decide (r3.Num ≤ 0))) : Option Bool).bind fun (x2 : Bool) =>
 if x2 then
 (some (decide (r10.2 = 6)))
 else
 ((if r10.2 = 0 then
 (if r10.1.Num < 1 then
 (some true)
 else
 if r10.1.Den < 1 then
 (some true)
 else
 if r10.1.Num > 1000000 then
 (some true)
 else
 if r10.1.Den > 1000000 then
 (some true)
 else
 (mod? (w64 (r2.Num * r10.1.Num)) (w64 (r2.Den * r10.1.Den))).bind fun q1 =>
 if q1 = 0 then
 ((mod? (w64 (r3.Num * r10.1.Num)) (w64 (r3.Den * r10.1.Den))).bind fun q2 =>
 some (!(decide (q2 = 0))))
 else
 some true)
 else
 some true) : Option Bool).bind fun (x3 : Bool) =>
 if x3 then
 (some false)
 else
 onL (loop (S := Int) (B := Unit) (R := Bool) (fun (k1 : Int) =>
 if k1 ≤ 60 then
 ((((mod? (w64 (r2.Num * r10.1.Num)) (w64 ((w64 (r2.Den * r10.1.Den)) * k1))).bind fun q3 =>
 if q3 = 0 then
 ((mod? (w64 (r3.Num * r10.1.Num)) (w64 ((w64 (r3.Den * r10.1.Den)) * k1))).bind fun q4 =>
 some (decide (q4 = 0)))
 else
 some false) : Option Bool).bind fun (x4 : Bool) =>
 if x4 then
 (some (.ret false))
 else
 some (.next (w64 (k1 + 1))))
 else
 some (.brk ())) loopLim 2)
 (fun (_ : Unit) => some true) (fun r => some r))
 Empty.elim (fun r => some r)
/-- loop.example/g01063/laws.a2Rises -/
def laws_a2Rises (list1 : List Int) (n1 : Int) : Option Bool :=
 onL (loop (S := Int) (B := Unit) (R := Bool) (fun (i1 : Int) =>
 if i1 < (list1.length : Int) then
 ((((at? list1 i1).bind fun v1 =>
 if v1 < 0 then
 (some true)
 else
 (at? list1 i1).bind fun v2 =>
 if v2 ≥ n1 then
 (some true)
 else
 if i1 > 0 then
 ((at? list1 (w64 (i1 - 1))).bind fun v3 =>
 (at? list1 i1).bind fun v4 =>
 some (decide (v3 ≥ v4)))
 else
 some false) : Option Bool).bind fun (x1 : Bool) =>
 if x1 then
 (some (.ret false))
 else
 some (.next (w64 (i1 + 1))))
 else
 some (.brk ())) loopLim 0)
 (fun (_ : Unit) => some true) (fun r => some r)
/-- loop.example/g01063/laws.FnSeen -/
def laws_FnSeen (code1 : List Int) (more1 : List Int) : Option Bool :=
 (laws_a2Long code1 more1).bind fun r1 =>
 if r1 then
 (some true)
 else
 (spec_A2Disc code1).bind fun r2 =>
 (impl_SeenOrder r2.1 r2.2).bind fun r3 =>
 (impl_MissedPictures r2.1 r2.2).bind fun r4 =>
 ((if r3.2 = 0 then
 (if (r3.1.length : Int) = r2.2 then
 (if r4.2 = 0 then
 ((laws_a2Rises r4.1 r2.1).bind fun r5 =>
 some (!r5))
 else
 some true)
 else
 some true)
 else
 some true) : Option Bool).bind fun (x1 : Bool) =>
 if x1 then
 (some false)
 else
 onL (loop (S := Int) (B := Unit) (R := Bool) (fun (k1 : Int) =>
 if k1 < r2.2 then
 ((laws_a2At more1 k1 9).bind fun r6 =>
 (impl_SeenAt r2.1 r2.2 (w64 (k1 + (w64 (r6 * r2.2))))).bind fun r7 =>
 ((if r7.2.2 = 0 then
 ((at? r3.1 k1).bind fun v1 =>
 if r7.1 = v1 then
 (if r7.1 < 0 then
 (some true)
 else
 if r7.1 ≥ r2.1 then
 (some true)
 else
 if r7.2.1.Den < 1 then
 (some true)
 else
 if r7.2.1.Den > r2.2 then
 (some true)
 else
 if (w64 (2 * r7.2.1.Num)) > r7.2.1.Den then
 (some true)
 else
 some (decide ((w64 (2 * r7.2.1.Num)) ≤ (w64 (0 - r7.2.1.Den)))))
 else
 some true)
 else
 some true) : Option Bool).bind fun (x2 : Bool) =>
 if x2 then
 (some (.ret false))
 else
 (((mod? (w64 ((w64 ((w64 (k1 * r2.1)) * r7.2.1.Den)) + (w64 (r7.2.1.Num * r2.2)))) (w64 (r2.2 * r7.2.1.Den))).bind fun q1 =>
 if q1 = 0 then
 ((div? .i64 (w64 ((w64 ((w64 (k1 * r2.1)) * r7.2.1.Den)) + (w64 (r7.2.1.Num * r2.2)))) (w64 (r2.2 * r7.2.1.Den))).bind fun q2 =>
 (mod? q2 r2.1).bind fun q3 =>
 some (!(decide (q3 = r7.1))))
 else
 some true) : Option Bool).bind fun (x3 : Bool) =>
 if x3 then
 (some (.ret false))
 else
 some (.next (w64 (k1 + 1))))
 else
 some (.brk ())) loopLim 0)
 (fun (_ : Unit) => onL (loop (S := Int) (B := Unit) (R := Bool) (fun (p1 : Int) =>
 if p1 < r2.1 then
 ((laws_a2Has r4.1 p1).bind fun r8 =>
 (laws_a2Has r3.1 p1).bind fun r9 =>
 if (r8 == r9) then
 (some (.ret false))
 else
 some (.next (w64 (p1 + 1))))
 else
 some (.brk ())) loopLim 0)
 (fun (_ : Unit) => some true) (fun r => some r)) (fun r => some r)
end Go.Vs.G
