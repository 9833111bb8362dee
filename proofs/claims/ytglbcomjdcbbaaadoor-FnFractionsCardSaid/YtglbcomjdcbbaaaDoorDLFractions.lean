/- The functions that the law reaches, as typed Lean functions, printed by program. No conditions. -/
import Derived.Test.YtglbcomjdcbbaaaDoorV5
set_option maxRecDepth 100000
open Go Go.Vs
namespace Go.Vs.G
structure GFraction where
  Num : Int
  Den : Int
  deriving DecidableEq, Inhabited
structure GL00Src where
  code : List Int
  at_ : Int
  seed : Int
  deriving DecidableEq, Inhabited
def GFraction.ok (x : GFraction) : Prop := (okI .i64) x.Num ∧ (okI .i64) x.Den
def GL00Src.ok (x : GL00Src) : Prop := (okL (okI .u8)) x.code ∧ (okI .i64) x.at_ ∧ (okI .u64) x.seed
/-- loop.example/g01063/laws.a2Long -/
def laws_a2Long (code1 : List Int) (more1 : List Int) : Option Bool :=
 if (code1.length : Int) > 3000 then
 (some true)
 else
 some (decide ((more1.length : Int) > 3000))
/-- loop.example/g01063/spec.l00From -/
def spec_l00From (code1 : List Int) : Option GL00Src :=
 some (GL00Src.mk code1 0 0)
/-- (*loop.example/g01063/spec.l00Src).next -/
def spec_l00Src_next (s1 : GL00Src) : Option (Int × GL00Src) :=
 ((if s1.at_ < (s1.code.length : Int) then
 ((at? s1.code s1.at_).bind fun v1 =>
 some (w64 (v1)))
 else
 some 0) : Option Int).bind fun (b1 : Int) =>
 if (w64 (s1.at_ + 1)) ≤ (s1.code.length : Int) then
 (some (b1, (GL00Src.mk s1.code (w64 (s1.at_ + 1)) (IntKind.wrap .u64 ((IntKind.wrap .u64 ((IntKind.wrap .u64 (s1.seed * 6364136223846793005)) + (IntKind.wrap .u64 (b1)))) + 1442695040888963407)))))
 else
 (shr? .u64 (IntKind.wrap .u64 ((IntKind.wrap .u64 ((IntKind.wrap .u64 (s1.seed * 6364136223846793005)) + (IntKind.wrap .u64 (b1)))) + 1442695040888963407)) 40).bind fun q1 =>
 some (w64 (bit_and .u64 q1 255), (GL00Src.mk s1.code (w64 (s1.at_ + 1)) (IntKind.wrap .u64 ((IntKind.wrap .u64 ((IntKind.wrap .u64 (s1.seed * 6364136223846793005)) + (IntKind.wrap .u64 (b1)))) + 1442695040888963407))))
/-- (*loop.example/g01063/spec.l00Src).pick -/
def spec_l00Src_pick (s1 : GL00Src) (n1 : Int) : Option (Int × GL00Src) :=
 if n1 ≤ 1 then
 (some (0, s1))
 else
 (spec_l00Src_next s1).bind fun r1 =>
 if n1 > 200 then
 ((spec_l00Src_next r1.2).bind fun r2 =>
 (mod? (w64 ((w64 (r1.1 * 256)) + r2.1)) n1).bind fun q1 =>
 some (q1, r2.2))
 else
 (mod? r1.1 n1).bind fun q2 =>
 some (q2, r1.2)
/-- loop.example/g01063/spec.l00Gcd -/
def spec_l00Gcd (a1 : Int) (b1 : Int) : Option Int :=
 onL (loop (S := (Int × Int)) (B := Int) (R := Empty) (fun ((a2, b2) : Int × Int) =>
 if b2 = 0 then
 (some (.brk a2))
 else
 (mod? a2 b2).bind fun q1 =>
 some (.next (b2, q1))) loopLim (a1, b1))
 (fun (a3 : Int) => some a3) Empty.elim
/-- loop.example/g01063/spec.l00Size -/
def spec_l00Size (n1 : Int) : Option Int :=
 if n1 < 0 then
 (some (w64 (0 - n1)))
 else
 some n1
/-- loop.example/g01063/spec.l02Make -/
def spec_l02Make (num1 : Int) (den1 : Int) : Option GFraction :=
 (spec_l00Size num1).bind fun r1 =>
 (spec_l00Gcd r1 den1).bind fun r2 =>
 (div? .i64 num1 r2).bind fun q1 =>
 (div? .i64 den1 r2).bind fun q2 =>
 some (GFraction.mk q1 q2)
/-- loop.example/g01063/spec.l02Draw -/
def spec_l02Draw (s1 : GL00Src) : Option (GFraction × GL00Src) :=
 (spec_l00Src_pick s1 60).bind fun r1 =>
 (spec_l00Src_pick r1.2 20).bind fun r2 =>
 (spec_l02Make (w64 (r1.1 - 15)) (w64 (1 + r2.1))).bind fun r3 =>
 some (r3, r2.2)
/-- loop.example/g01063/spec.A2Fraction -/
def spec_A2Fraction (code1 : List Int) : Option GFraction :=
 (spec_l00From code1).bind fun r1 =>
 (spec_l02Draw r1).bind fun r2 =>
 some r2.1
/-- loop.example/g01063/impl.gcd -/
def impl_gcd (a1 : Int) (b1 : Int) : Option Int :=
 onL (loop (S := (Int × Int)) (B := Int) (R := Empty) (fun ((a2, b2) : Int × Int) =>
 if b2 = 0 then
 (some (.brk a2))
 else
 (mod? a2 b2).bind fun q1 =>
 some (.next (b2, q1))) loopLim (a1, b1))
 (fun (a3 : Int) => some (imax a3 (w64 (0 - a3)))) Empty.elim
/-- loop.example/g01063/impl.within -/
def impl_within (n1 : Int) (low1 : Int) (high1 : Int) : Option Bool :=
 if n1 ≥ low1 then
 (some (decide (n1 ≤ high1)))
 else
 some false
/-- loop.example/g01063/impl.ValidFraction -/
def impl_ValidFraction (f1 : GFraction) : Option Bool :=
 (impl_within f1.Den 1 1000000).bind fun r1 =>
 if r1 then
 ((impl_within f1.Num (-1000000) 1000000).bind fun r2 =>
 if r2 then
 ((impl_gcd f1.Num f1.Den).bind fun r3 =>
 some (decide (r3 = 1)))
 else
 some false)
 else
 some false
/-- loop.example/g01063/impl.checked -/
def impl_checked (f1 : GFraction) : Option (GFraction × Int) :=
 (impl_ValidFraction f1).bind fun r1 =>
 if r1 then
 (some (f1, 0))
 else
 some ((GFraction.mk 0 0), 5)
/-- loop.example/g01063/impl.lowest -/
def impl_lowest (num1 : Int) (den1 : Int) : Option GFraction :=
 ((if den1 < 0 then
 (some (w64 (0 - num1), w64 (0 - den1)))
 else
 some (num1, den1)) : Option (Int × Int)).bind fun ((num2, den2) : Int × Int) =>
 (impl_gcd num2 den2).bind fun r1 =>
 (div? .i64 num2 r1).bind fun q1 =>
 (div? .i64 den2 r1).bind fun q2 =>
 some (GFraction.mk q1 q2)
/-- loop.example/g01063/impl.AddFractions -/
def impl_AddFractions (a1 : GFraction) (b1 : GFraction) : Option (GFraction × Int) :=
 (((impl_ValidFraction a1).bind fun r1 =>
 if r1 then
 ((impl_ValidFraction b1).bind fun r2 =>
 some (!r2))
 else
 some true) : Option Bool).bind fun (x1 : Bool) =>
 if x1 then
 (some ((GFraction.mk 0 0), 1))
 else
 (impl_lowest (w64 ((w64 (a1.Num * b1.Den)) + (w64 (b1.Num * a1.Den)))) (w64 (a1.Den * b1.Den))).bind fun r3 =>
 (impl_checked r3).bind fun r4 =>
 some (r4.1, r4.2)
/-- loop.example/g01063/impl.MultiplyFractions -/
def impl_MultiplyFractions (a1 : GFraction) (b1 : GFraction) : Option (GFraction × Int) :=
 (((impl_ValidFraction a1).bind fun r1 =>
 if r1 then
 ((impl_ValidFraction b1).bind fun r2 =>
 some (!r2))
 else
 some true) : Option Bool).bind fun (x1 : Bool) =>
 if x1 then
 (some ((GFraction.mk 0 0), 1))
 else
 (impl_lowest (w64 (a1.Num * b1.Num)) (w64 (a1.Den * b1.Den))).bind fun r3 =>
 (impl_checked r3).bind fun r4 =>
 some (r4.1, r4.2)
/-- loop.example/g01063/spec.l00In -/
def spec_l00In (n1 : Int) (low1 : Int) (high1 : Int) : Option Bool :=
 if n1 ≥ low1 then
 (some (decide (n1 ≤ high1)))
 else
 some false
/-- loop.example/g01063/spec.l02Ok -/
def spec_l02Ok (f1 : GFraction) : Option Bool :=
 (spec_l00In f1.Den 1 1000000).bind fun r1 =>
 if r1 then
 ((spec_l00In f1.Num (-1000000) 1000000).bind fun r2 =>
 if r2 then
 ((spec_l00Size f1.Num).bind fun r3 =>
 (spec_l00Gcd r3 f1.Den).bind fun r4 =>
 some (decide (r4 = 1)))
 else
 some false)
 else
 some false
/-- loop.example/g01063/spec.ValidFraction -/
def spec_ValidFraction (f1 : GFraction) : Option Bool :=
 (spec_l02Ok f1).bind fun r1 =>
 some r1
/-- loop.example/g01063/impl.compareFractions -/
def impl_compareFractions (a1 : GFraction) (b1 : GFraction) : Option Int :=
 if (w64 (a1.Num * b1.Den)) < (w64 (b1.Num * a1.Den)) then
 (some (-1))
 else
 if (w64 (a1.Num * b1.Den)) > (w64 (b1.Num * a1.Den)) then
 (some 1)
 else
 some 0
/-- loop.example/g01063/impl.CompareFractions -/
def impl_CompareFractions (a1 : GFraction) (b1 : GFraction) : Option (Int × Int) :=
 (((impl_ValidFraction a1).bind fun r1 =>
 if r1 then
 ((impl_ValidFraction b1).bind fun r2 =>
 some (!r2))
 else
 some true) : Option Bool).bind fun (x1 : Bool) =>
 if x1 then
 (some (0, 1))
 else
 (impl_compareFractions a1 b1).bind fun r3 =>
 some (r3, 0)
/-- loop.example/g01063/impl.BeatRate -/
def impl_BeatRate (a1 : GFraction) (b1 : GFraction) : Option (GFraction × Int) :=
 (((impl_ValidFraction a1).bind fun r1 =>
 if r1 then
 ((impl_ValidFraction b1).bind fun r2 =>
 some (!r2))
 else
 some true) : Option Bool).bind fun (x1 : Bool) =>
 if x1 then
 (some ((GFraction.mk 0 0), 1))
 else
 (impl_lowest (imax (w64 ((w64 (a1.Num * b1.Den)) - (w64 (b1.Num * a1.Den)))) (w64 (0 - (w64 ((w64 (a1.Num * b1.Den)) - (w64 (b1.Num * a1.Den))))))) (w64 (a1.Den * b1.Den))).bind fun r3 =>
 (impl_checked r3).bind fun r4 =>
 some (r4.1, r4.2)
/-- loop.example/g01063/impl.MakeFraction -/
def impl_MakeFraction (num1 : Int) (den1 : Int) : Option (GFraction × Int) :=
 (((impl_within num1 (-1000000000000) 1000000000000).bind fun r1 =>
 if r1 then
 ((impl_within den1 (-1000000000000) 1000000000000).bind fun r2 =>
 if r2 then
 (some (decide (den1 = 0)))
 else
 some true)
 else
 some true) : Option Bool).bind fun (x1 : Bool) =>
 if x1 then
 (some ((GFraction.mk 0 0), 2))
 else
 (impl_lowest num1 den1).bind fun r3 =>
 (impl_checked r3).bind fun r4 =>
 some (r4.1, r4.2)
/-- loop.example/g01063/impl.Decimal -/
def impl_Decimal (n1 : Int) : Option (List UInt8) :=
 (strconv_FormatInt n1 10).bind fun r1 =>
 some r1
/-- loop.example/g01063/impl.FractionText -/
def impl_FractionText (f1 : GFraction) : Option (List UInt8) :=
 (impl_ValidFraction f1).bind fun r1 =>
 if r1 then
 (if f1.Den = 1 then
 ((impl_Decimal f1.Num).bind fun r2 =>
 some r2)
 else
 (impl_Decimal f1.Num).bind fun r3 =>
 (app? (r3 : List UInt8) [47]).bind fun s1 =>
 (impl_Decimal f1.Den).bind fun r4 =>
 (app? (s1 : List UInt8) r4).bind fun s2 =>
 some s2)
 else
 some []
/-- internal/stringslite.Cut -/
def internal_stringslite_Cut (s1 : List UInt8) (sep1 : List UInt8) : Option ((List UInt8) × (List UInt8) × Bool) :=
 (stringslite_Index s1 sep1).bind fun r1 =>
 if r1 ≥ 0 then
 ((sub? s1 0 r1).bind fun s2 =>
 (sub? s1 (w64 (r1 + (sep1.length : Int))) s1.length).bind fun s3 =>
 some (s2, s3, true))
 else
 some (s1, [], false)
/-- strings.Cut -/
def strings_Cut (s1 : List UInt8) (sep1 : List UInt8) : Option ((List UInt8) × (List UInt8) × Bool) :=
 (internal_stringslite_Cut s1 sep1).bind fun r1 =>
 some (r1.1, r1.2.1, r1.2.2)
/-- loop.example/g01063/impl.ReadDecimal -/
def impl_ReadDecimal (s1 : List UInt8) : Option (Int × Bool) :=
 ((if (s1.length : Int) > 19 then
 (some true)
 else
 (strings_TrimPrefix s1 [45]).bind fun r1 =>
 some (decide ((r1.length : Int) > 18))) : Option Bool).bind fun (x1 : Bool) =>
 if x1 then
 (some (0, false))
 else
 (strconv_ParseInt s1 10 64).bind fun r2 =>
 ((if r2.2 then
 ((impl_Decimal r2.1).bind fun r3 =>
 some (!(r3 == s1)))
 else
 some true) : Option Bool).bind fun (x2 : Bool) =>
 if x2 then
 (some (0, false))
 else
 some (r2.1, true)
/-- loop.example/g01063/impl.ReadFraction -/
def impl_ReadFraction (s1 : List UInt8) : Option (GFraction × Bool) :=
 (strings_Cut s1 [47]).bind fun r1 =>
 (impl_ReadDecimal r1.1).bind fun r2 =>
 ((if r1.2.2 then
 ((impl_ReadDecimal r1.2.1).bind fun r3 =>
 some (r3.1, r3.2))
 else
 some (1, true)) : Option (Int × Bool)).bind fun ((d1, two1) : Int × Bool) =>
 ((if r2.2 then
 (if two1 then
 (if (s1 == []) then
 (some true)
 else
 (impl_FractionText (GFraction.mk r2.1 d1)).bind fun r4 =>
 some (!(r4 == s1)))
 else
 some true)
 else
 some true) : Option Bool).bind fun (x1 : Bool) =>
 if x1 then
 (some ((GFraction.mk 0 0), false))
 else
 some ((GFraction.mk r2.1 d1), true)
/-- loop.example/g01063/laws.FnFractions -/
def laws_FnFractions (code1 : List Int) (more1 : List Int) : Option Bool :=
 (laws_a2Long code1 more1).bind fun r1 =>
 if r1 then
 (some true)
 else
 (spec_A2Fraction code1).bind fun r2 =>
 (spec_A2Fraction more1).bind fun r3 =>
 (impl_AddFractions r2 r3).bind fun r4 =>
 (impl_AddFractions r3 r2).bind fun r5 =>
 (impl_MultiplyFractions r2 r3).bind fun r6 =>
 ((if r4.2 = 0 then
 (if r5.2 = 0 then
 (if (r4.1.Num == r5.1.Num && (r4.1.Den == r5.1.Den && true)) then
 ((spec_ValidFraction r4.1).bind fun r7 =>
 if r7 then
 (if (w64 ((w64 (r4.1.Num * r2.Den)) * r3.Den)) = (w64 ((w64 ((w64 (r2.Num * r3.Den)) + (w64 (r3.Num * r2.Den)))) * r4.1.Den)) then
 (if r6.2 = 0 then
 ((spec_ValidFraction r6.1).bind fun r8 =>
 if r8 then
 (some (!(decide ((w64 ((w64 (r6.1.Num * r2.Den)) * r3.Den)) = (w64 ((w64 (r2.Num * r3.Num)) * r6.1.Den))))))
 else
 some true)
 else
 some true)
 else
 some true)
 else
 some true)
 else
 some true)
 else
 some true)
 else
 some true) : Option Bool).bind fun (x1 : Bool) =>
 if x1 then
 (some false)
 else
 (impl_CompareFractions r2 r3).bind fun r9 =>
 (impl_CompareFractions r3 r2).bind fun r10 =>
 (impl_BeatRate r2 r3).bind fun r11 =>
 (impl_MakeFraction (w64 ((-3) * r2.Num)) (w64 ((-3) * r2.Den))).bind fun r12 =>
 (impl_FractionText r2).bind fun r13 =>
 (impl_ReadFraction r13).bind fun r14 =>
 if r9.2 = 0 then
 (if r10.2 = 0 then
 (if r9.1 = (w64 (0 - r10.1)) then
 (if r9.1 ≥ (-1) then
 (if r9.1 ≤ 1 then
 (if ((decide (r9.1 = 0)) == (r2.Num == r3.Num && (r2.Den == r3.Den && true))) then
 (if r11.2 = 0 then
 (if r11.1.Num ≥ 0 then
 (if ((decide (r11.1.Num = 0)) == (decide (r9.1 = 0))) then
 (if r12.2 = 0 then
 (if (r12.1.Num == r2.Num && (r12.1.Den == r2.Den && true)) then
 (if r14.2 then
 (some (r14.1.Num == r2.Num && (r14.1.Den == r2.Den && true)))
 else
 some false)
 else
 some false)
 else
 some false)
 else
 some false)
 else
 some false)
 else
 some false)
 else
 some false)
 else
 some false)
 else
 some false)
 else
 some false)
 else
 some false)
 else
 some false
end Go.Vs.G
