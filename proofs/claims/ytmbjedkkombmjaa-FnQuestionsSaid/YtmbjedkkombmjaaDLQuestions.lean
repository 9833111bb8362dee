/- The functions that the law reaches, as typed Lean functions, printed by program. No conditions. -/
import Derived.Test.YtmbjedkkombmjaaV5
set_option maxRecDepth 100000
open Go Go.Vs
namespace Go.Vs.G
structure GCause where
  Name : List UInt8
  Signs : List Int
  deriving DecidableEq, Inhabited
structure GFraction where
  Num : Int
  Den : Int
  deriving DecidableEq, Inhabited
structure GL00Src where
  code : List Int
  at_ : Int
  seed : Int
  deriving DecidableEq, Inhabited
def GCause.enco (x : GCause) : Tree := .agg [.str x.Name, .sl true 1 (x.Signs.map (Tree.int .i64))]
def GCause.encs (x : GCause) : Tree := .agg [.str x.Name, .sl false 1 (x.Signs.map (Tree.int .i64))]
def GCause.ok (x : GCause) : Prop := okS x.Name ∧ (okL (okI .i64)) x.Signs
def GFraction.ok (x : GFraction) : Prop := (okI .i64) x.Num ∧ (okI .i64) x.Den
def GL00Src.ok (x : GL00Src) : Prop := (okL (okI .u8)) x.code ∧ (okI .i64) x.at_ ∧ (okI .u64) x.seed
/-- loop.example/g01063/impl.IsName -/
def impl_IsName (s1 : List UInt8) : Option Bool :=
 ((if (s1.length : Int) < 1 then
 (some true)
 else
 if (s1.length : Int) > 12 then
 (some true)
 else
 (at? s1 0).bind fun c1 =>
 if (c1.toNat : Int) < 97 then
 (some true)
 else
 (at? s1 0).bind fun c2 =>
 some (decide ((c2.toNat : Int) > 122))) : Option Bool).bind fun (x1 : Bool) =>
 if x1 then
 (some false)
 else
 onL (loop (S := Int) (B := Unit) (R := Bool) (fun (i1 : Int) =>
 if i1 < (s1.length : Int) then
 ((((at? s1 i1).bind fun c3 =>
 if (c3.toNat : Int) < 97 then
 ((at? s1 i1).bind fun c4 =>
 if (c4.toNat : Int) < 48 then
 ((at? s1 i1).bind fun c5 =>
 some (!(decide ((c5.toNat : Int) = 45))))
 else
 (at? s1 i1).bind fun c6 =>
 if (c6.toNat : Int) > 57 then
 ((at? s1 i1).bind fun c7 =>
 some (!(decide ((c7.toNat : Int) = 45))))
 else
 some false)
 else
 (at? s1 i1).bind fun c8 =>
 if (c8.toNat : Int) > 122 then
 ((at? s1 i1).bind fun c9 =>
 if (c9.toNat : Int) < 48 then
 ((at? s1 i1).bind fun c10 =>
 some (!(decide ((c10.toNat : Int) = 45))))
 else
 (at? s1 i1).bind fun c11 =>
 if (c11.toNat : Int) > 57 then
 ((at? s1 i1).bind fun c12 =>
 some (!(decide ((c12.toNat : Int) = 45))))
 else
 some false)
 else
 some false) : Option Bool).bind fun (x2 : Bool) =>
 if x2 then
 (some (.ret false))
 else
 some (.next (w64 (i1 + 1))))
 else
 some (.brk ())) loopLim 1)
 (fun (_ : Unit) => some true) (fun r => some r)
/-- loop.example/g01063/impl.ValidCauses$1 -/
def impl_ValidCauses_1 (o1 : GCause) (x1 : GCause) : Option Bool :=
 some (o1.Name == x1.Name)
/-- loop.example/g01063/impl.within -/
def impl_within (n1 : Int) (low1 : Int) (high1 : Int) : Option Bool :=
 if n1 ≥ low1 then
 (some (decide (n1 ≤ high1)))
 else
 some false
/-- loop.example/g01063/impl.isIncreasing -/
def impl_isIncreasing (list1 : List Int) (most1 : Int) : Option Bool :=
 onL (loop (S := Int) (B := Unit) (R := Bool) (fun (x1 : Int) =>
 if x1 < (list1.length : Int) then
 ((at? list1 x1).bind fun v1 =>
 (((impl_within v1 0 (w64 (most1 - 1))).bind fun r1 =>
 if r1 then
 (if x1 > 0 then
 ((at? list1 (w64 (x1 - 1))).bind fun v2 =>
 some (decide (v2 ≥ v1)))
 else
 some false)
 else
 some true) : Option Bool).bind fun (x2 : Bool) =>
 if x2 then
 (some (.ret false))
 else
 some (.next (w64 (x1 + 1))))
 else
 some (.brk ())) loopLim 0)
 (fun (_ : Unit) => some true) (fun r => some r)
/-- slices.IndexFunc[[]loop.example/g01063/impl.Cause,loop.example/g01063/impl.Cause] -/
def slices_IndexFunc_impl_Cause_impl_Cause_821 (s1 : List GCause) (f1 : GCause → Option Bool) : Option Int :=
 onL (loop (S := Int) (B := Unit) (R := Int) (fun (x1 : Int) =>
 if x1 < (s1.length : Int) then
 ((at? s1 x1).bind fun v1 =>
 (f1 v1).bind fun r1 =>
 if r1 then
 (some (.ret x1))
 else
 some (.next (w64 (x1 + 1))))
 else
 some (.brk ())) loopLim 0)
 (fun (_ : Unit) => some (-1)) (fun r => some r)
/-- slices.ContainsFunc[[]loop.example/g01063/impl.Cause,loop.example/g01063/impl.Cause] -/
def slices_ContainsFunc_impl_Cause_impl_Cause_799 (s1 : List GCause) (f1 : GCause → Option Bool) : Option Bool :=
 (slices_IndexFunc_impl_Cause_impl_Cause_821 s1 f1).bind fun r1 =>
 some (decide (r1 ≥ 0))
/-- loop.example/g01063/impl.ValidCauses -/
def impl_ValidCauses (signs1 : Int) (list1 : List GCause) : Option Bool :=
 (((impl_within signs1 1 16).bind fun r1 =>
 if r1 then
 (some (decide ((list1.length : Int) > 10)))
 else
 some true) : Option Bool).bind fun (x1 : Bool) =>
 if x1 then
 (some false)
 else
 onL (loop (S := Int) (B := Unit) (R := Bool) (fun (x2 : Int) =>
 if x2 < (list1.length : Int) then
 ((at? list1 x2).bind fun v1 =>
 (((impl_IsName v1.Name).bind fun r2 =>
 if r2 then
 (if (v1.Signs.length : Int) = 0 then
 (some true)
 else
 (impl_isIncreasing v1.Signs signs1).bind fun r3 =>
 if r3 then
 ((sub? list1 0 x2).bind fun l1 =>
 (slices_ContainsFunc_impl_Cause_impl_Cause_799 l1 (fun a0 => impl_ValidCauses_1 a0 v1)).bind fun r4 =>
 some r4)
 else
 some true)
 else
 some true) : Option Bool).bind fun (x3 : Bool) =>
 if x3 then
 (some (.ret false))
 else
 some (.next (w64 (x2 + 1))))
 else
 some (.brk ())) loopLim 0)
 (fun (_ : Unit) => some true) (fun r => some r)
/-- slices.Equal[[]int64,int64] -/
def slices_Equal_int64_int64_811 (s1 : List Int) (s2 : List Int) : Option Bool :=
 if (s1.length : Int) = (s2.length : Int) then
 (onL (loop (S := Int) (B := Unit) (R := Bool) (fun (x1 : Int) =>
 if x1 < (s1.length : Int) then
 ((at? s1 x1).bind fun v1 =>
 (at? s2 x1).bind fun v2 =>
 if v1 = v2 then
 (some (.next (w64 (x1 + 1))))
 else
 some (.ret false))
 else
 some (.brk ())) loopLim 0)
 (fun (_ : Unit) => some true) (fun r => some r))
 else
 some false
/-- loop.example/g01063/impl.AlikeCauses -/
def impl_AlikeCauses (signs1 : Int) (list1 : List GCause) : Option ((List (List Int)) × Int) :=
 (impl_ValidCauses signs1 list1).bind fun r1 =>
 if r1 then
 (onL (loop (S := ((List (List Int)) × Int)) (B := (List (List Int))) (R := Empty) (fun ((out1, x1) : (List (List Int)) × Int) =>
 if x1 < (list1.length : Int) then
 ((at? list1 x1).bind fun v1 =>
 onL (loop (S := ((List (List Int)) × Int)) (B := (List (List Int))) (R := Empty) (fun ((out2, k1) : (List (List Int)) × Int) =>
 if k1 < (list1.length : Int) then
 ((at? list1 k1).bind fun v2 =>
 (slices_Equal_int64_int64_811 v1.Signs v2.Signs).bind fun r2 =>
 if r2 then
 ((app? out2 ([[x1, k1]] : List (List Int))).bind fun l1 =>
 some (.next (l1, w64 (k1 + 1))))
 else
 some (.next (out2, w64 (k1 + 1))))
 else
 some (.brk out2)) loopLim (out1, w64 (x1 + 1)))
 (fun (out3 : List (List Int)) => some (.next (out3, w64 (x1 + 1)))) Empty.elim)
 else
 some (.brk out1)) loopLim ([], 0))
 (fun (out4 : List (List Int)) => some (out4, 0)) Empty.elim)
 else
 some ([], 1)
/-- loop.example/g01063/impl.causesCode -/
def impl_causesCode (signs1 : Int) (list1 : List GCause) (some_1 : List Int) (seen1 : List Int) : Option Int :=
 (impl_ValidCauses signs1 list1).bind fun r1 =>
 if r1 then
 ((((impl_isIncreasing some_1 (list1.length : Int)).bind fun r2 =>
 if r2 then
 ((impl_isIncreasing seen1 signs1).bind fun r3 =>
 some (!r3))
 else
 some true) : Option Bool).bind fun (x1 : Bool) =>
 if x1 then
 (some 2)
 else
 some 0)
 else
 some 1
/-- loop.example/g01063/impl.indicesOf -/
def impl_indicesOf (set1 : Int) : Option (List Int) :=
 onL (loop (S := ((List Int) × Int)) (B := (List Int)) (R := Empty) (fun ((out1, i1) : (List Int) × Int) =>
 (shr? .i64 set1 (IntKind.wrap .u64 (i1))).bind fun q1 =>
 if q1 > 0 then
 ((shr? .i64 set1 (IntKind.wrap .u64 (i1))).bind fun q2 =>
 if (bit_and .i64 q2 1) = 1 then
 ((app? out1 ([i1] : List Int)).bind fun l1 =>
 some (.next (l1, w64 (i1 + 1))))
 else
 some (.next (out1, w64 (i1 + 1))))
 else
 some (.brk out1)) loopLim ([], 0))
 (fun (out2 : List Int) => some out2) Empty.elim
/-- loop.example/g01063/impl.signsOf -/
def impl_signsOf (list1 : List GCause) (some_1 : List Int) : Option (List Int) :=
 onL (loop (S := ((List Int) × Int)) (B := (List Int)) (R := Empty) (fun ((out1, x1) : (List Int) × Int) =>
 if x1 < (some_1.length : Int) then
 ((at? some_1 x1).bind fun v1 =>
 (at? list1 v1).bind fun v2 =>
 (app? out1 v2.Signs).bind fun l1 =>
 some (.next (l1, w64 (x1 + 1))))
 else
 some (.brk out1)) loopLim ([], 0))
 (fun (out2 : List Int) => (slices_Sort_int64 out2).bind fun r1 =>
 (slices_Compact_int64 r1).bind fun r2 =>
 some r2) Empty.elim
/-- loop.example/g01063/impl.explanations -/
def impl_explanations (list1 : List GCause) (seen1 : List Int) : Option (List (List Int)) :=
 (shl? .i64 1 (IntKind.wrap .u64 ((list1.length : Int)))).bind fun q1 =>
 onL (loop (S := ((List (List Int)) × Int)) (B := (List (List Int))) (R := Empty) (fun ((out1, x1) : (List (List Int)) × Int) =>
 if x1 < q1 then
 ((impl_indicesOf x1).bind fun r1 =>
 (impl_signsOf list1 r1).bind fun r2 =>
 (slices_Equal_int64_int64_811 r2 seen1).bind fun r3 =>
 if r3 then
 ((app? out1 ([r1] : List (List Int))).bind fun l1 =>
 some (.next (l1, w64 (x1 + 1))))
 else
 some (.next (out1, w64 (x1 + 1))))
 else
 some (.brk out1)) loopLim ([], 0))
 (fun (out2 : List (List Int)) => some out2) Empty.elim
/-- loop.example/g01063/impl.shares -/
def impl_shares (list1 : List GCause) (all1 : List (List Int)) : Option (List Int) :=
 (mk? (list1.length : Int) (0 : Int)).bind fun l1 =>
 onL (loop (S := ((List Int) × Int)) (B := (List Int)) (R := Empty) (fun ((out1, x1) : (List Int) × Int) =>
 if x1 < (all1.length : Int) then
 ((at? all1 x1).bind fun v1 =>
 onL (loop (S := ((List Int) × Int)) (B := (List Int)) (R := Empty) (fun ((out2, x2) : (List Int) × Int) =>
 if x2 < (v1.length : Int) then
 ((at? v1 x2).bind fun v2 =>
 (at? out2 v2).bind fun v3 =>
 (at? out2 v2).bind fun v4 =>
 some (.next (out2.set v2.toNat (w64 (v3 + 1)), w64 (x2 + 1))))
 else
 some (.brk out2)) loopLim (out1, 0))
 (fun (out3 : List Int) => some (.next (out3, w64 (x1 + 1)))) Empty.elim)
 else
 some (.brk out1)) loopLim (l1, 0))
 (fun (out4 : List Int) => some out4) Empty.elim
/-- loop.example/g01063/impl.BestQuestion -/
def impl_BestQuestion (signs1 : Int) (list1 : List GCause) (seen1 : List Int) : Option (Int × Int) :=
 (impl_causesCode signs1 list1 [] seen1).bind fun r1 =>
 if r1 = 0 then
 ((impl_explanations list1 seen1).bind fun r2 =>
 if (r2.length : Int) = 0 then
 (some (0, 3))
 else
 (impl_shares list1 r2).bind fun r3 =>
 onL (loop (S := (Int × Int × Int)) (B := (Int × Int)) (R := Empty) (fun ((best1, least1, x1) : Int × Int × Int) =>
 if x1 < (r3.length : Int) then
 ((at? r3 x1).bind fun v1 =>
 if (imax v1 (w64 ((r2.length : Int) - v1))) < least1 then
 (some (.next (x1, imax v1 (w64 ((r2.length : Int) - v1)), w64 (x1 + 1))))
 else
 some (.next (best1, least1, w64 (x1 + 1))))
 else
 some (.brk (best1, least1))) loopLim (0, (r2.length : Int), 0))
 (fun ((best2, least2) : Int × Int) => if least2 = (r2.length : Int) then
 (some (0, 6))
 else
 some (best2, 0)) Empty.elim)
 else
 some (0, r1)
/-- loop.example/g01063/impl.ExplainsSigns -/
def impl_ExplainsSigns (signs1 : Int) (list1 : List GCause) (some_1 : List Int) (seen1 : List Int) : Option (Bool × Int) :=
 (impl_causesCode signs1 list1 some_1 seen1).bind fun r1 =>
 if r1 = 0 then
 ((impl_signsOf list1 some_1).bind fun r2 =>
 (slices_Equal_int64_int64_811 r2 seen1).bind fun r3 =>
 some (r3, 0))
 else
 some (false, r1)
/-- loop.example/g01063/impl.SignsOf -/
def impl_SignsOf (signs1 : Int) (list1 : List GCause) (some_1 : List Int) : Option ((List Int) × Int) :=
 (impl_causesCode signs1 list1 some_1 []).bind fun r1 =>
 if r1 = 0 then
 ((impl_signsOf list1 some_1).bind fun r2 =>
 some (r2, 0))
 else
 some ([], r1)
/-- loop.example/g01063/impl.SureCauses -/
def impl_SureCauses (signs1 : Int) (list1 : List GCause) (seen1 : List Int) : Option ((List Int) × Int) :=
 (impl_causesCode signs1 list1 [] seen1).bind fun r1 =>
 if r1 = 0 then
 ((impl_explanations list1 seen1).bind fun r2 =>
 if (r2.length : Int) = 0 then
 (some ([], 3))
 else
 (impl_shares list1 r2).bind fun r3 =>
 onL (loop (S := ((List Int) × Int)) (B := (List Int)) (R := Empty) (fun ((out1, x1) : (List Int) × Int) =>
 if x1 < (r3.length : Int) then
 ((at? r3 x1).bind fun v1 =>
 if v1 = (r2.length : Int) then
 ((app? out1 ([x1] : List Int)).bind fun l1 =>
 some (.next (l1, w64 (x1 + 1))))
 else
 some (.next (out1, w64 (x1 + 1))))
 else
 some (.brk out1)) loopLim ([], 0))
 (fun (out2 : List Int) => some (out2, 0)) Empty.elim)
 else
 some ([], r1)
/-- loop.example/g01063/laws.f6big -/
def laws_f6big (code1 : List Int) : Option Bool :=
 some (decide ((code1.length : Int) > 4096))
/-- loop.example/g01063/laws.f6has -/
def laws_f6has (list1 : List Int) (n1 : Int) : Option Bool :=
 onL (loop (S := Int) (B := Unit) (R := Bool) (fun (i1 : Int) =>
 if i1 < (list1.length : Int) then
 ((at? list1 i1).bind fun v1 =>
 if v1 = n1 then
 (some (.ret true))
 else
 some (.next (w64 (i1 + 1))))
 else
 some (.brk ())) loopLim 0)
 (fun (_ : Unit) => some false) (fun r => some r)
/-- loop.example/g01063/laws.f6ints -/
def laws_f6ints (a1 : List Int) (b1 : List Int) : Option Bool :=
 if (a1.length : Int) = (b1.length : Int) then
 (onL (loop (S := Int) (B := Unit) (R := Bool) (fun (i1 : Int) =>
 if i1 < (a1.length : Int) then
 ((at? a1 i1).bind fun v1 =>
 (at? b1 i1).bind fun v2 =>
 if v1 = v2 then
 (some (.next (w64 (i1 + 1))))
 else
 some (.ret false))
 else
 some (.brk ())) loopLim 0)
 (fun (_ : Unit) => some true) (fun r => some r))
 else
 some false
/-- loop.example/g01063/spec.l22Bits -/
def spec_l22Bits (list1 : List Int) : Option Int :=
 onL (loop (S := (Int × Int)) (B := Int) (R := Empty) (fun ((out1, i1) : Int × Int) =>
 if i1 < (list1.length : Int) then
 ((at? list1 i1).bind fun v1 =>
 (shl? .i64 1 (IntKind.wrap .u64 (v1))).bind fun q1 =>
 some (.next (bit_or .i64 out1 q1, w64 (i1 + 1))))
 else
 some (.brk out1)) loopLim (0, 0))
 (fun (out2 : Int) => some out2) Empty.elim
/-- loop.example/g01063/spec.l01Digit -/
def spec_l01Digit (c1 : Int) : Option Bool :=
 if c1 ≥ 48 then
 (some (decide (c1 ≤ 57)))
 else
 some false
/-- loop.example/g01063/spec.l01Small -/
def spec_l01Small (c1 : Int) : Option Bool :=
 if c1 ≥ 97 then
 (some (decide (c1 ≤ 122)))
 else
 some false
/-- loop.example/g01063/spec.IsName -/
def spec_IsName (s1 : List UInt8) : Option Bool :=
 ((if (s1 == []) then
 (some true)
 else
 if (s1.length : Int) > 12 then
 (some true)
 else
 (at? s1 0).bind fun c1 =>
 (spec_l01Small (c1.toNat : Int)).bind fun r1 =>
 some (!r1)) : Option Bool).bind fun (x1 : Bool) =>
 if x1 then
 (some false)
 else
 onL (loop (S := Int) (B := Unit) (R := Bool) (fun (i1 : Int) =>
 if i1 < (s1.length : Int) then
 ((((at? s1 i1).bind fun c2 =>
 (spec_l01Small (c2.toNat : Int)).bind fun r2 =>
 if r2 then
 (some false)
 else
 (at? s1 i1).bind fun c3 =>
 (spec_l01Digit (c3.toNat : Int)).bind fun r3 =>
 if r3 then
 (some false)
 else
 (at? s1 i1).bind fun c4 =>
 some (!(decide ((c4.toNat : Int) = 45)))) : Option Bool).bind fun (x2 : Bool) =>
 if x2 then
 (some (.ret false))
 else
 some (.next (w64 (i1 + 1))))
 else
 some (.brk ())) loopLim 0)
 (fun (_ : Unit) => some true) (fun r => some r)
/-- loop.example/g01063/spec.l00In -/
def spec_l00In (n1 : Int) (low1 : Int) (high1 : Int) : Option Bool :=
 if n1 ≥ low1 then
 (some (decide (n1 ≤ high1)))
 else
 some false
/-- loop.example/g01063/spec.l00Rises -/
def spec_l00Rises (list1 : List Int) (low1 : Int) (high1 : Int) : Option Bool :=
 onL (loop (S := Int) (B := Unit) (R := Bool) (fun (i1 : Int) =>
 if i1 < (list1.length : Int) then
 ((((at? list1 i1).bind fun v1 =>
 (spec_l00In v1 low1 high1).bind fun r1 =>
 if r1 then
 (if i1 > 0 then
 ((at? list1 (w64 (i1 - 1))).bind fun v2 =>
 (at? list1 i1).bind fun v3 =>
 some (decide (v2 ≥ v3)))
 else
 some false)
 else
 some true) : Option Bool).bind fun (x1 : Bool) =>
 if x1 then
 (some (.ret false))
 else
 some (.next (w64 (i1 + 1))))
 else
 some (.brk ())) loopLim 0)
 (fun (_ : Unit) => some true) (fun r => some r)
/-- loop.example/g01063/spec.l22Ok -/
def spec_l22Ok (signs1 : Int) (list1 : List GCause) : Option Bool :=
 (((spec_l00In signs1 1 16).bind fun r1 =>
 if r1 then
 (some (decide ((list1.length : Int) > 10)))
 else
 some true) : Option Bool).bind fun (x1 : Bool) =>
 if x1 then
 (some false)
 else
 onL (loop (S := Int) (B := Unit) (R := Bool) (fun (i1 : Int) =>
 if i1 < (list1.length : Int) then
 ((((at? list1 i1).bind fun v1 =>
 (spec_IsName v1.Name).bind fun r2 =>
 if r2 then
 ((at? list1 i1).bind fun v2 =>
 if (v2.Signs.length : Int) = 0 then
 (some true)
 else
 (at? list1 i1).bind fun v3 =>
 (spec_l00Rises v3.Signs 0 (w64 (signs1 - 1))).bind fun r3 =>
 some (!r3))
 else
 some true) : Option Bool).bind fun (x2 : Bool) =>
 if x2 then
 (some (.ret false))
 else
 onL (loop (S := Int) (B := Unit) (R := Bool) (fun (k1 : Int) =>
 if k1 < i1 then
 ((at? list1 k1).bind fun v4 =>
 (at? list1 i1).bind fun v5 =>
 if (v4.Name == v5.Name) then
 (some (.ret false))
 else
 some (.next (w64 (k1 + 1))))
 else
 some (.brk ())) loopLim 0)
 (fun (_ : Unit) => some (.next (w64 (i1 + 1)))) (fun r => some (.ret r)))
 else
 some (.brk ())) loopLim 0)
 (fun (_ : Unit) => some true) (fun r => some r)
/-- loop.example/g01063/spec.AlikeCauses -/
def spec_AlikeCauses (signs1 : Int) (list1 : List GCause) : Option ((List (List Int)) × Int) :=
 (spec_l22Ok signs1 list1).bind fun r1 =>
 if r1 then
 (onL (loop (S := ((List (List Int)) × Int)) (B := (List (List Int))) (R := Empty) (fun ((out1, i1) : (List (List Int)) × Int) =>
 if i1 < (list1.length : Int) then
 (onL (loop (S := ((List (List Int)) × Int)) (B := (List (List Int))) (R := Empty) (fun ((out2, k1) : (List (List Int)) × Int) =>
 if k1 < (list1.length : Int) then
 ((at? list1 i1).bind fun v1 =>
 (spec_l22Bits v1.Signs).bind fun r2 =>
 (at? list1 k1).bind fun v2 =>
 (spec_l22Bits v2.Signs).bind fun r3 =>
 if r2 = r3 then
 ((app? out2 ([[i1, k1]] : List (List Int))).bind fun l1 =>
 some (.next (l1, w64 (k1 + 1))))
 else
 some (.next (out2, w64 (k1 + 1))))
 else
 some (.brk out2)) loopLim (out1, w64 (i1 + 1)))
 (fun (out3 : List (List Int)) => some (.next (out3, w64 (i1 + 1)))) Empty.elim)
 else
 some (.brk out1)) loopLim ([], 0))
 (fun (out4 : List (List Int)) => some (out4, 0)) Empty.elim)
 else
 some ([], 1)
/-- loop.example/g01063/spec.l00Max -/
def spec_l00Max (a1 : Int) (b1 : Int) : Option Int :=
 if a1 > b1 then
 (some a1)
 else
 some b1
/-- loop.example/g01063/spec.l22Signs -/
def spec_l22Signs (list1 : List GCause) (some_1 : Int) : Option Int :=
 onL (loop (S := (Int × Int)) (B := Int) (R := Empty) (fun ((out1, i1) : Int × Int) =>
 if i1 < (list1.length : Int) then
 ((shr? .i64 some_1 (IntKind.wrap .u64 (i1))).bind fun q1 =>
 if (bit_and .i64 q1 1) = 1 then
 ((at? list1 i1).bind fun v1 =>
 (spec_l22Bits v1.Signs).bind fun r1 =>
 some (.next (bit_or .i64 out1 r1, w64 (i1 + 1))))
 else
 some (.next (out1, w64 (i1 + 1))))
 else
 some (.brk out1)) loopLim (0, 0))
 (fun (out2 : Int) => some out2) Empty.elim
/-- loop.example/g01063/spec.l22All -/
def spec_l22All (list1 : List GCause) (seen1 : List Int) : Option (List Int) :=
 (spec_l22Bits seen1).bind fun r1 =>
 onL (loop (S := ((List Int) × Int)) (B := (List Int)) (R := Empty) (fun ((out1, some_1) : (List Int) × Int) =>
 (shl? .i64 1 (IntKind.wrap .u64 ((list1.length : Int)))).bind fun q1 =>
 if some_1 < q1 then
 ((spec_l22Signs list1 some_1).bind fun r2 =>
 if r2 = r1 then
 ((app? out1 ([some_1] : List Int)).bind fun l1 =>
 some (.next (l1, w64 (some_1 + 1))))
 else
 some (.next (out1, w64 (some_1 + 1))))
 else
 some (.brk out1)) loopLim ([], 0))
 (fun (out2 : List Int) => some out2) Empty.elim
/-- loop.example/g01063/spec.l22Code -/
def spec_l22Code (signs1 : Int) (list1 : List GCause) (seen1 : List Int) : Option Int :=
 (spec_l22Ok signs1 list1).bind fun r1 =>
 if r1 then
 ((spec_l00Rises seen1 0 (w64 (signs1 - 1))).bind fun r2 =>
 if r2 then
 (some 0)
 else
 some 2)
 else
 some 1
/-- loop.example/g01063/spec.l22Some -/
def spec_l22Some (signs1 : Int) (list1 : List GCause) (seen1 : List Int) : Option ((List Int) × Int) :=
 (spec_l22Code signs1 list1 seen1).bind fun r1 =>
 if r1 = 0 then
 ((spec_l22All list1 seen1).bind fun r2 =>
 if (r2.length : Int) = 0 then
 (some ([], 3))
 else
 some (r2, 0))
 else
 some ([], r1)
/-- loop.example/g01063/spec.BestQuestion -/
def spec_BestQuestion (signs1 : Int) (list1 : List GCause) (seen1 : List Int) : Option (Int × Int) :=
 (spec_l22Some signs1 list1 seen1).bind fun r1 =>
 if r1.2 = 0 then
 (onL (loop (S := (Int × Int × Int)) (B := Int) (R := Empty) (fun ((best1, least1, k1) : Int × Int × Int) =>
 if k1 < (list1.length : Int) then
 (onL (loop (S := (Int × Int)) (B := Int) (R := Empty) (fun ((n1, i1) : Int × Int) =>
 if i1 < (r1.1.length : Int) then
 ((at? r1.1 i1).bind fun v1 =>
 (shr? .i64 v1 (IntKind.wrap .u64 (k1))).bind fun q1 =>
 some (.next (w64 (n1 + (bit_and .i64 q1 1)), w64 (i1 + 1))))
 else
 some (.brk n1)) loopLim (0, 0))
 (fun (n2 : Int) => (spec_l00Max n2 (w64 ((r1.1.length : Int) - n2))).bind fun r2 =>
 if r2 < least1 then
 (some (.next (k1, r2, w64 (k1 + 1))))
 else
 some (.next (best1, least1, w64 (k1 + 1)))) Empty.elim)
 else
 some (.brk best1)) loopLim ((-1), (r1.1.length : Int), 0))
 (fun (best2 : Int) => if best2 < 0 then
 (some (0, 6))
 else
 some (best2, 0)) Empty.elim)
 else
 some (0, r1.2)
/-- loop.example/g01063/spec.l00From -/
def spec_l00From (code1 : List Int) : Option GL00Src :=
 some (GL00Src.mk code1 0 0)
/-- (*loop.example/g01063/spec.l00Src).next -/
def spec_l00Src_next (s1 : GL00Src) : Option (Int × GL00Src) :=
 ((if s1.at_ < (s1.code.length : Int) then
 ((at? s1.code s1.at_).bind fun v1 =>
 some (w64 (v1)))
 else
 some 0) : Option Int).bind fun (b1 : Int) =>
 if (w64 (s1.at_ + 1)) ≤ (s1.code.length : Int) then
 (some (b1, (GL00Src.mk s1.code (w64 (s1.at_ + 1)) (IntKind.wrap .u64 ((IntKind.wrap .u64 ((IntKind.wrap .u64 (s1.seed * 6364136223846793005)) + (IntKind.wrap .u64 (b1)))) + 1442695040888963407)))))
 else
 (shr? .u64 (IntKind.wrap .u64 ((IntKind.wrap .u64 ((IntKind.wrap .u64 (s1.seed * 6364136223846793005)) + (IntKind.wrap .u64 (b1)))) + 1442695040888963407)) 40).bind fun q1 =>
 some (w64 (bit_and .u64 q1 255), (GL00Src.mk s1.code (w64 (s1.at_ + 1)) (IntKind.wrap .u64 ((IntKind.wrap .u64 ((IntKind.wrap .u64 (s1.seed * 6364136223846793005)) + (IntKind.wrap .u64 (b1)))) + 1442695040888963407))))
/-- (*loop.example/g01063/spec.l00Src).pick -/
def spec_l00Src_pick (s1 : GL00Src) (n1 : Int) : Option (Int × GL00Src) :=
 if n1 ≤ 1 then
 (some (0, s1))
 else
 (spec_l00Src_next s1).bind fun r1 =>
 if n1 > 200 then
 ((spec_l00Src_next r1.2).bind fun r2 =>
 (mod? (w64 ((w64 (r1.1 * 256)) + r2.1)) n1).bind fun q1 =>
 some (q1, r2.2))
 else
 (mod? r1.1 n1).bind fun q2 =>
 some (q2, r1.2)
/-- (*loop.example/g01063/spec.l00Src).among -/
def spec_l00Src_among (s1 : GL00Src) (list1 : List Int) : Option (Int × GL00Src) :=
 (spec_l00Src_pick s1 (list1.length : Int)).bind fun r1 =>
 (at? list1 r1.1).bind fun v1 =>
 some (v1, r1.2)
/-- (*loop.example/g01063/spec.l00Src).text -/
def spec_l00Src_text (s1 : GL00Src) (list1 : List (List UInt8)) : Option ((List UInt8) × GL00Src) :=
 (spec_l00Src_pick s1 (list1.length : Int)).bind fun r1 =>
 (at? list1 r1.1).bind fun v1 =>
 some (v1, r1.2)
/-- (*loop.example/g01063/spec.l00Src).one -/
def spec_l00Src_one (s1 : GL00Src) (n1 : Int) : Option (Bool × GL00Src) :=
 (spec_l00Src_pick s1 n1).bind fun r1 =>
 some ((decide (r1.1 = 0)), r1.2)
/-- loop.example/g01063/spec.l22Rise -/
def spec_l22Rise (s1 : GL00Src) (n1 : Int) (often1 : Int) : Option ((List Int) × GL00Src) :=
 onL (loop (S := (GL00Src × (List Int) × Int)) (B := (GL00Src × (List Int))) (R := Empty) (fun ((s2, out1, k1) : GL00Src × (List Int) × Int) =>
 if k1 < n1 then
 ((spec_l00Src_one s2 often1).bind fun r1 =>
 if r1.1 then
 ((app? out1 ([k1] : List Int)).bind fun l1 =>
 some (.next (r1.2, l1, w64 (k1 + 1))))
 else
 some (.next (r1.2, out1, w64 (k1 + 1))))
 else
 some (.brk (s2, out1))) loopLim (s1, [], 0))
 (fun ((s3, out2) : GL00Src × (List Int)) => some (out2, s3)) Empty.elim
/-- loop.example/g01063/spec.l22Draw -/
def spec_l22Draw (s1 : GL00Src) : Option (Int × (List GCause) × GL00Src) :=
 (spec_l00Src_pick s1 6).bind fun r1 =>
 (spec_l00Src_pick r1.2 7).bind fun r2 =>
 onL (loop (S := (GL00Src × (List GCause) × Int)) (B := (GL00Src × (List GCause))) (R := Empty) (fun ((s2, list1, k1) : GL00Src × (List GCause) × Int) =>
 if k1 > 0 then
 ((at? ([[98, 117, 114, 110, 116], [99, 114, 97, 99, 107, 101, 100], [100, 117, 115, 116], [108, 111, 111, 115, 101, 45, 49], [108, 111, 111, 115, 101, 45, 50], [115, 109, 111, 107, 101], [119, 105, 99, 107]] : List (List UInt8)) (list1.length : Int)).bind fun v1 =>
 (spec_l22Rise s2 (w64 (2 + r1.1)) 3).bind fun r3 =>
 ((if (r3.1.length : Int) = 0 then
 ((spec_l00Src_pick r3.2 (w64 (2 + r1.1))).bind fun r4 =>
 some (r4.2, [r4.1]))
 else
 some (r3.2, r3.1)) : Option (GL00Src × (List Int))).bind fun ((s3, x1) : GL00Src × (List Int)) =>
 (app? list1 ([(GCause.mk v1 x1)] : List GCause)).bind fun l1 =>
 some (.next (s3, l1, w64 (k1 - 1))))
 else
 some (.brk (s2, list1))) loopLim (r2.2, [], r2.1))
 (fun ((s4, list2) : GL00Src × (List GCause)) => (spec_l00Src_pick s4 28).bind fun r5 =>
 if r5.1 = 0 then
 ((spec_l00Src_among r5.2 [(-1), 0, 1, 16, 17, (-9223372036854775808)]).bind fun r6 =>
 some (r6.1, list2, r6.2))
 else
 if r5.1 = 1 then
 ((spec_l00Src_text r5.2 [[], [68, 117, 115, 116], [100, 117, 115, 116], [104, 101, 97, 116]]).bind fun r7 =>
 (app? list2 ([(GCause.mk r7.1 [0])] : List GCause)).bind fun l2 =>
 some (w64 (2 + r1.1), l2, r7.2))
 else
 if r5.1 = 2 then
 ((spec_l00Src_among r5.2 [(-1), 0, w64 ((w64 (2 + r1.1)) - 1), w64 (2 + r1.1)]).bind fun r8 =>
 (app? list2 ([(GCause.mk [104, 101, 97, 116] [r8.1])] : List GCause)).bind fun l3 =>
 some (w64 (2 + r1.1), l3, r8.2))
 else
 if r5.1 = 3 then
 ((app? list2 ([(GCause.mk [104, 101, 97, 116] [])] : List GCause)).bind fun l4 =>
 some (w64 (2 + r1.1), l4, r5.2))
 else
 if r5.1 = 4 then
 ((spec_l00Src_pick r5.2 2).bind fun r9 =>
 onL (loop (S := ((List GCause) × Int)) (B := (List GCause)) (R := Empty) (fun ((list3, k2) : (List GCause) × Int) =>
 if k2 > 0 then
 ((app? ([99] : List UInt8) (b2s [IntKind.wrap .u8 (97 + (IntKind.wrap .u8 ((list3.length : Int))))])).bind fun s5 =>
 (app? list3 ([(GCause.mk s5 [k2.tmod 2])] : List GCause)).bind fun l5 =>
 some (.next (l5, w64 (k2 - 1))))
 else
 some (.brk list3)) loopLim ([], w64 (10 + r9.1)))
 (fun (list4 : List GCause) => some (w64 (2 + r1.1), list4, r9.2)) Empty.elim)
 else
 some (w64 (2 + r1.1), list2, r5.2)) Empty.elim
/-- loop.example/g01063/spec.l00Min -/
def spec_l00Min (a1 : Int) (b1 : Int) : Option Int :=
 if a1 < b1 then
 (some a1)
 else
 some b1
/-- loop.example/g01063/spec.l22List -/
def spec_l22List (bits1 : Int) : Option (List Int) :=
 onL (loop (S := ((List Int) × Int)) (B := (List Int)) (R := Empty) (fun ((out1, k1) : (List Int) × Int) =>
 if k1 < 20 then
 ((shr? .i64 bits1 (IntKind.wrap .u64 (k1))).bind fun q1 =>
 if (bit_and .i64 q1 1) = 1 then
 ((app? out1 ([k1] : List Int)).bind fun l1 =>
 some (.next (l1, w64 (k1 + 1))))
 else
 some (.next (out1, w64 (k1 + 1))))
 else
 some (.brk out1)) loopLim ([], 0))
 (fun (out2 : List Int) => some out2) Empty.elim
/-- loop.example/g01063/spec.l22DrawSeen -/
def spec_l22DrawSeen (s1 : GL00Src) (signs1 : Int) (list1 : List GCause) : Option ((List Int) × GL00Src) :=
 (spec_l00Src_one s1 12).bind fun r1 =>
 if r1.1 then
 ((spec_l00Src_among r1.2 [(-1), 0, w64 (signs1 - 1), signs1]).bind fun r2 =>
 some ([r2.1], r2.2))
 else
 (((spec_l22Ok signs1 list1).bind fun r3 =>
 if r3 then
 ((spec_l00Src_one r1.2 4).bind fun r4 =>
 some (r4.2, (!r4.1)))
 else
 some (r1.2, false)) : Option (GL00Src × Bool)).bind fun ((s2, x1) : GL00Src × Bool) =>
 if x1 then
 ((shl? .i64 1 (IntKind.wrap .u64 ((list1.length : Int)))).bind fun q1 =>
 (spec_l00Src_pick s2 q1).bind fun r5 =>
 (spec_l22Signs list1 r5.1).bind fun r6 =>
 (spec_l22List r6).bind fun r7 =>
 some (r7, r5.2))
 else
 (spec_l00Min signs1 20).bind fun r8 =>
 (spec_l22Rise s2 r8 2).bind fun r9 =>
 some (r9.1, r9.2)
/-- loop.example/g01063/spec.l22Ask -/
def spec_l22Ask (code1 : List Int) : Option (Int × (List GCause) × (List Int)) :=
 (spec_l00From code1).bind fun r1 =>
 (spec_l22Draw r1).bind fun r2 =>
 (spec_l22DrawSeen r2.2.2 r2.1 r2.2.1).bind fun r3 =>
 some (r2.1, r2.2.1, r3.1)
/-- loop.example/g01063/spec.DrawBestQuestion -/
def spec_DrawBestQuestion (code1 : List Int) : Option (Int × (List GCause) × (List Int)) :=
 (spec_l22Ask code1).bind fun r1 =>
 some (r1.1, r1.2.1, r1.2.2)
/-- loop.example/g01063/spec.l22DrawSome -/
def spec_l22DrawSome (s1 : GL00Src) (list1 : List GCause) : Option ((List Int) × GL00Src) :=
 (spec_l22Rise s1 (list1.length : Int) 2).bind fun r1 =>
 (spec_l00Src_one r1.2 12).bind fun r2 =>
 if r2.1 then
 ((spec_l00Src_among r2.2 [(-1), 0, (list1.length : Int)]).bind fun r3 =>
 (app? r1.1 ([r3.1] : List Int)).bind fun l1 =>
 some (l1, r3.2))
 else
 some (r1.1, r2.2)
/-- loop.example/g01063/spec.DrawExplainsSigns -/
def spec_DrawExplainsSigns (code1 : List Int) : Option (Int × (List GCause) × (List Int) × (List Int)) :=
 (spec_l00From code1).bind fun r1 =>
 (spec_l22Draw r1).bind fun r2 =>
 (spec_l22DrawSome r2.2.2 r2.2.1).bind fun r3 =>
 (((spec_l22Ok r2.1 r2.2.1).bind fun r4 =>
 if r4 then
 ((spec_l00Rises r3.1 0 (w64 ((r2.2.1.length : Int) - 1))).bind fun r5 =>
 if r5 then
 ((spec_l00Src_one r3.2 2).bind fun r6 =>
 some (r6.2, r6.1))
 else
 some (r3.2, false))
 else
 some (r3.2, false)) : Option (GL00Src × Bool)).bind fun ((s1, x1) : GL00Src × Bool) =>
 if x1 then
 ((spec_l22Bits r3.1).bind fun r7 =>
 (spec_l22Signs r2.2.1 r7).bind fun r8 =>
 (spec_l22List r8).bind fun r9 =>
 some (r2.1, r2.2.1, r3.1, r9))
 else
 (spec_l22DrawSeen s1 r2.1 r2.2.1).bind fun r10 =>
 some (r2.1, r2.2.1, r3.1, r10.1)
/-- loop.example/g01063/spec.DrawSignsOf -/
def spec_DrawSignsOf (code1 : List Int) : Option (Int × (List GCause) × (List Int)) :=
 (spec_l00From code1).bind fun r1 =>
 (spec_l22Draw r1).bind fun r2 =>
 (spec_l22DrawSome r2.2.2 r2.2.1).bind fun r3 =>
 some (r2.1, r2.2.1, r3.1)
/-- loop.example/g01063/spec.ExplainsSigns -/
def spec_ExplainsSigns (signs1 : Int) (list1 : List GCause) (some_1 : List Int) (seen1 : List Int) : Option (Bool × Int) :=
 (spec_l22Ok signs1 list1).bind fun r1 =>
 if r1 then
 ((((spec_l00Rises some_1 0 (w64 ((list1.length : Int) - 1))).bind fun r2 =>
 if r2 then
 ((spec_l00Rises seen1 0 (w64 (signs1 - 1))).bind fun r3 =>
 some (!r3))
 else
 some true) : Option Bool).bind fun (x1 : Bool) =>
 if x1 then
 (some (false, 2))
 else
 (spec_l22Bits some_1).bind fun r4 =>
 (spec_l22Signs list1 r4).bind fun r5 =>
 (spec_l22Bits seen1).bind fun r6 =>
 some ((decide (r5 = r6)), 0))
 else
 some (false, 1)
/-- loop.example/g01063/spec.SignsOf -/
def spec_SignsOf (signs1 : Int) (list1 : List GCause) (some_1 : List Int) : Option ((List Int) × Int) :=
 (spec_l22Ok signs1 list1).bind fun r1 =>
 if r1 then
 ((spec_l00Rises some_1 0 (w64 ((list1.length : Int) - 1))).bind fun r2 =>
 if r2 then
 ((spec_l22Bits some_1).bind fun r3 =>
 (spec_l22Signs list1 r3).bind fun r4 =>
 (spec_l22List r4).bind fun r5 =>
 some (r5, 0))
 else
 some ([], 2))
 else
 some ([], 1)
/-- loop.example/g01063/laws.FnQuestions -/
def laws_FnQuestions (code1 : List Int) : Option Bool :=
 (laws_f6big code1).bind fun r1 =>
 if r1 then
 (some true)
 else
 (spec_DrawBestQuestion code1).bind fun r2 =>
 (impl_BestQuestion r2.1 r2.2.1 r2.2.2).bind fun r3 =>
 (spec_BestQuestion r2.1 r2.2.1 r2.2.2).bind fun r4 =>
 (impl_AlikeCauses r2.1 r2.2.1).bind fun r5 =>
 (spec_AlikeCauses r2.1 r2.2.1).bind fun r6 =>
 (spec_DrawSignsOf code1).bind fun r7 =>
 (impl_SignsOf r7.1 r7.2.1 r7.2.2).bind fun r8 =>
 (spec_SignsOf r7.1 r7.2.1 r7.2.2).bind fun r9 =>
 (spec_DrawExplainsSigns code1).bind fun r10 =>
 (impl_ExplainsSigns r10.1 r10.2.1 r10.2.2.1 r10.2.2.2).bind fun r11 =>
 (spec_ExplainsSigns r10.1 r10.2.1 r10.2.2.1 r10.2.2.2).bind fun r12 =>
 ((if r3.2 = r4.2 then
 (if r3.1 = r4.1 then
 (if r5.2 = r6.2 then
 (if (r5.1.length : Int) = (r6.1.length : Int) then
 (if r8.2 = r9.2 then
 ((laws_f6ints r8.1 r9.1).bind fun r13 =>
 if r13 then
 (if r11.2 = r12.2 then
 (some (!(r11.1 == r12.1)))
 else
 some true)
 else
 some true)
 else
 some true)
 else
 some true)
 else
 some true)
 else
 some true)
 else
 some true) : Option Bool).bind fun (x1 : Bool) =>
 if x1 then
 (some false)
 else
 onL (loop (S := Int) (B := Unit) (R := Bool) (fun (i1 : Int) =>
 if i1 < (r6.1.length : Int) then
 ((((at? r5.1 i1).bind fun v1 =>
 (at? r6.1 i1).bind fun v2 =>
 (laws_f6ints v1 v2).bind fun r14 =>
 if r14 then
 ((at? r6.1 i1).bind fun v3 =>
 if (v3.length : Int) = 2 then
 ((at? r6.1 i1).bind fun v4 =>
 (at? v4 0).bind fun v5 =>
 (at? r2.2.1 v5).bind fun v6 =>
 (at? r6.1 i1).bind fun v7 =>
 (at? v7 1).bind fun v8 =>
 (at? r2.2.1 v8).bind fun v9 =>
 (laws_f6ints v6.Signs v9.Signs).bind fun r15 =>
 some (!r15))
 else
 some true)
 else
 some true) : Option Bool).bind fun (x2 : Bool) =>
 if x2 then
 (some (.ret false))
 else
 some (.next (w64 (i1 + 1))))
 else
 some (.brk ())) loopLim 0)
 (fun (_ : Unit) => onS (S := Unit) (B := Empty) (R := Bool) (if r8.2 = 0 then
 (onL (loop (S := Int) (B := Unit) (R := Bool) (fun (i2 : Int) =>
 if i2 < (r7.2.2.length : Int) then
 (onL (loop (S := Int) (B := Unit) (R := Bool) (fun (j1 : Int) =>
 (at? r7.2.2 i2).bind fun v10 =>
 (at? r7.2.1 v10).bind fun v11 =>
 if j1 < (v11.Signs.length : Int) then
 ((at? r7.2.2 i2).bind fun v12 =>
 (at? r7.2.1 v12).bind fun v13 =>
 (at? v13.Signs j1).bind fun v14 =>
 (laws_f6has r9.1 v14).bind fun r16 =>
 if r16 then
 (some (.next (w64 (j1 + 1))))
 else
 some (.ret false))
 else
 some (.brk ())) loopLim 0)
 (fun (_ : Unit) => some (.next (w64 (i2 + 1)))) (fun r => some (.ret r)))
 else
 some (.brk ())) loopLim 0)
 (fun (_ : Unit) => some (.next ())) (fun r => some (.ret r)))
 else
 some (.next ()))
 (fun (_ : Unit) => onS (S := Unit) (B := Empty) (R := Bool) (if r11.2 = 0 then
 ((impl_SignsOf r10.1 r10.2.1 r10.2.2.1).bind fun r17 =>
 if r17.2 = 0 then
 ((laws_f6ints r17.1 r10.2.2.2).bind fun r18 =>
 if (r12.1 == r18) then
 (some (.next ()))
 else
 some (.ret false))
 else
 some (.ret false))
 else
 some (.next ()))
 (fun (_ : Unit) => if r3.2 = 0 then
 ((impl_SureCauses r2.1 r2.2.1 r2.2.2).bind fun r19 =>
 if r19.2 = 0 then
 ((laws_f6has r19.1 r4.1).bind fun r20 =>
 some (!r20))
 else
 some false)
 else
 some true)
 Empty.elim (fun r => some r))
 Empty.elim (fun r => some r)) (fun r => some r)
end Go.Vs.G
