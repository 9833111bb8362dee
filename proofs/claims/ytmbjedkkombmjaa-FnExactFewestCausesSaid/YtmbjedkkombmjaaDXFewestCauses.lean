/- The functions that the law reaches, as typed Lean functions, printed by program. No conditions. -/
import Derived.Test.YtmbjedkkombmjaaV5
set_option maxRecDepth 100000
open Go Go.Vs
namespace Go.Vs.G
structure GCause where
  Name : List UInt8
  Signs : List Int
  deriving DecidableEq, Inhabited
structure GFraction where
  Num : Int
  Den : Int
  deriving DecidableEq, Inhabited
structure GL00Src where
  code : List Int
  at_ : Int
  seed : Int
  deriving DecidableEq, Inhabited
def GCause.enco (x : GCause) : Tree := .agg [.str x.Name, .sl true 1 (x.Signs.map (Tree.int .i64))]
def GCause.encs (x : GCause) : Tree := .agg [.str x.Name, .sl false 1 (x.Signs.map (Tree.int .i64))]
def GCause.ok (x : GCause) : Prop := okS x.Name ∧ (okL (okI .i64)) x.Signs
def GFraction.ok (x : GFraction) : Prop := (okI .i64) x.Num ∧ (okI .i64) x.Den
def GL00Src.ok (x : GL00Src) : Prop := (okL (okI .u8)) x.code ∧ (okI .i64) x.at_ ∧ (okI .u64) x.seed
/-- loop.example/g01063/impl.IsName -/
def impl_IsName (s1 : List UInt8) : Option Bool :=
 ((if (s1.length : Int) < 1 then
 (some true)
 else
 if (s1.length : Int) > 12 then
 (some true)
 else
 (at? s1 0).bind fun c1 =>
 if (c1.toNat : Int) < 97 then
 (some true)
 else
 (at? s1 0).bind fun c2 =>
 some (decide ((c2.toNat : Int) > 122))) : Option Bool).bind fun (x1 : Bool) =>
 if x1 then
 (some false)
 else
 onL (loop (S := Int) (B := Unit) (R := Bool) (fun (i1 : Int) =>
 if i1 < (s1.length : Int) then
 ((((at? s1 i1).bind fun c3 =>
 if (c3.toNat : Int) < 97 then
 ((at? s1 i1).bind fun c4 =>
 if (c4.toNat : Int) < 48 then
 ((at? s1 i1).bind fun c5 =>
 some (!(decide ((c5.toNat : Int) = 45))))
 else
 (at? s1 i1).bind fun c6 =>
 if (c6.toNat : Int) > 57 then
 ((at? s1 i1).bind fun c7 =>
 some (!(decide ((c7.toNat : Int) = 45))))
 else
 some false)
 else
 (at? s1 i1).bind fun c8 =>
 if (c8.toNat : Int) > 122 then
 ((at? s1 i1).bind fun c9 =>
 if (c9.toNat : Int) < 48 then
 ((at? s1 i1).bind fun c10 =>
 some (!(decide ((c10.toNat : Int) = 45))))
 else
 (at? s1 i1).bind fun c11 =>
 if (c11.toNat : Int) > 57 then
 ((at? s1 i1).bind fun c12 =>
 some (!(decide ((c12.toNat : Int) = 45))))
 else
 some false)
 else
 some false) : Option Bool).bind fun (x2 : Bool) =>
 if x2 then
 (some (.ret false))
 else
 some (.next (w64 (i1 + 1))))
 else
 some (.brk ())) loopLim 1)
 (fun (_ : Unit) => some true) (fun r => some r)
/-- loop.example/g01063/impl.ValidCauses$1 -/
def impl_ValidCauses_1 (o1 : GCause) (x1 : GCause) : Option Bool :=
 some (o1.Name == x1.Name)
/-- loop.example/g01063/impl.within -/
def impl_within (n1 : Int) (low1 : Int) (high1 : Int) : Option Bool :=
 if n1 ≥ low1 then
 (some (decide (n1 ≤ high1)))
 else
 some false
/-- loop.example/g01063/impl.isIncreasing -/
def impl_isIncreasing (list1 : List Int) (most1 : Int) : Option Bool :=
 onL (loop (S := Int) (B := Unit) (R := Bool) (fun (x1 : Int) =>
 if x1 < (list1.length : Int) then
 ((at? list1 x1).bind fun v1 =>
 (((impl_within v1 0 (w64 (most1 - 1))).bind fun r1 =>
 if r1 then
 (if x1 > 0 then
 ((at? list1 (w64 (x1 - 1))).bind fun v2 =>
 some (decide (v2 ≥ v1)))
 else
 some false)
 else
 some true) : Option Bool).bind fun (x2 : Bool) =>
 if x2 then
 (some (.ret false))
 else
 some (.next (w64 (x1 + 1))))
 else
 some (.brk ())) loopLim 0)
 (fun (_ : Unit) => some true) (fun r => some r)
/-- slices.IndexFunc[[]loop.example/g01063/impl.Cause,loop.example/g01063/impl.Cause] -/
def slices_IndexFunc_impl_Cause_impl_Cause_821 (s1 : List GCause) (f1 : GCause → Option Bool) : Option Int :=
 onL (loop (S := Int) (B := Unit) (R := Int) (fun (x1 : Int) =>
 if x1 < (s1.length : Int) then
 ((at? s1 x1).bind fun v1 =>
 (f1 v1).bind fun r1 =>
 if r1 then
 (some (.ret x1))
 else
 some (.next (w64 (x1 + 1))))
 else
 some (.brk ())) loopLim 0)
 (fun (_ : Unit) => some (-1)) (fun r => some r)
/-- slices.ContainsFunc[[]loop.example/g01063/impl.Cause,loop.example/g01063/impl.Cause] -/
def slices_ContainsFunc_impl_Cause_impl_Cause_799 (s1 : List GCause) (f1 : GCause → Option Bool) : Option Bool :=
 (slices_IndexFunc_impl_Cause_impl_Cause_821 s1 f1).bind fun r1 =>
 some (decide (r1 ≥ 0))
/-- loop.example/g01063/impl.ValidCauses -/
def impl_ValidCauses (signs1 : Int) (list1 : List GCause) : Option Bool :=
 (((impl_within signs1 1 16).bind fun r1 =>
 if r1 then
 (some (decide ((list1.length : Int) > 10)))
 else
 some true) : Option Bool).bind fun (x1 : Bool) =>
 if x1 then
 (some false)
 else
 onL (loop (S := Int) (B := Unit) (R := Bool) (fun (x2 : Int) =>
 if x2 < (list1.length : Int) then
 ((at? list1 x2).bind fun v1 =>
 (((impl_IsName v1.Name).bind fun r2 =>
 if r2 then
 (if (v1.Signs.length : Int) = 0 then
 (some true)
 else
 (impl_isIncreasing v1.Signs signs1).bind fun r3 =>
 if r3 then
 ((sub? list1 0 x2).bind fun l1 =>
 (slices_ContainsFunc_impl_Cause_impl_Cause_799 l1 (fun a0 => impl_ValidCauses_1 a0 v1)).bind fun r4 =>
 some r4)
 else
 some true)
 else
 some true) : Option Bool).bind fun (x3 : Bool) =>
 if x3 then
 (some (.ret false))
 else
 some (.next (w64 (x2 + 1))))
 else
 some (.brk ())) loopLim 0)
 (fun (_ : Unit) => some true) (fun r => some r)
/-- loop.example/g01063/impl.causesCode -/
def impl_causesCode (signs1 : Int) (list1 : List GCause) (some_1 : List Int) (seen1 : List Int) : Option Int :=
 (impl_ValidCauses signs1 list1).bind fun r1 =>
 if r1 then
 ((((impl_isIncreasing some_1 (list1.length : Int)).bind fun r2 =>
 if r2 then
 ((impl_isIncreasing seen1 signs1).bind fun r3 =>
 some (!r3))
 else
 some true) : Option Bool).bind fun (x1 : Bool) =>
 if x1 then
 (some 2)
 else
 some 0)
 else
 some 1
/-- loop.example/g01063/impl.indicesOf -/
def impl_indicesOf (set1 : Int) : Option (List Int) :=
 onL (loop (S := ((List Int) × Int)) (B := (List Int)) (R := Empty) (fun ((out1, i1) : (List Int) × Int) =>
 (shr? .i64 set1 (IntKind.wrap .u64 (i1))).bind fun q1 =>
 if q1 > 0 then
 ((shr? .i64 set1 (IntKind.wrap .u64 (i1))).bind fun q2 =>
 if (bit_and .i64 q2 1) = 1 then
 ((app? out1 ([i1] : List Int)).bind fun l1 =>
 some (.next (l1, w64 (i1 + 1))))
 else
 some (.next (out1, w64 (i1 + 1))))
 else
 some (.brk out1)) loopLim ([], 0))
 (fun (out2 : List Int) => some out2) Empty.elim
/-- loop.example/g01063/impl.signsOf -/
def impl_signsOf (list1 : List GCause) (some_1 : List Int) : Option (List Int) :=
 onL (loop (S := ((List Int) × Int)) (B := (List Int)) (R := Empty) (fun ((out1, x1) : (List Int) × Int) =>
 if x1 < (some_1.length : Int) then
 ((at? some_1 x1).bind fun v1 =>
 (at? list1 v1).bind fun v2 =>
 (app? out1 v2.Signs).bind fun l1 =>
 some (.next (l1, w64 (x1 + 1))))
 else
 some (.brk out1)) loopLim ([], 0))
 (fun (out2 : List Int) => (slices_Sort_int64 out2).bind fun r1 =>
 (slices_Compact_int64 r1).bind fun r2 =>
 some r2) Empty.elim
/-- slices.Equal[[]int64,int64] -/
def slices_Equal_int64_int64_811 (s1 : List Int) (s2 : List Int) : Option Bool :=
 if (s1.length : Int) = (s2.length : Int) then
 (onL (loop (S := Int) (B := Unit) (R := Bool) (fun (x1 : Int) =>
 if x1 < (s1.length : Int) then
 ((at? s1 x1).bind fun v1 =>
 (at? s2 x1).bind fun v2 =>
 if v1 = v2 then
 (some (.next (w64 (x1 + 1))))
 else
 some (.ret false))
 else
 some (.brk ())) loopLim 0)
 (fun (_ : Unit) => some true) (fun r => some r))
 else
 some false
/-- loop.example/g01063/impl.explanations -/
def impl_explanations (list1 : List GCause) (seen1 : List Int) : Option (List (List Int)) :=
 (shl? .i64 1 (IntKind.wrap .u64 ((list1.length : Int)))).bind fun q1 =>
 onL (loop (S := ((List (List Int)) × Int)) (B := (List (List Int))) (R := Empty) (fun ((out1, x1) : (List (List Int)) × Int) =>
 if x1 < q1 then
 ((impl_indicesOf x1).bind fun r1 =>
 (impl_signsOf list1 r1).bind fun r2 =>
 (slices_Equal_int64_int64_811 r2 seen1).bind fun r3 =>
 if r3 then
 ((app? out1 ([r1] : List (List Int))).bind fun l1 =>
 some (.next (l1, w64 (x1 + 1))))
 else
 some (.next (out1, w64 (x1 + 1))))
 else
 some (.brk out1)) loopLim ([], 0))
 (fun (out2 : List (List Int)) => some out2) Empty.elim
/-- cmp.isNaN[int64] -/
def cmp_isNaN_int64_31 (x1 : Int) : Option Bool :=
 some (!(decide (x1 = x1)))
/-- cmp.Compare[int64] -/
def cmp_Compare_int64_27 (x1 : Int) (y1 : Int) : Option Int :=
 (cmp_isNaN_int64_31 x1).bind fun r1 =>
 (cmp_isNaN_int64_31 y1).bind fun r2 =>
 if r1 then
 (if r2 then
 (some 0)
 else
 some (-1))
 else
 if r2 then
 (some 1)
 else
 if x1 < y1 then
 (some (-1))
 else
 if x1 > y1 then
 (some 1)
 else
 some 0
/-- slices.Compare[[]int64,int64] -/
def slices_Compare_int64_int64_792 (s1 : List Int) (s2 : List Int) : Option Int :=
 onL (loop (S := Int) (B := Unit) (R := Int) (fun (x1 : Int) =>
 if x1 < (s1.length : Int) then
 ((at? s1 x1).bind fun v1 =>
 if x1 ≥ (s2.length : Int) then
 (some (.ret 1))
 else
 (at? s2 x1).bind fun v2 =>
 (cmp_Compare_int64_27 v1 v2).bind fun r1 =>
 if r1 = 0 then
 (some (.next (w64 (x1 + 1))))
 else
 some (.ret r1))
 else
 some (.brk ())) loopLim 0)
 (fun (_ : Unit) => if (s1.length : Int) < (s2.length : Int) then
 (some (-1))
 else
 some 0) (fun r => some r)
/-- loop.example/g01063/impl.FewestCauses -/
def impl_FewestCauses (signs1 : Int) (list1 : List GCause) (seen1 : List Int) : Option ((List Int) × Int) :=
 (impl_causesCode signs1 list1 [] seen1).bind fun r1 =>
 if r1 = 0 then
 ((impl_explanations list1 seen1).bind fun r2 =>
 if (r2.length : Int) = 0 then
 (some ([], 3))
 else
 (at? r2 0).bind fun v1 =>
 onL (loop (S := (Int × Int)) (B := Int) (R := Empty) (fun ((b1, x1) : Int × Int) =>
 if x1 < (r2.length : Int) then
 ((at? r2 x1).bind fun v2 =>
 (at? r2 b1).bind fun best1 =>
 ((if (v2.length : Int) < (best1.length : Int) then
 (some true)
 else
 if (v2.length : Int) = (best1.length : Int) then
 ((slices_Compare_int64_int64_792 v2 best1).bind fun r3 =>
 some (decide (r3 < 0)))
 else
 some false) : Option Bool).bind fun (x2 : Bool) =>
 if x2 then
 (some (.next (x1, w64 (x1 + 1))))
 else
 some (.next (b1, w64 (x1 + 1))))
 else
 some (.brk b1)) loopLim (0, 0))
 (fun (b2 : Int) => (at? r2 b2).bind fun best2 => some (best2, 0)) Empty.elim)
 else
 some ([], r1)
/-- loop.example/g01063/laws.eqInt64S -/
def laws_eqInt64S (a1 : List Int) (b1 : List Int) : Option Bool :=
 if (a1.length : Int) = (b1.length : Int) then
 (onL (loop (S := Int) (B := Unit) (R := Bool) (fun (i1 : Int) =>
 if i1 < (a1.length : Int) then
 ((at? a1 i1).bind fun v1 =>
 (at? b1 i1).bind fun v2 =>
 if v1 = v2 then
 (some (.next (w64 (i1 + 1))))
 else
 some (.ret false))
 else
 some (.brk ())) loopLim 0)
 (fun (_ : Unit) => some true) (fun r => some r))
 else
 some false
/-- loop.example/g01063/laws.eqCause -/
def laws_eqCause (a1 : GCause) (b1 : GCause) : Option Bool :=
 if (a1.Name == b1.Name) then
 ((laws_eqInt64S a1.Signs b1.Signs).bind fun r1 =>
 if r1 then
 (some true)
 else
 some false)
 else
 some false
/-- loop.example/g01063/laws.eqCauseS -/
def laws_eqCauseS (a1 : List GCause) (b1 : List GCause) : Option Bool :=
 if (a1.length : Int) = (b1.length : Int) then
 (onL (loop (S := Int) (B := Unit) (R := Bool) (fun (i1 : Int) =>
 if i1 < (a1.length : Int) then
 ((at? a1 i1).bind fun v1 =>
 (at? b1 i1).bind fun v2 =>
 (laws_eqCause v1 v2).bind fun r1 =>
 if r1 then
 (some (.next (w64 (i1 + 1))))
 else
 some (.ret false))
 else
 some (.brk ())) loopLim 0)
 (fun (_ : Unit) => some true) (fun r => some r))
 else
 some false
/-- loop.example/g01063/laws.heldInt64S -/
def laws_heldInt64S (a1 : List Int) (k1 : Int) : Option Int :=
 onL (loop (S := (Int × Int)) (B := Int) (R := Int) (fun ((k2, i1) : Int × Int) =>
 if i1 < (a1.length : Int) then
 ((at? a1 i1).bind fun v1 =>
 if v1 = k2 then
 (some (.next (w64 (k2 + 1), w64 (i1 + 1))))
 else
 some (.ret (-1)))
 else
 some (.brk k2)) loopLim (k1, 0))
 (fun (k3 : Int) => some k3) (fun r => some r)
/-- loop.example/g01063/laws.markInt64S -/
def laws_markInt64S (a1 : List Int) (k1 : Int) : Option (Int × (List Int)) :=
 onL (loop (S := ((List Int) × Int × Int)) (B := ((List Int) × Int)) (R := Empty) (fun ((a2, k2, i1) : (List Int) × Int × Int) =>
 if i1 < (a2.length : Int) then
 ((at? a2 i1).bind fun v1 =>
 some (.next (a2.set i1.toNat k2, w64 (k2 + 1), w64 (i1 + 1))))
 else
 some (.brk (a2, k2))) loopLim (a1, k1, 0))
 (fun ((a3, k3) : (List Int) × Int) => some (k3, a3)) Empty.elim
/-- loop.example/g01063/laws.markText -/
def laws_markText (k1 : Int) : Option (List UInt8) :=
 if k1 ≤ 0 then
 (some [109, 48])
 else
 onL (loop (S := (Int × (List UInt8))) (B := (List UInt8)) (R := Empty) (fun ((k2, out1) : Int × (List UInt8)) =>
 if k2 > 0 then
 ((app? (b2s [IntKind.wrap .u8 (w64 (48 + (k2.tmod 10)))] : List UInt8) out1).bind fun s1 =>
 some (.next (w64 (k2.tdiv 10), s1)))
 else
 some (.brk out1)) loopLim (k1, []))
 (fun (out2 : List UInt8) => (app? ([109] : List UInt8) out2).bind fun s2 =>
 some s2) Empty.elim
/-- loop.example/g01063/laws.markCauseS -/
def laws_markCauseS (a1 : List GCause) (k1 : Int) : Option (Int × (List GCause)) :=
 onL (loop (S := ((List GCause) × Int × Int)) (B := ((List GCause) × Int)) (R := Empty) (fun ((a2, k2, i1) : (List GCause) × Int × Int) =>
 if i1 < (a2.length : Int) then
 ((laws_markText k2).bind fun r1 =>
 (at? a2 i1).bind fun v1 =>
 (at? (a2.set i1.toNat (GCause.mk r1 v1.Signs)) i1).bind fun v2 =>
 (laws_markInt64S v2.Signs (w64 (k2 + 1))).bind fun r2 =>
 some (.next ((a2.set i1.toNat (GCause.mk r1 v1.Signs)).set i1.toNat (GCause.mk v2.Name r2.2), r2.1, w64 (i1 + 1))))
 else
 some (.brk (a2, k2))) loopLim (a1, k1, 0))
 (fun ((a3, k3) : (List GCause) × Int) => some (k3, a3)) Empty.elim
/-- loop.example/g01063/laws.szInt64S -/
def laws_szInt64S (a1 : List Int) (left1 : Int) : Option Int :=
 if (w64 (left1 - (a1.length : Int))) < 0 then
 (some (-1))
 else
 some (w64 (left1 - (a1.length : Int)))
/-- loop.example/g01063/laws.szCause -/
def laws_szCause (a1 : GCause) (left1 : Int) : Option Int :=
 if (w64 (left1 - (a1.Name.length : Int))) < 0 then
 (some (-1))
 else
 (laws_szInt64S a1.Signs (w64 (left1 - (a1.Name.length : Int)))).bind fun r1 =>
 if r1 < 0 then
 (some (-1))
 else
 some r1
/-- loop.example/g01063/laws.szCauseS -/
def laws_szCauseS (a1 : List GCause) (left1 : Int) : Option Int :=
 if (w64 (left1 - (a1.length : Int))) < 0 then
 (some (-1))
 else
 onL (loop (S := (Int × Int)) (B := Int) (R := Int) (fun ((left2, i1) : Int × Int) =>
 if i1 < (a1.length : Int) then
 ((at? a1 i1).bind fun v1 =>
 (laws_szCause v1 left2).bind fun r1 =>
 if r1 < 0 then
 (some (.ret (-1)))
 else
 some (.next (r1, w64 (i1 + 1))))
 else
 some (.brk left2)) loopLim (w64 (left1 - (a1.length : Int)), 0))
 (fun (left3 : Int) => some left3) (fun r => some r)
/-- loop.example/g01063/laws.toInt64S -/
def laws_toInt64S (a1 : List Int) : Option (List Int) :=
 (mk? (a1.length : Int) (0 : Int)).bind fun l1 =>
 onL (loop (S := ((List Int) × Int)) (B := (List Int)) (R := Empty) (fun ((out1, i1) : (List Int) × Int) =>
 if i1 < (a1.length : Int) then
 ((at? a1 i1).bind fun v1 =>
 (at? out1 i1).bind fun v2 =>
 some (.next (out1.set i1.toNat v1, w64 (i1 + 1))))
 else
 some (.brk out1)) loopLim (l1, 0))
 (fun (out2 : List Int) => some out2) Empty.elim
/-- loop.example/g01063/laws.toCause -/
def laws_toCause (a1 : GCause) : Option GCause :=
 (laws_toInt64S a1.Signs).bind fun r1 =>
 some (GCause.mk a1.Name r1)
/-- loop.example/g01063/laws.toCauseS -/
def laws_toCauseS (a1 : List GCause) : Option (List GCause) :=
 (mk? (a1.length : Int) ((GCause.mk [] []) : GCause)).bind fun l1 =>
 onL (loop (S := ((List GCause) × Int)) (B := (List GCause)) (R := Empty) (fun ((out1, i1) : (List GCause) × Int) =>
 if i1 < (a1.length : Int) then
 ((at? a1 i1).bind fun v1 =>
 (laws_toCause v1).bind fun r1 =>
 (at? out1 i1).bind fun v2 =>
 some (.next (out1.set i1.toNat r1, w64 (i1 + 1))))
 else
 some (.brk out1)) loopLim (l1, 0))
 (fun (out2 : List GCause) => some out2) Empty.elim
/-- loop.example/g01063/spec.l11Less -/
def spec_l11Less (a1 : List Int) (b1 : List Int) : Option Bool :=
 if (a1.length : Int) = (b1.length : Int) then
 (onL (loop (S := Int) (B := Unit) (R := Bool) (fun (i1 : Int) =>
 if i1 < (a1.length : Int) then
 ((at? a1 i1).bind fun v1 =>
 (at? b1 i1).bind fun v2 =>
 if v1 = v2 then
 (some (.next (w64 (i1 + 1))))
 else
 (at? a1 i1).bind fun v3 =>
 (at? b1 i1).bind fun v4 =>
 some (.ret (decide (v3 < v4))))
 else
 some (.brk ())) loopLim 0)
 (fun (_ : Unit) => some false) (fun r => some r))
 else
 some (decide ((a1.length : Int) < (b1.length : Int)))
/-- loop.example/g01063/spec.l22List -/
def spec_l22List (bits1 : Int) : Option (List Int) :=
 onL (loop (S := ((List Int) × Int)) (B := (List Int)) (R := Empty) (fun ((out1, k1) : (List Int) × Int) =>
 if k1 < 20 then
 ((shr? .i64 bits1 (IntKind.wrap .u64 (k1))).bind fun q1 =>
 if (bit_and .i64 q1 1) = 1 then
 ((app? out1 ([k1] : List Int)).bind fun l1 =>
 some (.next (l1, w64 (k1 + 1))))
 else
 some (.next (out1, w64 (k1 + 1))))
 else
 some (.brk out1)) loopLim ([], 0))
 (fun (out2 : List Int) => some out2) Empty.elim
/-- loop.example/g01063/spec.l22Bits -/
def spec_l22Bits (list1 : List Int) : Option Int :=
 onL (loop (S := (Int × Int)) (B := Int) (R := Empty) (fun ((out1, i1) : Int × Int) =>
 if i1 < (list1.length : Int) then
 ((at? list1 i1).bind fun v1 =>
 (shl? .i64 1 (IntKind.wrap .u64 (v1))).bind fun q1 =>
 some (.next (bit_or .i64 out1 q1, w64 (i1 + 1))))
 else
 some (.brk out1)) loopLim (0, 0))
 (fun (out2 : Int) => some out2) Empty.elim
/-- loop.example/g01063/spec.l22Signs -/
def spec_l22Signs (list1 : List GCause) (some_1 : Int) : Option Int :=
 onL (loop (S := (Int × Int)) (B := Int) (R := Empty) (fun ((out1, i1) : Int × Int) =>
 if i1 < (list1.length : Int) then
 ((shr? .i64 some_1 (IntKind.wrap .u64 (i1))).bind fun q1 =>
 if (bit_and .i64 q1 1) = 1 then
 ((at? list1 i1).bind fun v1 =>
 (spec_l22Bits v1.Signs).bind fun r1 =>
 some (.next (bit_or .i64 out1 r1, w64 (i1 + 1))))
 else
 some (.next (out1, w64 (i1 + 1))))
 else
 some (.brk out1)) loopLim (0, 0))
 (fun (out2 : Int) => some out2) Empty.elim
/-- loop.example/g01063/spec.l22All -/
def spec_l22All (list1 : List GCause) (seen1 : List Int) : Option (List Int) :=
 (spec_l22Bits seen1).bind fun r1 =>
 onL (loop (S := ((List Int) × Int)) (B := (List Int)) (R := Empty) (fun ((out1, some_1) : (List Int) × Int) =>
 (shl? .i64 1 (IntKind.wrap .u64 ((list1.length : Int)))).bind fun q1 =>
 if some_1 < q1 then
 ((spec_l22Signs list1 some_1).bind fun r2 =>
 if r2 = r1 then
 ((app? out1 ([some_1] : List Int)).bind fun l1 =>
 some (.next (l1, w64 (some_1 + 1))))
 else
 some (.next (out1, w64 (some_1 + 1))))
 else
 some (.brk out1)) loopLim ([], 0))
 (fun (out2 : List Int) => some out2) Empty.elim
/-- loop.example/g01063/spec.l00In -/
def spec_l00In (n1 : Int) (low1 : Int) (high1 : Int) : Option Bool :=
 if n1 ≥ low1 then
 (some (decide (n1 ≤ high1)))
 else
 some false
/-- loop.example/g01063/spec.l00Rises -/
def spec_l00Rises (list1 : List Int) (low1 : Int) (high1 : Int) : Option Bool :=
 onL (loop (S := Int) (B := Unit) (R := Bool) (fun (i1 : Int) =>
 if i1 < (list1.length : Int) then
 ((((at? list1 i1).bind fun v1 =>
 (spec_l00In v1 low1 high1).bind fun r1 =>
 if r1 then
 (if i1 > 0 then
 ((at? list1 (w64 (i1 - 1))).bind fun v2 =>
 (at? list1 i1).bind fun v3 =>
 some (decide (v2 ≥ v3)))
 else
 some false)
 else
 some true) : Option Bool).bind fun (x1 : Bool) =>
 if x1 then
 (some (.ret false))
 else
 some (.next (w64 (i1 + 1))))
 else
 some (.brk ())) loopLim 0)
 (fun (_ : Unit) => some true) (fun r => some r)
/-- loop.example/g01063/spec.l01Digit -/
def spec_l01Digit (c1 : Int) : Option Bool :=
 if c1 ≥ 48 then
 (some (decide (c1 ≤ 57)))
 else
 some false
/-- loop.example/g01063/spec.l01Small -/
def spec_l01Small (c1 : Int) : Option Bool :=
 if c1 ≥ 97 then
 (some (decide (c1 ≤ 122)))
 else
 some false
/-- loop.example/g01063/spec.IsName -/
def spec_IsName (s1 : List UInt8) : Option Bool :=
 ((if (s1 == []) then
 (some true)
 else
 if (s1.length : Int) > 12 then
 (some true)
 else
 (at? s1 0).bind fun c1 =>
 (spec_l01Small (c1.toNat : Int)).bind fun r1 =>
 some (!r1)) : Option Bool).bind fun (x1 : Bool) =>
 if x1 then
 (some false)
 else
 onL (loop (S := Int) (B := Unit) (R := Bool) (fun (i1 : Int) =>
 if i1 < (s1.length : Int) then
 ((((at? s1 i1).bind fun c2 =>
 (spec_l01Small (c2.toNat : Int)).bind fun r2 =>
 if r2 then
 (some false)
 else
 (at? s1 i1).bind fun c3 =>
 (spec_l01Digit (c3.toNat : Int)).bind fun r3 =>
 if r3 then
 (some false)
 else
 (at? s1 i1).bind fun c4 =>
 some (!(decide ((c4.toNat : Int) = 45)))) : Option Bool).bind fun (x2 : Bool) =>
 if x2 then
 (some (.ret false))
 else
 some (.next (w64 (i1 + 1))))
 else
 some (.brk ())) loopLim 0)
 (fun (_ : Unit) => some true) (fun r => some r)
/-- loop.example/g01063/spec.l22Ok -/
def spec_l22Ok (signs1 : Int) (list1 : List GCause) : Option Bool :=
 (((spec_l00In signs1 1 16).bind fun r1 =>
 if r1 then
 (some (decide ((list1.length : Int) > 10)))
 else
 some true) : Option Bool).bind fun (x1 : Bool) =>
 if x1 then
 (some false)
 else
 onL (loop (S := Int) (B := Unit) (R := Bool) (fun (i1 : Int) =>
 if i1 < (list1.length : Int) then
 ((((at? list1 i1).bind fun v1 =>
 (spec_IsName v1.Name).bind fun r2 =>
 if r2 then
 ((at? list1 i1).bind fun v2 =>
 if (v2.Signs.length : Int) = 0 then
 (some true)
 else
 (at? list1 i1).bind fun v3 =>
 (spec_l00Rises v3.Signs 0 (w64 (signs1 - 1))).bind fun r3 =>
 some (!r3))
 else
 some true) : Option Bool).bind fun (x2 : Bool) =>
 if x2 then
 (some (.ret false))
 else
 onL (loop (S := Int) (B := Unit) (R := Bool) (fun (k1 : Int) =>
 if k1 < i1 then
 ((at? list1 k1).bind fun v4 =>
 (at? list1 i1).bind fun v5 =>
 if (v4.Name == v5.Name) then
 (some (.ret false))
 else
 some (.next (w64 (k1 + 1))))
 else
 some (.brk ())) loopLim 0)
 (fun (_ : Unit) => some (.next (w64 (i1 + 1)))) (fun r => some (.ret r)))
 else
 some (.brk ())) loopLim 0)
 (fun (_ : Unit) => some true) (fun r => some r)
/-- loop.example/g01063/spec.l22Code -/
def spec_l22Code (signs1 : Int) (list1 : List GCause) (seen1 : List Int) : Option Int :=
 (spec_l22Ok signs1 list1).bind fun r1 =>
 if r1 then
 ((spec_l00Rises seen1 0 (w64 (signs1 - 1))).bind fun r2 =>
 if r2 then
 (some 0)
 else
 some 2)
 else
 some 1
/-- loop.example/g01063/spec.l22Some -/
def spec_l22Some (signs1 : Int) (list1 : List GCause) (seen1 : List Int) : Option ((List Int) × Int) :=
 (spec_l22Code signs1 list1 seen1).bind fun r1 =>
 if r1 = 0 then
 ((spec_l22All list1 seen1).bind fun r2 =>
 if (r2.length : Int) = 0 then
 (some ([], 3))
 else
 some (r2, 0))
 else
 some ([], r1)
/-- loop.example/g01063/spec.FewestCauses -/
def spec_FewestCauses (signs1 : Int) (list1 : List GCause) (seen1 : List Int) : Option ((List Int) × Int) :=
 (spec_l22Some signs1 list1 seen1).bind fun r1 =>
 if r1.2 = 0 then
 ((at? r1.1 0).bind fun v1 =>
 (spec_l22List v1).bind fun r2 =>
 onL (loop (S := ((List Int) × Int)) (B := (List Int)) (R := Empty) (fun ((best1, i1) : (List Int) × Int) =>
 if i1 < (r1.1.length : Int) then
 ((at? r1.1 i1).bind fun v2 =>
 (spec_l22List v2).bind fun r3 =>
 (spec_l11Less r3 best1).bind fun r4 =>
 if r4 then
 (some (.next (r3, w64 (i1 + 1))))
 else
 some (.next (best1, w64 (i1 + 1))))
 else
 some (.brk best1)) loopLim (r2, 1))
 (fun (best2 : List Int) => some (best2, 0)) Empty.elim)
 else
 some ([], r1.2)
/-- loop.example/g01063/laws.FnExactFewestCauses -/
def laws_FnExactFewestCauses (aSigns1 : Int) (aList1 : List GCause) (aSeen1 : List Int) : Option Bool :=
 if (aSeen1.length : Int) > 1048576 then
 (some true)
 else
 (laws_szCauseS aList1 1048576).bind fun r1 =>
 if r1 < 0 then
 (some true)
 else
 (laws_toCauseS aList1).bind fun r2 =>
 (laws_toInt64S aSeen1).bind fun r3 =>
 (spec_FewestCauses aSigns1 r2 r3).bind fun r4 =>
 (laws_toCauseS aList1).bind fun r5 =>
 (laws_toInt64S aSeen1).bind fun r6 =>
 (impl_FewestCauses aSigns1 r5 r6).bind fun r7 =>
 (((laws_eqInt64S r7.1 r4.1).bind fun r8 =>
 if r8 then
 (some (!(decide (r7.2 = r4.2))))
 else
 some true) : Option Bool).bind fun (x1 : Bool) =>
 if x1 then
 (some false)
 else
 (laws_toCauseS aList1).bind fun r9 =>
 (laws_eqCauseS r5 r9).bind fun r10 =>
 if r10 then
 ((laws_toInt64S aSeen1).bind fun r11 =>
 (laws_eqInt64S r6 r11).bind fun r12 =>
 if r12 then
 ((laws_markCauseS r5 1).bind fun r13 =>
 (laws_markInt64S r6 r13.1).bind fun r14 =>
 ((if r14.1 < 0 then
 (some true)
 else
 (laws_eqInt64S r7.1 r4.1).bind fun r15 =>
 if r15 then
 (some (!(decide (r7.2 = r4.2))))
 else
 some true) : Option Bool).bind fun (x2 : Bool) =>
 if x2 then
 (some false)
 else
 (laws_markInt64S r7.1 1).bind fun r16 =>
 (laws_heldInt64S r16.2 1).bind fun r17 =>
 if r17 < 0 then
 (some false)
 else
 if r17 = r16.1 then
 ((laws_toCauseS aList1).bind fun r18 =>
 (laws_toInt64S aSeen1).bind fun r19 =>
 (impl_FewestCauses aSigns1 r18 r19).bind fun r20 =>
 (((laws_eqInt64S r20.1 r4.1).bind fun r21 =>
 if r21 then
 (some (!(decide (r20.2 = r4.2))))
 else
 some true) : Option Bool).bind fun (x3 : Bool) =>
 if x3 then
 (some false)
 else
 (laws_heldInt64S r16.2 1).bind fun r22 =>
 if r22 < 0 then
 (some false)
 else
 if r22 = r16.1 then
 (some true)
 else
 some false)
 else
 some false)
 else
 some false)
 else
 some false
end Go.Vs.G
