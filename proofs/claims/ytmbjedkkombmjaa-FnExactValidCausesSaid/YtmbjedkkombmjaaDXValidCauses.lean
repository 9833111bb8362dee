/- The functions that the law reaches, as typed Lean functions, printed by program. No conditions. -/
import Derived.Test.YtmbjedkkombmjaaV5
set_option maxRecDepth 100000
open Go Go.Vs
namespace Go.Vs.G
structure GCause where
  Name : List UInt8
  Signs : List Int
  deriving DecidableEq, Inhabited
structure GTitle where
  No : Int
  Name : List UInt8
  Glass : Int
  Broken : Int
  deriving DecidableEq, Inhabited
def GCause.enco (x : GCause) : Tree := .agg [.str x.Name, .sl true 1 (x.Signs.map (Tree.int .i64))]
def GCause.encs (x : GCause) : Tree := .agg [.str x.Name, .sl false 1 (x.Signs.map (Tree.int .i64))]
def GTitle.enc (x : GTitle) : Tree := .agg [.int .i64 x.No, .str x.Name, .int .i64 x.Glass, .int .i64 x.Broken]
def GCause.ok (x : GCause) : Prop := okS x.Name ∧ (okL (okI .i64)) x.Signs
def GTitle.ok (x : GTitle) : Prop := (okI .i64) x.No ∧ okS x.Name ∧ (okI .i64) x.Glass ∧ (okI .i64) x.Broken
/-- loop.example/g01063/impl.IsName -/
def impl_IsName (s1 : List UInt8) : Option Bool :=
 ((if (s1.length : Int) < 1 then
 (some true)
 else
 if (s1.length : Int) > 12 then
 (some true)
 else
 (at? s1 0).bind fun c1 =>
 if (c1.toNat : Int) < 97 then
 (some true)
 else
 (at? s1 0).bind fun c2 =>
 some (decide ((c2.toNat : Int) > 122))) : Option Bool).bind fun (x1 : Bool) =>
 if x1 then
 (some false)
 else
 onL (loop (S := Int) (B := Unit) (R := Bool) (fun (i1 : Int) =>
 if i1 < (s1.length : Int) then
 ((((at? s1 i1).bind fun c3 =>
 if (c3.toNat : Int) < 97 then
 ((at? s1 i1).bind fun c4 =>
 if (c4.toNat : Int) < 48 then
 ((at? s1 i1).bind fun c5 =>
 some (!(decide ((c5.toNat : Int) = 45))))
 else
 (at? s1 i1).bind fun c6 =>
 if (c6.toNat : Int) > 57 then
 ((at? s1 i1).bind fun c7 =>
 some (!(decide ((c7.toNat : Int) = 45))))
 else
 some false)
 else
 (at? s1 i1).bind fun c8 =>
 if (c8.toNat : Int) > 122 then
 ((at? s1 i1).bind fun c9 =>
 if (c9.toNat : Int) < 48 then
 ((at? s1 i1).bind fun c10 =>
 some (!(decide ((c10.toNat : Int) = 45))))
 else
 (at? s1 i1).bind fun c11 =>
 if (c11.toNat : Int) > 57 then
 ((at? s1 i1).bind fun c12 =>
 some (!(decide ((c12.toNat : Int) = 45))))
 else
 some false)
 else
 some false) : Option Bool).bind fun (x2 : Bool) =>
 if x2 then
 (some (.ret false))
 else
 some (.next (w64 (i1 + 1))))
 else
 some (.brk ())) loopLim 1)
 (fun (_ : Unit) => some true) (fun r => some r)
/-- loop.example/g01063/impl.ValidCauses$1 -/
def impl_ValidCauses_1 (o1 : GCause) (x1 : GCause) : Option Bool :=
 some (o1.Name == x1.Name)
/-- loop.example/g01063/impl.within -/
def impl_within (n1 : Int) (low1 : Int) (high1 : Int) : Option Bool :=
 if n1 ≥ low1 then
 (some (decide (n1 ≤ high1)))
 else
 some false
/-- loop.example/g01063/impl.isIncreasing -/
def impl_isIncreasing (list1 : List Int) (most1 : Int) : Option Bool :=
 onL (loop (S := Int) (B := Unit) (R := Bool) (fun (x1 : Int) =>
 if x1 < (list1.length : Int) then
 ((at? list1 x1).bind fun v1 =>
 (((impl_within v1 0 (w64 (most1 - 1))).bind fun r1 =>
 if r1 then
 (if x1 > 0 then
 ((at? list1 (w64 (x1 - 1))).bind fun v2 =>
 some (decide (v2 ≥ v1)))
 else
 some false)
 else
 some true) : Option Bool).bind fun (x2 : Bool) =>
 if x2 then
 (some (.ret false))
 else
 some (.next (w64 (x1 + 1))))
 else
 some (.brk ())) loopLim 0)
 (fun (_ : Unit) => some true) (fun r => some r)
/-- slices.IndexFunc[[]loop.example/g01063/impl.Cause,loop.example/g01063/impl.Cause] -/
def slices_IndexFunc_impl_Cause_impl_Cause_821 (s1 : List GCause) (f1 : GCause → Option Bool) : Option Int :=
 onL (loop (S := Int) (B := Unit) (R := Int) (fun (x1 : Int) =>
 if x1 < (s1.length : Int) then
 ((at? s1 x1).bind fun v1 =>
 (f1 v1).bind fun r1 =>
 if r1 then
 (some (.ret x1))
 else
 some (.next (w64 (x1 + 1))))
 else
 some (.brk ())) loopLim 0)
 (fun (_ : Unit) => some (-1)) (fun r => some r)
/-- slices.ContainsFunc[[]loop.example/g01063/impl.Cause,loop.example/g01063/impl.Cause] -/
def slices_ContainsFunc_impl_Cause_impl_Cause_799 (s1 : List GCause) (f1 : GCause → Option Bool) : Option Bool :=
 (slices_IndexFunc_impl_Cause_impl_Cause_821 s1 f1).bind fun r1 =>
 some (decide (r1 ≥ 0))
/-- loop.example/g01063/impl.ValidCauses -/
def impl_ValidCauses (signs1 : Int) (list1 : List GCause) : Option Bool :=
 (((impl_within signs1 1 16).bind fun r1 =>
 if r1 then
 (some (decide ((list1.length : Int) > 10)))
 else
 some true) : Option Bool).bind fun (x1 : Bool) =>
 if x1 then
 (some false)
 else
 onL (loop (S := Int) (B := Unit) (R := Bool) (fun (x2 : Int) =>
 if x2 < (list1.length : Int) then
 ((at? list1 x2).bind fun v1 =>
 (((impl_IsName v1.Name).bind fun r2 =>
 if r2 then
 (if (v1.Signs.length : Int) = 0 then
 (some true)
 else
 (impl_isIncreasing v1.Signs signs1).bind fun r3 =>
 if r3 then
 ((sub? list1 0 x2).bind fun l1 =>
 (slices_ContainsFunc_impl_Cause_impl_Cause_799 l1 (fun a0 => impl_ValidCauses_1 a0 v1)).bind fun r4 =>
 some r4)
 else
 some true)
 else
 some true) : Option Bool).bind fun (x3 : Bool) =>
 if x3 then
 (some (.ret false))
 else
 some (.next (w64 (x2 + 1))))
 else
 some (.brk ())) loopLim 0)
 (fun (_ : Unit) => some true) (fun r => some r)
/-- loop.example/g01063/laws.eqInt64S -/
def laws_eqInt64S (a1 : List Int) (b1 : List Int) : Option Bool :=
 if (a1.length : Int) = (b1.length : Int) then
 (onL (loop (S := Int) (B := Unit) (R := Bool) (fun (i1 : Int) =>
 if i1 < (a1.length : Int) then
 ((at? a1 i1).bind fun v1 =>
 (at? b1 i1).bind fun v2 =>
 if v1 = v2 then
 (some (.next (w64 (i1 + 1))))
 else
 some (.ret false))
 else
 some (.brk ())) loopLim 0)
 (fun (_ : Unit) => some true) (fun r => some r))
 else
 some false
/-- loop.example/g01063/laws.eqCause -/
def laws_eqCause (a1 : GCause) (b1 : GCause) : Option Bool :=
 if (a1.Name == b1.Name) then
 ((laws_eqInt64S a1.Signs b1.Signs).bind fun r1 =>
 if r1 then
 (some true)
 else
 some false)
 else
 some false
/-- loop.example/g01063/laws.eqCauseS -/
def laws_eqCauseS (a1 : List GCause) (b1 : List GCause) : Option Bool :=
 if (a1.length : Int) = (b1.length : Int) then
 (onL (loop (S := Int) (B := Unit) (R := Bool) (fun (i1 : Int) =>
 if i1 < (a1.length : Int) then
 ((at? a1 i1).bind fun v1 =>
 (at? b1 i1).bind fun v2 =>
 (laws_eqCause v1 v2).bind fun r1 =>
 if r1 then
 (some (.next (w64 (i1 + 1))))
 else
 some (.ret false))
 else
 some (.brk ())) loopLim 0)
 (fun (_ : Unit) => some true) (fun r => some r))
 else
 some false
/-- loop.example/g01063/laws.szInt64S -/
def laws_szInt64S (a1 : List Int) (left1 : Int) : Option Int :=
 if (w64 (left1 - (a1.length : Int))) < 0 then
 (some (-1))
 else
 some (w64 (left1 - (a1.length : Int)))
/-- loop.example/g01063/laws.szCause -/
def laws_szCause (a1 : GCause) (left1 : Int) : Option Int :=
 if (w64 (left1 - (a1.Name.length : Int))) < 0 then
 (some (-1))
 else
 (laws_szInt64S a1.Signs (w64 (left1 - (a1.Name.length : Int)))).bind fun r1 =>
 if r1 < 0 then
 (some (-1))
 else
 some r1
/-- loop.example/g01063/laws.szCauseS -/
def laws_szCauseS (a1 : List GCause) (left1 : Int) : Option Int :=
 if (w64 (left1 - (a1.length : Int))) < 0 then
 (some (-1))
 else
 onL (loop (S := (Int × Int)) (B := Int) (R := Int) (fun ((left2, i1) : Int × Int) =>
 if i1 < (a1.length : Int) then
 ((at? a1 i1).bind fun v1 =>
 (laws_szCause v1 left2).bind fun r1 =>
 if r1 < 0 then
 (some (.ret (-1)))
 else
 some (.next (r1, w64 (i1 + 1))))
 else
 some (.brk left2)) loopLim (w64 (left1 - (a1.length : Int)), 0))
 (fun (left3 : Int) => some left3) (fun r => some r)
/-- loop.example/g01063/laws.toInt64S -/
def laws_toInt64S (a1 : List Int) : Option (List Int) :=
 (mk? (a1.length : Int) (0 : Int)).bind fun l1 =>
 onL (loop (S := ((List Int) × Int)) (B := (List Int)) (R := Empty) (fun ((out1, i1) : (List Int) × Int) =>
 if i1 < (a1.length : Int) then
 ((at? a1 i1).bind fun v1 =>
 (at? out1 i1).bind fun v2 =>
 some (.next (out1.set i1.toNat v1, w64 (i1 + 1))))
 else
 some (.brk out1)) loopLim (l1, 0))
 (fun (out2 : List Int) => some out2) Empty.elim
/-- loop.example/g01063/laws.toCause -/
def laws_toCause (a1 : GCause) : Option GCause :=
 (laws_toInt64S a1.Signs).bind fun r1 =>
 some (GCause.mk a1.Name r1)
/-- loop.example/g01063/laws.toCauseS -/
def laws_toCauseS (a1 : List GCause) : Option (List GCause) :=
 (mk? (a1.length : Int) ((GCause.mk [] []) : GCause)).bind fun l1 =>
 onL (loop (S := ((List GCause) × Int)) (B := (List GCause)) (R := Empty) (fun ((out1, i1) : (List GCause) × Int) =>
 if i1 < (a1.length : Int) then
 ((at? a1 i1).bind fun v1 =>
 (laws_toCause v1).bind fun r1 =>
 (at? out1 i1).bind fun v2 =>
 some (.next (out1.set i1.toNat r1, w64 (i1 + 1))))
 else
 some (.brk out1)) loopLim (l1, 0))
 (fun (out2 : List GCause) => some out2) Empty.elim
/-- loop.example/g01063/spec.l01Digit -/
def spec_l01Digit (c1 : Int) : Option Bool :=
 if c1 ≥ 48 then
 (some (decide (c1 ≤ 57)))
 else
 some false
/-- loop.example/g01063/spec.l01Small -/
def spec_l01Small (c1 : Int) : Option Bool :=
 if c1 ≥ 97 then
 (some (decide (c1 ≤ 122)))
 else
 some false
/-- loop.example/g01063/spec.IsName -/
def spec_IsName (s1 : List UInt8) : Option Bool :=
 ((if (s1 == []) then
 (some true)
 else
 if (s1.length : Int) > 12 then
 (some true)
 else
 (at? s1 0).bind fun c1 =>
 (spec_l01Small (c1.toNat : Int)).bind fun r1 =>
 some (!r1)) : Option Bool).bind fun (x1 : Bool) =>
 if x1 then
 (some false)
 else
 onL (loop (S := Int) (B := Unit) (R := Bool) (fun (i1 : Int) =>
 if i1 < (s1.length : Int) then
 ((((at? s1 i1).bind fun c2 =>
 (spec_l01Small (c2.toNat : Int)).bind fun r2 =>
 if r2 then
 (some false)
 else
 (at? s1 i1).bind fun c3 =>
 (spec_l01Digit (c3.toNat : Int)).bind fun r3 =>
 if r3 then
 (some false)
 else
 (at? s1 i1).bind fun c4 =>
 some (!(decide ((c4.toNat : Int) = 45)))) : Option Bool).bind fun (x2 : Bool) =>
 if x2 then
 (some (.ret false))
 else
 some (.next (w64 (i1 + 1))))
 else
 some (.brk ())) loopLim 0)
 (fun (_ : Unit) => some true) (fun r => some r)
/-- loop.example/g01063/spec.l00In -/
def spec_l00In (n1 : Int) (low1 : Int) (high1 : Int) : Option Bool :=
 if n1 ≥ low1 then
 (some (decide (n1 ≤ high1)))
 else
 some false
/-- loop.example/g01063/spec.l00Rises -/
def spec_l00Rises (list1 : List Int) (low1 : Int) (high1 : Int) : Option Bool :=
 onL (loop (S := Int) (B := Unit) (R := Bool) (fun (i1 : Int) =>
 if i1 < (list1.length : Int) then
 ((((at? list1 i1).bind fun v1 =>
 (spec_l00In v1 low1 high1).bind fun r1 =>
 if r1 then
 (if i1 > 0 then
 ((at? list1 (w64 (i1 - 1))).bind fun v2 =>
 (at? list1 i1).bind fun v3 =>
 some (decide (v2 ≥ v3)))
 else
 some false)
 else
 some true) : Option Bool).bind fun (x1 : Bool) =>
 if x1 then
 (some (.ret false))
 else
 some (.next (w64 (i1 + 1))))
 else
 some (.brk ())) loopLim 0)
 (fun (_ : Unit) => some true) (fun r => some r)
/-- loop.example/g01063/spec.l22Ok -/
def spec_l22Ok (signs1 : Int) (list1 : List GCause) : Option Bool :=
 (((spec_l00In signs1 1 16).bind fun r1 =>
 if r1 then
 (some (decide ((list1.length : Int) > 10)))
 else
 some true) : Option Bool).bind fun (x1 : Bool) =>
 if x1 then
 (some false)
 else
 onL (loop (S := Int) (B := Unit) (R := Bool) (fun (i1 : Int) =>
 if i1 < (list1.length : Int) then
 ((((at? list1 i1).bind fun v1 =>
 (spec_IsName v1.Name).bind fun r2 =>
 if r2 then
 ((at? list1 i1).bind fun v2 =>
 if (v2.Signs.length : Int) = 0 then
 (some true)
 else
 (at? list1 i1).bind fun v3 =>
 (spec_l00Rises v3.Signs 0 (w64 (signs1 - 1))).bind fun r3 =>
 some (!r3))
 else
 some true) : Option Bool).bind fun (x2 : Bool) =>
 if x2 then
 (some (.ret false))
 else
 onL (loop (S := Int) (B := Unit) (R := Bool) (fun (k1 : Int) =>
 if k1 < i1 then
 ((at? list1 k1).bind fun v4 =>
 (at? list1 i1).bind fun v5 =>
 if (v4.Name == v5.Name) then
 (some (.ret false))
 else
 some (.next (w64 (k1 + 1))))
 else
 some (.brk ())) loopLim 0)
 (fun (_ : Unit) => some (.next (w64 (i1 + 1)))) (fun r => some (.ret r)))
 else
 some (.brk ())) loopLim 0)
 (fun (_ : Unit) => some true) (fun r => some r)
/-- loop.example/g01063/spec.ValidCauses -/
def spec_ValidCauses (signs1 : Int) (list1 : List GCause) : Option Bool :=
 (spec_l22Ok signs1 list1).bind fun r1 =>
 some r1
/-- loop.example/g01063/laws.FnExactValidCauses -/
def laws_FnExactValidCauses (aSigns1 : Int) (aList1 : List GCause) : Option Bool :=
 (laws_szCauseS aList1 1048576).bind fun r1 =>
 if r1 < 0 then
 (some true)
 else
 (laws_toCauseS aList1).bind fun r2 =>
 (spec_ValidCauses aSigns1 r2).bind fun r3 =>
 (laws_toCauseS aList1).bind fun r4 =>
 (impl_ValidCauses aSigns1 r4).bind fun r5 =>
 if (r5 == r3) then
 ((laws_toCauseS aList1).bind fun r6 =>
 (laws_eqCauseS r4 r6).bind fun r7 =>
 if r7 then
 (some true)
 else
 some false)
 else
 some false
/-- loop.example/g01063/impl.validTitle -/
def impl_validTitle (x1 : GTitle) : Option Bool :=
 (impl_within x1.No 1 9999).bind fun r1 =>
 if r1 then
 ((impl_IsName x1.Name).bind fun r2 =>
 if r2 then
 ((impl_within x1.Glass 1 30).bind fun r3 =>
 if r3 then
 ((impl_within x1.Broken 0 x1.Glass).bind fun r4 =>
 some r4)
 else
 some false)
 else
 some false)
 else
 some false
/-- loop.example/g01063/impl.ValidTitles -/
def impl_ValidTitles (list1 : List GTitle) : Option Bool :=
 onL (loop (S := Int) (B := Unit) (R := Bool) (fun (x1 : Int) =>
 if x1 < (list1.length : Int) then
 ((at? list1 x1).bind fun v1 =>
 (((impl_validTitle v1).bind fun r1 =>
 if r1 then
 (if x1 > 0 then
 ((at? list1 (w64 (x1 - 1))).bind fun v2 =>
 some (decide (v2.No ≥ v1.No)))
 else
 some false)
 else
 some true) : Option Bool).bind fun (x2 : Bool) =>
 if x2 then
 (some (.ret false))
 else
 some (.next (w64 (x1 + 1))))
 else
 some (.brk ())) loopLim 0)
 (fun (_ : Unit) => some (decide ((list1.length : Int) ≤ 20))) (fun r => some r)
/-- loop.example/g01063/impl.FreeNumber -/
def impl_FreeNumber (list1 : List GTitle) : Option (Int × Int) :=
 (impl_ValidTitles list1).bind fun r1 =>
 if r1 then
 (onL (loop (S := (Int × Int)) (B := Int) (R := Empty) (fun ((no1, x1) : Int × Int) =>
 if x1 < (list1.length : Int) then
 ((at? list1 x1).bind fun v1 =>
 if v1.No = no1 then
 (some (.next (w64 (no1 + 1), w64 (x1 + 1))))
 else
 some (.next (no1, w64 (x1 + 1))))
 else
 some (.brk no1)) loopLim (1, 0))
 (fun (no2 : Int) => some (no2, 0)) Empty.elim)
 else
 some (0, 1)
/-- slices.Equal[[]loop.example/g01063/impl.Title,loop.example/g01063/impl.Title] -/
def slices_Equal_impl_Title_impl_Title_814 (s1 : List GTitle) (s2 : List GTitle) : Option Bool :=
 if (s1.length : Int) = (s2.length : Int) then
 (onL (loop (S := Int) (B := Unit) (R := Bool) (fun (x1 : Int) =>
 if x1 < (s1.length : Int) then
 ((at? s1 x1).bind fun v1 =>
 (at? s2 x1).bind fun v2 =>
 if (v1.No == v2.No && (v1.Name == v2.Name && (v1.Glass == v2.Glass && (v1.Broken == v2.Broken && true)))) then
 (some (.next (w64 (x1 + 1))))
 else
 some (.ret false))
 else
 some (.brk ())) loopLim 0)
 (fun (_ : Unit) => some true) (fun r => some r))
 else
 some false
/-- loop.example/g01063/impl.SameTitles -/
def impl_SameTitles (a1 : List GTitle) (b1 : List GTitle) : Option Bool :=
 (slices_Equal_impl_Title_impl_Title_814 a1 b1).bind fun r1 =>
 some r1
/-- loop.example/g01063/laws.eqTitle -/
def laws_eqTitle (a1 : GTitle) (b1 : GTitle) : Option Bool :=
 if a1.No = b1.No then
 (if (a1.Name == b1.Name) then
 (if a1.Glass = b1.Glass then
 (if a1.Broken = b1.Broken then
 (some true)
 else
 some false)
 else
 some false)
 else
 some false)
 else
 some false
/-- loop.example/g01063/laws.eqTitleS -/
def laws_eqTitleS (a1 : List GTitle) (b1 : List GTitle) : Option Bool :=
 if (a1.length : Int) = (b1.length : Int) then
 (onL (loop (S := Int) (B := Unit) (R := Bool) (fun (i1 : Int) =>
 if i1 < (a1.length : Int) then
 ((at? a1 i1).bind fun v1 =>
 (at? b1 i1).bind fun v2 =>
 (laws_eqTitle v1 v2).bind fun r1 =>
 if r1 then
 (some (.next (w64 (i1 + 1))))
 else
 some (.ret false))
 else
 some (.brk ())) loopLim 0)
 (fun (_ : Unit) => some true) (fun r => some r))
 else
 some false
/-- loop.example/g01063/laws.szTitle -/
def laws_szTitle (a1 : GTitle) (left1 : Int) : Option Int :=
 if (w64 (left1 - (a1.Name.length : Int))) < 0 then
 (some (-1))
 else
 some (w64 (left1 - (a1.Name.length : Int)))
/-- loop.example/g01063/laws.szTitleS -/
def laws_szTitleS (a1 : List GTitle) (left1 : Int) : Option Int :=
 if (w64 (left1 - (a1.length : Int))) < 0 then
 (some (-1))
 else
 onL (loop (S := (Int × Int)) (B := Int) (R := Int) (fun ((left2, i1) : Int × Int) =>
 if i1 < (a1.length : Int) then
 ((at? a1 i1).bind fun v1 =>
 (laws_szTitle v1 left2).bind fun r1 =>
 if r1 < 0 then
 (some (.ret (-1)))
 else
 some (.next (r1, w64 (i1 + 1))))
 else
 some (.brk left2)) loopLim (w64 (left1 - (a1.length : Int)), 0))
 (fun (left3 : Int) => some left3) (fun r => some r)
/-- loop.example/g01063/laws.toTitle -/
def laws_toTitle (a1 : GTitle) : Option GTitle :=
 some a1
/-- loop.example/g01063/laws.toTitleS -/
def laws_toTitleS (a1 : List GTitle) : Option (List GTitle) :=
 (mk? (a1.length : Int) ((GTitle.mk 0 [] 0 0) : GTitle)).bind fun l1 =>
 onL (loop (S := ((List GTitle) × Int)) (B := (List GTitle)) (R := Empty) (fun ((out1, i1) : (List GTitle) × Int) =>
 if i1 < (a1.length : Int) then
 ((at? a1 i1).bind fun v1 =>
 (laws_toTitle v1).bind fun r1 =>
 (at? out1 i1).bind fun v2 =>
 some (.next (out1.set i1.toNat r1, w64 (i1 + 1))))
 else
 some (.brk out1)) loopLim (l1, 0))
 (fun (out2 : List GTitle) => some out2) Empty.elim
/-- loop.example/g01063/spec.l23One -/
def spec_l23One (x1 : GTitle) : Option Bool :=
 (spec_l00In x1.No 1 9999).bind fun r1 =>
 if r1 then
 ((spec_IsName x1.Name).bind fun r2 =>
 if r2 then
 ((spec_l00In x1.Glass 1 30).bind fun r3 =>
 if r3 then
 ((spec_l00In x1.Broken 0 x1.Glass).bind fun r4 =>
 some r4)
 else
 some false)
 else
 some false)
 else
 some false
/-- loop.example/g01063/spec.l23Ok -/
def spec_l23Ok (list1 : List GTitle) : Option Bool :=
 onL (loop (S := Int) (B := Unit) (R := Bool) (fun (i1 : Int) =>
 if i1 < (list1.length : Int) then
 ((((at? list1 i1).bind fun v1 =>
 (spec_l23One v1).bind fun r1 =>
 if r1 then
 (if i1 > 0 then
 ((at? list1 (w64 (i1 - 1))).bind fun v2 =>
 (at? list1 i1).bind fun v3 =>
 some (decide (v2.No ≥ v3.No)))
 else
 some false)
 else
 some true) : Option Bool).bind fun (x1 : Bool) =>
 if x1 then
 (some (.ret false))
 else
 some (.next (w64 (i1 + 1))))
 else
 some (.brk ())) loopLim 0)
 (fun (_ : Unit) => some (decide ((list1.length : Int) ≤ 20))) (fun r => some r)
/-- loop.example/g01063/spec.FreeNumber -/
def spec_FreeNumber (list1 : List GTitle) : Option (Int × Int) :=
 (spec_l23Ok list1).bind fun r1 =>
 if r1 then
 (onL (loop (S := (Int × Int)) (B := Int) (R := Empty) (fun ((no1, i1) : Int × Int) =>
 if i1 < (list1.length : Int) then
 ((at? list1 i1).bind fun v1 =>
 if v1.No = no1 then
 (some (.next (w64 (no1 + 1), w64 (i1 + 1))))
 else
 some (.next (no1, w64 (i1 + 1))))
 else
 some (.brk no1)) loopLim (1, 0))
 (fun (no2 : Int) => some (no2, 0)) Empty.elim)
 else
 some (0, 1)
/-- loop.example/g01063/laws.FnExactFreeNumber -/
def laws_FnExactFreeNumber (aList1 : List GTitle) : Option Bool :=
 (laws_szTitleS aList1 1048576).bind fun r1 =>
 if r1 < 0 then
 (some true)
 else
 (laws_toTitleS aList1).bind fun r2 =>
 (spec_FreeNumber r2).bind fun r3 =>
 (laws_toTitleS aList1).bind fun r4 =>
 (impl_FreeNumber r4).bind fun r5 =>
 ((if r5.1 = r3.1 then
 (some (!(decide (r5.2 = r3.2))))
 else
 some true) : Option Bool).bind fun (x1 : Bool) =>
 if x1 then
 (some false)
 else
 (laws_toTitleS aList1).bind fun r6 =>
 (laws_eqTitleS r4 r6).bind fun r7 =>
 if r7 then
 (some true)
 else
 some false
/-- loop.example/g01063/spec.SameTitles -/
def spec_SameTitles (a1 : List GTitle) (b1 : List GTitle) : Option Bool :=
 if (a1.length : Int) = (b1.length : Int) then
 (onL (loop (S := Int) (B := Unit) (R := Bool) (fun (i1 : Int) =>
 if i1 < (a1.length : Int) then
 ((at? a1 i1).bind fun v1 =>
 (at? b1 i1).bind fun v2 =>
 if (v1.No == v2.No && (v1.Name == v2.Name && (v1.Glass == v2.Glass && (v1.Broken == v2.Broken && true)))) then
 (some (.next (w64 (i1 + 1))))
 else
 some (.ret false))
 else
 some (.brk ())) loopLim 0)
 (fun (_ : Unit) => some true) (fun r => some r))
 else
 some false
/-- loop.example/g01063/laws.FnExactSameTitles -/
def laws_FnExactSameTitles (aA1 : List GTitle) (aB1 : List GTitle) : Option Bool :=
 (laws_szTitleS aA1 1048576).bind fun r1 =>
 if r1 < 0 then
 (some true)
 else
 (laws_szTitleS aB1 r1).bind fun r2 =>
 if r2 < 0 then
 (some true)
 else
 (laws_toTitleS aA1).bind fun r3 =>
 (laws_toTitleS aB1).bind fun r4 =>
 (spec_SameTitles r3 r4).bind fun r5 =>
 (laws_toTitleS aA1).bind fun r6 =>
 (laws_toTitleS aB1).bind fun r7 =>
 (impl_SameTitles r6 r7).bind fun r8 =>
 if (r8 == r5) then
 ((laws_toTitleS aA1).bind fun r9 =>
 (laws_eqTitleS r6 r9).bind fun r10 =>
 if r10 then
 ((laws_toTitleS aB1).bind fun r11 =>
 (laws_eqTitleS r7 r11).bind fun r12 =>
 if r12 then
 (some true)
 else
 some false)
 else
 some false)
 else
 some false
/-- loop.example/g01063/spec.ValidTitles -/
def spec_ValidTitles (list1 : List GTitle) : Option Bool :=
 (spec_l23Ok list1).bind fun r1 =>
 some r1
/-- loop.example/g01063/laws.FnExactValidTitles -/
def laws_FnExactValidTitles (aList1 : List GTitle) : Option Bool :=
 (laws_szTitleS aList1 1048576).bind fun r1 =>
 if r1 < 0 then
 (some true)
 else
 (laws_toTitleS aList1).bind fun r2 =>
 (spec_ValidTitles r2).bind fun r3 =>
 (laws_toTitleS aList1).bind fun r4 =>
 (impl_ValidTitles r4).bind fun r5 =>
 if (r5 == r3) then
 ((laws_toTitleS aList1).bind fun r6 =>
 (laws_eqTitleS r4 r6).bind fun r7 =>
 if r7 then
 (some true)
 else
 some false)
 else
 some false
end Go.Vs.G
