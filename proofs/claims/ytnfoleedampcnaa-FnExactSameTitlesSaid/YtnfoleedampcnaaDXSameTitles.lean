/- The functions that the law reaches, as typed Lean functions, printed by program. No conditions. -/
import Derived.Test.YtnfoleedampcnaaV5
set_option maxRecDepth 100000
open Go Go.Vs
namespace Go.Vs.G
structure GTitle where
  No : Int
  Name : List UInt8
  Glass : Int
  Broken : Int
  deriving DecidableEq, Inhabited
def GTitle.enc (x : GTitle) : Tree := .agg [.int .i64 x.No, .str x.Name, .int .i64 x.Glass, .int .i64 x.Broken]
def GTitle.ok (x : GTitle) : Prop := (okI .i64) x.No ∧ okS x.Name ∧ (okI .i64) x.Glass ∧ (okI .i64) x.Broken
/-- slices.Equal[[]loop.example/g01063/impl.Title,loop.example/g01063/impl.Title] -/
def slices_Equal_impl_Title_impl_Title_814 (s1 : List GTitle) (s2 : List GTitle) : Option Bool :=
 if (s1.length : Int) = (s2.length : Int) then
 (onL (loop (S := Int) (B := Unit) (R := Bool) (fun (x1 : Int) =>
 if x1 < (s1.length : Int) then
 ((at? s1 x1).bind fun v1 =>
 (at? s2 x1).bind fun v2 =>
 if (v1.No == v2.No && (v1.Name == v2.Name && (v1.Glass == v2.Glass && (v1.Broken == v2.Broken && true)))) then
 (some (.next (w64 (x1 + 1))))
 else
 some (.ret false))
 else
 some (.brk ())) loopLim 0)
 (fun (_ : Unit) => some true) (fun r => some r))
 else
 some false
/-- loop.example/g01063/impl.SameTitles -/
def impl_SameTitles (a1 : List GTitle) (b1 : List GTitle) : Option Bool :=
 (slices_Equal_impl_Title_impl_Title_814 a1 b1).bind fun r1 =>
 some r1
/-- loop.example/g01063/laws.eqTitle -/
def laws_eqTitle (a1 : GTitle) (b1 : GTitle) : Option Bool :=
 if a1.No = b1.No then
 (if (a1.Name == b1.Name) then
 (if a1.Glass = b1.Glass then
 (if a1.Broken = b1.Broken then
 (some true)
 else
 some false)
 else
 some false)
 else
 some false)
 else
 some false
/-- loop.example/g01063/laws.eqTitleS -/
def laws_eqTitleS (a1 : List GTitle) (b1 : List GTitle) : Option Bool :=
 if (a1.length : Int) = (b1.length : Int) then
 (onL (loop (S := Int) (B := Unit) (R := Bool) (fun (i1 : Int) =>
 if i1 < (a1.length : Int) then
 ((at? a1 i1).bind fun v1 =>
 (at? b1 i1).bind fun v2 =>
 (laws_eqTitle v1 v2).bind fun r1 =>
 if r1 then
 (some (.next (w64 (i1 + 1))))
 else
 some (.ret false))
 else
 some (.brk ())) loopLim 0)
 (fun (_ : Unit) => some true) (fun r => some r))
 else
 some false
/-- loop.example/g01063/laws.szTitle -/
def laws_szTitle (a1 : GTitle) (left1 : Int) : Option Int :=
 if (w64 (left1 - (a1.Name.length : Int))) < 0 then
 (some (-1))
 else
 some (w64 (left1 - (a1.Name.length : Int)))
/-- loop.example/g01063/laws.szTitleS -/
def laws_szTitleS (a1 : List GTitle) (left1 : Int) : Option Int :=
 if (w64 (left1 - (a1.length : Int))) < 0 then
 (some (-1))
 else
 onL (loop (S := (Int × Int)) (B := Int) (R := Int) (fun ((left2, i1) : Int × Int) =>
 if i1 < (a1.length : Int) then
 ((at? a1 i1).bind fun v1 =>
 (laws_szTitle v1 left2).bind fun r1 =>
 if r1 < 0 then
 (some (.ret (-1)))
 else
 some (.next (r1, w64 (i1 + 1))))
 else
 some (.brk left2)) loopLim (w64 (left1 - (a1.length : Int)), 0))
 (fun (left3 : Int) => some left3) (fun r => some r)
/-- loop.example/g01063/laws.toTitle -/
def laws_toTitle (a1 : GTitle) : Option GTitle :=
 some a1
/-- loop.example/g01063/laws.toTitleS -/
def laws_toTitleS (a1 : List GTitle) : Option (List GTitle) :=
 (mk? (a1.length : Int) ((GTitle.mk 0 [] 0 0) : GTitle)).bind fun l1 =>
 onL (loop (S := ((List GTitle) × Int)) (B := (List GTitle)) (R := Empty) (fun ((out1, i1) : (List GTitle) × Int) =>
 if i1 < (a1.length : Int) then
 ((at? a1 i1).bind fun v1 =>
 (laws_toTitle v1).bind fun r1 =>
 (at? out1 i1).bind fun v2 =>
 some (.next (out1.set i1.toNat r1, w64 (i1 + 1))))
 else
 some (.brk out1)) loopLim (l1, 0))
 (fun (out2 : List GTitle) => some out2) Empty.elim
/-- loop.example/g01063/spec.SameTitles -/
def spec_SameTitles (a1 : List GTitle) (b1 : List GTitle) : Option Bool :=
 if (a1.length : Int) = (b1.length : Int) then
 (onL (loop (S := Int) (B := Unit) (R := Bool) (fun (i1 : Int) =>
 if i1 < (a1.length : Int) then
 ((at? a1 i1).bind fun v1 =>
 (at? b1 i1).bind fun v2 =>
 if (v1.No == v2.No && (v1.Name == v2.Name && (v1.Glass == v2.Glass && (v1.Broken == v2.Broken && true)))) then
 (some (.next (w64 (i1 + 1))))
 else
 some (.ret false))
 else
 some (.brk ())) loopLim 0)
 (fun (_ : Unit) => some true) (fun r => some r))
 else
 some false
/-- loop.example/g01063/laws.FnExactSameTitles -/
def laws_FnExactSameTitles (aA1 : List GTitle) (aB1 : List GTitle) : Option Bool :=
 (laws_szTitleS aA1 1048576).bind fun r1 =>
 if r1 < 0 then
 (some true)
 else
 (laws_szTitleS aB1 r1).bind fun r2 =>
 if r2 < 0 then
 (some true)
 else
 (laws_toTitleS aA1).bind fun r3 =>
 (laws_toTitleS aB1).bind fun r4 =>
 (spec_SameTitles r3 r4).bind fun r5 =>
 (laws_toTitleS aA1).bind fun r6 =>
 (laws_toTitleS aB1).bind fun r7 =>
 (impl_SameTitles r6 r7).bind fun r8 =>
 if (r8 == r5) then
 ((laws_toTitleS aA1).bind fun r9 =>
 (laws_eqTitleS r6 r9).bind fun r10 =>
 if r10 then
 ((laws_toTitleS aB1).bind fun r11 =>
 (laws_eqTitleS r7 r11).bind fun r12 =>
 if r12 then
 (some true)
 else
 some false)
 else
 some false)
 else
 some false
end Go.Vs.G
