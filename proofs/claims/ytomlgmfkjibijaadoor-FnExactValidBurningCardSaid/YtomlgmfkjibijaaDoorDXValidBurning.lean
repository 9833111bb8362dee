/- The functions that the law reaches, as typed Lean functions, printed by program. No conditions. -/
import Derived.Test.YtomlgmfkjibijaaDoorV5
set_option maxRecDepth 100000
open Go Go.Vs
namespace Go.Vs.G
structure GFraction where
  Num : Int
  Den : Int
  deriving DecidableEq, Inhabited
structure GL00Src where
  code : List Int
  at_ : Int
  seed : Int
  deriving DecidableEq, Inhabited
def GFraction.ok (x : GFraction) : Prop := (okI .i64) x.Num ∧ (okI .i64) x.Den
def GL00Src.ok (x : GL00Src) : Prop := (okL (okI .u8)) x.code ∧ (okI .i64) x.at_ ∧ (okI .u64) x.seed
/-- loop.example/g01063/impl.ValidBurning -/
def impl_ValidBurning (s1 : List UInt8) : Option Bool :=
 if (s1.length : Int) ≤ 60 then
 ((strings_Trim s1 [48, 49]).bind fun r1 =>
 some (r1 == []))
 else
 some false
/-- loop.example/g01063/spec.l21Burning -/
def spec_l21Burning (s1 : List UInt8) : Option Bool :=
 onL (loop (S := Int) (B := Unit) (R := Bool) (fun (i1 : Int) =>
 if i1 < (s1.length : Int) then
 ((((at? s1 i1).bind fun c1 =>
 if (c1.toNat : Int) = 48 then
 (some false)
 else
 (at? s1 i1).bind fun c2 =>
 some (!(decide ((c2.toNat : Int) = 49)))) : Option Bool).bind fun (x1 : Bool) =>
 if x1 then
 (some (.ret false))
 else
 some (.next (w64 (i1 + 1))))
 else
 some (.brk ())) loopLim 0)
 (fun (_ : Unit) => some (decide ((s1.length : Int) ≤ 60))) (fun r => some r)
/-- loop.example/g01063/spec.ValidBurning -/
def spec_ValidBurning (s1 : List UInt8) : Option Bool :=
 (spec_l21Burning s1).bind fun r1 =>
 some r1
/-- loop.example/g01063/laws.FnExactValidBurning -/
def laws_FnExactValidBurning (aS1 : List UInt8) : Option Bool :=
 if (aS1.length : Int) > 1048576 then
 (some true)
 else
 (spec_ValidBurning aS1).bind fun r1 =>
 (impl_ValidBurning aS1).bind fun r2 =>
 if (r2 == r1) then
 (some true)
 else
 some false
end Go.Vs.G
