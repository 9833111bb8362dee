/- The functions that the law reaches, as typed Lean functions, printed by program. No conditions. -/
import Derived.Test.YtklbdahpecflmaaV5
set_option maxRecDepth 100000
open Go Go.Vs
namespace Go.Vs.G
structure GLamp where
  Heats : Int
  Cools : Int
  Limit : Int
  deriving DecidableEq, Inhabited
def GLamp.ok (x : GLamp) : Prop := (okI .i64) x.Heats ∧ (okI .i64) x.Cools ∧ (okI .i64) x.Limit
/-- (loop.example/g01063/impl.Lamp).next -/
def impl_Lamp_next (x1 : GLamp) (heat1 : Int) (burns1 : Bool) : Option Int :=
 if burns1 then
 (some (w64 (heat1 + x1.Heats)))
 else
 some (imax (w64 (heat1 - x1.Cools)) 0)
/-- loop.example/g01063/impl.bestBurning -/
def impl_bestBurning (x1 : GLamp) (ticks1 : Int) : Option ((List UInt8) × Int) :=
 (mk? (w64 (ticks1 + 1)) ([] : List Int)).bind fun l1 =>
 (mk? (w64 (x1.Limit + 1)) (0 : Int)).bind fun l2 =>
 (at? l1 0).bind fun v1 =>
 onL (loop (S := ((List (List Int)) × Int)) (B := (List (List Int))) (R := Empty) (fun ((most1, left1) : (List (List Int)) × Int) =>
 if left1 ≤ ticks1 then
 (onL (loop (S := ((List (List Int)) × Int)) (B := (List (List Int))) (R := Empty) (fun ((most2, heat1) : (List (List Int)) × Int) =>
 if heat1 ≤ x1.Limit then
 ((at? most2 (w64 (left1 - 1))).bind fun v2 =>
 (impl_Lamp_next x1 heat1 false).bind fun r1 =>
 (at? v2 r1).bind fun v3 =>
 (impl_Lamp_next x1 heat1 true).bind fun r2 =>
 ((if r2 ≤ x1.Limit then
 ((at? most2 (w64 (left1 - 1))).bind fun v4 =>
 (at? v4 r2).bind fun v5 =>
 some (imax v3 (w64 (v5 + 1))))
 else
 some v3) : Option Int).bind fun (own1 : Int) =>
 (at? most2 left1).bind fun v6 =>
 (app? v6 ([own1] : List Int)).bind fun l3 =>
 (at? most2 left1).bind fun v7 =>
 some (.next (most2.set left1.toNat l3, w64 (heat1 + 1))))
 else
 some (.brk most2)) loopLim (most1, 0))
 (fun (most3 : List (List Int)) => some (.next (most3, w64 (left1 + 1)))) Empty.elim)
 else
 some (.brk most1)) loopLim (l1.set ((0 : Int).toNat) l2, 1))
 (fun (most4 : List (List Int)) => onL (loop (S := ((List Int) × Int × Int)) (B := (List Int)) (R := Empty) (fun ((out1, heat2, left2) : (List Int) × Int × Int) =>
 if left2 > 0 then
 ((impl_Lamp_next x1 heat2 true).bind fun r3 =>
 ((if r3 ≤ x1.Limit then
 ((at? most4 (w64 (left2 - 1))).bind fun v8 =>
 (at? v8 r3).bind fun v9 =>
 (at? most4 left2).bind fun v10 =>
 (at? v10 heat2).bind fun v11 =>
 some (decide ((w64 (v9 + 1)) = v11)))
 else
 some false) : Option Bool).bind fun (x2 : Bool) =>
 if x2 then
 ((app? out1 ([49] : List Int)).bind fun l4 =>
 some (.next (l4, r3, w64 (left2 - 1))))
 else
 (app? out1 ([48] : List Int)).bind fun l5 =>
 (impl_Lamp_next x1 heat2 false).bind fun r4 =>
 some (.next (l5, r4, w64 (left2 - 1))))
 else
 some (.brk out1)) loopLim ([], 0, ticks1))
 (fun (out2 : List Int) => (at? most4 ticks1).bind fun v12 =>
 (at? v12 0).bind fun v13 =>
 some (b2s out2, v13)) Empty.elim) Empty.elim
/-- loop.example/g01063/impl.within -/
def impl_within (n1 : Int) (low1 : Int) (high1 : Int) : Option Bool :=
 if n1 ≥ low1 then
 (some (decide (n1 ≤ high1)))
 else
 some false
/-- loop.example/g01063/impl.ValidLamp -/
def impl_ValidLamp (x1 : GLamp) : Option Bool :=
 (impl_within x1.Heats 1 20).bind fun r1 =>
 if r1 then
 ((impl_within x1.Cools 1 20).bind fun r2 =>
 if r2 then
 ((impl_within x1.Limit 1 100).bind fun r3 =>
 some r3)
 else
 some false)
 else
 some false
/-- loop.example/g01063/impl.lampCode -/
def impl_lampCode (x1 : GLamp) (ticks1 : Int) : Option Int :=
 (impl_ValidLamp x1).bind fun r1 =>
 if r1 then
 ((impl_within ticks1 0 60).bind fun r2 =>
 if r2 then
 (some 0)
 else
 some 2)
 else
 some 1
/-- loop.example/g01063/impl.BestBurning -/
def impl_BestBurning (x1 : GLamp) (ticks1 : Int) : Option ((List UInt8) × Int) :=
 (impl_lampCode x1 ticks1).bind fun r1 =>
 if r1 = 0 then
 ((impl_bestBurning x1 ticks1).bind fun r2 =>
 some (r2.1, 0))
 else
 some ([], r1)
/-- loop.example/g01063/laws.toLamp -/
def laws_toLamp (a1 : GLamp) : Option GLamp :=
 some a1
/-- loop.example/g01063/spec.l00Max -/
def spec_l00Max (a1 : Int) (b1 : Int) : Option Int :=
 if a1 > b1 then
 (some a1)
 else
 some b1
/-- loop.example/g01063/spec.l21Next -/
def spec_l21Next (x1 : GLamp) (heat1 : Int) (burns1 : Bool) : Option Int :=
 if burns1 then
 (some (w64 (heat1 + x1.Heats)))
 else
 (spec_l00Max 0 (w64 (heat1 - x1.Cools))).bind fun r1 =>
 some r1
/-- loop.example/g01063/spec.l21Table -/
def spec_l21Table (x1 : GLamp) (ticks1 : Int) : Option (List (List Int)) :=
 (mk? (w64 (x1.Limit + 1)) (0 : Int)).bind fun l1 =>
 onL (loop (S := ((List (List Int)) × Int)) (B := (List (List Int))) (R := Empty) (fun ((out1, k1) : (List (List Int)) × Int) =>
 if k1 ≤ ticks1 then
 (onL (loop (S := ((List Int) × Int)) (B := (List Int)) (R := Empty) (fun ((row1, heat1) : (List Int) × Int) =>
 if heat1 ≤ x1.Limit then
 ((at? out1 (w64 (k1 - 1))).bind fun v1 =>
 (spec_l21Next x1 heat1 false).bind fun r1 =>
 (at? v1 r1).bind fun v2 =>
 ((if (w64 (heat1 + x1.Heats)) ≤ x1.Limit then
 ((at? out1 (w64 (k1 - 1))).bind fun v3 =>
 (at? v3 (w64 (heat1 + x1.Heats))).bind fun v4 =>
 (spec_l00Max v2 (w64 (1 + v4))).bind fun r2 =>
 some r2)
 else
 some v2) : Option Int).bind fun (best1 : Int) =>
 (app? row1 ([best1] : List Int)).bind fun l2 =>
 some (.next (l2, w64 (heat1 + 1))))
 else
 some (.brk row1)) loopLim ([], 0))
 (fun (row2 : List Int) => (app? out1 ([row2] : List (List Int))).bind fun l3 =>
 some (.next (l3, w64 (k1 + 1)))) Empty.elim)
 else
 some (.brk out1)) loopLim ([l1], 1))
 (fun (out2 : List (List Int)) => some out2) Empty.elim
/-- loop.example/g01063/spec.l00In -/
def spec_l00In (n1 : Int) (low1 : Int) (high1 : Int) : Option Bool :=
 if n1 ≥ low1 then
 (some (decide (n1 ≤ high1)))
 else
 some false
/-- loop.example/g01063/spec.l21Ok -/
def spec_l21Ok (x1 : GLamp) : Option Bool :=
 (spec_l00In x1.Heats 1 20).bind fun r1 =>
 if r1 then
 ((spec_l00In x1.Cools 1 20).bind fun r2 =>
 if r2 then
 ((spec_l00In x1.Limit 1 100).bind fun r3 =>
 some r3)
 else
 some false)
 else
 some false
/-- loop.example/g01063/spec.l21Ticks -/
def spec_l21Ticks (x1 : GLamp) (ticks1 : Int) : Option Int :=
 (spec_l21Ok x1).bind fun r1 =>
 if r1 then
 ((spec_l00In ticks1 0 60).bind fun r2 =>
 if r2 then
 (some 0)
 else
 some 2)
 else
 some 1
/-- loop.example/g01063/spec.BestBurning -/
def spec_BestBurning (x1 : GLamp) (ticks1 : Int) : Option ((List UInt8) × Int) :=
 (spec_l21Ticks x1 ticks1).bind fun r1 =>
 if r1 = 0 then
 ((spec_l21Table x1 ticks1).bind fun r2 =>
 onL (loop (S := ((List Int) × Int × Int)) (B := (List Int)) (R := Empty) (fun ((out1, heat1, left1) : (List Int) × Int × Int) =>
 if left1 > 0 then
 (((if (w64 (heat1 + x1.Heats)) ≤ x1.Limit then
 ((at? r2 (w64 (left1 - 1))).bind fun v1 =>
 (at? v1 (w64 (heat1 + x1.Heats))).bind fun v2 =>
 (at? r2 left1).bind fun v3 =>
 (at? v3 heat1).bind fun v4 =>
 some (decide ((w64 (1 + v2)) = v4)))
 else
 some false) : Option Bool).bind fun (x2 : Bool) =>
 if x2 then
 ((app? out1 ([49] : List Int)).bind fun l1 =>
 some (.next (l1, w64 (heat1 + x1.Heats), w64 (left1 - 1))))
 else
 (app? out1 ([48] : List Int)).bind fun l2 =>
 (spec_l21Next x1 heat1 false).bind fun r3 =>
 some (.next (l2, r3, w64 (left1 - 1))))
 else
 some (.brk out1)) loopLim ([], 0, ticks1))
 (fun (out2 : List Int) => some (b2s out2, 0)) Empty.elim)
 else
 some ([], r1)
/-- loop.example/g01063/laws.FnExactBestBurning -/
def laws_FnExactBestBurning (aX1 : GLamp) (aTicks1 : Int) : Option Bool :=
 (laws_toLamp aX1).bind fun r1 =>
 (spec_BestBurning r1 aTicks1).bind fun r2 =>
 (laws_toLamp aX1).bind fun r3 =>
 (impl_BestBurning r3 aTicks1).bind fun r4 =>
 ((if (r4.1 == r2.1) then
 (some (!(decide (r4.2 = r2.2))))
 else
 some true) : Option Bool).bind fun (x1 : Bool) =>
 if x1 then
 (some false)
 else
 some true
/-- loop.example/g01063/impl.MostBurning -/
def impl_MostBurning (x1 : GLamp) (ticks1 : Int) : Option (Int × Int) :=
 (impl_lampCode x1 ticks1).bind fun r1 =>
 if r1 = 0 then
 ((impl_bestBurning x1 ticks1).bind fun r2 =>
 some (r2.2, 0))
 else
 some (0, r1)
/-- loop.example/g01063/spec.MostBurning -/
def spec_MostBurning (x1 : GLamp) (ticks1 : Int) : Option (Int × Int) :=
 (spec_l21Ticks x1 ticks1).bind fun r1 =>
 if r1 = 0 then
 ((spec_l21Table x1 ticks1).bind fun r2 =>
 (at? r2 ticks1).bind fun v1 =>
 (at? v1 0).bind fun v2 =>
 some (v2, 0))
 else
 some (0, r1)
/-- loop.example/g01063/laws.FnExactMostBurning -/
def laws_FnExactMostBurning (aX1 : GLamp) (aTicks1 : Int) : Option Bool :=
 (laws_toLamp aX1).bind fun r1 =>
 (spec_MostBurning r1 aTicks1).bind fun r2 =>
 (laws_toLamp aX1).bind fun r3 =>
 (impl_MostBurning r3 aTicks1).bind fun r4 =>
 ((if r4.1 = r2.1 then
 (some (!(decide (r4.2 = r2.2))))
 else
 some true) : Option Bool).bind fun (x1 : Bool) =>
 if x1 then
 (some false)
 else
 some true
end Go.Vs.G
