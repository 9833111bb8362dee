/- The functions that the law reaches, as typed Lean functions, printed by program. No conditions. -/
import Derived.Test.YtomlgmfkjibijaaDoorV5
set_option maxRecDepth 100000
open Go Go.Vs
namespace Go.Vs.G
structure GBlades where
  Many : Int
  Open : Int
  deriving DecidableEq, Inhabited
structure GFraction where
  Num : Int
  Den : Int
  deriving DecidableEq, Inhabited
structure GL00Src where
  code : List Int
  at_ : Int
  seed : Int
  deriving DecidableEq, Inhabited
structure GLamp where
  Heats : Int
  Cools : Int
  Limit : Int
  deriving DecidableEq, Inhabited
def GBlades.ok (x : GBlades) : Prop := (okI .i64) x.Many ∧ (okI .i64) x.Open
def GFraction.ok (x : GFraction) : Prop := (okI .i64) x.Num ∧ (okI .i64) x.Den
def GL00Src.ok (x : GL00Src) : Prop := (okL (okI .u8)) x.code ∧ (okI .i64) x.at_ ∧ (okI .u64) x.seed
def GLamp.ok (x : GLamp) : Prop := (okI .i64) x.Heats ∧ (okI .i64) x.Cools ∧ (okI .i64) x.Limit
/-- loop.example/g01063/impl.ValidBurning -/
def impl_ValidBurning (s1 : List UInt8) : Option Bool :=
 if (s1.length : Int) ≤ 60 then
 ((strings_Trim s1 [48, 49]).bind fun r1 =>
 some (r1 == []))
 else
 some false
/-- loop.example/g01063/impl.burnsOf -/
def impl_burnsOf (s1 : List UInt8) : Option (List (List Int)) :=
 onL (loop (S := ((List (List Int)) × Int)) (B := (List (List Int))) (R := Empty) (fun ((out1, x1) : (List (List Int)) × Int) =>
 if x1 < (s1.length : Int) then
 ((at? s1 x1).bind fun c1 =>
 if (c1.toNat : Int) = 48 then
 (some (.next (out1, w64 (x1 + 1))))
 else
 ((if x1 > 0 then
 ((at? s1 (w64 (x1 - 1))).bind fun c2 =>
 some (decide ((c2.toNat : Int) = 49)))
 else
 some false) : Option Bool).bind fun (x2 : Bool) =>
 if x2 then
 ((at? out1 (w64 ((out1.length : Int) - 1))).bind fun v1 =>
 (at? v1 1).bind fun v2 =>
 (at? v1 1).bind fun v3 =>
 some (.next (out1.set ((w64 ((out1.length : Int) - 1)).toNat) (v1.set ((1 : Int).toNat) (w64 (v2 + 1))), w64 (x1 + 1))))
 else
 (app? out1 ([[x1, 1]] : List (List Int))).bind fun l1 =>
 some (.next (l1, w64 (x1 + 1))))
 else
 some (.brk out1)) loopLim ([], 0))
 (fun (out2 : List (List Int)) => some out2) Empty.elim
/-- loop.example/g01063/impl.BurnsOf -/
def impl_BurnsOf (s1 : List UInt8) : Option ((List (List Int)) × Int) :=
 (impl_ValidBurning s1).bind fun r1 =>
 if r1 then
 ((impl_burnsOf s1).bind fun r2 =>
 some (r2, 0))
 else
 some ([], 1)
/-- loop.example/g01063/impl.within -/
def impl_within (n1 : Int) (low1 : Int) (high1 : Int) : Option Bool :=
 if n1 ≥ low1 then
 (some (decide (n1 ≤ high1)))
 else
 some false
/-- loop.example/g01063/impl.FuelFor -/
def impl_FuelFor (s1 : List UInt8) (each1 : Int) (start1 : Int) : Option (Int × Int) :=
 (impl_ValidBurning s1).bind fun r1 =>
 if r1 then
 ((((impl_within each1 0 1000).bind fun r2 =>
 if r2 then
 ((impl_within start1 0 1000).bind fun r3 =>
 some (!r3))
 else
 some true) : Option Bool).bind fun (x1 : Bool) =>
 if x1 then
 (some (0, 2))
 else
 (strings_Count s1 [49]).bind fun r4 =>
 (impl_burnsOf s1).bind fun r5 =>
 some (w64 ((w64 (each1 * r4)) + (w64 (start1 * (r5.length : Int)))), 0))
 else
 some (0, 1)
/-- loop.example/g01063/impl.ValidLamp -/
def impl_ValidLamp (x1 : GLamp) : Option Bool :=
 (impl_within x1.Heats 1 20).bind fun r1 =>
 if r1 then
 ((impl_within x1.Cools 1 20).bind fun r2 =>
 if r2 then
 ((impl_within x1.Limit 1 100).bind fun r3 =>
 some r3)
 else
 some false)
 else
 some false
/-- loop.example/g01063/impl.LongestBurn -/
def impl_LongestBurn (x1 : GLamp) : Option (Int × Int) :=
 (impl_ValidLamp x1).bind fun r1 =>
 if r1 then
 ((div? .i64 x1.Limit x1.Heats).bind fun q1 =>
 some (q1, 0))
 else
 some (0, 1)
/-- loop.example/g01063/impl.RestAfter -/
def impl_RestAfter (x1 : GLamp) (burn1 : Int) : Option (Int × Int) :=
 (impl_ValidLamp x1).bind fun r1 =>
 if r1 then
 ((impl_within burn1 0 100).bind fun r2 =>
 if r2 then
 ((div? .i64 x1.Limit x1.Heats).bind fun q1 =>
 if burn1 > q1 then
 (some (0, 6))
 else
 (div? .i64 (w64 ((w64 ((w64 (burn1 * x1.Heats)) + x1.Cools)) - 1)) x1.Cools).bind fun q2 =>
 some (q2, 0))
 else
 some (0, 2))
 else
 some (0, 1)
/-- loop.example/g01063/laws.a2At -/
def laws_a2At (code1 : List Int) (at_1 : Int) (n1 : Int) : Option Int :=
 ((if at_1 ≥ (code1.length : Int) then
 (some true)
 else
 some (decide (n1 < 1))) : Option Bool).bind fun (x1 : Bool) =>
 if x1 then
 (some 0)
 else
 (at? code1 at_1).bind fun v1 =>
 (mod? (w64 (v1)) n1).bind fun q1 =>
 some q1
/-- loop.example/g01063/laws.a2Long -/
def laws_a2Long (code1 : List Int) (more1 : List Int) : Option Bool :=
 if (code1.length : Int) > 3000 then
 (some true)
 else
 some (decide ((more1.length : Int) > 3000))
/-- loop.example/g01063/laws.a2Ones -/
def laws_a2Ones (s1 : List UInt8) : Option Int :=
 onL (loop (S := (Int × Int)) (B := Int) (R := Empty) (fun ((n1, i1) : Int × Int) =>
 if i1 < (s1.length : Int) then
 ((at? s1 i1).bind fun c1 =>
 if (c1.toNat : Int) = 49 then
 (some (.next (w64 (n1 + 1), w64 (i1 + 1))))
 else
 some (.next (n1, w64 (i1 + 1))))
 else
 some (.brk n1)) loopLim (0, 0))
 (fun (n2 : Int) => some n2) Empty.elim
/-- (*loop.example/g01063/spec.l00Src).next -/
def spec_l00Src_next (s1 : GL00Src) : Option (Int × GL00Src) :=
 ((if s1.at_ < (s1.code.length : Int) then
 ((at? s1.code s1.at_).bind fun v1 =>
 some (w64 (v1)))
 else
 some 0) : Option Int).bind fun (b1 : Int) =>
 if (w64 (s1.at_ + 1)) ≤ (s1.code.length : Int) then
 (some (b1, (GL00Src.mk s1.code (w64 (s1.at_ + 1)) (IntKind.wrap .u64 ((IntKind.wrap .u64 ((IntKind.wrap .u64 (s1.seed * 6364136223846793005)) + (IntKind.wrap .u64 (b1)))) + 1442695040888963407)))))
 else
 (shr? .u64 (IntKind.wrap .u64 ((IntKind.wrap .u64 ((IntKind.wrap .u64 (s1.seed * 6364136223846793005)) + (IntKind.wrap .u64 (b1)))) + 1442695040888963407)) 40).bind fun q1 =>
 some (w64 (bit_and .u64 q1 255), (GL00Src.mk s1.code (w64 (s1.at_ + 1)) (IntKind.wrap .u64 ((IntKind.wrap .u64 ((IntKind.wrap .u64 (s1.seed * 6364136223846793005)) + (IntKind.wrap .u64 (b1)))) + 1442695040888963407))))
/-- (*loop.example/g01063/spec.l00Src).pick -/
def spec_l00Src_pick (s1 : GL00Src) (n1 : Int) : Option (Int × GL00Src) :=
 if n1 ≤ 1 then
 (some (0, s1))
 else
 (spec_l00Src_next s1).bind fun r1 =>
 if n1 > 200 then
 ((spec_l00Src_next r1.2).bind fun r2 =>
 (mod? (w64 ((w64 (r1.1 * 256)) + r2.1)) n1).bind fun q1 =>
 some (q1, r2.2))
 else
 (mod? r1.1 n1).bind fun q2 =>
 some (q2, r1.2)
/-- loop.example/g01063/spec.l00From -/
def spec_l00From (code1 : List Int) : Option GL00Src :=
 some (GL00Src.mk code1 0 0)
/-- loop.example/g01063/spec.A2Burning -/
def spec_A2Burning (code1 : List Int) (ticks1 : Int) : Option (List UInt8) :=
 (spec_l00From code1).bind fun r1 =>
 onL (loop (S := (GL00Src × (List Int) × Int)) (B := (List Int)) (R := Empty) (fun ((s1, out1, k1) : GL00Src × (List Int) × Int) =>
 if k1 > 0 then
 ((spec_l00Src_pick s1 4).bind fun r2 =>
 (at? ([48, 49, 49, 48] : List UInt8) r2.1).bind fun c1 =>
 (app? out1 ([(c1.toNat : Int)] : List Int)).bind fun l1 =>
 some (.next (r2.2, l1, w64 (k1 - 1))))
 else
 some (.brk out1)) loopLim (r1, [], ticks1))
 (fun (out2 : List Int) => some (b2s out2)) Empty.elim
/-- loop.example/g01063/spec.l21Draw -/
def spec_l21Draw (s1 : GL00Src) : Option (GLamp × GL00Src) :=
 (spec_l00Src_pick s1 5).bind fun r1 =>
 (spec_l00Src_pick r1.2 4).bind fun r2 =>
 (spec_l00Src_pick r2.2 20).bind fun r3 =>
 some ((GLamp.mk (w64 (1 + r1.1)) (w64 (1 + r2.1)) (w64 (1 + r3.1))), r3.2)
/-- loop.example/g01063/spec.A2Lamp -/
def spec_A2Lamp (code1 : List Int) : Option GLamp :=
 (spec_l00From code1).bind fun r1 =>
 (spec_l21Draw r1).bind fun r2 =>
 some r2.1
/-- loop.example/g01063/laws.FnLampRests -/
def laws_FnLampRests (code1 : List Int) (more1 : List Int) : Option Bool :=
 (laws_a2Long code1 more1).bind fun r1 =>
 if r1 then
 (some true)
 else
 (spec_A2Lamp code1).bind fun r2 =>
 (impl_LongestBurn r2).bind fun r3 =>
 ((if r3.2 = 0 then
 (if r3.1 < 0 then
 (some true)
 else
 if r3.1 > 100 then
 (some true)
 else
 if (w64 (r3.1 * r2.Heats)) > r2.Limit then
 (some true)
 else
 some (decide ((w64 ((w64 (r3.1 + 1)) * r2.Heats)) ≤ r2.Limit)))
 else
 some true) : Option Bool).bind fun (x1 : Bool) =>
 if x1 then
 (some false)
 else
 (laws_a2At more1 0 (w64 (r3.1 + 1))).bind fun r4 =>
 (impl_RestAfter r2 r4).bind fun r5 =>
 (impl_RestAfter r2 (w64 (r3.1 + 1))).bind fun r6 =>
 ((if r5.2 = 0 then
 (if r5.1 < 0 then
 (some true)
 else
 if (w64 (r5.1 * r2.Cools)) < (w64 (r4 * r2.Heats)) then
 (some true)
 else
 if r5.1 > 0 then
 (if (w64 ((w64 (r5.1 - 1)) * r2.Cools)) ≥ (w64 (r4 * r2.Heats)) then
 (some true)
 else
 if r3.1 < 100 then
 (some (!(decide (r6.2 = 6))))
 else
 some false)
 else
 if r3.1 < 100 then
 (some (!(decide (r6.2 = 6))))
 else
 some false)
 else
 some true) : Option Bool).bind fun (x2 : Bool) =>
 if x2 then
 (some false)
 else
 (laws_a2At more1 1 24).bind fun r7 =>
 (spec_A2Burning more1 r7).bind fun r8 =>
 (impl_BurnsOf r8).bind fun r9 =>
 (laws_a2At more1 2 20).bind fun r10 =>
 (laws_a2At more1 3 30).bind fun r11 =>
 (impl_FuelFor r8 r10 r11).bind fun r12 =>
 ((if r9.2 = 0 then
 (some (!(decide (r12.2 = 0))))
 else
 some true) : Option Bool).bind fun (x3 : Bool) =>
 if x3 then
 (some false)
 else
 (mk? (r8.length : Int) (0 : Int)).bind fun l1 =>
 onL (loop (S := ((List Int) × Int)) (B := (List Int)) (R := Empty) (fun ((marks1, i1) : (List Int) × Int) =>
 if i1 < (marks1.length : Int) then
 ((at? marks1 i1).bind fun v1 =>
 some (.next (marks1.set i1.toNat 48, w64 (i1 + 1))))
 else
 some (.brk marks1)) loopLim (l1, 0))
 (fun (marks2 : List Int) => onL (loop (S := ((List Int) × Int × Int)) (B := (List Int)) (R := Bool) (fun ((marks3, last1, i2) : (List Int) × Int × Int) =>
 if i2 < (r9.1.length : Int) then
 ((((at? r9.1 i2).bind fun v2 =>
 if (v2.length : Int) = 2 then
 ((at? r9.1 i2).bind fun v3 =>
 (at? v3 0).bind fun v4 =>
 if v4 ≤ last1 then
 (some true)
 else
 (at? r9.1 i2).bind fun v5 =>
 (at? v5 1).bind fun v6 =>
 if v6 < 1 then
 (some true)
 else
 (at? r9.1 i2).bind fun v7 =>
 (at? v7 1).bind fun v8 =>
 if v8 > (r8.length : Int) then
 (some true)
 else
 (at? r9.1 i2).bind fun v9 =>
 (at? v9 0).bind fun v10 =>
 (at? r9.1 i2).bind fun v11 =>
 (at? v11 1).bind fun v12 =>
 some (decide ((w64 (v10 + v12)) > (r8.length : Int))))
 else
 some true) : Option Bool).bind fun (x4 : Bool) =>
 if x4 then
 (some (.ret false))
 else
 (at? r9.1 i2).bind fun v13 =>
 (at? v13 0).bind fun v14 =>
 onL (loop (S := ((List Int) × Int)) (B := (List Int)) (R := Empty) (fun ((marks4, k1) : (List Int) × Int) =>
 (at? r9.1 i2).bind fun v15 =>
 (at? v15 0).bind fun v16 =>
 (at? r9.1 i2).bind fun v17 =>
 (at? v17 1).bind fun v18 =>
 if k1 < (w64 (v16 + v18)) then
 ((at? marks4 k1).bind fun v19 =>
 some (.next (marks4.set k1.toNat 49, w64 (k1 + 1))))
 else
 some (.brk marks4)) loopLim (marks3, v14))
 (fun (marks5 : List Int) => (at? r9.1 i2).bind fun v20 =>
 (at? v20 0).bind fun v21 =>
 (at? r9.1 i2).bind fun v22 =>
 (at? v22 1).bind fun v23 =>
 some (.next (marks5, w64 (v21 + v23), w64 (i2 + 1)))) Empty.elim)
 else
 some (.brk marks3)) loopLim (marks2, (-1), 0))
 (fun (marks6 : List Int) => if ((b2s marks6) == r8) then
 ((laws_a2Ones r8).bind fun r13 =>
 some (decide (r12.1 = (w64 ((w64 (r10 * r13)) + (w64 (r11 * (r9.1.length : Int))))))))
 else
 some false) (fun r => some r)) Empty.elim
end Go.Vs.G
