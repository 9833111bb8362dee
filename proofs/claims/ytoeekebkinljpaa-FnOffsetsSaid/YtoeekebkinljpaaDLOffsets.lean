/- The functions that the law reaches, as typed Lean functions, printed by program. No conditions. -/
import Derived.Test.YtoeekebkinljpaaV5
set_option maxRecDepth 100000
open Go Go.Vs
namespace Go.Vs.G
structure GBlades where
  Many : Int
  Open : Int
  deriving DecidableEq, Inhabited
structure GL00Src where
  code : List Int
  at_ : Int
  seed : Int
  deriving DecidableEq, Inhabited
def GBlades.ok (x : GBlades) : Prop := (okI .i64) x.Many ∧ (okI .i64) x.Open
def GL00Src.ok (x : GL00Src) : Prop := (okL (okI .u8)) x.code ∧ (okI .i64) x.at_ ∧ (okI .u64) x.seed
/-- loop.example/g01063/impl.within -/
def impl_within (n1 : Int) (low1 : Int) (high1 : Int) : Option Bool :=
 if n1 ≥ low1 then
 (some (decide (n1 ≤ high1)))
 else
 some false
/-- loop.example/g01063/impl.ValidBlades -/
def impl_ValidBlades (b1 : GBlades) : Option Bool :=
 (impl_within b1.Many 1 12).bind fun r1 =>
 if r1 then
 ((mod? 1000 b1.Many).bind fun q1 =>
 if q1 = 0 then
 ((impl_within b1.Open 1 999).bind fun r2 =>
 if r2 then
 ((mod? b1.Open b1.Many).bind fun q2 =>
 some (decide (q2 = 0)))
 else
 some false)
 else
 some false)
 else
 some false
/-- (loop.example/g01063/impl.Blades).isOpen -/
def impl_Blades_isOpen (b1 : GBlades) (part1 : Int) : Option Bool :=
 (div? .i64 1000 b1.Many).bind fun q1 =>
 (mod? part1 q1).bind fun q2 =>
 (div? .i64 b1.Open b1.Many).bind fun q3 =>
 some (decide (q2 < q3))
/-- loop.example/g01063/impl.bothOpen -/
def impl_bothOpen (a1 : GBlades) (b1 : GBlades) (by_1 : Int) : Option Int :=
 onL (loop (S := (Int × Int)) (B := Int) (R := Empty) (fun ((count1, x1) : Int × Int) =>
 if x1 < 1000 then
 ((((impl_Blades_isOpen a1 x1).bind fun r1 =>
 if r1 then
 ((impl_Blades_isOpen b1 ((w64 (x1 + by_1)).tmod 1000)).bind fun r2 =>
 some r2)
 else
 some false) : Option Bool).bind fun (x2 : Bool) =>
 if x2 then
 (some (.next (w64 (count1 + 1), w64 (x1 + 1))))
 else
 some (.next (count1, w64 (x1 + 1))))
 else
 some (.brk count1)) loopLim (0, 0))
 (fun (count2 : Int) => some count2) Empty.elim
/-- loop.example/g01063/impl.BestOffset -/
def impl_BestOffset (a1 : GBlades) (b1 : GBlades) : Option (Int × Int × Int) :=
 (((impl_ValidBlades a1).bind fun r1 =>
 if r1 then
 ((impl_ValidBlades b1).bind fun r2 =>
 some (!r2))
 else
 some true) : Option Bool).bind fun (x1 : Bool) =>
 if x1 then
 (some (0, 0, 1))
 else
 onL (loop (S := (Int × Int × Int)) (B := (Int × Int)) (R := Empty) (fun ((best1, most1, x2) : Int × Int × Int) =>
 if x2 < 1000 then
 ((impl_bothOpen a1 b1 x2).bind fun r3 =>
 if r3 > most1 then
 (some (.next (x2, r3, w64 (x2 + 1))))
 else
 some (.next (best1, most1, w64 (x2 + 1))))
 else
 some (.brk (best1, most1))) loopLim (0, (-1), 0))
 (fun ((best2, most2) : Int × Int) => some (best2, most2, 0)) Empty.elim
/-- loop.example/g01063/impl.TwoWheels -/
def impl_TwoWheels (a1 : GBlades) (b1 : GBlades) (by_1 : Int) : Option (Int × Int) :=
 (((impl_ValidBlades a1).bind fun r1 =>
 if r1 then
 ((impl_ValidBlades b1).bind fun r2 =>
 some (!r2))
 else
 some true) : Option Bool).bind fun (x1 : Bool) =>
 if x1 then
 (some (0, 1))
 else
 (impl_within by_1 0 999).bind fun r3 =>
 if r3 then
 ((impl_bothOpen a1 b1 by_1).bind fun r4 =>
 some (r4, 0))
 else
 some (0, 2)
/-- loop.example/g01063/laws.f6big -/
def laws_f6big (code1 : List Int) : Option Bool :=
 some (decide ((code1.length : Int) > 4096))
/-- loop.example/g01063/spec.l09Open -/
def spec_l09Open (b1 : GBlades) (part1 : Int) : Option Bool :=
 (div? .i64 1000 b1.Many).bind fun q1 =>
 (mod? part1 q1).bind fun q2 =>
 (div? .i64 b1.Open b1.Many).bind fun q3 =>
 some (decide (q2 < q3))
/-- loop.example/g01063/spec.l09Both -/
def spec_l09Both (a1 : GBlades) (b1 : GBlades) (by_1 : Int) : Option Int :=
 onL (loop (S := (Int × Int)) (B := Int) (R := Empty) (fun ((n1, part1) : Int × Int) =>
 if part1 < 1000 then
 ((((spec_l09Open a1 part1).bind fun r1 =>
 if r1 then
 ((spec_l09Open b1 (w64 (part1 + by_1))).bind fun r2 =>
 some r2)
 else
 some false) : Option Bool).bind fun (x1 : Bool) =>
 if x1 then
 (some (.next (w64 (n1 + 1), w64 (part1 + 1))))
 else
 some (.next (n1, w64 (part1 + 1))))
 else
 some (.brk n1)) loopLim (0, 0))
 (fun (n2 : Int) => some n2) Empty.elim
/-- loop.example/g01063/spec.l00In -/
def spec_l00In (n1 : Int) (low1 : Int) (high1 : Int) : Option Bool :=
 if n1 ≥ low1 then
 (some (decide (n1 ≤ high1)))
 else
 some false
/-- loop.example/g01063/spec.l09Ok -/
def spec_l09Ok (b1 : GBlades) : Option Bool :=
 (spec_l00In b1.Many 1 12).bind fun r1 =>
 if r1 then
 ((spec_l00In b1.Open 1 999).bind fun r2 =>
 if r2 then
 ((mod? b1.Open b1.Many).bind fun q1 =>
 if q1 = 0 then
 ((mod? 1000 b1.Many).bind fun q2 =>
 some (decide (q2 = 0)))
 else
 some false)
 else
 some false)
 else
 some false
/-- loop.example/g01063/spec.BestOffset -/
def spec_BestOffset (a1 : GBlades) (b1 : GBlades) : Option (Int × Int × Int) :=
 (((spec_l09Ok a1).bind fun r1 =>
 if r1 then
 ((spec_l09Ok b1).bind fun r2 =>
 some (!r2))
 else
 some true) : Option Bool).bind fun (x1 : Bool) =>
 if x1 then
 (some (0, 0, 1))
 else
 onL (loop (S := (Int × Int × Int)) (B := (Int × Int)) (R := Empty) (fun ((best1, most1, by_1) : Int × Int × Int) =>
 if by_1 < 1000 then
 ((spec_l09Both a1 b1 by_1).bind fun r3 =>
 if r3 > most1 then
 (some (.next (by_1, r3, w64 (by_1 + 1))))
 else
 some (.next (best1, most1, w64 (by_1 + 1))))
 else
 some (.brk (best1, most1))) loopLim (0, (-1), 0))
 (fun ((best2, most2) : Int × Int) => some (best2, most2, 0)) Empty.elim
/-- loop.example/g01063/spec.l00From -/
def spec_l00From (code1 : List Int) : Option GL00Src :=
 some (GL00Src.mk code1 0 0)
/-- (*loop.example/g01063/spec.l00Src).next -/
def spec_l00Src_next (s1 : GL00Src) : Option (Int × GL00Src) :=
 ((if s1.at_ < (s1.code.length : Int) then
 ((at? s1.code s1.at_).bind fun v1 =>
 some (w64 (v1)))
 else
 some 0) : Option Int).bind fun (b1 : Int) =>
 if (w64 (s1.at_ + 1)) ≤ (s1.code.length : Int) then
 (some (b1, (GL00Src.mk s1.code (w64 (s1.at_ + 1)) (IntKind.wrap .u64 ((IntKind.wrap .u64 ((IntKind.wrap .u64 (s1.seed * 6364136223846793005)) + (IntKind.wrap .u64 (b1)))) + 1442695040888963407)))))
 else
 (shr? .u64 (IntKind.wrap .u64 ((IntKind.wrap .u64 ((IntKind.wrap .u64 (s1.seed * 6364136223846793005)) + (IntKind.wrap .u64 (b1)))) + 1442695040888963407)) 40).bind fun q1 =>
 some (w64 (bit_and .u64 q1 255), (GL00Src.mk s1.code (w64 (s1.at_ + 1)) (IntKind.wrap .u64 ((IntKind.wrap .u64 ((IntKind.wrap .u64 (s1.seed * 6364136223846793005)) + (IntKind.wrap .u64 (b1)))) + 1442695040888963407))))
/-- (*loop.example/g01063/spec.l00Src).pick -/
def spec_l00Src_pick (s1 : GL00Src) (n1 : Int) : Option (Int × GL00Src) :=
 if n1 ≤ 1 then
 (some (0, s1))
 else
 (spec_l00Src_next s1).bind fun r1 =>
 if n1 > 200 then
 ((spec_l00Src_next r1.2).bind fun r2 =>
 (mod? (w64 ((w64 (r1.1 * 256)) + r2.1)) n1).bind fun q1 =>
 some (q1, r2.2))
 else
 (mod? r1.1 n1).bind fun q2 =>
 some (q2, r1.2)
/-- (*loop.example/g01063/spec.l00Src).among -/
def spec_l00Src_among (s1 : GL00Src) (list1 : List Int) : Option (Int × GL00Src) :=
 (spec_l00Src_pick s1 (list1.length : Int)).bind fun r1 =>
 (at? list1 r1.1).bind fun v1 =>
 some (v1, r1.2)
/-- loop.example/g01063/spec.l09Draw -/
def spec_l09Draw (s1 : GL00Src) : Option (GBlades × GL00Src) :=
 (spec_l00Src_among s1 [1, 2, 2, 4, 5, 8, 10]).bind fun r1 =>
 (div? .i64 1000 r1.1).bind fun q1 =>
 (spec_l00Src_pick r1.2 (w64 (q1 - 1))).bind fun r2 =>
 (spec_l00Src_pick r2.2 16).bind fun r3 =>
 if r3.1 = 0 then
 ((spec_l00Src_among r3.2 [(-1), 0, 3, 12, 13, (-9223372036854775808)]).bind fun r4 =>
 some ((GBlades.mk r4.1 (w64 (r1.1 * (w64 (1 + r2.1))))), r4.2))
 else
 if r3.1 = 1 then
 ((spec_l00Src_among r3.2 [(-1), 0, 1, 7, 999, 1000]).bind fun r5 =>
 some ((GBlades.mk r1.1 r5.1), r5.2))
 else
 some ((GBlades.mk r1.1 (w64 (r1.1 * (w64 (1 + r2.1))))), r3.2)
/-- loop.example/g01063/spec.DrawBestOffset -/
def spec_DrawBestOffset (code1 : List Int) : Option (GBlades × GBlades) :=
 (spec_l00From code1).bind fun r1 =>
 (spec_l09Draw r1).bind fun r2 =>
 (spec_l09Draw r2.2).bind fun r3 =>
 some (r2.1, r3.1)
/-- loop.example/g01063/laws.FnOffsets -/
def laws_FnOffsets (code1 : List Int) : Option Bool :=
 (laws_f6big code1).bind fun r1 =>
 if r1 then
 (some true)
 else
 (spec_DrawBestOffset code1).bind fun r2 =>
 (impl_BestOffset r2.1 r2.2).bind fun r3 =>
 (spec_BestOffset r2.1 r2.2).bind fun r4 =>
 ((if r3.2.2 = r4.2.2 then
 (if r3.1 = r4.1 then
 (some (!(decide (r3.2.1 = r4.2.1))))
 else
 some true)
 else
 some true) : Option Bool).bind fun (x1 : Bool) =>
 if x1 then
 (some false)
 else
 if r3.2.2 = 0 then
 ((impl_TwoWheels r2.1 r2.2 r4.1).bind fun r5 =>
 (impl_TwoWheels r2.1 r2.2 0).bind fun r6 =>
 if r5.2 = 0 then
 (if r5.1 = r4.2.1 then
 (if r6.2 = 0 then
 (some (decide (r6.1 ≤ r4.2.1)))
 else
 some false)
 else
 some false)
 else
 some false)
 else
 some true
/-- loop.example/g01063/laws.a2At -/
def laws_a2At (code1 : List Int) (at_1 : Int) (n1 : Int) : Option Int :=
 ((if at_1 ≥ (code1.length : Int) then
 (some true)
 else
 some (decide (n1 < 1))) : Option Bool).bind fun (x1 : Bool) =>
 if x1 then
 (some 0)
 else
 (at? code1 at_1).bind fun v1 =>
 (mod? (w64 (v1)) n1).bind fun q1 =>
 some q1
/-- loop.example/g01063/laws.a2Long -/
def laws_a2Long (code1 : List Int) (more1 : List Int) : Option Bool :=
 if (code1.length : Int) > 3000 then
 (some true)
 else
 some (decide ((more1.length : Int) > 3000))
end Go.Vs.G
