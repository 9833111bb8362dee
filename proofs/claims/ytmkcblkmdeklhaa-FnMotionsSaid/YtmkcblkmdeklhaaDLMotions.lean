/- The functions that the law reaches, as typed Lean functions, printed by program. No conditions. -/
import Derived.Test.YtmkcblkmdeklhaaV5
set_option maxRecDepth 100000
open Go Go.Vs
namespace Go.Vs.G
structure GL00Src where
  code : List Int
  at_ : Int
  seed : Int
  deriving DecidableEq, Inhabited
def GL00Src.ok (x : GL00Src) : Prop := (okL (okI .u8)) x.code ∧ (okI .i64) x.at_ ∧ (okI .u64) x.seed
/-- loop.example/g01063/impl.isLetters -/
def impl_isLetters (s1 : List UInt8) (most1 : Int) : Option Bool :=
 onL (loop (S := Int) (B := Unit) (R := Bool) (fun (i1 : Int) =>
 if i1 < (s1.length : Int) then
 ((((at? s1 i1).bind fun c1 =>
 if (c1.toNat : Int) < 97 then
 (some true)
 else
 (at? s1 i1).bind fun c2 =>
 some (decide ((c2.toNat : Int) > 122))) : Option Bool).bind fun (x1 : Bool) =>
 if x1 then
 (some (.ret false))
 else
 some (.next (w64 (i1 + 1))))
 else
 some (.brk ())) loopLim 0)
 (fun (_ : Unit) => if (s1.length : Int) ≥ 1 then
 (some (decide ((s1.length : Int) ≤ most1)))
 else
 some false) (fun r => some r)
/-- loop.example/g01063/impl.ValidMotion -/
def impl_ValidMotion (s1 : List UInt8) : Option Bool :=
 (impl_isLetters s1 24).bind fun r1 =>
 some r1
/-- slices.Reverse[[]byte,byte] -/
def slices_Reverse_byte_byte_833 (s1 : List Int) : Option (List Int) :=
 onL (loop (S := ((List Int) × Int × Int)) (B := (List Int)) (R := Empty) (fun ((s2, i1, j1) : (List Int) × Int × Int) =>
 if i1 < j1 then
 ((at? s2 j1).bind fun v1 =>
 (at? s2 i1).bind fun v2 =>
 (at? s2 i1).bind fun v3 =>
 (at? (s2.set i1.toNat v1) j1).bind fun v4 =>
 some (.next ((s2.set i1.toNat v1).set j1.toNat v2, w64 (i1 + 1), w64 (j1 - 1))))
 else
 some (.brk s2)) loopLim (s1, 0, w64 ((s1.length : Int) - 1)))
 (fun (s3 : List Int) => some s3) Empty.elim
/-- loop.example/g01063/impl.reversed -/
def impl_reversed (s1 : List UInt8) : Option (List UInt8) :=
 (s2b? s1).bind fun b1 =>
 (slices_Reverse_byte_byte_833 b1).bind fun r1 =>
 some (b2s r1)
/-- loop.example/g01063/impl.BackMotion -/
def impl_BackMotion (motion1 : List UInt8) : Option ((List UInt8) × Int) :=
 (impl_ValidMotion motion1).bind fun r1 =>
 if r1 then
 ((impl_reversed motion1).bind fun r2 =>
 some (r2, 0))
 else
 some ([], 1)
/-- loop.example/g01063/impl.ChangesIn -/
def impl_ChangesIn (motion1 : List UInt8) : Option (Int × Int) :=
 (impl_ValidMotion motion1).bind fun r1 =>
 if r1 then
 (onL (loop (S := (Int × Int)) (B := Int) (R := Empty) (fun ((count1, x1) : Int × Int) =>
 if x1 < (motion1.length : Int) then
 ((at? motion1 x1).bind fun c1 =>
 (mod? (w64 (x1 + 1)) (motion1.length : Int)).bind fun q1 =>
 (at? motion1 q1).bind fun c2 =>
 if (c1.toNat : Int) = (c2.toNat : Int) then
 (some (.next (count1, w64 (x1 + 1))))
 else
 some (.next (w64 (count1 + 1), w64 (x1 + 1))))
 else
 some (.brk count1)) loopLim (0, 0))
 (fun (count2 : Int) => some (count2, 0)) Empty.elim)
 else
 some (0, 1)
/-- loop.example/g01063/impl.turned -/
def impl_turned (motion1 : List UInt8) (at_1 : Int) : Option (List UInt8) :=
 (sub? motion1 at_1 motion1.length).bind fun s1 =>
 (sub? motion1 0 at_1).bind fun s2 =>
 (app? (s1 : List UInt8) s2).bind fun s3 =>
 some s3
/-- loop.example/g01063/impl.FirstTurn -/
def impl_FirstTurn (motion1 : List UInt8) : Option ((List UInt8) × Int) :=
 (impl_ValidMotion motion1).bind fun r1 =>
 if r1 then
 (onL (loop (S := ((List UInt8) × Nat)) (B := (List UInt8)) (R := Empty) (fun ((out1, p1) : (List UInt8) × Nat) =>
 if p1 < motion1.length then
 ((nxt? motion1 p1).bind fun c1 =>
 (impl_turned motion1 (p1 : Int)).bind fun r2 =>
 some (.next (smin out1 r2, p1 + 1)))
 else
 some (.brk out1)) loopLim (motion1, 0))
 (fun (out2 : List UInt8) => some (out2, 0)) Empty.elim)
 else
 some ([], 1)
/-- loop.example/g01063/impl.sameMotion -/
def impl_sameMotion (a1 : List UInt8) (b1 : List UInt8) : Option Bool :=
 if (a1.length : Int) = (b1.length : Int) then
 (onL (loop (S := Nat) (B := Unit) (R := Bool) (fun (p1 : Nat) =>
 if p1 < a1.length then
 ((nxt? a1 p1).bind fun c1 =>
 (impl_turned a1 (p1 : Int)).bind fun r1 =>
 if (r1 == b1) then
 (some (.ret true))
 else
 some (.next (p1 + 1)))
 else
 some (.brk ())) loopLim 0)
 (fun (_ : Unit) => some false) (fun r => some r))
 else
 some false
/-- loop.example/g01063/impl.LooksBack -/
def impl_LooksBack (motion1 : List UInt8) : Option (Bool × Int) :=
 (impl_ValidMotion motion1).bind fun r1 =>
 if r1 then
 ((impl_reversed motion1).bind fun r2 =>
 (impl_sameMotion motion1 r2).bind fun r3 =>
 some (r3, 0))
 else
 some (false, 1)
/-- loop.example/g01063/impl.PeriodOf -/
def impl_PeriodOf (motion1 : List UInt8) : Option (Int × Int) :=
 (impl_ValidMotion motion1).bind fun r1 =>
 if r1 then
 (onL (loop (S := Int) (B := Int) (R := Empty) (fun (n1 : Int) =>
 (((mod? (motion1.length : Int) n1).bind fun q1 =>
 if q1 = 0 then
 ((mod? n1 (motion1.length : Int)).bind fun q2 =>
 (impl_turned motion1 q2).bind fun r2 =>
 some (!(r2 == motion1)))
 else
 some true) : Option Bool).bind fun (x1 : Bool) =>
 if x1 then
 (some (.next (w64 (n1 + 1))))
 else
 some (.brk n1)) loopLim 1)
 (fun (n2 : Int) => some (n2, 0)) Empty.elim)
 else
 some (0, 1)
/-- loop.example/g01063/impl.SameMotion -/
def impl_SameMotion (a1 : List UInt8) (b1 : List UInt8) : Option (Bool × Int) :=
 (((impl_ValidMotion a1).bind fun r1 =>
 if r1 then
 ((impl_ValidMotion b1).bind fun r2 =>
 some (!r2))
 else
 some true) : Option Bool).bind fun (x1 : Bool) =>
 if x1 then
 (some (false, 1))
 else
 (impl_sameMotion a1 b1).bind fun r3 =>
 some (r3, 0)
/-- loop.example/g01063/laws.a2At -/
def laws_a2At (code1 : List Int) (at_1 : Int) (n1 : Int) : Option Int :=
 ((if at_1 ≥ (code1.length : Int) then
 (some true)
 else
 some (decide (n1 < 1))) : Option Bool).bind fun (x1 : Bool) =>
 if x1 then
 (some 0)
 else
 (at? code1 at_1).bind fun v1 =>
 (mod? (w64 (v1)) n1).bind fun q1 =>
 some q1
/-- loop.example/g01063/laws.a2Long -/
def laws_a2Long (code1 : List Int) (more1 : List Int) : Option Bool :=
 if (code1.length : Int) > 3000 then
 (some true)
 else
 some (decide ((more1.length : Int) > 3000))
/-- loop.example/g01063/spec.l00From -/
def spec_l00From (code1 : List Int) : Option GL00Src :=
 some (GL00Src.mk code1 0 0)
/-- (*loop.example/g01063/spec.l00Src).next -/
def spec_l00Src_next (s1 : GL00Src) : Option (Int × GL00Src) :=
 ((if s1.at_ < (s1.code.length : Int) then
 ((at? s1.code s1.at_).bind fun v1 =>
 some (w64 (v1)))
 else
 some 0) : Option Int).bind fun (b1 : Int) =>
 if (w64 (s1.at_ + 1)) ≤ (s1.code.length : Int) then
 (some (b1, (GL00Src.mk s1.code (w64 (s1.at_ + 1)) (IntKind.wrap .u64 ((IntKind.wrap .u64 ((IntKind.wrap .u64 (s1.seed * 6364136223846793005)) + (IntKind.wrap .u64 (b1)))) + 1442695040888963407)))))
 else
 (shr? .u64 (IntKind.wrap .u64 ((IntKind.wrap .u64 ((IntKind.wrap .u64 (s1.seed * 6364136223846793005)) + (IntKind.wrap .u64 (b1)))) + 1442695040888963407)) 40).bind fun q1 =>
 some (w64 (bit_and .u64 q1 255), (GL00Src.mk s1.code (w64 (s1.at_ + 1)) (IntKind.wrap .u64 ((IntKind.wrap .u64 ((IntKind.wrap .u64 (s1.seed * 6364136223846793005)) + (IntKind.wrap .u64 (b1)))) + 1442695040888963407))))
/-- (*loop.example/g01063/spec.l00Src).pick -/
def spec_l00Src_pick (s1 : GL00Src) (n1 : Int) : Option (Int × GL00Src) :=
 if n1 ≤ 1 then
 (some (0, s1))
 else
 (spec_l00Src_next s1).bind fun r1 =>
 if n1 > 200 then
 ((spec_l00Src_next r1.2).bind fun r2 =>
 (mod? (w64 ((w64 (r1.1 * 256)) + r2.1)) n1).bind fun q1 =>
 some (q1, r2.2))
 else
 (mod? r1.1 n1).bind fun q2 =>
 some (q2, r1.2)
/-- loop.example/g01063/spec.l00Floor -/
def spec_l00Floor (num1 : Int) (den1 : Int) : Option Int :=
 (div? .i64 num1 den1).bind fun q1 =>
 (mod? num1 den1).bind fun q2 =>
 if q2 < 0 then
 (some (w64 (q1 - 1)))
 else
 some q1
/-- loop.example/g01063/spec.l00Round -/
def spec_l00Round (num1 : Int) (den1 : Int) : Option Int :=
 (spec_l00Floor (w64 ((w64 (2 * num1)) + den1)) (w64 (2 * den1))).bind fun r1 =>
 some r1
/-- loop.example/g01063/spec.l03Near -/
def spec_l03Near (pictures1 : Int) (slits1 : Int) (flash1 : Int) : Option Int :=
 (spec_l00Round (w64 (flash1 * pictures1)) slits1).bind fun r1 =>
 some r1
/-- loop.example/g01063/spec.l03Seen -/
def spec_l03Seen (pictures1 : Int) (slits1 : Int) (flash1 : Int) : Option Int :=
 (spec_l03Near pictures1 slits1 flash1).bind fun r1 =>
 (mod? r1 pictures1).bind fun q1 =>
 some q1
/-- loop.example/g01063/spec.l06Motion -/
def spec_l06Motion (disc1 : List UInt8) (slits1 : Int) : Option (List UInt8) :=
 onL (loop (S := ((List Int) × Int)) (B := (List Int)) (R := Empty) (fun ((out1, k1) : (List Int) × Int) =>
 if k1 < slits1 then
 ((spec_l03Seen (disc1.length : Int) slits1 k1).bind fun r1 =>
 (at? disc1 r1).bind fun c1 =>
 (app? out1 ([(c1.toNat : Int)] : List Int)).bind fun l1 =>
 some (.next (l1, w64 (k1 + 1))))
 else
 some (.brk out1)) loopLim ([], 0))
 (fun (out2 : List Int) => some (b2s out2)) Empty.elim
/-- loop.example/g01063/spec.l06Draw -/
def spec_l06Draw (s1 : GL00Src) : Option ((List UInt8) × GL00Src) :=
 (spec_l00Src_pick s1 6).bind fun r1 =>
 onL (loop (S := (GL00Src × (List Int) × Int)) (B := (GL00Src × (List Int))) (R := Empty) (fun ((s2, out1, k1) : GL00Src × (List Int) × Int) =>
 if k1 > 0 then
 ((spec_l00Src_pick s2 3).bind fun r2 =>
 (at? ([97, 98, 99] : List UInt8) r2.1).bind fun c1 =>
 (app? out1 ([(c1.toNat : Int)] : List Int)).bind fun l1 =>
 some (.next (r2.2, l1, w64 (k1 - 1))))
 else
 some (.brk (s2, out1))) loopLim (r1.2, [], w64 (1 + r1.1)))
 (fun ((s3, out2) : GL00Src × (List Int)) => (spec_l00Src_pick s3 4).bind fun r3 =>
 if r3.1 = 0 then
 ((app? (b2s out2 : List UInt8) (b2s out2)).bind fun s4 =>
 some (s4, r3.2))
 else
 if r3.1 = 1 then
 ((spec_l00Src_pick r3.2 12).bind fun r4 =>
 (spec_l06Motion (b2s out2) (w64 (1 + r4.1))).bind fun r5 =>
 some (r5, r4.2))
 else
 some (b2s out2, r3.2)) Empty.elim
/-- loop.example/g01063/spec.A2Motion -/
def spec_A2Motion (code1 : List Int) : Option (List UInt8) :=
 (spec_l00From code1).bind fun r1 =>
 (spec_l06Draw r1).bind fun r2 =>
 some r2.1
/-- loop.example/g01063/spec.l00In -/
def spec_l00In (n1 : Int) (low1 : Int) (high1 : Int) : Option Bool :=
 if n1 ≥ low1 then
 (some (decide (n1 ≤ high1)))
 else
 some false
/-- loop.example/g01063/spec.l06Ok -/
def spec_l06Ok (s1 : List UInt8) : Option Bool :=
 onL (loop (S := Int) (B := Unit) (R := Bool) (fun (i1 : Int) =>
 if i1 < (s1.length : Int) then
 ((((at? s1 i1).bind fun c1 =>
 if (c1.toNat : Int) < 97 then
 (some true)
 else
 (at? s1 i1).bind fun c2 =>
 some (decide ((c2.toNat : Int) > 122))) : Option Bool).bind fun (x1 : Bool) =>
 if x1 then
 (some (.ret false))
 else
 some (.next (w64 (i1 + 1))))
 else
 some (.brk ())) loopLim 0)
 (fun (_ : Unit) => (spec_l00In (s1.length : Int) 1 24).bind fun r1 =>
 some r1) (fun r => some r)
/-- loop.example/g01063/spec.l06Turned -/
def spec_l06Turned (motion1 : List UInt8) (at_1 : Int) : Option (List UInt8) :=
 (sub? motion1 at_1 motion1.length).bind fun s1 =>
 (sub? motion1 0 at_1).bind fun s2 =>
 (app? (s1 : List UInt8) s2).bind fun s3 =>
 some s3
/-- loop.example/g01063/spec.l06Same -/
def spec_l06Same (a1 : List UInt8) (b1 : List UInt8) : Option Bool :=
 if (a1.length : Int) = (b1.length : Int) then
 (onL (loop (S := Int) (B := Unit) (R := Bool) (fun (at_1 : Int) =>
 if at_1 < (a1.length : Int) then
 ((spec_l06Turned a1 at_1).bind fun r1 =>
 if (r1 == b1) then
 (some (.ret true))
 else
 some (.next (w64 (at_1 + 1))))
 else
 some (.brk ())) loopLim 0)
 (fun (_ : Unit) => some false) (fun r => some r))
 else
 some false
/-- loop.example/g01063/spec.SameMotion -/
def spec_SameMotion (a1 : List UInt8) (b1 : List UInt8) : Option (Bool × Int) :=
 (((spec_l06Ok a1).bind fun r1 =>
 if r1 then
 ((spec_l06Ok b1).bind fun r2 =>
 some (!r2))
 else
 some true) : Option Bool).bind fun (x1 : Bool) =>
 if x1 then
 (some (false, 1))
 else
 (spec_l06Same a1 b1).bind fun r3 =>
 some (r3, 0)
/-- loop.example/g01063/laws.FnMotions -/
def laws_FnMotions (code1 : List Int) (more1 : List Int) : Option Bool :=
 (laws_a2Long code1 more1).bind fun r1 =>
 if r1 then
 (some true)
 else
 (spec_A2Motion code1).bind fun r2 =>
 (laws_a2At more1 0 (r2.length : Int)).bind fun r3 =>
 (sub? r2 r3 r2.length).bind fun s1 =>
 (sub? r2 0 r3).bind fun s2 =>
 (app? (s1 : List UInt8) s2).bind fun s3 =>
 (impl_PeriodOf r2).bind fun r4 =>
 (impl_SameMotion r2 s3).bind fun r5 =>
 (impl_FirstTurn r2).bind fun r6 =>
 (impl_FirstTurn s3).bind fun r7 =>
 (impl_BackMotion r2).bind fun r8 =>
 (impl_BackMotion r8.1).bind fun r9 =>
 (impl_LooksBack r2).bind fun r10 =>
 (impl_SameMotion r2 r8.1).bind fun r11 =>
 ((if r4.2 = 0 then
 (if r4.1 < 1 then
 (some true)
 else
 if r4.1 > (r2.length : Int) then
 (some true)
 else
 (mod? (r2.length : Int) r4.1).bind fun q1 =>
 if q1 = 0 then
 (if r5.2 = 0 then
 (if r5.1 then
 (if r6.2 = 0 then
 (if r7.2 = 0 then
 (if (r6.1 == r7.1) then
 (if (Op.bytesLess r6.1 r2 || r6.1 == r2) then
 (if r8.2 = 0 then
 (if r9.2 = 0 then
 (if (r9.1 == r2) then
 (if r10.2 = 0 then
 (if r11.2 = 0 then
 (some (!(r10.1 == r11.1)))
 else
 some true)
 else
 some true)
 else
 some true)
 else
 some true)
 else
 some true)
 else
 some true)
 else
 some true)
 else
 some true)
 else
 some true)
 else
 some true)
 else
 some true)
 else
 some true)
 else
 some true) : Option Bool).bind fun (x1 : Bool) =>
 if x1 then
 (some false)
 else
 (spec_SameMotion r2 r6.1).bind fun r12 =>
 (impl_ChangesIn r2).bind fun r13 =>
 ((if r12.2 = 0 then
 (if r12.1 then
 (some (!(decide (r13.2 = 0))))
 else
 some true)
 else
 some true) : Option Bool).bind fun (x2 : Bool) =>
 if x2 then
 (some false)
 else
 onL (loop (S := (Int × Int)) (B := Int) (R := Bool) (fun ((n1, i1) : Int × Int) =>
 if i1 < (r2.length : Int) then
 ((mod? (w64 (i1 + 1)) (r2.length : Int)).bind fun q2 =>
 (at? r2 i1).bind fun c1 =>
 (at? r2 q2).bind fun c2 =>
 ((if (c1.toNat : Int) = (c2.toNat : Int) then
 (some n1)
 else
 some (w64 (n1 + 1))) : Option Int).bind fun (n2 : Int) =>
 (at? r2 i1).bind fun c3 =>
 (mod? (w64 (i1 + r4.1)) (r2.length : Int)).bind fun q3 =>
 (at? r2 q3).bind fun c4 =>
 if (c3.toNat : Int) = (c4.toNat : Int) then
 (some (.next (n2, w64 (i1 + 1))))
 else
 some (.ret false))
 else
 some (.brk n1)) loopLim (0, 0))
 (fun (n3 : Int) => onL (loop (S := Int) (B := Unit) (R := Bool) (fun (p1 : Int) =>
 if p1 < r4.1 then
 ((((mod? (r2.length : Int) p1).bind fun q4 =>
 if q4 = 0 then
 ((sub? r2 p1 r2.length).bind fun s4 =>
 (sub? r2 0 p1).bind fun s5 =>
 (app? (s4 : List UInt8) s5).bind fun s6 =>
 some (s6 == r2))
 else
 some false) : Option Bool).bind fun (x3 : Bool) =>
 if x3 then
 (some (.ret false))
 else
 some (.next (w64 (p1 + 1))))
 else
 some (.brk ())) loopLim 1)
 (fun (_ : Unit) => some (decide (n3 = r13.1))) (fun r => some r)) (fun r => some r)
end Go.Vs.G
