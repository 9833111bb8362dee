/- The functions that the law reaches, as typed Lean functions, printed by program. No conditions. -/
import Derived.Test.YtbbnegmfpkjcbaaV5
set_option maxRecDepth 100000
open Go Go.Vs
namespace Go.Vs.G
structure GL00Src where
  code : List Int
  at_ : Int
  seed : Int
  deriving DecidableEq, Inhabited
def GL00Src.ok (x : GL00Src) : Prop := (okL (okI .u8)) x.code ∧ (okI .i64) x.at_ ∧ (okI .u64) x.seed
/-- slices.Index[[]byte,byte] -/
def slices_Index_byte_byte_830 (s1 : List Int) (v1 : Int) : Option Int :=
 onL (loop (S := Int) (B := Unit) (R := Int) (fun (x1 : Int) =>
 if x1 < (s1.length : Int) then
 ((at? s1 x1).bind fun v2 =>
 if v1 = v2 then
 (some (.ret x1))
 else
 some (.next (w64 (x1 + 1))))
 else
 some (.brk ())) loopLim 0)
 (fun (_ : Unit) => some (-1)) (fun r => some r)
/-- loop.example/g01063/impl.bestLoading -/
def impl_bestLoading (s1 : List UInt8) (places1 : Int) : Option (List Int) :=
 (mk? places1 (0 : Int)).bind fun l1 =>
 onL (loop (S := ((List Int) × (List Int) × Int)) (B := (List Int)) (R := Empty) (fun ((out1, magazine1, x1) : (List Int) × (List Int) × Int) =>
 if x1 < (s1.length : Int) then
 ((at? s1 x1).bind fun c1 =>
 (slices_Index_byte_byte_830 magazine1 (c1.toNat : Int)).bind fun r1 =>
 ((if r1 < 0 then
 ((slices_Index_byte_byte_830 magazine1 0).bind fun r2 =>
 some r2)
 else
 some r1) : Option Int).bind fun (k1 : Int) =>
 ((if k1 < 0 then
 (onL (loop (S := (Int × Int × Int)) (B := Int) (R := Empty) (fun ((k2, far1, x2) : Int × Int × Int) =>
 if x2 < (magazine1.length : Int) then
 ((at? magazine1 x2).bind fun v1 =>
 (sub? s1 x1 s1.length).bind fun s2 =>
 (strings_IndexByte s2 v1).bind fun r3 =>
 if r3 < 0 then
 (some (.brk x2))
 else
 if r3 > far1 then
 (some (.next (x2, r3, w64 (x2 + 1))))
 else
 some (.next (k2, far1, w64 (x2 + 1))))
 else
 some (.brk k2)) loopLim (0, (-1), 0))
 (fun (k3 : Int) => some k3) Empty.elim)
 else
 some k1) : Option Int).bind fun (k4 : Int) =>
 (at? s1 x1).bind fun c2 =>
 (at? magazine1 k4).bind fun v2 =>
 (app? out1 ([k4] : List Int)).bind fun l2 =>
 some (.next (l2, magazine1.set k4.toNat (c2.toNat : Int), w64 (x1 + 1))))
 else
 some (.brk out1)) loopLim ([], l1, 0))
 (fun (out2 : List Int) => some out2) Empty.elim
/-- loop.example/g01063/impl.loadsOf -/
def impl_loadsOf (s1 : List UInt8) (places1 : Int) (plan1 : List Int) : Option Int :=
 (mk? places1 (0 : Int)).bind fun l1 =>
 onL (loop (S := ((List Int) × Int × Int)) (B := Int) (R := Empty) (fun ((magazine1, count1, x1) : (List Int) × Int × Int) =>
 if x1 < (plan1.length : Int) then
 ((at? plan1 x1).bind fun v1 =>
 (at? magazine1 v1).bind fun v2 =>
 (at? s1 x1).bind fun c1 =>
 if v2 = (c1.toNat : Int) then
 (some (.next (magazine1, count1, w64 (x1 + 1))))
 else
 (at? s1 x1).bind fun c2 =>
 (at? magazine1 v1).bind fun v3 =>
 some (.next (magazine1.set v1.toNat (c2.toNat : Int), w64 (count1 + 1), w64 (x1 + 1))))
 else
 some (.brk count1)) loopLim (l1, 0, 0))
 (fun (count2 : Int) => some count2) Empty.elim
/-- loop.example/g01063/impl.isLetters -/
def impl_isLetters (s1 : List UInt8) (most1 : Int) : Option Bool :=
 onL (loop (S := Int) (B := Unit) (R := Bool) (fun (i1 : Int) =>
 if i1 < (s1.length : Int) then
 ((((at? s1 i1).bind fun c1 =>
 if (c1.toNat : Int) < 97 then
 (some true)
 else
 (at? s1 i1).bind fun c2 =>
 some (decide ((c2.toNat : Int) > 122))) : Option Bool).bind fun (x1 : Bool) =>
 if x1 then
 (some (.ret false))
 else
 some (.next (w64 (i1 + 1))))
 else
 some (.brk ())) loopLim 0)
 (fun (_ : Unit) => if (s1.length : Int) ≥ 1 then
 (some (decide ((s1.length : Int) ≤ most1)))
 else
 some false) (fun r => some r)
/-- loop.example/g01063/impl.ValidShowing -/
def impl_ValidShowing (s1 : List UInt8) : Option Bool :=
 if (s1 == []) then
 (some true)
 else
 (impl_isLetters s1 40).bind fun r1 =>
 some r1
/-- loop.example/g01063/impl.within -/
def impl_within (n1 : Int) (low1 : Int) (high1 : Int) : Option Bool :=
 if n1 ≥ low1 then
 (some (decide (n1 ≤ high1)))
 else
 some false
/-- loop.example/g01063/impl.showingCode -/
def impl_showingCode (s1 : List UInt8) (places1 : Int) : Option Int :=
 (impl_ValidShowing s1).bind fun r1 =>
 if r1 then
 ((impl_within places1 1 6).bind fun r2 =>
 if r2 then
 (some 0)
 else
 some 2)
 else
 some 1
/-- loop.example/g01063/impl.FewestLoads -/
def impl_FewestLoads (s1 : List UInt8) (places1 : Int) : Option (Int × Int) :=
 (impl_showingCode s1 places1).bind fun r1 =>
 if r1 = 0 then
 ((impl_bestLoading s1 places1).bind fun r2 =>
 (impl_loadsOf s1 places1 r2).bind fun r3 =>
 some (r3, 0))
 else
 some (0, r1)
/-- loop.example/g01063/impl.loadsOrdered -/
def impl_loadsOrdered (s1 : List UInt8) (places1 : Int) (again1 : Bool) : Option Int :=
 onL (loop (S := ((List Int) × Int × Int)) (B := Int) (R := Empty) (fun ((order1, count1, x1) : (List Int) × Int × Int) =>
 if x1 < (s1.length : Int) then
 ((at? s1 x1).bind fun c1 =>
 (slices_Index_byte_byte_830 order1 (c1.toNat : Int)).bind fun r1 =>
 if r1 < 0 then
 ((at? s1 x1).bind fun c2 =>
 (app? order1 ([(c2.toNat : Int)] : List Int)).bind fun l1 =>
 if (l1.length : Int) > places1 then
 ((tail? l1 1).bind fun l2 =>
 some (.next (l2, w64 (count1 + 1), w64 (x1 + 1))))
 else
 some (.next (l1, w64 (count1 + 1), w64 (x1 + 1))))
 else
 if again1 then
 ((slices_Delete_byte order1 r1 (w64 (r1 + 1))).bind fun r2 =>
 (at? s1 x1).bind fun c3 =>
 (app? r2 ([(c3.toNat : Int)] : List Int)).bind fun l3 =>
 some (.next (l3, count1, w64 (x1 + 1))))
 else
 some (.next (order1, count1, w64 (x1 + 1))))
 else
 some (.brk count1)) loopLim ([], 0, 0))
 (fun (count2 : Int) => some count2) Empty.elim
/-- loop.example/g01063/impl.LoadsLongest -/
def impl_LoadsLongest (s1 : List UInt8) (places1 : Int) : Option (Int × Int) :=
 (impl_showingCode s1 places1).bind fun r1 =>
 if r1 = 0 then
 ((impl_loadsOrdered s1 places1 true).bind fun r2 =>
 some (r2, 0))
 else
 some (0, r1)
/-- loop.example/g01063/impl.LoadsOldest -/
def impl_LoadsOldest (s1 : List UInt8) (places1 : Int) : Option (Int × Int) :=
 (impl_showingCode s1 places1).bind fun r1 =>
 if r1 = 0 then
 ((impl_loadsOrdered s1 places1 false).bind fun r2 =>
 some (r2, 0))
 else
 some (0, r1)
/-- loop.example/g01063/laws.a2At -/
def laws_a2At (code1 : List Int) (at_1 : Int) (n1 : Int) : Option Int :=
 ((if at_1 ≥ (code1.length : Int) then
 (some true)
 else
 some (decide (n1 < 1))) : Option Bool).bind fun (x1 : Bool) =>
 if x1 then
 (some 0)
 else
 (at? code1 at_1).bind fun v1 =>
 (mod? (w64 (v1)) n1).bind fun q1 =>
 some q1
/-- loop.example/g01063/laws.a2Long -/
def laws_a2Long (code1 : List Int) (more1 : List Int) : Option Bool :=
 if (code1.length : Int) > 3000 then
 (some true)
 else
 some (decide ((more1.length : Int) > 3000))
/-- loop.example/g01063/spec.l00From -/
def spec_l00From (code1 : List Int) : Option GL00Src :=
 some (GL00Src.mk code1 0 0)
/-- (*loop.example/g01063/spec.l00Src).next -/
def spec_l00Src_next (s1 : GL00Src) : Option (Int × GL00Src) :=
 ((if s1.at_ < (s1.code.length : Int) then
 ((at? s1.code s1.at_).bind fun v1 =>
 some (w64 (v1)))
 else
 some 0) : Option Int).bind fun (b1 : Int) =>
 if (w64 (s1.at_ + 1)) ≤ (s1.code.length : Int) then
 (some (b1, (GL00Src.mk s1.code (w64 (s1.at_ + 1)) (IntKind.wrap .u64 ((IntKind.wrap .u64 ((IntKind.wrap .u64 (s1.seed * 6364136223846793005)) + (IntKind.wrap .u64 (b1)))) + 1442695040888963407)))))
 else
 (shr? .u64 (IntKind.wrap .u64 ((IntKind.wrap .u64 ((IntKind.wrap .u64 (s1.seed * 6364136223846793005)) + (IntKind.wrap .u64 (b1)))) + 1442695040888963407)) 40).bind fun q1 =>
 some (w64 (bit_and .u64 q1 255), (GL00Src.mk s1.code (w64 (s1.at_ + 1)) (IntKind.wrap .u64 ((IntKind.wrap .u64 ((IntKind.wrap .u64 (s1.seed * 6364136223846793005)) + (IntKind.wrap .u64 (b1)))) + 1442695040888963407))))
/-- (*loop.example/g01063/spec.l00Src).pick -/
def spec_l00Src_pick (s1 : GL00Src) (n1 : Int) : Option (Int × GL00Src) :=
 if n1 ≤ 1 then
 (some (0, s1))
 else
 (spec_l00Src_next s1).bind fun r1 =>
 if n1 > 200 then
 ((spec_l00Src_next r1.2).bind fun r2 =>
 (mod? (w64 ((w64 (r1.1 * 256)) + r2.1)) n1).bind fun q1 =>
 some (q1, r2.2))
 else
 (mod? r1.1 n1).bind fun q2 =>
 some (q2, r1.2)
/-- loop.example/g01063/spec.l20Draw -/
def spec_l20Draw (s1 : GL00Src) : Option ((List UInt8) × GL00Src) :=
 (spec_l00Src_pick s1 6).bind fun r1 =>
 (spec_l00Src_pick r1.2 20).bind fun r2 =>
 onL (loop (S := (GL00Src × (List Int) × Int)) (B := (GL00Src × (List Int))) (R := Empty) (fun ((s2, out1, k1) : GL00Src × (List Int) × Int) =>
 if k1 > 0 then
 ((spec_l00Src_pick s2 (w64 (2 + r1.1))).bind fun r3 =>
 (app? out1 ([IntKind.wrap .u8 (w64 (97 + r3.1))] : List Int)).bind fun l1 =>
 some (.next (r3.2, l1, w64 (k1 - 1))))
 else
 some (.brk (s2, out1))) loopLim (r2.2, [], r2.1))
 (fun ((s3, out2) : GL00Src × (List Int)) => some (b2s out2, s3)) Empty.elim
/-- loop.example/g01063/spec.A2Showing -/
def spec_A2Showing (code1 : List Int) : Option (List UInt8) :=
 (spec_l00From code1).bind fun r1 =>
 (spec_l20Draw r1).bind fun r2 =>
 some r2.1
/-- loop.example/g01063/spec.l20Next -/
def spec_l20Next (s1 : List UInt8) (slide1 : Int) (from_1 : Int) : Option Int :=
 onL (loop (S := Int) (B := Int) (R := Empty) (fun (from_2 : Int) =>
 ((if from_2 < (s1.length : Int) then
 ((at? s1 from_2).bind fun c1 =>
 some (!(decide ((c1.toNat : Int) = slide1))))
 else
 some false) : Option Bool).bind fun (x1 : Bool) =>
 if x1 then
 (some (.next (w64 (from_2 + 1))))
 else
 some (.brk from_2)) loopLim from_1)
 (fun (from_3 : Int) => some from_3) Empty.elim
/-- loop.example/g01063/spec.l20Ok -/
def spec_l20Ok (s1 : List UInt8) : Option Bool :=
 onL (loop (S := Int) (B := Unit) (R := Bool) (fun (i1 : Int) =>
 if i1 < (s1.length : Int) then
 ((((at? s1 i1).bind fun c1 =>
 if (c1.toNat : Int) < 97 then
 (some true)
 else
 (at? s1 i1).bind fun c2 =>
 some (decide ((c2.toNat : Int) > 122))) : Option Bool).bind fun (x1 : Bool) =>
 if x1 then
 (some (.ret false))
 else
 some (.next (w64 (i1 + 1))))
 else
 some (.brk ())) loopLim 0)
 (fun (_ : Unit) => some (decide ((s1.length : Int) ≤ 40))) (fun r => some r)
/-- loop.example/g01063/spec.SlidesIn -/
def spec_SlidesIn (s1 : List UInt8) : Option (Int × Int) :=
 (spec_l20Ok s1).bind fun r1 =>
 if r1 then
 (onL (loop (S := (Int × Int)) (B := Int) (R := Empty) (fun ((n1, i1) : Int × Int) =>
 if i1 < (s1.length : Int) then
 ((at? s1 i1).bind fun c1 =>
 (spec_l20Next s1 (c1.toNat : Int) 0).bind fun r2 =>
 if r2 = i1 then
 (some (.next (w64 (n1 + 1), w64 (i1 + 1))))
 else
 some (.next (n1, w64 (i1 + 1))))
 else
 some (.brk n1)) loopLim (0, 0))
 (fun (n2 : Int) => some (n2, 0)) Empty.elim)
 else
 some (0, 1)
/-- loop.example/g01063/laws.FnLoadRules -/
def laws_FnLoadRules (code1 : List Int) (more1 : List Int) : Option Bool :=
 (laws_a2Long code1 more1).bind fun r1 =>
 if r1 then
 (some true)
 else
 (spec_A2Showing code1).bind fun r2 =>
 (laws_a2At more1 0 6).bind fun r3 =>
 (impl_FewestLoads r2 (w64 (1 + r3))).bind fun r4 =>
 (impl_LoadsOldest r2 (w64 (1 + r3))).bind fun r5 =>
 (impl_LoadsLongest r2 (w64 (1 + r3))).bind fun r6 =>
 (spec_SlidesIn r2).bind fun r7 =>
 (impl_LoadsOldest r2 1).bind fun r8 =>
 (impl_LoadsLongest r2 (imin 6 (w64 ((w64 (1 + r3)) + 1)))).bind fun r9 =>
 ((if r4.2 = 0 then
 (if r5.2 = 0 then
 (if r5.1 < r4.1 then
 (some true)
 else
 if r6.2 = 0 then
 (if r6.1 < r4.1 then
 (some true)
 else
 if r7.2 = 0 then
 (if r8.2 = 0 then
 (if r9.2 = 0 then
 (some (decide (r9.1 > r6.1)))
 else
 some true)
 else
 some true)
 else
 some true)
 else
 some true)
 else
 some true)
 else
 some true) : Option Bool).bind fun (x1 : Bool) =>
 if x1 then
 (some false)
 else
 ((if (w64 (1 + r3)) ≥ r7.1 then
 (if r5.1 = r7.1 then
 (some (!(decide (r6.1 = r7.1))))
 else
 some true)
 else
 some false) : Option Bool).bind fun (x2 : Bool) =>
 if x2 then
 (some false)
 else
 onL (loop (S := (Int × Int)) (B := Int) (R := Empty) (fun ((changes1, i1) : Int × Int) =>
 if i1 < (r2.length : Int) then
 (((if i1 = 0 then
 (some true)
 else
 (at? r2 i1).bind fun c1 =>
 (at? r2 (w64 (i1 - 1))).bind fun c2 =>
 some (!(decide ((c1.toNat : Int) = (c2.toNat : Int))))) : Option Bool).bind fun (x3 : Bool) =>
 if x3 then
 (some (.next (w64 (changes1 + 1), w64 (i1 + 1))))
 else
 some (.next (changes1, w64 (i1 + 1))))
 else
 some (.brk changes1)) loopLim (0, 0))
 (fun (changes2 : Int) => if r8.1 = changes2 then
 (if r5.1 ≤ (r2.length : Int) then
 (some (decide (r6.1 ≤ (r2.length : Int))))
 else
 some false)
 else
 some false) Empty.elim
/-- loop.example/g01063/impl.BestLoading -/
def impl_BestLoading (s1 : List UInt8) (places1 : Int) : Option ((List Int) × Int) :=
 (impl_showingCode s1 places1).bind fun r1 =>
 if r1 = 0 then
 ((impl_bestLoading s1 places1).bind fun r2 =>
 some (r2, 0))
 else
 some ([], r1)
/-- loop.example/g01063/spec.l00In -/
def spec_l00In (n1 : Int) (low1 : Int) (high1 : Int) : Option Bool :=
 if n1 ≥ low1 then
 (some (decide (n1 ≤ high1)))
 else
 some false
/-- loop.example/g01063/spec.l20Code -/
def spec_l20Code (s1 : List UInt8) (places1 : Int) : Option Int :=
 (spec_l20Ok s1).bind fun r1 =>
 if r1 then
 ((spec_l00In places1 1 6).bind fun r2 =>
 if r2 then
 (some 0)
 else
 some 2)
 else
 some 1
end Go.Vs.G
