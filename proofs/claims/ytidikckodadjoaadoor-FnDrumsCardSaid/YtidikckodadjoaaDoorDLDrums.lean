/- The functions that the law reaches, as typed Lean functions, printed by program. No conditions. -/
import Derived.Test.YtidikckodadjoaaDoorV5
set_option maxRecDepth 100000
open Go Go.Vs
namespace Go.Vs.G
structure GDrum where
  Round : Int
  High : Int
  Slits : Int
  deriving DecidableEq, Inhabited
structure GFraction where
  Num : Int
  Den : Int
  deriving DecidableEq, Inhabited
structure GL00Src where
  code : List Int
  at_ : Int
  seed : Int
  deriving DecidableEq, Inhabited
def GDrum.ok (x : GDrum) : Prop := (okI .i64) x.Round ∧ (okI .i64) x.High ∧ (okI .i64) x.Slits
def GFraction.ok (x : GFraction) : Prop := (okI .i64) x.Num ∧ (okI .i64) x.Den
def GL00Src.ok (x : GL00Src) : Prop := (okL (okI .u8)) x.code ∧ (okI .i64) x.at_ ∧ (okI .u64) x.seed
/-- loop.example/g01063/impl.within -/
def impl_within (n1 : Int) (low1 : Int) (high1 : Int) : Option Bool :=
 if n1 ≥ low1 then
 (some (decide (n1 ≤ high1)))
 else
 some false
/-- loop.example/g01063/impl.ValidDrum -/
def impl_ValidDrum (d1 : GDrum) : Option Bool :=
 (impl_within d1.Round 100 10000).bind fun r1 =>
 if r1 then
 ((impl_within d1.High 20 1000).bind fun r2 =>
 if r2 then
 ((impl_within d1.Slits 1 48).bind fun r3 =>
 some r3)
 else
 some false)
 else
 some false
/-- loop.example/g01063/laws.f6big -/
def laws_f6big (code1 : List Int) : Option Bool :=
 some (decide ((code1.length : Int) > 4096))
/-- loop.example/g01063/laws.f6ints -/
def laws_f6ints (a1 : List Int) (b1 : List Int) : Option Bool :=
 if (a1.length : Int) = (b1.length : Int) then
 (onL (loop (S := Int) (B := Unit) (R := Bool) (fun (i1 : Int) =>
 if i1 < (a1.length : Int) then
 ((at? a1 i1).bind fun v1 =>
 (at? b1 i1).bind fun v2 =>
 if v1 = v2 then
 (some (.next (w64 (i1 + 1))))
 else
 some (.ret false))
 else
 some (.brk ())) loopLim 0)
 (fun (_ : Unit) => some true) (fun r => some r))
 else
 some false
/-- (*loop.example/g01063/spec.l00Src).next -/
def spec_l00Src_next (s1 : GL00Src) : Option (Int × GL00Src) :=
 ((if s1.at_ < (s1.code.length : Int) then
 ((at? s1.code s1.at_).bind fun v1 =>
 some (w64 (v1)))
 else
 some 0) : Option Int).bind fun (b1 : Int) =>
 if (w64 (s1.at_ + 1)) ≤ (s1.code.length : Int) then
 (some (b1, (GL00Src.mk s1.code (w64 (s1.at_ + 1)) (IntKind.wrap .u64 ((IntKind.wrap .u64 ((IntKind.wrap .u64 (s1.seed * 6364136223846793005)) + (IntKind.wrap .u64 (b1)))) + 1442695040888963407)))))
 else
 (shr? .u64 (IntKind.wrap .u64 ((IntKind.wrap .u64 ((IntKind.wrap .u64 (s1.seed * 6364136223846793005)) + (IntKind.wrap .u64 (b1)))) + 1442695040888963407)) 40).bind fun q1 =>
 some (w64 (bit_and .u64 q1 255), (GL00Src.mk s1.code (w64 (s1.at_ + 1)) (IntKind.wrap .u64 ((IntKind.wrap .u64 ((IntKind.wrap .u64 (s1.seed * 6364136223846793005)) + (IntKind.wrap .u64 (b1)))) + 1442695040888963407))))
/-- (*loop.example/g01063/spec.l00Src).pick -/
def spec_l00Src_pick (s1 : GL00Src) (n1 : Int) : Option (Int × GL00Src) :=
 if n1 ≤ 1 then
 (some (0, s1))
 else
 (spec_l00Src_next s1).bind fun r1 =>
 if n1 > 200 then
 ((spec_l00Src_next r1.2).bind fun r2 =>
 (mod? (w64 ((w64 (r1.1 * 256)) + r2.1)) n1).bind fun q1 =>
 some (q1, r2.2))
 else
 (mod? r1.1 n1).bind fun q2 =>
 some (q2, r1.2)
/-- (*loop.example/g01063/spec.l00Src).among -/
def spec_l00Src_among (s1 : GL00Src) (list1 : List Int) : Option (Int × GL00Src) :=
 (spec_l00Src_pick s1 (list1.length : Int)).bind fun r1 =>
 (at? list1 r1.1).bind fun v1 =>
 some (v1, r1.2)
/-- (*loop.example/g01063/spec.l00Src).one -/
def spec_l00Src_one (s1 : GL00Src) (n1 : Int) : Option (Bool × GL00Src) :=
 (spec_l00Src_pick s1 n1).bind fun r1 =>
 some ((decide (r1.1 = 0)), r1.2)
/-- loop.example/g01063/spec.l00From -/
def spec_l00From (code1 : List Int) : Option GL00Src :=
 some (GL00Src.mk code1 0 0)
/-- loop.example/g01063/spec.l07New -/
def spec_l07New (s1 : GL00Src) : Option (GDrum × GL00Src) :=
 (spec_l00Src_pick s1 90).bind fun r1 =>
 (spec_l00Src_pick r1.2 20).bind fun r2 =>
 (spec_l00Src_pick r2.2 16).bind fun r3 =>
 some ((GDrum.mk (w64 (300 + (w64 (10 * r1.1)))) (w64 (60 + (w64 (10 * r2.1)))) (w64 (1 + r3.1))), r3.2)
/-- loop.example/g01063/spec.l07Bent -/
def spec_l07Bent (s1 : GL00Src) : Option (GDrum × GL00Src) :=
 (spec_l07New s1).bind fun r1 =>
 (spec_l00Src_pick r1.2 24).bind fun r2 =>
 if r2.1 = 0 then
 ((spec_l00Src_among r2.2 [(-1), 99, 100, 10000, 10001, (-9223372036854775808)]).bind fun r3 =>
 some ((GDrum.mk r3.1 r1.1.High r1.1.Slits), r3.2))
 else
 if r2.1 = 1 then
 ((spec_l00Src_among r2.2 [(-1), 19, 20, 1000, 1001]).bind fun r4 =>
 some ((GDrum.mk r1.1.Round r4.1 r1.1.Slits), r4.2))
 else
 if r2.1 = 2 then
 ((spec_l00Src_among r2.2 [(-1), 0, 1, 48, 49]).bind fun r5 =>
 some ((GDrum.mk r1.1.Round r1.1.High r5.1), r5.2))
 else
 some (r1.1, r2.2)
/-- loop.example/g01063/spec.l07With -/
def spec_l07With (code1 : List Int) : Option (GDrum × Int) :=
 (spec_l00From code1).bind fun r1 =>
 (spec_l07Bent r1).bind fun r2 =>
 (spec_l00Src_one r2.2 8).bind fun r3 =>
 if r3.1 then
 ((spec_l00Src_among r3.2 [(-1), 0, 1, 48, 49]).bind fun r4 =>
 some (r2.1, r4.1))
 else
 (spec_l00Src_pick r3.2 20).bind fun r5 =>
 some (r2.1, w64 (1 + r5.1))
/-- loop.example/g01063/spec.DrawPlacesOf -/
def spec_DrawPlacesOf (code1 : List Int) : Option (GDrum × Int) :=
 (spec_l07With code1).bind fun r1 =>
 some (r1.1, r1.2)
/-- loop.example/g01063/impl.rounded -/
def impl_rounded (num1 : Int) (den1 : Int) : Option Int :=
 (div? .i64 (w64 ((w64 (2 * num1)) + den1)) (w64 (2 * den1))).bind fun q1 =>
 (mod? (w64 ((w64 (2 * num1)) + den1)) (w64 (2 * den1))).bind fun q2 =>
 if q2 < 0 then
 (some (w64 (q1 - 1)))
 else
 some q1
/-- loop.example/g01063/impl.placesOf -/
def impl_placesOf (d1 : GDrum) (n1 : Int) : Option (List Int) :=
 onL (loop (S := ((List Int) × Int)) (B := (List Int)) (R := Empty) (fun ((out1, x1) : (List Int) × Int) =>
 if x1 < n1 then
 ((impl_rounded (w64 (x1 * d1.Round)) n1).bind fun r1 =>
 (app? out1 ([r1] : List Int)).bind fun l1 =>
 some (.next (l1, w64 (x1 + 1))))
 else
 some (.brk out1)) loopLim ([], 0))
 (fun (out2 : List Int) => some out2) Empty.elim
/-- loop.example/g01063/impl.PlacesOf -/
def impl_PlacesOf (d1 : GDrum) (pictures1 : Int) : Option ((List Int) × Int) :=
 (impl_ValidDrum d1).bind fun r1 =>
 if r1 then
 ((impl_within pictures1 1 48).bind fun r2 =>
 if r2 then
 ((impl_placesOf d1 pictures1).bind fun r3 =>
 some (r3, 0))
 else
 some ([], 2))
 else
 some ([], 1)
/-- loop.example/g01063/spec.l00In -/
def spec_l00In (n1 : Int) (low1 : Int) (high1 : Int) : Option Bool :=
 if n1 ≥ low1 then
 (some (decide (n1 ≤ high1)))
 else
 some false
/-- loop.example/g01063/spec.l03Many -/
def spec_l03Many (n1 : Int) : Option Bool :=
 (spec_l00In n1 1 48).bind fun r1 =>
 some r1
/-- loop.example/g01063/spec.l07Ok -/
def spec_l07Ok (d1 : GDrum) : Option Bool :=
 (spec_l00In d1.Round 100 10000).bind fun r1 =>
 if r1 then
 ((spec_l00In d1.High 20 1000).bind fun r2 =>
 if r2 then
 ((spec_l00In d1.Slits 1 48).bind fun r3 =>
 some r3)
 else
 some false)
 else
 some false
/-- loop.example/g01063/spec.l07Many -/
def spec_l07Many (d1 : GDrum) (pictures1 : Int) : Option Int :=
 (spec_l07Ok d1).bind fun r1 =>
 if r1 then
 ((spec_l03Many pictures1).bind fun r2 =>
 if r2 then
 (some 0)
 else
 some 2)
 else
 some 1
/-- loop.example/g01063/spec.l00Floor -/
def spec_l00Floor (num1 : Int) (den1 : Int) : Option Int :=
 (div? .i64 num1 den1).bind fun q1 =>
 (mod? num1 den1).bind fun q2 =>
 if q2 < 0 then
 (some (w64 (q1 - 1)))
 else
 some q1
/-- loop.example/g01063/spec.l00Round -/
def spec_l00Round (num1 : Int) (den1 : Int) : Option Int :=
 (spec_l00Floor (w64 ((w64 (2 * num1)) + den1)) (w64 (2 * den1))).bind fun r1 =>
 some r1
/-- loop.example/g01063/spec.l07Places -/
def spec_l07Places (d1 : GDrum) (many1 : Int) : Option (List Int) :=
 onL (loop (S := ((List Int) × Int)) (B := (List Int)) (R := Empty) (fun ((out1, k1) : (List Int) × Int) =>
 if k1 < many1 then
 ((spec_l00Round (w64 (k1 * d1.Round)) many1).bind fun r1 =>
 (app? out1 ([r1] : List Int)).bind fun l1 =>
 some (.next (l1, w64 (k1 + 1))))
 else
 some (.brk out1)) loopLim ([], 0))
 (fun (out2 : List Int) => some out2) Empty.elim
/-- loop.example/g01063/spec.PlacesOf -/
def spec_PlacesOf (d1 : GDrum) (pictures1 : Int) : Option ((List Int) × Int) :=
 (spec_l07Many d1 pictures1).bind fun r1 =>
 if r1 = 0 then
 ((spec_l07Places d1 pictures1).bind fun r2 =>
 some (r2, 0))
 else
 some ([], r1)
/-- loop.example/g01063/impl.SlitPlaces -/
def impl_SlitPlaces (d1 : GDrum) : Option ((List Int) × Int) :=
 (impl_ValidDrum d1).bind fun r1 =>
 if r1 then
 ((impl_placesOf d1 d1.Slits).bind fun r2 =>
 some (r2, 0))
 else
 some ([], 1)
/-- loop.example/g01063/spec.SlitPlaces -/
def spec_SlitPlaces (d1 : GDrum) : Option ((List Int) × Int) :=
 (spec_l07Ok d1).bind fun r1 =>
 if r1 then
 ((spec_l07Places d1 d1.Slits).bind fun r2 =>
 some (r2, 0))
 else
 some ([], 1)
/-- loop.example/g01063/spec.l07DrawGlue -/
def spec_l07DrawGlue (s1 : GL00Src) : Option (Int × GL00Src) :=
 (spec_l00Src_one s1 10).bind fun r1 =>
 if r1.1 then
 ((spec_l00Src_among r1.2 [(-1), 0, 100, 101]).bind fun r2 =>
 some (r2.1, r2.2))
 else
 (spec_l00Src_pick r1.2 30).bind fun r3 =>
 some (r3.1, r3.2)
/-- loop.example/g01063/spec.DrawPiecesFor -/
def spec_DrawPiecesFor (code1 : List Int) : Option (GDrum × Int × Int) :=
 (spec_l00From code1).bind fun r1 =>
 (spec_l07Bent r1).bind fun r2 =>
 (spec_l07DrawGlue r2.2).bind fun r3 =>
 (spec_l00Src_one r3.2 8).bind fun r4 =>
 if r4.1 then
 ((spec_l00Src_among r4.2 [(-1), 0, 1, r3.1, w64 (r3.1 + 1), 10000, 10001]).bind fun r5 =>
 some (r2.1, r3.1, r5.1))
 else
 (spec_l00Src_pick r4.2 60).bind fun r6 =>
 some (r2.1, r3.1, w64 (20 + (w64 (10 * r6.1))))
/-- loop.example/g01063/impl.PiecesFor -/
def impl_PiecesFor (d1 : GDrum) (glue1 : Int) (long1 : Int) : Option (Int × Int) :=
 (impl_ValidDrum d1).bind fun r1 =>
 if r1 then
 ((((impl_within glue1 0 100).bind fun r2 =>
 if r2 then
 ((impl_within long1 1 10000).bind fun r3 =>
 some (!r3))
 else
 some true) : Option Bool).bind fun (x1 : Bool) =>
 if x1 then
 (some (0, 2))
 else
 if long1 ≤ glue1 then
 (some (0, 5))
 else
 (div? .i64 (w64 ((w64 (d1.Round + (w64 (long1 - glue1)))) - 1)) (w64 (long1 - glue1))).bind fun q1 =>
 some (q1, 0))
 else
 some (0, 1)
/-- loop.example/g01063/spec.l07Glue -/
def spec_l07Glue (d1 : GDrum) (glue1 : Int) : Option Int :=
 (spec_l07Ok d1).bind fun r1 =>
 if r1 then
 ((spec_l00In glue1 0 100).bind fun r2 =>
 if r2 then
 (some 0)
 else
 some 2)
 else
 some 1
/-- loop.example/g01063/spec.PiecesFor -/
def spec_PiecesFor (d1 : GDrum) (glue1 : Int) (long1 : Int) : Option (Int × Int) :=
 (spec_l07Glue d1 glue1).bind fun r1 =>
 ((if r1 = 0 then
 ((spec_l00In long1 1 10000).bind fun r2 =>
 some (!r2))
 else
 some false) : Option Bool).bind fun (x1 : Bool) =>
 ((if x1 then
 (some 2)
 else
 some r1) : Option Int).bind fun (code1 : Int) =>
 if code1 = 0 then
 (if long1 ≤ glue1 then
 (some (0, 5))
 else
 (div? .i64 (w64 ((w64 ((w64 (d1.Round + long1)) - glue1)) - 1)) (w64 (long1 - glue1))).bind fun q1 =>
 some (q1, 0))
 else
 some (0, code1)
/-- loop.example/g01063/impl.apart -/
def impl_apart (a1 : Int) (b1 : Int) : Option Int :=
 some (imax (w64 (a1 - b1)) (w64 (b1 - a1)))
/-- loop.example/g01063/impl.WorstSlit -/
def impl_WorstSlit (d1 : GDrum) (pictures1 : Int) : Option (Int × Int × Int) :=
 (impl_ValidDrum d1).bind fun r1 =>
 if r1 then
 ((impl_within pictures1 1 48).bind fun r2 =>
 if r2 then
 ((impl_placesOf d1 d1.Slits).bind fun r3 =>
 onL (loop (S := (Int × Int × Int)) (B := (Int × Int)) (R := Empty) (fun ((best1, most1, x1) : Int × Int × Int) =>
 if x1 < (r3.length : Int) then
 ((at? r3 x1).bind fun v1 =>
 (impl_placesOf d1 pictures1).bind fun r4 =>
 onL (loop (S := (Int × Int)) (B := Int) (R := Empty) (fun ((near1, x2) : Int × Int) =>
 if x2 < (r4.length : Int) then
 ((at? r4 x2).bind fun v2 =>
 (impl_apart v1 v2).bind fun r5 =>
 some (.next (imin (imin near1 r5) (w64 (d1.Round - r5)), w64 (x2 + 1))))
 else
 some (.brk near1)) loopLim (d1.Round, 0))
 (fun (near2 : Int) => if near2 > most1 then
 (some (.next (x1, near2, w64 (x1 + 1))))
 else
 some (.next (best1, most1, w64 (x1 + 1)))) Empty.elim)
 else
 some (.brk (best1, most1))) loopLim (0, (-1), 0))
 (fun ((best2, most2) : Int × Int) => some (best2, most2, 0)) Empty.elim)
 else
 some (0, 0, 2))
 else
 some (0, 0, 1)
/-- loop.example/g01063/spec.l00Min -/
def spec_l00Min (a1 : Int) (b1 : Int) : Option Int :=
 if a1 < b1 then
 (some a1)
 else
 some b1
/-- loop.example/g01063/spec.l00Size -/
def spec_l00Size (n1 : Int) : Option Int :=
 if n1 < 0 then
 (some (w64 (0 - n1)))
 else
 some n1
/-- loop.example/g01063/spec.WorstSlit -/
def spec_WorstSlit (d1 : GDrum) (pictures1 : Int) : Option (Int × Int × Int) :=
 (spec_l07Many d1 pictures1).bind fun r1 =>
 if r1 = 0 then
 ((spec_l07Places d1 d1.Slits).bind fun r2 =>
 (spec_l07Places d1 pictures1).bind fun r3 =>
 onL (loop (S := (Int × Int × Int)) (B := (Int × Int)) (R := Empty) (fun ((worst1, most1, i1) : Int × Int × Int) =>
 if i1 < (r2.length : Int) then
 (onL (loop (S := (Int × Int)) (B := Int) (R := Empty) (fun ((least1, k1) : Int × Int) =>
 if k1 < (r3.length : Int) then
 ((at? r2 i1).bind fun v1 =>
 (at? r3 k1).bind fun v2 =>
 (spec_l00Size (w64 (v1 - v2))).bind fun r4 =>
 (spec_l00Min r4 (w64 (d1.Round - r4))).bind fun r5 =>
 (spec_l00Min least1 r5).bind fun r6 =>
 some (.next (r6, w64 (k1 + 1))))
 else
 some (.brk least1)) loopLim (d1.Round, 0))
 (fun (least2 : Int) => if least2 > most1 then
 (some (.next (i1, least2, w64 (i1 + 1))))
 else
 some (.next (worst1, most1, w64 (i1 + 1)))) Empty.elim)
 else
 some (.brk (worst1, most1))) loopLim (0, (-1), 0))
 (fun ((worst2, most2) : Int × Int) => some (worst2, most2, 0)) Empty.elim)
 else
 some (0, 0, r1)
/-- loop.example/g01063/spec.DrawDrumText -/
def spec_DrawDrumText (code1 : List Int) : Option GDrum :=
 (spec_l00From code1).bind fun r1 =>
 (spec_l07Bent r1).bind fun r2 =>
 some r2.1
/-- loop.example/g01063/impl.Decimal -/
def impl_Decimal (n1 : Int) : Option (List UInt8) :=
 (strconv_FormatInt n1 10).bind fun r1 =>
 some r1
/-- loop.example/g01063/impl.DrumText -/
def impl_DrumText (d1 : GDrum) : Option (List UInt8) :=
 (impl_ValidDrum d1).bind fun r1 =>
 if r1 then
 ((impl_Decimal d1.Round).bind fun r2 =>
 (app? (r2 : List UInt8) [120]).bind fun s1 =>
 (impl_Decimal d1.High).bind fun r3 =>
 (app? (s1 : List UInt8) r3).bind fun s2 =>
 (app? (s2 : List UInt8) [47]).bind fun s3 =>
 (impl_Decimal d1.Slits).bind fun r4 =>
 (app? (s3 : List UInt8) r4).bind fun s4 =>
 some s4)
 else
 some []
/-- internal/stringslite.Cut -/
def internal_stringslite_Cut (s1 : List UInt8) (sep1 : List UInt8) : Option ((List UInt8) × (List UInt8) × Bool) :=
 (stringslite_Index s1 sep1).bind fun r1 =>
 if r1 ≥ 0 then
 ((sub? s1 0 r1).bind fun s2 =>
 (sub? s1 (w64 (r1 + (sep1.length : Int))) s1.length).bind fun s3 =>
 some (s2, s3, true))
 else
 some (s1, [], false)
/-- strings.Cut -/
def strings_Cut (s1 : List UInt8) (sep1 : List UInt8) : Option ((List UInt8) × (List UInt8) × Bool) :=
 (internal_stringslite_Cut s1 sep1).bind fun r1 =>
 some (r1.1, r1.2.1, r1.2.2)
/-- loop.example/g01063/impl.ReadDecimal -/
def impl_ReadDecimal (s1 : List UInt8) : Option (Int × Bool) :=
 ((if (s1.length : Int) > 19 then
 (some true)
 else
 (strings_TrimPrefix s1 [45]).bind fun r1 =>
 some (decide ((r1.length : Int) > 18))) : Option Bool).bind fun (x1 : Bool) =>
 if x1 then
 (some (0, false))
 else
 (strconv_ParseInt s1 10 64).bind fun r2 =>
 ((if r2.2 then
 ((impl_Decimal r2.1).bind fun r3 =>
 some (!(r3 == s1)))
 else
 some true) : Option Bool).bind fun (x2 : Bool) =>
 if x2 then
 (some (0, false))
 else
 some (r2.1, true)
/-- loop.example/g01063/impl.ReadDrum -/
def impl_ReadDrum (s1 : List UInt8) : Option (GDrum × Bool) :=
 (strings_Cut s1 [120]).bind fun r1 =>
 (strings_Cut r1.2.1 [47]).bind fun r2 =>
 (impl_ReadDecimal r1.1).bind fun r3 =>
 (impl_ReadDecimal r2.1).bind fun r4 =>
 (impl_ReadDecimal r2.2.1).bind fun r5 =>
 ((if r3.2 then
 (if r4.2 then
 (if r5.2 then
 ((impl_DrumText (GDrum.mk r3.1 r4.1 r5.1)).bind fun r6 =>
 some (!(r6 == s1)))
 else
 some true)
 else
 some true)
 else
 some true) : Option Bool).bind fun (x1 : Bool) =>
 if x1 then
 (some ((GDrum.mk 0 0 0), false))
 else
 some ((GDrum.mk r3.1 r4.1 r5.1), true)
/-- loop.example/g01063/spec.l01Dec -/
def spec_l01Dec (n1 : Int) : Option (List UInt8) :=
 onL (loop (S := ((List Int) × Int)) (B := (List Int)) (R := Empty) (fun ((out1, k1) : (List Int) × Int) =>
 if k1 = 0 then
 (some (.brk out1))
 else
 ((if (k1.tmod 10) < 0 then
 (some (w64 (0 - (k1.tmod 10))))
 else
 some (k1.tmod 10)) : Option Int).bind fun (d1 : Int) =>
 (app? ([IntKind.wrap .u8 (w64 (48 + d1))] : List Int) out1).bind fun l1 =>
 some (.next (l1, w64 (k1.tdiv 10)))) loopLim ([], n1))
 (fun (out2 : List Int) => if (out2.length : Int) = 0 then
 (some [48])
 else
 if n1 < 0 then
 ((app? ([45] : List UInt8) (b2s out2)).bind fun s1 =>
 some s1)
 else
 some (b2s out2)) Empty.elim
/-- loop.example/g01063/spec.l07Text -/
def spec_l07Text (d1 : GDrum) : Option (List UInt8) :=
 (spec_l01Dec d1.Round).bind fun r1 =>
 (app? (r1 : List UInt8) [120]).bind fun s1 =>
 (spec_l01Dec d1.High).bind fun r2 =>
 (app? (s1 : List UInt8) r2).bind fun s2 =>
 (app? (s2 : List UInt8) [47]).bind fun s3 =>
 (spec_l01Dec d1.Slits).bind fun r3 =>
 (app? (s3 : List UInt8) r3).bind fun s4 =>
 some s4
/-- (*loop.example/g01063/spec.l00Src).text -/
def spec_l00Src_text (s1 : GL00Src) (list1 : List (List UInt8)) : Option ((List UInt8) × GL00Src) :=
 (spec_l00Src_pick s1 (list1.length : Int)).bind fun r1 =>
 (at? list1 r1.1).bind fun v1 =>
 some (v1, r1.2)
/-- loop.example/g01063/spec.l01Spoil -/
def spec_l01Spoil (s1 : GL00Src) (t1 : List UInt8) : Option ((List UInt8) × GL00Src) :=
 (spec_l00Src_pick s1 5).bind fun r1 =>
 if r1.1 = 0 then
 ((spec_l00Src_pick r1.2 (w64 ((t1.length : Int) + 1))).bind fun r2 =>
 (sub? t1 0 r2.1).bind fun s2 =>
 (spec_l00Src_text r2.2 [[32], [48], [45], [120], [49], [57], [46]]).bind fun r3 =>
 (app? (s2 : List UInt8) r3.1).bind fun s3 =>
 (sub? t1 r2.1 t1.length).bind fun s4 =>
 (app? (s3 : List UInt8) s4).bind fun s5 =>
 some (s5, r3.2))
 else
 if r1.1 = 1 then
 (if (t1 == []) then
 (some (t1, r1.2))
 else
 (spec_l00Src_pick r1.2 (t1.length : Int)).bind fun r4 =>
 (sub? t1 0 r4.1).bind fun s6 =>
 (sub? t1 (w64 (r4.1 + 1)) t1.length).bind fun s7 =>
 (app? (s6 : List UInt8) s7).bind fun s8 =>
 some (s8, r4.2))
 else
 some (t1, r1.2)
/-- loop.example/g01063/spec.DrawReadDrum -/
def spec_DrawReadDrum (code1 : List Int) : Option (List UInt8) :=
 (spec_l00From code1).bind fun r1 =>
 (spec_l07New r1).bind fun r2 =>
 (spec_l07Text r2.1).bind fun r3 =>
 (spec_l00Src_one r2.2 3).bind fun r4 =>
 if r4.1 then
 ((spec_l01Spoil r4.2 r3).bind fun r5 =>
 some r5.1)
 else
 some r3
/-- loop.example/g01063/spec.l01Split -/
def spec_l01Split (s1 : List UInt8) (by_1 : Int) : Option (List (List UInt8)) :=
 onL (loop (S := ((List (List UInt8)) × Int × Int)) (B := ((List (List UInt8)) × Int)) (R := Empty) (fun ((out1, from_1, i1) : (List (List UInt8)) × Int × Int) =>
 if i1 < (s1.length : Int) then
 ((at? s1 i1).bind fun c1 =>
 if (c1.toNat : Int) = by_1 then
 ((sub? s1 from_1 i1).bind fun s2 =>
 (app? out1 ([s2] : List (List UInt8))).bind fun l1 =>
 some (.next (l1, w64 (i1 + 1), w64 (i1 + 1))))
 else
 some (.next (out1, from_1, w64 (i1 + 1))))
 else
 some (.brk (out1, from_1))) loopLim ([], 0, 0))
 (fun ((out2, from_2) : (List (List UInt8)) × Int) => (sub? s1 from_2 s1.length).bind fun s3 =>
 (app? out2 ([s3] : List (List UInt8))).bind fun l2 =>
 some l2) Empty.elim
/-- loop.example/g01063/spec.l01Digit -/
def spec_l01Digit (c1 : Int) : Option Bool :=
 if c1 ≥ 48 then
 (some (decide (c1 ≤ 57)))
 else
 some false
/-- loop.example/g01063/spec.l01Number -/
def spec_l01Number (s1 : List UInt8) : Option (Int × Bool) :=
 ((if (s1 == []) then
 (some false)
 else
 (at? s1 0).bind fun c1 =>
 some (decide ((c1.toNat : Int) = 45))) : Option Bool).bind fun (x1 : Bool) =>
 ((if x1 then
 ((sub? s1 1 s1.length).bind fun s2 =>
 some s2)
 else
 some s1) : Option (List UInt8)).bind fun (t1 : List UInt8) =>
 ((if (t1.length : Int) < 1 then
 (some true)
 else
 some (decide ((t1.length : Int) > 18))) : Option Bool).bind fun (x2 : Bool) =>
 if x2 then
 (some (0, false))
 else
 onL (loop (S := (Int × Int)) (B := Int) (R := (Int × Bool)) (fun ((n1, i1) : Int × Int) =>
 if i1 < (t1.length : Int) then
 ((at? t1 i1).bind fun c2 =>
 (spec_l01Digit (c2.toNat : Int)).bind fun r1 =>
 if r1 then
 ((at? t1 i1).bind fun c3 =>
 some (.next (w64 ((w64 (10 * n1)) + (w64 (IntKind.wrap .u8 ((c3.toNat : Int) - 48)))), w64 (i1 + 1))))
 else
 some (.ret (0, false)))
 else
 some (.brk n1)) loopLim (0, 0))
 (fun (n2 : Int) => ((if (t1.length : Int) < (s1.length : Int) then
 (some (w64 (0 - n2)))
 else
 some n2) : Option Int).bind fun (n3 : Int) =>
 (spec_l01Dec n3).bind fun r2 =>
 if (r2 == s1) then
 (some (n3, true))
 else
 some (0, false)) (fun r => some r)
/-- loop.example/g01063/spec.ReadDrum -/
def spec_ReadDrum (s1 : List UInt8) : Option (GDrum × Bool) :=
 (spec_l01Split s1 47).bind fun r1 =>
 if (r1.length : Int) = 2 then
 ((at? r1 0).bind fun v1 =>
 (spec_l01Split v1 120).bind fun r2 =>
 if (r2.length : Int) = 2 then
 ((at? r2 0).bind fun v2 =>
 (spec_l01Number v2).bind fun r3 =>
 (at? r2 1).bind fun v3 =>
 (spec_l01Number v3).bind fun r4 =>
 (at? r1 1).bind fun v4 =>
 (spec_l01Number v4).bind fun r5 =>
 ((if r3.2 then
 (if r4.2 then
 (if r5.2 then
 ((spec_l07Ok (GDrum.mk r3.1 r4.1 r5.1)).bind fun r6 =>
 some (!r6))
 else
 some true)
 else
 some true)
 else
 some true) : Option Bool).bind fun (x1 : Bool) =>
 if x1 then
 (some ((GDrum.mk 0 0 0), false))
 else
 some ((GDrum.mk r3.1 r4.1 r5.1), true))
 else
 some ((GDrum.mk 0 0 0), false))
 else
 some ((GDrum.mk 0 0 0), false)
/-- loop.example/g01063/spec.DrumText -/
def spec_DrumText (d1 : GDrum) : Option (List UInt8) :=
 (spec_l07Ok d1).bind fun r1 =>
 if r1 then
 ((spec_l07Text d1).bind fun r2 =>
 some r2)
 else
 some []
/-- loop.example/g01063/spec.ValidDrum -/
def spec_ValidDrum (d1 : GDrum) : Option Bool :=
 (spec_l07Ok d1).bind fun r1 =>
 some r1
/-- loop.example/g01063/laws.f6rising -/
def laws_f6rising (list1 : List Int) : Option Bool :=
 onL (loop (S := Int) (B := Unit) (R := Bool) (fun (i1 : Int) =>
 if i1 < (list1.length : Int) then
 ((at? list1 (w64 (i1 - 1))).bind fun v1 =>
 (at? list1 i1).bind fun v2 =>
 if v1 ≥ v2 then
 (some (.ret false))
 else
 some (.next (w64 (i1 + 1))))
 else
 some (.brk ())) loopLim 1)
 (fun (_ : Unit) => some true) (fun r => some r)
/-- loop.example/g01063/laws.FnDrums -/
def laws_FnDrums (code1 : List Int) : Option Bool :=
 (laws_f6big code1).bind fun r1 =>
 if r1 then
 (some true)
 else
 (spec_DrawPlacesOf code1).bind fun r2 =>
 (impl_PlacesOf r2.1 r2.2).bind fun r3 =>
 (spec_PlacesOf r2.1 r2.2).bind fun r4 =>
 (impl_SlitPlaces r2.1).bind fun r5 =>
 (spec_SlitPlaces r2.1).bind fun r6 =>
 (spec_DrawPiecesFor code1).bind fun r7 =>
 (impl_PiecesFor r7.1 r7.2.1 r7.2.2).bind fun r8 =>
 (spec_PiecesFor r7.1 r7.2.1 r7.2.2).bind fun r9 =>
 (impl_WorstSlit r2.1 r2.2).bind fun r10 =>
 (spec_WorstSlit r2.1 r2.2).bind fun r11 =>
 (spec_DrawDrumText code1).bind fun r12 =>
 (impl_DrumText r12).bind fun r13 =>
 (impl_ReadDrum r13).bind fun r14 =>
 (spec_DrawReadDrum code1).bind fun r15 =>
 (impl_ReadDrum r15).bind fun r16 =>
 (spec_ReadDrum r15).bind fun r17 =>
 ((if r3.2 = r4.2 then
 ((laws_f6ints r3.1 r4.1).bind fun r18 =>
 if r18 then
 (if r5.2 = r6.2 then
 ((laws_f6ints r5.1 r6.1).bind fun r19 =>
 if r19 then
 (if r8.2 = r9.2 then
 (if r8.1 = r9.1 then
 (if r10.2.2 = r11.2.2 then
 (if r10.1 = r11.1 then
 (if r10.2.1 = r11.2.1 then
 ((spec_DrumText r12).bind fun r20 =>
 if (r13 == r20) then
 (if (r14.2 == (!(r13 == []))) then
 (if r14.2 then
 (if (r14.1.Round == r12.Round && (r14.1.High == r12.High && (r14.1.Slits == r12.Slits && true))) then
 (if (r16.2 == r17.2) then
 (if (r16.1.Round == r17.1.Round && (r16.1.High == r17.1.High && (r16.1.Slits == r17.1.Slits && true))) then
 ((impl_ValidDrum r2.1).bind fun r21 =>
 (spec_ValidDrum r2.1).bind fun r22 =>
 some (!(r21 == r22)))
 else
 some true)
 else
 some true)
 else
 some true)
 else
 if (r16.2 == r17.2) then
 (if (r16.1.Round == r17.1.Round && (r16.1.High == r17.1.High && (r16.1.Slits == r17.1.Slits && true))) then
 ((impl_ValidDrum r2.1).bind fun r23 =>
 (spec_ValidDrum r2.1).bind fun r24 =>
 some (!(r23 == r24)))
 else
 some true)
 else
 some true)
 else
 some true)
 else
 some true)
 else
 some true)
 else
 some true)
 else
 some true)
 else
 some true)
 else
 some true)
 else
 some true)
 else
 some true)
 else
 some true)
 else
 some true) : Option Bool).bind fun (x1 : Bool) =>
 if x1 then
 (some false)
 else
 ((if r8.2 = 0 then
 (if (w64 (r9.1 * (w64 (r7.2.2 - r7.2.1)))) < r7.1.Round then
 (some true)
 else
 some (decide ((w64 ((w64 (r9.1 - 1)) * (w64 (r7.2.2 - r7.2.1)))) ≥ r7.1.Round)))
 else
 some false) : Option Bool).bind fun (x2 : Bool) =>
 if x2 then
 (some false)
 else
 ((if r10.2.2 = 0 then
 (if r11.2.1 < 0 then
 (some true)
 else
 if (w64 (2 * r11.2.1)) > (w64 (r2.1.Round + 1)) then
 (some true)
 else
 some (decide (r11.1 ≥ r2.1.Slits)))
 else
 some false) : Option Bool).bind fun (x3 : Bool) =>
 if x3 then
 (some false)
 else
 if r3.2 = 0 then
 (if (r4.1.length : Int) = r2.2 then
 ((laws_f6rising r4.1).bind fun r25 =>
 if r25 then
 ((at? r4.1 0).bind fun v1 =>
 if v1 = 0 then
 ((at? r4.1 (w64 ((r4.1.length : Int) - 1))).bind fun v2 =>
 some (decide (v2 < r2.1.Round)))
 else
 some false)
 else
 some false)
 else
 some false)
 else
 some true
end Go.Vs.G
