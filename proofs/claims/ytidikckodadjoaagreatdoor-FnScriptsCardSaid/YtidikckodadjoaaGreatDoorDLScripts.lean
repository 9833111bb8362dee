/- The functions that the law reaches, as typed Lean functions, printed by program. No conditions. -/
import Derived.Test.YtidikckodadjoaaGreatDoorV5
set_option maxRecDepth 100000
open Go Go.Vs
namespace Go.Vs.G
structure GAct where
  Tick : Int
  Word : List UInt8
  Slide : List UInt8
  Many : Int
  deriving DecidableEq, Inhabited
structure GFraction where
  Num : Int
  Den : Int
  deriving DecidableEq, Inhabited
structure GL00Src where
  code : List Int
  at_ : Int
  seed : Int
  deriving DecidableEq, Inhabited
structure GPoint where
  X : Int
  Y : Int
  deriving DecidableEq, Inhabited
structure GRemark where
  Row : Int
  Kind : Int
  deriving DecidableEq, Inhabited
structure GScript where
  Slides : List (List UInt8)
  Acts : List GAct
  deriving DecidableEq, Inhabited
def GAct.enc (x : GAct) : Tree := .agg [.int .i64 x.Tick, .str x.Word, .str x.Slide, .int .i64 x.Many]
def GRemark.enc (x : GRemark) : Tree := .agg [.int .i64 x.Row, .int .i64 x.Kind]
def GAct.ok (x : GAct) : Prop := (okI .i64) x.Tick ∧ okS x.Word ∧ okS x.Slide ∧ (okI .i64) x.Many
def GFraction.ok (x : GFraction) : Prop := (okI .i64) x.Num ∧ (okI .i64) x.Den
def GL00Src.ok (x : GL00Src) : Prop := (okL (okI .u8)) x.code ∧ (okI .i64) x.at_ ∧ (okI .u64) x.seed
def GPoint.ok (x : GPoint) : Prop := (okI .i64) x.X ∧ (okI .i64) x.Y
def GRemark.ok (x : GRemark) : Prop := (okI .i64) x.Row ∧ (okI .i64) x.Kind
def GScript.ok (x : GScript) : Prop := (okL okS) x.Slides ∧ (okL GAct.ok) x.Acts
/-- slices.Index[[]string,string] -/
def slices_Index_string_string_832 (s1 : List (List UInt8)) (v1 : List UInt8) : Option Int :=
 onL (loop (S := Int) (B := Unit) (R := Int) (fun (x1 : Int) =>
 if x1 < (s1.length : Int) then
 ((at? s1 x1).bind fun v2 =>
 if (v1 == v2) then
 (some (.ret x1))
 else
 some (.next (w64 (x1 + 1))))
 else
 some (.brk ())) loopLim 0)
 (fun (_ : Unit) => some (-1)) (fun r => some r)
/-- slices.Contains[[]string,string] -/
def slices_Contains_string_string_809 (s1 : List (List UInt8)) (v1 : List UInt8) : Option Bool :=
 (slices_Index_string_string_832 s1 v1).bind fun r1 =>
 some (decide (r1 ≥ 0))
/-- (*loop.example/g01063/impl.Script).hasSlide -/
def impl_Script_hasSlide (x1 : GScript) (name1 : List UInt8) : Option Bool :=
 (slices_Contains_string_string_809 x1.Slides name1).bind fun r1 =>
 some r1
/-- loop.example/g01063/impl.isShown -/
def impl_isShown (acts1 : List GAct) (slide1 : List UInt8) : Option Bool :=
 onL (loop (S := Int) (B := Unit) (R := Bool) (fun (i1 : Int) =>
 if i1 ≥ 0 then
 ((((at? acts1 i1).bind fun v1 =>
 if (v1.Slide == slide1) then
 ((at? acts1 i1).bind fun v2 =>
 some (!(v2.Word == [116, 117, 114, 110])))
 else
 some false) : Option Bool).bind fun (x1 : Bool) =>
 if x1 then
 ((at? acts1 i1).bind fun v3 =>
 some (.ret (v3.Word == [115, 104, 111, 119])))
 else
 some (.next (w64 (i1 - 1))))
 else
 some (.brk ())) loopLim (w64 ((acts1.length : Int) - 1)))
 (fun (_ : Unit) => some false) (fun r => some r)
/-- loop.example/g01063/impl.within -/
def impl_within (n1 : Int) (low1 : Int) (high1 : Int) : Option Bool :=
 if n1 ≥ low1 then
 (some (decide (n1 ≤ high1)))
 else
 some false
/-- (*loop.example/g01063/impl.Script).addAct -/
def impl_Script_addAct (x1 : GScript) (a1 : GAct) : Option (Int × GScript) :=
 ((if (a1.Word == [115, 104, 111, 119]) then
 (some false)
 else
 if (a1.Word == [104, 105, 100, 101]) then
 (some false)
 else
 some (!(a1.Word == [116, 117, 114, 110]))) : Option Bool).bind fun (x2 : Bool) =>
 if x2 then
 (some (1, x1))
 else
 (impl_Script_hasSlide x1 a1.Slide).bind fun r1 =>
 if r1 then
 ((((impl_within a1.Tick 0 10000).bind fun r2 =>
 if r2 then
 ((impl_within a1.Many 0 1000).bind fun r3 =>
 if r3 then
 (if a1.Many = 0 then
 (some false)
 else
 some (!(a1.Word == [116, 117, 114, 110])))
 else
 some true)
 else
 some true) : Option Bool).bind fun (x3 : Bool) =>
 if x3 then
 (some (4, x1))
 else
 ((if (x1.Acts.length : Int) > 0 then
 ((at? x1.Acts (w64 ((x1.Acts.length : Int) - 1))).bind fun v1 =>
 some (decide (v1.Tick > a1.Tick)))
 else
 some false) : Option Bool).bind fun (x4 : Bool) =>
 if x4 then
 (some (7, x1))
 else
 (impl_isShown x1.Acts a1.Slide).bind fun r4 =>
 if ((a1.Word == [115, 104, 111, 119]) == r4) then
 (some (5, x1))
 else
 if (x1.Acts.length : Int) = 60 then
 (some (8, x1))
 else
 (app? x1.Acts ([a1] : List GAct)).bind fun l1 =>
 some (0, (GScript.mk x1.Slides l1)))
 else
 some (6, x1)
/-- loop.example/g01063/impl.IsName -/
def impl_IsName (s1 : List UInt8) : Option Bool :=
 ((if (s1.length : Int) < 1 then
 (some true)
 else
 if (s1.length : Int) > 12 then
 (some true)
 else
 (at? s1 0).bind fun c1 =>
 if (c1.toNat : Int) < 97 then
 (some true)
 else
 (at? s1 0).bind fun c2 =>
 some (decide ((c2.toNat : Int) > 122))) : Option Bool).bind fun (x1 : Bool) =>
 if x1 then
 (some false)
 else
 onL (loop (S := Int) (B := Unit) (R := Bool) (fun (i1 : Int) =>
 if i1 < (s1.length : Int) then
 ((((at? s1 i1).bind fun c3 =>
 if (c3.toNat : Int) < 97 then
 ((at? s1 i1).bind fun c4 =>
 if (c4.toNat : Int) < 48 then
 ((at? s1 i1).bind fun c5 =>
 some (!(decide ((c5.toNat : Int) = 45))))
 else
 (at? s1 i1).bind fun c6 =>
 if (c6.toNat : Int) > 57 then
 ((at? s1 i1).bind fun c7 =>
 some (!(decide ((c7.toNat : Int) = 45))))
 else
 some false)
 else
 (at? s1 i1).bind fun c8 =>
 if (c8.toNat : Int) > 122 then
 ((at? s1 i1).bind fun c9 =>
 if (c9.toNat : Int) < 48 then
 ((at? s1 i1).bind fun c10 =>
 some (!(decide ((c10.toNat : Int) = 45))))
 else
 (at? s1 i1).bind fun c11 =>
 if (c11.toNat : Int) > 57 then
 ((at? s1 i1).bind fun c12 =>
 some (!(decide ((c12.toNat : Int) = 45))))
 else
 some false)
 else
 some false) : Option Bool).bind fun (x2 : Bool) =>
 if x2 then
 (some (.ret false))
 else
 some (.next (w64 (i1 + 1))))
 else
 some (.brk ())) loopLim 1)
 (fun (_ : Unit) => some true) (fun r => some r)
/-- (*loop.example/g01063/impl.Script).addSlide -/
def impl_Script_addSlide (x1 : GScript) (name1 : List UInt8) : Option (Int × GScript) :=
 (impl_IsName name1).bind fun r1 =>
 if r1 then
 ((impl_Script_hasSlide x1 name1).bind fun r2 =>
 if r2 then
 (some (5, x1))
 else
 if (x1.Slides.length : Int) = 60 then
 (some (8, x1))
 else
 (app? x1.Slides ([name1] : List (List UInt8))).bind fun l1 =>
 some (0, (GScript.mk l1 x1.Acts)))
 else
 some (3, x1)
/-- loop.example/g01063/impl.ValidScript -/
def impl_ValidScript (x1 : GScript) : Option Bool :=
 onL (loop (S := (GScript × Int)) (B := GScript) (R := Bool) (fun ((own1, x2) : GScript × Int) =>
 if x2 < (x1.Slides.length : Int) then
 ((at? x1.Slides x2).bind fun v1 =>
 (impl_Script_addSlide own1 v1).bind fun r1 =>
 if r1.1 = 0 then
 (some (.next (r1.2, w64 (x2 + 1))))
 else
 some (.ret false))
 else
 some (.brk own1)) loopLim ((GScript.mk [] []), 0))
 (fun (own2 : GScript) => onL (loop (S := (GScript × Int)) (B := Unit) (R := Bool) (fun ((own3, x3) : GScript × Int) =>
 if x3 < (x1.Acts.length : Int) then
 ((at? x1.Acts x3).bind fun v2 =>
 (impl_Script_addAct own3 v2).bind fun r2 =>
 if r2.1 = 0 then
 (some (.next (r2.2, w64 (x3 + 1))))
 else
 some (.ret false))
 else
 some (.brk ())) loopLim (own2, 0))
 (fun (_ : Unit) => some true) (fun r => some r)) (fun r => some r)
/-- loop.example/g01063/laws.f6big -/
def laws_f6big (code1 : List Int) : Option Bool :=
 some (decide ((code1.length : Int) > 4096))
/-- loop.example/g01063/spec.SameScript -/
def spec_SameScript (a1 : GScript) (b1 : GScript) : Option Bool :=
 ((if (a1.Slides.length : Int) = (b1.Slides.length : Int) then
 (some (!(decide ((a1.Acts.length : Int) = (b1.Acts.length : Int)))))
 else
 some true) : Option Bool).bind fun (x1 : Bool) =>
 if x1 then
 (some false)
 else
 onL (loop (S := Int) (B := Unit) (R := Bool) (fun (i1 : Int) =>
 if i1 < (a1.Slides.length : Int) then
 ((at? a1.Slides i1).bind fun v1 =>
 (at? b1.Slides i1).bind fun v2 =>
 if (v1 == v2) then
 (some (.next (w64 (i1 + 1))))
 else
 some (.ret false))
 else
 some (.brk ())) loopLim 0)
 (fun (_ : Unit) => onL (loop (S := Int) (B := Unit) (R := Bool) (fun (i2 : Int) =>
 if i2 < (a1.Acts.length : Int) then
 ((at? a1.Acts i2).bind fun v3 =>
 (at? b1.Acts i2).bind fun v4 =>
 if (v3.Tick == v4.Tick && (v3.Word == v4.Word && (v3.Slide == v4.Slide && (v3.Many == v4.Many && true)))) then
 (some (.next (w64 (i2 + 1))))
 else
 some (.ret false))
 else
 some (.brk ())) loopLim 0)
 (fun (_ : Unit) => some true) (fun r => some r)) (fun r => some r)
/-- loop.example/g01063/spec.l00From -/
def spec_l00From (code1 : List Int) : Option GL00Src :=
 some (GL00Src.mk code1 0 0)
/-- (*loop.example/g01063/spec.l00Src).next -/
def spec_l00Src_next (s1 : GL00Src) : Option (Int × GL00Src) :=
 ((if s1.at_ < (s1.code.length : Int) then
 ((at? s1.code s1.at_).bind fun v1 =>
 some (w64 (v1)))
 else
 some 0) : Option Int).bind fun (b1 : Int) =>
 if (w64 (s1.at_ + 1)) ≤ (s1.code.length : Int) then
 (some (b1, (GL00Src.mk s1.code (w64 (s1.at_ + 1)) (IntKind.wrap .u64 ((IntKind.wrap .u64 ((IntKind.wrap .u64 (s1.seed * 6364136223846793005)) + (IntKind.wrap .u64 (b1)))) + 1442695040888963407)))))
 else
 (shr? .u64 (IntKind.wrap .u64 ((IntKind.wrap .u64 ((IntKind.wrap .u64 (s1.seed * 6364136223846793005)) + (IntKind.wrap .u64 (b1)))) + 1442695040888963407)) 40).bind fun q1 =>
 some (w64 (bit_and .u64 q1 255), (GL00Src.mk s1.code (w64 (s1.at_ + 1)) (IntKind.wrap .u64 ((IntKind.wrap .u64 ((IntKind.wrap .u64 (s1.seed * 6364136223846793005)) + (IntKind.wrap .u64 (b1)))) + 1442695040888963407))))
/-- (*loop.example/g01063/spec.l00Src).pick -/
def spec_l00Src_pick (s1 : GL00Src) (n1 : Int) : Option (Int × GL00Src) :=
 if n1 ≤ 1 then
 (some (0, s1))
 else
 (spec_l00Src_next s1).bind fun r1 =>
 if n1 > 200 then
 ((spec_l00Src_next r1.2).bind fun r2 =>
 (mod? (w64 ((w64 (r1.1 * 256)) + r2.1)) n1).bind fun q1 =>
 some (q1, r2.2))
 else
 (mod? r1.1 n1).bind fun q2 =>
 some (q2, r1.2)
/-- (*loop.example/g01063/spec.l00Src).text -/
def spec_l00Src_text (s1 : GL00Src) (list1 : List (List UInt8)) : Option ((List UInt8) × GL00Src) :=
 (spec_l00Src_pick s1 (list1.length : Int)).bind fun r1 =>
 (at? list1 r1.1).bind fun v1 =>
 some (v1, r1.2)
/-- loop.example/g01063/spec.l00In -/
def spec_l00In (n1 : Int) (low1 : Int) (high1 : Int) : Option Bool :=
 if n1 ≥ low1 then
 (some (decide (n1 ≤ high1)))
 else
 some false
/-- loop.example/g01063/spec.l18Has -/
def spec_l18Has (list1 : List (List UInt8)) (name1 : List UInt8) : Option Bool :=
 onL (loop (S := Int) (B := Unit) (R := Bool) (fun (i1 : Int) =>
 if i1 < (list1.length : Int) then
 ((at? list1 i1).bind fun v1 =>
 if (v1 == name1) then
 (some (.ret true))
 else
 some (.next (w64 (i1 + 1))))
 else
 some (.brk ())) loopLim 0)
 (fun (_ : Unit) => some false) (fun r => some r)
/-- loop.example/g01063/spec.l18Is -/
def spec_l18Is (acts1 : List GAct) (slide1 : List UInt8) : Option Bool :=
 onL (loop (S := (Bool × Int)) (B := Bool) (R := Empty) (fun ((is1, i1) : Bool × Int) =>
 if i1 < (acts1.length : Int) then
 ((((at? acts1 i1).bind fun v1 =>
 if (v1.Slide == slide1) then
 ((at? acts1 i1).bind fun v2 =>
 some (!(v2.Word == [116, 117, 114, 110])))
 else
 some false) : Option Bool).bind fun (x1 : Bool) =>
 if x1 then
 ((at? acts1 i1).bind fun v3 =>
 some (.next ((v3.Word == [115, 104, 111, 119]), w64 (i1 + 1))))
 else
 some (.next (is1, w64 (i1 + 1))))
 else
 some (.brk is1)) loopLim (false, 0))
 (fun (is2 : Bool) => some is2) Empty.elim
/-- loop.example/g01063/spec.l18Act -/
def spec_l18Act (x1 : GScript) (a1 : GAct) : Option (Int × GScript) :=
 ((if (a1.Word == [115, 104, 111, 119]) then
 (some false)
 else
 if (a1.Word == [104, 105, 100, 101]) then
 (some false)
 else
 some (!(a1.Word == [116, 117, 114, 110]))) : Option Bool).bind fun (x2 : Bool) =>
 if x2 then
 (some (1, x1))
 else
 (spec_l18Has x1.Slides a1.Slide).bind fun r1 =>
 if r1 then
 ((((spec_l00In a1.Tick 0 10000).bind fun r2 =>
 if r2 then
 ((spec_l00In a1.Many 0 1000).bind fun r3 =>
 some (!r3))
 else
 some true) : Option Bool).bind fun (x3 : Bool) =>
 if x3 then
 (some (4, x1))
 else
 ((if (a1.Word == [116, 117, 114, 110]) then
 (some false)
 else
 some (!(decide (a1.Many = 0)))) : Option Bool).bind fun (x4 : Bool) =>
 if x4 then
 (some (4, x1))
 else
 ((if (x1.Acts.length : Int) > 0 then
 ((at? x1.Acts (w64 ((x1.Acts.length : Int) - 1))).bind fun v1 =>
 some (decide (v1.Tick > a1.Tick)))
 else
 some false) : Option Bool).bind fun (x5 : Bool) =>
 if x5 then
 (some (7, x1))
 else
 (spec_l18Is x1.Acts a1.Slide).bind fun r4 =>
 if (r4 == (a1.Word == [115, 104, 111, 119])) then
 (some (5, x1))
 else
 if (x1.Acts.length : Int) ≥ 60 then
 (some (8, x1))
 else
 (app? x1.Acts ([a1] : List GAct)).bind fun l1 =>
 some (0, (GScript.mk x1.Slides l1)))
 else
 some (6, x1)
/-- loop.example/g01063/spec.l18Empty -/
def spec_l18Empty  : Option GScript :=
 some (GScript.mk [] [])
/-- loop.example/g01063/spec.l18Draw -/
def spec_l18Draw (s1 : GL00Src) : Option (GScript × GL00Src) :=
 (spec_l18Empty ).bind fun r1 =>
 (spec_l00Src_pick s1 6).bind fun r2 =>
 onL (loop (S := ((List (List UInt8)) × Int)) (B := (List (List UInt8))) (R := Empty) (fun ((x1, k1) : (List (List UInt8)) × Int) =>
 if k1 > 0 then
 ((at? ([[99, 97, 115, 116, 108, 101], [109, 111, 111, 110], [114, 97, 116, 45, 50], [115, 104, 105, 112], [115, 116, 111, 114, 109]] : List (List UInt8)) (x1.length : Int)).bind fun v1 =>
 (app? x1 ([v1] : List (List UInt8))).bind fun l1 =>
 some (.next (l1, w64 (k1 - 1))))
 else
 some (.brk x1)) loopLim (r1.Slides, r2.1))
 (fun (x2 : List (List UInt8)) => (spec_l00Src_pick r2.2 12).bind fun r3 =>
 onL (loop (S := (GL00Src × GScript × Int × Int)) (B := (GL00Src × GScript)) (R := Empty) (fun ((s2, x3, tick1, k2) : GL00Src × GScript × Int × Int) =>
 ((if k2 > 0 then
 (some (decide ((x3.Slides.length : Int) > 0)))
 else
 some false) : Option Bool).bind fun (x4 : Bool) =>
 if x4 then
 ((spec_l00Src_text s2 [[115, 104, 111, 119], [104, 105, 100, 101], [116, 117, 114, 110]]).bind fun r4 =>
 (spec_l00Src_pick r4.2 (x3.Slides.length : Int)).bind fun r5 =>
 (at? x3.Slides r5.1).bind fun v2 =>
 ((if (r4.1 == [116, 117, 114, 110]) then
 ((spec_l00Src_pick r5.2 40).bind fun r6 =>
 some (r6.2, r6.1))
 else
 some (r5.2, 0)) : Option (GL00Src × Int)).bind fun ((s3, a1) : GL00Src × Int) =>
 (spec_l18Act x3 (GAct.mk tick1 r4.1 v2 a1)).bind fun r7 =>
 (spec_l00Src_pick s3 9).bind fun r8 =>
 some (.next (r8.2, r7.2, w64 (tick1 + r8.1), w64 (k2 - 1))))
 else
 some (.brk (s2, x3))) loopLim (r3.2, (GScript.mk x2 r1.Acts), 0, r3.1))
 (fun ((s4, x5) : GL00Src × GScript) => some (x5, s4)) Empty.elim) Empty.elim
/-- loop.example/g01063/spec.l01Dec -/
def spec_l01Dec (n1 : Int) : Option (List UInt8) :=
 onL (loop (S := ((List Int) × Int)) (B := (List Int)) (R := Empty) (fun ((out1, k1) : (List Int) × Int) =>
 if k1 = 0 then
 (some (.brk out1))
 else
 ((if (k1.tmod 10) < 0 then
 (some (w64 (0 - (k1.tmod 10))))
 else
 some (k1.tmod 10)) : Option Int).bind fun (d1 : Int) =>
 (app? ([IntKind.wrap .u8 (w64 (48 + d1))] : List Int) out1).bind fun l1 =>
 some (.next (l1, w64 (k1.tdiv 10)))) loopLim ([], n1))
 (fun (out2 : List Int) => if (out2.length : Int) = 0 then
 (some [48])
 else
 if n1 < 0 then
 ((app? ([45] : List UInt8) (b2s out2)).bind fun s1 =>
 some s1)
 else
 some (b2s out2)) Empty.elim
/-- loop.example/g01063/spec.l18Text -/
def spec_l18Text (x1 : GScript) : Option (List UInt8) :=
 onL (loop (S := ((List UInt8) × Int)) (B := (List UInt8)) (R := Empty) (fun ((out1, i1) : (List UInt8) × Int) =>
 if i1 < (x1.Slides.length : Int) then
 ((at? x1.Slides i1).bind fun v1 =>
 (app? ([115, 108, 105, 100, 101, 32] : List UInt8) v1).bind fun s1 =>
 (app? (s1 : List UInt8) [10]).bind fun s2 =>
 (app? (out1 : List UInt8) s2).bind fun s3 =>
 some (.next (s3, w64 (i1 + 1))))
 else
 some (.brk out1)) loopLim ([], 0))
 (fun (out2 : List UInt8) => onL (loop (S := ((List UInt8) × Int)) (B := (List UInt8)) (R := Empty) (fun ((out3, i2) : (List UInt8) × Int) =>
 if i2 < (x1.Acts.length : Int) then
 ((at? x1.Acts i2).bind fun v2 =>
 (spec_l01Dec v2.Tick).bind fun r1 =>
 (app? ([97, 116, 32] : List UInt8) r1).bind fun s4 =>
 (app? (s4 : List UInt8) [32]).bind fun s5 =>
 (app? (s5 : List UInt8) v2.Word).bind fun s6 =>
 (app? (s6 : List UInt8) [32]).bind fun s7 =>
 (app? (s7 : List UInt8) v2.Slide).bind fun s8 =>
 (app? (out3 : List UInt8) s8).bind fun s9 =>
 if (v2.Word == [116, 117, 114, 110]) then
 ((spec_l01Dec v2.Many).bind fun r2 =>
 (app? ([32] : List UInt8) r2).bind fun s10 =>
 (app? (s9 : List UInt8) s10).bind fun s11 =>
 (app? (s11 : List UInt8) [10]).bind fun s12 =>
 some (.next (s12, w64 (i2 + 1))))
 else
 (app? (s9 : List UInt8) [10]).bind fun s13 =>
 some (.next (s13, w64 (i2 + 1))))
 else
 some (.brk out3)) loopLim (out2, 0))
 (fun (out4 : List UInt8) => some out4) Empty.elim) Empty.elim
/-- loop.example/g01063/spec.l18DrawText -/
def spec_l18DrawText (s1 : GL00Src) : Option ((List UInt8) × GL00Src) :=
 (spec_l18Draw s1).bind fun r1 =>
 (spec_l18Text r1.1).bind fun r2 =>
 (spec_l00Src_pick r1.2 4).bind fun r3 =>
 onL (loop (S := (GL00Src × (List UInt8) × Int)) (B := (GL00Src × (List UInt8))) (R := Empty) (fun ((s2, t1, k1) : GL00Src × (List UInt8) × Int) =>
 if k1 > 0 then
 ((spec_l00Src_text s2 [[59, 32, 120, 10], [10], [115, 108, 105, 100, 101, 32, 109, 111, 111, 110, 10], [115, 108, 105, 100, 101, 10], [115, 108, 105, 100, 101, 32, 66, 97, 100, 10], [97, 116, 32, 53, 32, 115, 104, 111, 119, 32, 99, 97, 115, 116, 108, 101, 10], [97, 116, 32, 57, 48, 48, 48, 32, 115, 104, 111, 119, 32, 99, 97, 115, 116, 108, 101, 10], [97, 116, 32, 57, 48, 48, 49, 32, 104, 105, 100, 101, 32, 99, 97, 115, 116, 108, 101, 10], [97, 116, 32, 120, 32, 115, 104, 111, 119, 32, 109, 111, 111, 110, 10], [97, 116, 32, 57, 48, 48, 50, 32, 116, 117, 114, 110, 32, 99, 97, 115, 116, 108, 101, 32, 53, 10], [97, 116, 32, 57, 48, 48, 50, 32, 116, 117, 114, 110, 32, 99, 97, 115, 116, 108, 101, 10], [97, 116, 32, 57, 48, 48, 51, 32, 115, 104, 111, 119, 32, 110, 111, 110, 101, 10], [97, 116, 32, 57, 48, 48, 51, 32, 98, 117, 114, 110, 32, 99, 97, 115, 116, 108, 101, 10], [97, 116, 32, 49, 48, 48, 48, 49, 32, 115, 104, 111, 119, 32, 109, 111, 111, 110, 10], [115, 116, 111, 112, 10], [97, 116, 32, 51, 32, 115, 104, 111, 119, 10]]).bind fun r4 =>
 (app? (t1 : List UInt8) r4.1).bind fun s3 =>
 some (.next (r4.2, s3, w64 (k1 - 1))))
 else
 some (.brk (s2, t1))) loopLim (r3.2, r2, r3.1))
 (fun ((s4, t2) : GL00Src × (List UInt8)) => (spec_l00Src_pick s4 16).bind fun r5 =>
 if r5.1 = 0 then
 ((spec_l00Src_pick r5.2 4).bind fun r6 =>
 onL (loop (S := ((List UInt8) × Int)) (B := (List UInt8)) (R := Empty) (fun ((t3, k2) : (List UInt8) × Int) =>
 if k2 > 0 then
 ((app? (t3 : List UInt8) [63, 10]).bind fun s5 =>
 some (.next (s5, w64 (k2 - 1))))
 else
 some (.brk t3)) loopLim (t2, w64 (r6.1 + 19)))
 (fun (t4 : List UInt8) => some (t4, r6.2)) Empty.elim)
 else
 if r5.1 = 1 then
 ((spec_l00Src_pick r5.2 2).bind fun r7 =>
 onL (loop (S := (List UInt8)) (B := (List UInt8)) (R := Empty) (fun (t5 : List UInt8) =>
 if (t5.length : Int) < (w64 (3000 + r7.1)) then
 ((app? (t5 : List UInt8) [32]).bind fun s6 =>
 some (.next s6))
 else
 some (.brk t5)) loopLim t2)
 (fun (t6 : List UInt8) => some (t6, r7.2)) Empty.elim)
 else
 if r5.1 = 2 then
 ((spec_l00Src_pick r5.2 3).bind fun r8 =>
 onL (loop (S := ((List UInt8) × Int)) (B := (List UInt8)) (R := Empty) (fun ((t7, k3) : (List UInt8) × Int) =>
 if k3 > 0 then
 ((spec_l01Dec k3).bind fun r9 =>
 (app? ([115, 108, 105, 100, 101, 32, 122] : List UInt8) r9).bind fun s7 =>
 (app? (s7 : List UInt8) [10]).bind fun s8 =>
 (app? (t7 : List UInt8) s8).bind fun s9 =>
 some (.next (s9, w64 (k3 - 1))))
 else
 some (.brk t7)) loopLim (t2, w64 (60 + r8.1)))
 (fun (t8 : List UInt8) => some (t8, r8.2)) Empty.elim)
 else
 some (t2, r5.2)) Empty.elim
/-- loop.example/g01063/spec.DrawReadScript -/
def spec_DrawReadScript (code1 : List Int) : Option (List UInt8) :=
 (spec_l00From code1).bind fun r1 =>
 (spec_l18DrawText r1).bind fun r2 =>
 some r2.1
/-- loop.example/g01063/impl.Decimal -/
def impl_Decimal (n1 : Int) : Option (List UInt8) :=
 (strconv_FormatInt n1 10).bind fun r1 =>
 some r1
/-- loop.example/g01063/impl.ReadDecimal -/
def impl_ReadDecimal (s1 : List UInt8) : Option (Int × Bool) :=
 ((if (s1.length : Int) > 19 then
 (some true)
 else
 (strings_TrimPrefix s1 [45]).bind fun r1 =>
 some (decide ((r1.length : Int) > 18))) : Option Bool).bind fun (x1 : Bool) =>
 if x1 then
 (some (0, false))
 else
 (strconv_ParseInt s1 10 64).bind fun r2 =>
 ((if r2.2 then
 ((impl_Decimal r2.1).bind fun r3 =>
 some (!(r3 == s1)))
 else
 some true) : Option Bool).bind fun (x2 : Bool) =>
 if x2 then
 (some (0, false))
 else
 some (r2.1, true)
/-- loop.example/g01063/impl.SplitWords$1 -/
def impl_SplitWords_1 (w1 : List UInt8) : Option Bool :=
 some (w1 == [])
/-- loop.example/g01063/impl.SplitWords -/
def impl_SplitWords (s1 : List UInt8) : Option (List (List UInt8)) :=
 (strings_Split s1 [32]).bind fun r1 =>
 (slices_DeleteFunc_string r1).bind fun r2 =>
 some r2
/-- (*loop.example/g01063/impl.Script).addRow -/
def impl_Script_addRow (x1 : GScript) (row1 : List UInt8) : Option (Int × GScript) :=
 (impl_SplitWords row1).bind fun r1 =>
 ((if (r1.length : Int) = 0 then
 (some true)
 else
 (at? r1 0).bind fun v1 =>
 (at? v1 0).bind fun c1 =>
 some (decide ((c1.toNat : Int) = 59))) : Option Bool).bind fun (x2 : Bool) =>
 if x2 then
 (some (0, x1))
 else
 (((at? r1 0).bind fun v2 =>
 if (v2 == [115, 108, 105, 100, 101]) then
 (some (!(decide ((r1.length : Int) = 2))))
 else
 some false) : Option Bool).bind fun (x3 : Bool) =>
 if x3 then
 (some (2, x1))
 else
 (at? r1 0).bind fun v3 =>
 if (v3 == [115, 108, 105, 100, 101]) then
 ((at? r1 1).bind fun v4 =>
 (impl_Script_addSlide x1 v4).bind fun r2 =>
 some (r2.1, r2.2))
 else
 (at? r1 0).bind fun v5 =>
 if (v5 == [97, 116]) then
 (((if (r1.length : Int) > 2 then
 ((at? r1 2).bind fun v6 =>
 some (v6 == [116, 117, 114, 110]))
 else
 some false) : Option Bool).bind fun (turns1 : Bool) =>
 ((if turns1 then
 (if (r1.length : Int) = 5 then
 (some false)
 else
 some true)
 else
 some (!(decide ((r1.length : Int) = 4)))) : Option Bool).bind fun (x4 : Bool) =>
 if x4 then
 (some (2, x1))
 else
 (at? r1 1).bind fun v7 =>
 (impl_ReadDecimal v7).bind fun r3 =>
 ((if turns1 then
 ((at? r1 4).bind fun v8 =>
 (impl_ReadDecimal v8).bind fun r4 =>
 some (r4.1, r4.2))
 else
 some (0, true)) : Option (Int × Bool)).bind fun ((many1, two1) : Int × Bool) =>
 ((if r3.2 then
 (some (!two1))
 else
 some true) : Option Bool).bind fun (x5 : Bool) =>
 if x5 then
 (some (4, x1))
 else
 (at? r1 2).bind fun v9 =>
 (at? r1 3).bind fun v10 =>
 (impl_Script_addAct x1 (GAct.mk r3.1 v9 v10 many1)).bind fun r5 =>
 some (r5.1, r5.2))
 else
 some (1, x1)
/-- loop.example/g01063/impl.ReadScript -/
def impl_ReadScript (text1 : List UInt8) : Option (GScript × (List GRemark) × Int) :=
 if (text1.length : Int) > 3000 then
 (some ((GScript.mk [] []), [], 2))
 else
 (strings_Split text1 [10]).bind fun r1 =>
 onL (loop (S := (GScript × (List GRemark) × Int)) (B := (GScript × (List GRemark))) (R := Empty) (fun ((x1, remarks1, x2) : GScript × (List GRemark) × Int) =>
 if x2 < (r1.length : Int) then
 ((at? r1 x2).bind fun v1 =>
 (impl_Script_addRow x1 v1).bind fun r2 =>
 ((if r2.1 = 0 then
 (some false)
 else
 some (decide ((remarks1.length : Int) < 20))) : Option Bool).bind fun (x3 : Bool) =>
 if x3 then
 ((app? remarks1 ([(GRemark.mk (w64 (x2 + 1)) r2.1)] : List GRemark)).bind fun l1 =>
 some (.next (r2.2, l1, w64 (x2 + 1))))
 else
 some (.next (r2.2, remarks1, w64 (x2 + 1))))
 else
 some (.brk (x1, remarks1))) loopLim ((GScript.mk [] []), [], 0))
 (fun ((x4, remarks2) : GScript × (List GRemark)) => some (x4, remarks2, 0)) Empty.elim
/-- loop.example/g01063/spec.l01Split -/
def spec_l01Split (s1 : List UInt8) (by_1 : Int) : Option (List (List UInt8)) :=
 onL (loop (S := ((List (List UInt8)) × Int × Int)) (B := ((List (List UInt8)) × Int)) (R := Empty) (fun ((out1, from_1, i1) : (List (List UInt8)) × Int × Int) =>
 if i1 < (s1.length : Int) then
 ((at? s1 i1).bind fun c1 =>
 if (c1.toNat : Int) = by_1 then
 ((sub? s1 from_1 i1).bind fun s2 =>
 (app? out1 ([s2] : List (List UInt8))).bind fun l1 =>
 some (.next (l1, w64 (i1 + 1), w64 (i1 + 1))))
 else
 some (.next (out1, from_1, w64 (i1 + 1))))
 else
 some (.brk (out1, from_1))) loopLim ([], 0, 0))
 (fun ((out2, from_2) : (List (List UInt8)) × Int) => (sub? s1 from_2 s1.length).bind fun s3 =>
 (app? out2 ([s3] : List (List UInt8))).bind fun l2 =>
 some l2) Empty.elim
/-- loop.example/g01063/spec.l01Digit -/
def spec_l01Digit (c1 : Int) : Option Bool :=
 if c1 ≥ 48 then
 (some (decide (c1 ≤ 57)))
 else
 some false
/-- loop.example/g01063/spec.l01Small -/
def spec_l01Small (c1 : Int) : Option Bool :=
 if c1 ≥ 97 then
 (some (decide (c1 ≤ 122)))
 else
 some false
/-- loop.example/g01063/spec.IsName -/
def spec_IsName (s1 : List UInt8) : Option Bool :=
 ((if (s1 == []) then
 (some true)
 else
 if (s1.length : Int) > 12 then
 (some true)
 else
 (at? s1 0).bind fun c1 =>
 (spec_l01Small (c1.toNat : Int)).bind fun r1 =>
 some (!r1)) : Option Bool).bind fun (x1 : Bool) =>
 if x1 then
 (some false)
 else
 onL (loop (S := Int) (B := Unit) (R := Bool) (fun (i1 : Int) =>
 if i1 < (s1.length : Int) then
 ((((at? s1 i1).bind fun c2 =>
 (spec_l01Small (c2.toNat : Int)).bind fun r2 =>
 if r2 then
 (some false)
 else
 (at? s1 i1).bind fun c3 =>
 (spec_l01Digit (c3.toNat : Int)).bind fun r3 =>
 if r3 then
 (some false)
 else
 (at? s1 i1).bind fun c4 =>
 some (!(decide ((c4.toNat : Int) = 45)))) : Option Bool).bind fun (x2 : Bool) =>
 if x2 then
 (some (.ret false))
 else
 some (.next (w64 (i1 + 1))))
 else
 some (.brk ())) loopLim 0)
 (fun (_ : Unit) => some true) (fun r => some r)
/-- loop.example/g01063/spec.l18Slide -/
def spec_l18Slide (x1 : GScript) (name1 : List UInt8) : Option (Int × GScript) :=
 (spec_IsName name1).bind fun r1 =>
 if r1 then
 ((spec_l18Has x1.Slides name1).bind fun r2 =>
 if r2 then
 (some (5, x1))
 else
 if (x1.Slides.length : Int) ≥ 60 then
 (some (8, x1))
 else
 (app? x1.Slides ([name1] : List (List UInt8))).bind fun l1 =>
 some (0, (GScript.mk l1 x1.Acts)))
 else
 some (3, x1)
/-- loop.example/g01063/spec.l01Number -/
def spec_l01Number (s1 : List UInt8) : Option (Int × Bool) :=
 ((if (s1 == []) then
 (some false)
 else
 (at? s1 0).bind fun c1 =>
 some (decide ((c1.toNat : Int) = 45))) : Option Bool).bind fun (x1 : Bool) =>
 ((if x1 then
 ((sub? s1 1 s1.length).bind fun s2 =>
 some s2)
 else
 some s1) : Option (List UInt8)).bind fun (t1 : List UInt8) =>
 ((if (t1.length : Int) < 1 then
 (some true)
 else
 some (decide ((t1.length : Int) > 18))) : Option Bool).bind fun (x2 : Bool) =>
 if x2 then
 (some (0, false))
 else
 onL (loop (S := (Int × Int)) (B := Int) (R := (Int × Bool)) (fun ((n1, i1) : Int × Int) =>
 if i1 < (t1.length : Int) then
 ((at? t1 i1).bind fun c2 =>
 (spec_l01Digit (c2.toNat : Int)).bind fun r1 =>
 if r1 then
 ((at? t1 i1).bind fun c3 =>
 some (.next (w64 ((w64 (10 * n1)) + (w64 (IntKind.wrap .u8 ((c3.toNat : Int) - 48)))), w64 (i1 + 1))))
 else
 some (.ret (0, false)))
 else
 some (.brk n1)) loopLim (0, 0))
 (fun (n2 : Int) => ((if (t1.length : Int) < (s1.length : Int) then
 (some (w64 (0 - n2)))
 else
 some n2) : Option Int).bind fun (n3 : Int) =>
 (spec_l01Dec n3).bind fun r2 =>
 if (r2 == s1) then
 (some (n3, true))
 else
 some (0, false)) (fun r => some r)
/-- loop.example/g01063/spec.SplitWords -/
def spec_SplitWords (s1 : List UInt8) : Option (List (List UInt8)) :=
 (spec_l01Split s1 32).bind fun r1 =>
 onL (loop (S := ((List (List UInt8)) × Int)) (B := (List (List UInt8))) (R := Empty) (fun ((out1, i1) : (List (List UInt8)) × Int) =>
 if i1 < (r1.length : Int) then
 ((at? r1 i1).bind fun v1 =>
 if (v1 == []) then
 (some (.next (out1, w64 (i1 + 1))))
 else
 (at? r1 i1).bind fun v2 =>
 (app? out1 ([v2] : List (List UInt8))).bind fun l1 =>
 some (.next (l1, w64 (i1 + 1))))
 else
 some (.brk out1)) loopLim ([], 0))
 (fun (out2 : List (List UInt8)) => some out2) Empty.elim
/-- loop.example/g01063/spec.l18Row -/
def spec_l18Row (x1 : GScript) (row1 : List UInt8) : Option (Int × GScript) :=
 (spec_SplitWords row1).bind fun r1 =>
 ((if (r1.length : Int) = 0 then
 (some true)
 else
 (at? r1 0).bind fun v1 =>
 (at? v1 0).bind fun c1 =>
 some (decide ((c1.toNat : Int) = 59))) : Option Bool).bind fun (x2 : Bool) =>
 if x2 then
 (some (0, x1))
 else
 (at? r1 0).bind fun v2 =>
 if (v2 == [115, 108, 105, 100, 101]) then
 (if (r1.length : Int) = 2 then
 ((at? r1 1).bind fun v3 =>
 (spec_l18Slide x1 v3).bind fun r2 =>
 some (r2.1, r2.2))
 else
 some (2, x1))
 else
 (at? r1 0).bind fun v4 =>
 if (v4 == [97, 116]) then
 (((if (r1.length : Int) < 4 then
 (some true)
 else
 some (decide ((r1.length : Int) > 5))) : Option Bool).bind fun (x3 : Bool) =>
 if x3 then
 (some (2, x1))
 else
 (at? r1 2).bind fun v5 =>
 (at? r1 3).bind fun v6 =>
 if ((v5 == [116, 117, 114, 110]) == (decide ((r1.length : Int) = 5))) then
 ((at? r1 1).bind fun v7 =>
 (spec_l01Number v7).bind fun r3 =>
 if r3.2 then
 (if (r1.length : Int) = 5 then
 ((at? r1 4).bind fun v8 =>
 (spec_l01Number v8).bind fun r4 =>
 if r4.2 then
 ((spec_l18Act x1 (GAct.mk r3.1 v5 v6 r4.1)).bind fun r5 =>
 some (r5.1, r5.2))
 else
 some (4, x1))
 else
 (spec_l18Act x1 (GAct.mk r3.1 v5 v6 0)).bind fun r6 =>
 some (r6.1, r6.2))
 else
 some (4, x1))
 else
 some (2, x1))
 else
 some (1, x1)
/-- loop.example/g01063/spec.ReadScript -/
def spec_ReadScript (text1 : List UInt8) : Option (GScript × (List GRemark) × Int) :=
 if (text1.length : Int) > 3000 then
 (some ((GScript.mk [] []), [], 2))
 else
 (spec_l18Empty ).bind fun r1 =>
 (spec_l01Split text1 10).bind fun r2 =>
 onL (loop (S := (GScript × (List GRemark) × Int)) (B := (GScript × (List GRemark))) (R := Empty) (fun ((x1, remarks1, i1) : GScript × (List GRemark) × Int) =>
 if i1 < (r2.length : Int) then
 ((at? r2 i1).bind fun v1 =>
 (spec_l18Row x1 v1).bind fun r3 =>
 ((if r3.1 = 0 then
 (some false)
 else
 some (decide ((remarks1.length : Int) < 20))) : Option Bool).bind fun (x2 : Bool) =>
 if x2 then
 ((app? remarks1 ([(GRemark.mk (w64 (i1 + 1)) r3.1)] : List GRemark)).bind fun l1 =>
 some (.next (r3.2, l1, w64 (i1 + 1))))
 else
 some (.next (r3.2, remarks1, w64 (i1 + 1))))
 else
 some (.brk (x1, remarks1))) loopLim (r1, [], 0))
 (fun ((x3, remarks2) : GScript × (List GRemark)) => some (x3, remarks2, 0)) Empty.elim
/-- (*loop.example/g01063/spec.l00Src).among -/
def spec_l00Src_among (s1 : GL00Src) (list1 : List Int) : Option (Int × GL00Src) :=
 (spec_l00Src_pick s1 (list1.length : Int)).bind fun r1 =>
 (at? list1 r1.1).bind fun v1 =>
 some (v1, r1.2)
/-- loop.example/g01063/spec.l18Bent -/
def spec_l18Bent (s1 : GL00Src) : Option (GScript × GL00Src) :=
 (spec_l18Draw s1).bind fun r1 =>
 (spec_l00Src_pick r1.2 20).bind fun r2 =>
 if r2.1 = 0 then
 ((spec_l00Src_text r2.2 [[], [109, 111, 111, 110], [83, 117, 110], [115, 117, 110]]).bind fun r3 =>
 (app? r1.1.Slides ([r3.1] : List (List UInt8))).bind fun l1 =>
 some ((GScript.mk l1 r1.1.Acts), r3.2))
 else
 if r2.1 = 1 then
 ((spec_l00Src_among r2.2 [(-1), 0, 10000, 10001]).bind fun r4 =>
 (spec_l00Src_text r4.2 [[115, 104, 111, 119], [98, 117, 114, 110]]).bind fun r5 =>
 (spec_l00Src_text r5.2 [[99, 97, 115, 116, 108, 101], [110, 111, 110, 101]]).bind fun r6 =>
 (app? r1.1.Acts ([(GAct.mk r4.1 r5.1 r6.1 0)] : List GAct)).bind fun l2 =>
 some ((GScript.mk r1.1.Slides l2), r6.2))
 else
 if r2.1 = 2 then
 ((spec_l00Src_among r2.2 [(-1), 0, 1000, 1001]).bind fun r7 =>
 (app? r1.1.Acts ([(GAct.mk 9000 [116, 117, 114, 110] [99, 97, 115, 116, 108, 101] r7.1)] : List GAct)).bind fun l3 =>
 some ((GScript.mk r1.1.Slides l3), r7.2))
 else
 if r2.1 = 3 then
 ((spec_l00Src_pick r2.2 2).bind fun r8 =>
 onL (loop (S := (List GAct)) (B := (List GAct)) (R := Empty) (fun (x1 : List GAct) =>
 if (x1.length : Int) < (w64 (60 + r8.1)) then
 (((if ((x1.length : Int).tmod 2) = 1 then
 (some [104, 105, 100, 101])
 else
 some [115, 104, 111, 119]) : Option (List UInt8)).bind fun (word1 : List UInt8) =>
 (app? x1 ([(GAct.mk 5 word1 [99, 97, 115, 116, 108, 101] 0)] : List GAct)).bind fun l4 =>
 some (.next l4))
 else
 some (.brk x1)) loopLim [])
 (fun (x2 : List GAct) => some ((GScript.mk [[99, 97, 115, 116, 108, 101]] x2), r8.2)) Empty.elim)
 else
 some (r1.1, r2.2)
/-- loop.example/g01063/spec.DrawScriptText -/
def spec_DrawScriptText (code1 : List Int) : Option GScript :=
 (spec_l00From code1).bind fun r1 =>
 (spec_l18Bent r1).bind fun r2 =>
 some r2.1
/-- loop.example/g01063/impl.ScriptText -/
def impl_ScriptText (x1 : GScript) : Option (List UInt8) :=
 (impl_ValidScript x1).bind fun r1 =>
 if r1 then
 (onL (loop (S := ((List UInt8) × Int)) (B := (List UInt8)) (R := Empty) (fun ((out1, x2) : (List UInt8) × Int) =>
 if x2 < (x1.Slides.length : Int) then
 ((at? x1.Slides x2).bind fun v1 =>
 (app? ([115, 108, 105, 100, 101, 32] : List UInt8) v1).bind fun s1 =>
 (app? (s1 : List UInt8) [10]).bind fun s2 =>
 (app? (out1 : List UInt8) s2).bind fun s3 =>
 some (.next (s3, w64 (x2 + 1))))
 else
 some (.brk out1)) loopLim ([], 0))
 (fun (out2 : List UInt8) => onL (loop (S := ((List UInt8) × Int)) (B := (List UInt8)) (R := Empty) (fun ((out3, x3) : (List UInt8) × Int) =>
 if x3 < (x1.Acts.length : Int) then
 ((at? x1.Acts x3).bind fun v2 =>
 (impl_Decimal v2.Tick).bind fun r2 =>
 (app? ([97, 116, 32] : List UInt8) r2).bind fun s4 =>
 (app? (s4 : List UInt8) [32]).bind fun s5 =>
 (app? (s5 : List UInt8) v2.Word).bind fun s6 =>
 (app? (s6 : List UInt8) [32]).bind fun s7 =>
 (app? (s7 : List UInt8) v2.Slide).bind fun s8 =>
 (app? (out3 : List UInt8) s8).bind fun s9 =>
 if (v2.Word == [116, 117, 114, 110]) then
 ((impl_Decimal v2.Many).bind fun r3 =>
 (app? ([32] : List UInt8) r3).bind fun s10 =>
 (app? (s9 : List UInt8) s10).bind fun s11 =>
 (app? (s11 : List UInt8) [10]).bind fun s12 =>
 some (.next (s12, w64 (x3 + 1))))
 else
 (app? (s9 : List UInt8) [10]).bind fun s13 =>
 some (.next (s13, w64 (x3 + 1))))
 else
 some (.brk out3)) loopLim (out2, 0))
 (fun (out4 : List UInt8) => some out4) Empty.elim) Empty.elim)
 else
 some []
/-- loop.example/g01063/spec.l18Own -/
def spec_l18Own (x1 : GScript) : Option GScript :=
 (app? ([] : List (List UInt8)) x1.Slides).bind fun l1 =>
 (app? ([] : List GAct) x1.Acts).bind fun l2 =>
 some (GScript.mk l1 l2)
/-- loop.example/g01063/spec.DrawSameScript -/
def spec_DrawSameScript (code1 : List Int) : Option (GScript × GScript) :=
 (spec_l00From code1).bind fun r1 =>
 (spec_l18Draw r1).bind fun r2 =>
 (spec_l18Own r2.1).bind fun r3 =>
 (spec_l00Src_pick r2.2 4).bind fun r4 =>
 if r4.1 = 0 then
 ((app? r3.Slides ([[120]] : List (List UInt8))).bind fun l1 =>
 some (r2.1, (GScript.mk l1 r3.Acts)))
 else
 if r4.1 = 1 then
 ((app? r3.Acts ([(GAct.mk 0 [] [] 0)] : List GAct)).bind fun l2 =>
 some (r2.1, (GScript.mk r3.Slides l2)))
 else
 if r4.1 = 2 then
 (if (r3.Acts.length : Int) > 0 then
 ((at? r3.Acts 0).bind fun v1 =>
 (at? r3.Acts 0).bind fun v2 =>
 some (r2.1, (GScript.mk r3.Slides (r3.Acts.set ((0 : Int).toNat) (GAct.mk v2.Tick v2.Word v2.Slide (w64 (v1.Many + 1)))))))
 else
 some (r2.1, r3))
 else
 some (r2.1, r3)
/-- loop.example/g01063/spec.DrawRemarkText -/
def spec_DrawRemarkText (code1 : List Int) : Option GRemark :=
 (spec_l00From code1).bind fun r1 =>
 (spec_l00Src_among r1 [(-1), 0, 1, 8, 3001, 3002]).bind fun r2 =>
 (spec_l00Src_pick r2.2 11).bind fun r3 =>
 some (GRemark.mk r2.1 (w64 (r3.1 - 1)))
/-- loop.example/g01063/spec.l18Ok -/
def spec_l18Ok (x1 : GScript) : Option Bool :=
 (spec_l18Empty ).bind fun r1 =>
 onL (loop (S := (GScript × Int)) (B := GScript) (R := Bool) (fun ((y1, i1) : GScript × Int) =>
 if i1 < (x1.Slides.length : Int) then
 ((at? x1.Slides i1).bind fun v1 =>
 (spec_l18Slide y1 v1).bind fun r2 =>
 if r2.1 = 0 then
 (some (.next (r2.2, w64 (i1 + 1))))
 else
 some (.ret false))
 else
 some (.brk y1)) loopLim (r1, 0))
 (fun (y2 : GScript) => onL (loop (S := (GScript × Int)) (B := Unit) (R := Bool) (fun ((y3, i2) : GScript × Int) =>
 if i2 < (x1.Acts.length : Int) then
 ((at? x1.Acts i2).bind fun v2 =>
 (spec_l18Act y3 v2).bind fun r3 =>
 if r3.1 = 0 then
 (some (.next (r3.2, w64 (i2 + 1))))
 else
 some (.ret false))
 else
 some (.brk ())) loopLim (y2, 0))
 (fun (_ : Unit) => some true) (fun r => some r)) (fun r => some r)
/-- loop.example/g01063/spec.ScriptText -/
def spec_ScriptText (x1 : GScript) : Option (List UInt8) :=
 (spec_l18Ok x1).bind fun r1 =>
 if r1 then
 ((spec_l18Text x1).bind fun r2 =>
 some r2)
 else
 some []
/-- slices.Equal[[]string,string] -/
def slices_Equal_string_string_998 (s1 : List (List UInt8)) (s2 : List (List UInt8)) : Option Bool :=
 if (s1.length : Int) = (s2.length : Int) then
 (onL (loop (S := Int) (B := Unit) (R := Bool) (fun (x1 : Int) =>
 if x1 < (s1.length : Int) then
 ((at? s1 x1).bind fun v1 =>
 (at? s2 x1).bind fun v2 =>
 if (v1 == v2) then
 (some (.next (w64 (x1 + 1))))
 else
 some (.ret false))
 else
 some (.brk ())) loopLim 0)
 (fun (_ : Unit) => some true) (fun r => some r))
 else
 some false
/-- slices.Equal[[]loop.example/g01063/impl.Act,loop.example/g01063/impl.Act] -/
def slices_Equal_impl_Act_impl_Act_999 (s1 : List GAct) (s2 : List GAct) : Option Bool :=
 if (s1.length : Int) = (s2.length : Int) then
 (onL (loop (S := Int) (B := Unit) (R := Bool) (fun (x1 : Int) =>
 if x1 < (s1.length : Int) then
 ((at? s1 x1).bind fun v1 =>
 (at? s2 x1).bind fun v2 =>
 if (v1.Tick == v2.Tick && (v1.Word == v2.Word && (v1.Slide == v2.Slide && (v1.Many == v2.Many && true)))) then
 (some (.next (w64 (x1 + 1))))
 else
 some (.ret false))
 else
 some (.brk ())) loopLim 0)
 (fun (_ : Unit) => some true) (fun r => some r))
 else
 some false
/-- loop.example/g01063/impl.SameScript -/
def impl_SameScript (a1 : GScript) (b1 : GScript) : Option Bool :=
 (slices_Equal_string_string_998 a1.Slides b1.Slides).bind fun r1 =>
 if r1 then
 ((slices_Equal_impl_Act_impl_Act_999 a1.Acts b1.Acts).bind fun r2 =>
 some r2)
 else
 some false
/-- loop.example/g01063/impl.RemarkText -/
def impl_RemarkText (r1 : GRemark) : Option (List UInt8) :=
 (((impl_within r1.Row 1 3001).bind fun r2 =>
 if r2 then
 ((impl_within r1.Kind 1 8).bind fun r3 =>
 some (!r3))
 else
 some true) : Option Bool).bind fun (x1 : Bool) =>
 if x1 then
 (some [])
 else
 (impl_Decimal r1.Row).bind fun r4 =>
 (app? ([114, 111, 119, 32] : List UInt8) r4).bind fun s1 =>
 (app? (s1 : List UInt8) [58, 32]).bind fun s2 =>
 (at? (tblOf 989900) r1.Kind).bind fun c1 =>
 (app? (s2 : List UInt8) c1).bind fun s3 =>
 some s3
/-- loop.example/g01063/spec.RemarkText -/
def spec_RemarkText (r1 : GRemark) : Option (List UInt8) :=
 (((spec_l00In r1.Row 1 3001).bind fun r2 =>
 if r2 then
 ((spec_l00In r1.Kind 1 8).bind fun r3 =>
 some (!r3))
 else
 some true) : Option Bool).bind fun (x1 : Bool) =>
 if x1 then
 (some [])
 else
 (spec_l01Dec r1.Row).bind fun r4 =>
 (app? ([114, 111, 119, 32] : List UInt8) r4).bind fun s1 =>
 (app? (s1 : List UInt8) [58, 32]).bind fun s2 =>
 (at? ([[], [119, 111, 114, 100], [99, 111, 117, 110, 116], [110, 97, 109, 101], [110, 117, 109, 98, 101, 114], [116, 119, 105, 99, 101], [110, 111, 110, 101], [111, 114, 100, 101, 114], [102, 117, 108, 108]] : List (List UInt8)) r1.Kind).bind fun v1 =>
 (app? (s2 : List UInt8) v1).bind fun s3 =>
 some s3
/-- loop.example/g01063/spec.ValidScript -/
def spec_ValidScript (x1 : GScript) : Option Bool :=
 (spec_l18Ok x1).bind fun r1 =>
 some r1
/-- loop.example/g01063/laws.FnScripts -/
def laws_FnScripts (code1 : List Int) : Option Bool :=
 (laws_f6big code1).bind fun r1 =>
 if r1 then
 (some true)
 else
 (spec_DrawReadScript code1).bind fun r2 =>
 (impl_ReadScript r2).bind fun r3 =>
 (spec_ReadScript r2).bind fun r4 =>
 (spec_DrawScriptText code1).bind fun r5 =>
 (impl_ScriptText r5).bind fun r6 =>
 (spec_DrawSameScript code1).bind fun r7 =>
 (spec_DrawRemarkText code1).bind fun r8 =>
 ((if r3.2.2 = r4.2.2 then
 ((spec_SameScript r3.1 r4.1).bind fun r9 =>
 if r9 then
 (if (r3.2.1.length : Int) = (r4.2.1.length : Int) then
 ((spec_ScriptText r5).bind fun r10 =>
 if (r6 == r10) then
 ((impl_SameScript r7.1 r7.2).bind fun r11 =>
 (spec_SameScript r7.1 r7.2).bind fun r12 =>
 if (r11 == r12) then
 ((impl_RemarkText r8).bind fun r13 =>
 (spec_RemarkText r8).bind fun r14 =>
 if (r13 == r14) then
 ((impl_ValidScript r5).bind fun r15 =>
 (spec_ValidScript r5).bind fun r16 =>
 some (!(r15 == r16)))
 else
 some true)
 else
 some true)
 else
 some true)
 else
 some true)
 else
 some true)
 else
 some true) : Option Bool).bind fun (x1 : Bool) =>
 if x1 then
 (some false)
 else
 onL (loop (S := Int) (B := Unit) (R := Bool) (fun (i1 : Int) =>
 if i1 < (r4.2.1.length : Int) then
 ((((at? r3.2.1 i1).bind fun v1 =>
 (at? r4.2.1 i1).bind fun v2 =>
 if (v1.Row == v2.Row && (v1.Kind == v2.Kind && true)) then
 ((at? r4.2.1 i1).bind fun v3 =>
 if v3.Row < 1 then
 (some true)
 else
 if i1 > 0 then
 ((at? r4.2.1 (w64 (i1 - 1))).bind fun v4 =>
 (at? r4.2.1 i1).bind fun v5 =>
 if v4.Row ≥ v5.Row then
 (some true)
 else
 (at? r4.2.1 i1).bind fun v6 =>
 (impl_RemarkText v6).bind fun r17 =>
 some (r17 == []))
 else
 (at? r4.2.1 i1).bind fun v7 =>
 (impl_RemarkText v7).bind fun r18 =>
 some (r18 == []))
 else
 some true) : Option Bool).bind fun (x2 : Bool) =>
 if x2 then
 (some (.ret false))
 else
 some (.next (w64 (i1 + 1))))
 else
 some (.brk ())) loopLim 0)
 (fun (_ : Unit) => ((if r3.2.2 = 0 then
 ((impl_ValidScript r3.1).bind fun r19 =>
 some (!r19))
 else
 some false) : Option Bool).bind fun (x3 : Bool) =>
 if x3 then
 (some false)
 else
 ((if (r6 == []) then
 (some true)
 else
 some (decide ((r6.length : Int) > 3000))) : Option Bool).bind fun (x4 : Bool) =>
 if x4 then
 (some true)
 else
 (impl_ReadScript r6).bind fun r20 =>
 if r20.2.2 = 0 then
 (if (r20.2.1.length : Int) = 0 then
 ((spec_SameScript r20.1 r5).bind fun r21 =>
 some r21)
 else
 some false)
 else
 some false) (fun r => some r)
end Go.Vs.G
