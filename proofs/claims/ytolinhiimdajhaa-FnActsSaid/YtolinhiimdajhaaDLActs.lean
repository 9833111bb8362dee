/- The functions that the law reaches, as typed Lean functions, printed by program. No conditions. -/
import Derived.Test.YtolinhiimdajhaaV5
set_option maxRecDepth 100000
open Go Go.Vs
namespace Go.Vs.G
structure GAct where
  Tick : Int
  Word : List UInt8
  Slide : List UInt8
  Many : Int
  deriving DecidableEq, Inhabited
structure GCue where
  At : Int
  Ticks : Int
  Hands : Int
  Slack : Int
  deriving DecidableEq, Inhabited
structure GFraction where
  Num : Int
  Den : Int
  deriving DecidableEq, Inhabited
structure GL00Src where
  code : List Int
  at_ : Int
  seed : Int
  deriving DecidableEq, Inhabited
structure GPoint where
  X : Int
  Y : Int
  deriving DecidableEq, Inhabited
structure GScript where
  Slides : List (List UInt8)
  Acts : List GAct
  deriving DecidableEq, Inhabited
structure GShown where
  On : Int
  Off : Int
  Fade : Int
  deriving DecidableEq, Inhabited
def GAct.enc (x : GAct) : Tree := .agg [.int .i64 x.Tick, .str x.Word, .str x.Slide, .int .i64 x.Many]
def GCue.enc (x : GCue) : Tree := .agg [.int .i64 x.At, .int .i64 x.Ticks, .int .i64 x.Hands, .int .i64 x.Slack]
def GPoint.enc (x : GPoint) : Tree := .agg [.int .i64 x.X, .int .i64 x.Y]
def GShown.enc (x : GShown) : Tree := .agg [.int .i64 x.On, .int .i64 x.Off, .int .i64 x.Fade]
def GAct.ok (x : GAct) : Prop := (okI .i64) x.Tick ∧ okS x.Word ∧ okS x.Slide ∧ (okI .i64) x.Many
def GCue.ok (x : GCue) : Prop := (okI .i64) x.At ∧ (okI .i64) x.Ticks ∧ (okI .i64) x.Hands ∧ (okI .i64) x.Slack
def GFraction.ok (x : GFraction) : Prop := (okI .i64) x.Num ∧ (okI .i64) x.Den
def GL00Src.ok (x : GL00Src) : Prop := (okL (okI .u8)) x.code ∧ (okI .i64) x.at_ ∧ (okI .u64) x.seed
def GPoint.ok (x : GPoint) : Prop := (okI .i64) x.X ∧ (okI .i64) x.Y
def GScript.ok (x : GScript) : Prop := (okL okS) x.Slides ∧ (okL GAct.ok) x.Acts
def GShown.ok (x : GShown) : Prop := (okI .i64) x.On ∧ (okI .i64) x.Off ∧ (okI .i64) x.Fade
/-- loop.example/g01063/impl.NeverShown$1 -/
def impl_NeverShown_1 (a1 : GAct) (x1 : List UInt8) : Option Bool :=
 if (a1.Slide == x1) then
 (some (a1.Word == [115, 104, 111, 119]))
 else
 some false
/-- slices.Index[[]string,string] -/
def slices_Index_string_string_832 (s1 : List (List UInt8)) (v1 : List UInt8) : Option Int :=
 onL (loop (S := Int) (B := Unit) (R := Int) (fun (x1 : Int) =>
 if x1 < (s1.length : Int) then
 ((at? s1 x1).bind fun v2 =>
 if (v1 == v2) then
 (some (.ret x1))
 else
 some (.next (w64 (x1 + 1))))
 else
 some (.brk ())) loopLim 0)
 (fun (_ : Unit) => some (-1)) (fun r => some r)
/-- slices.Contains[[]string,string] -/
def slices_Contains_string_string_809 (s1 : List (List UInt8)) (v1 : List UInt8) : Option Bool :=
 (slices_Index_string_string_832 s1 v1).bind fun r1 =>
 some (decide (r1 ≥ 0))
/-- (*loop.example/g01063/impl.Script).hasSlide -/
def impl_Script_hasSlide (x1 : GScript) (name1 : List UInt8) : Option Bool :=
 (slices_Contains_string_string_809 x1.Slides name1).bind fun r1 =>
 some r1
/-- loop.example/g01063/impl.isShown -/
def impl_isShown (acts1 : List GAct) (slide1 : List UInt8) : Option Bool :=
 onL (loop (S := Int) (B := Unit) (R := Bool) (fun (i1 : Int) =>
 if i1 ≥ 0 then
 ((((at? acts1 i1).bind fun v1 =>
 if (v1.Slide == slide1) then
 ((at? acts1 i1).bind fun v2 =>
 some (!(v2.Word == [116, 117, 114, 110])))
 else
 some false) : Option Bool).bind fun (x1 : Bool) =>
 if x1 then
 ((at? acts1 i1).bind fun v3 =>
 some (.ret (v3.Word == [115, 104, 111, 119])))
 else
 some (.next (w64 (i1 - 1))))
 else
 some (.brk ())) loopLim (w64 ((acts1.length : Int) - 1)))
 (fun (_ : Unit) => some false) (fun r => some r)
/-- loop.example/g01063/impl.within -/
def impl_within (n1 : Int) (low1 : Int) (high1 : Int) : Option Bool :=
 if n1 ≥ low1 then
 (some (decide (n1 ≤ high1)))
 else
 some false
/-- (*loop.example/g01063/impl.Script).addAct -/
def impl_Script_addAct (x1 : GScript) (a1 : GAct) : Option (Int × GScript) :=
 ((if (a1.Word == [115, 104, 111, 119]) then
 (some false)
 else
 if (a1.Word == [104, 105, 100, 101]) then
 (some false)
 else
 some (!(a1.Word == [116, 117, 114, 110]))) : Option Bool).bind fun (x2 : Bool) =>
 if x2 then
 (some (1, x1))
 else
 (impl_Script_hasSlide x1 a1.Slide).bind fun r1 =>
 if r1 then
 ((((impl_within a1.Tick 0 10000).bind fun r2 =>
 if r2 then
 ((impl_within a1.Many 0 1000).bind fun r3 =>
 if r3 then
 (if a1.Many = 0 then
 (some false)
 else
 some (!(a1.Word == [116, 117, 114, 110])))
 else
 some true)
 else
 some true) : Option Bool).bind fun (x3 : Bool) =>
 if x3 then
 (some (4, x1))
 else
 ((if (x1.Acts.length : Int) > 0 then
 ((at? x1.Acts (w64 ((x1.Acts.length : Int) - 1))).bind fun v1 =>
 some (decide (v1.Tick > a1.Tick)))
 else
 some false) : Option Bool).bind fun (x4 : Bool) =>
 if x4 then
 (some (7, x1))
 else
 (impl_isShown x1.Acts a1.Slide).bind fun r4 =>
 if ((a1.Word == [115, 104, 111, 119]) == r4) then
 (some (5, x1))
 else
 if (x1.Acts.length : Int) = 60 then
 (some (8, x1))
 else
 (app? x1.Acts ([a1] : List GAct)).bind fun l1 =>
 some (0, (GScript.mk x1.Slides l1)))
 else
 some (6, x1)
/-- loop.example/g01063/impl.IsName -/
def impl_IsName (s1 : List UInt8) : Option Bool :=
 ((if (s1.length : Int) < 1 then
 (some true)
 else
 if (s1.length : Int) > 12 then
 (some true)
 else
 (at? s1 0).bind fun c1 =>
 if (c1.toNat : Int) < 97 then
 (some true)
 else
 (at? s1 0).bind fun c2 =>
 some (decide ((c2.toNat : Int) > 122))) : Option Bool).bind fun (x1 : Bool) =>
 if x1 then
 (some false)
 else
 onL (loop (S := Int) (B := Unit) (R := Bool) (fun (i1 : Int) =>
 if i1 < (s1.length : Int) then
 ((((at? s1 i1).bind fun c3 =>
 if (c3.toNat : Int) < 97 then
 ((at? s1 i1).bind fun c4 =>
 if (c4.toNat : Int) < 48 then
 ((at? s1 i1).bind fun c5 =>
 some (!(decide ((c5.toNat : Int) = 45))))
 else
 (at? s1 i1).bind fun c6 =>
 if (c6.toNat : Int) > 57 then
 ((at? s1 i1).bind fun c7 =>
 some (!(decide ((c7.toNat : Int) = 45))))
 else
 some false)
 else
 (at? s1 i1).bind fun c8 =>
 if (c8.toNat : Int) > 122 then
 ((at? s1 i1).bind fun c9 =>
 if (c9.toNat : Int) < 48 then
 ((at? s1 i1).bind fun c10 =>
 some (!(decide ((c10.toNat : Int) = 45))))
 else
 (at? s1 i1).bind fun c11 =>
 if (c11.toNat : Int) > 57 then
 ((at? s1 i1).bind fun c12 =>
 some (!(decide ((c12.toNat : Int) = 45))))
 else
 some false)
 else
 some false) : Option Bool).bind fun (x2 : Bool) =>
 if x2 then
 (some (.ret false))
 else
 some (.next (w64 (i1 + 1))))
 else
 some (.brk ())) loopLim 1)
 (fun (_ : Unit) => some true) (fun r => some r)
/-- (*loop.example/g01063/impl.Script).addSlide -/
def impl_Script_addSlide (x1 : GScript) (name1 : List UInt8) : Option (Int × GScript) :=
 (impl_IsName name1).bind fun r1 =>
 if r1 then
 ((impl_Script_hasSlide x1 name1).bind fun r2 =>
 if r2 then
 (some (5, x1))
 else
 if (x1.Slides.length : Int) = 60 then
 (some (8, x1))
 else
 (app? x1.Slides ([name1] : List (List UInt8))).bind fun l1 =>
 some (0, (GScript.mk l1 x1.Acts)))
 else
 some (3, x1)
/-- loop.example/g01063/impl.ValidScript -/
def impl_ValidScript (x1 : GScript) : Option Bool :=
 onL (loop (S := (GScript × Int)) (B := GScript) (R := Bool) (fun ((own1, x2) : GScript × Int) =>
 if x2 < (x1.Slides.length : Int) then
 ((at? x1.Slides x2).bind fun v1 =>
 (impl_Script_addSlide own1 v1).bind fun r1 =>
 if r1.1 = 0 then
 (some (.next (r1.2, w64 (x2 + 1))))
 else
 some (.ret false))
 else
 some (.brk own1)) loopLim ((GScript.mk [] []), 0))
 (fun (own2 : GScript) => onL (loop (S := (GScript × Int)) (B := Unit) (R := Bool) (fun ((own3, x3) : GScript × Int) =>
 if x3 < (x1.Acts.length : Int) then
 ((at? x1.Acts x3).bind fun v2 =>
 (impl_Script_addAct own3 v2).bind fun r2 =>
 if r2.1 = 0 then
 (some (.next (r2.2, w64 (x3 + 1))))
 else
 some (.ret false))
 else
 some (.brk ())) loopLim (own2, 0))
 (fun (_ : Unit) => some true) (fun r => some r)) (fun r => some r)
/-- slices.IndexFunc[[]loop.example/g01063/impl.Act,loop.example/g01063/impl.Act] -/
def slices_IndexFunc_impl_Act_impl_Act_819 (s1 : List GAct) (f1 : GAct → Option Bool) : Option Int :=
 onL (loop (S := Int) (B := Unit) (R := Int) (fun (x1 : Int) =>
 if x1 < (s1.length : Int) then
 ((at? s1 x1).bind fun v1 =>
 (f1 v1).bind fun r1 =>
 if r1 then
 (some (.ret x1))
 else
 some (.next (w64 (x1 + 1))))
 else
 some (.brk ())) loopLim 0)
 (fun (_ : Unit) => some (-1)) (fun r => some r)
/-- slices.ContainsFunc[[]loop.example/g01063/impl.Act,loop.example/g01063/impl.Act] -/
def slices_ContainsFunc_impl_Act_impl_Act_797 (s1 : List GAct) (f1 : GAct → Option Bool) : Option Bool :=
 (slices_IndexFunc_impl_Act_impl_Act_819 s1 f1).bind fun r1 =>
 some (decide (r1 ≥ 0))
/-- loop.example/g01063/impl.NeverShown -/
def impl_NeverShown (x1 : GScript) : Option ((List (List UInt8)) × Int) :=
 (impl_ValidScript x1).bind fun r1 =>
 if r1 then
 (onL (loop (S := ((List (List UInt8)) × Int)) (B := (List (List UInt8))) (R := Empty) (fun ((out1, x2) : (List (List UInt8)) × Int) =>
 if x2 < (x1.Slides.length : Int) then
 ((at? x1.Slides x2).bind fun v1 =>
 (slices_ContainsFunc_impl_Act_impl_Act_797 x1.Acts (fun a0 => impl_NeverShown_1 a0 v1)).bind fun r2 =>
 if r2 then
 (some (.next (out1, w64 (x2 + 1))))
 else
 (app? out1 ([v1] : List (List UInt8))).bind fun l1 =>
 some (.next (l1, w64 (x2 + 1))))
 else
 some (.brk out1)) loopLim ([], 0))
 (fun (out2 : List (List UInt8)) => some (out2, 0)) Empty.elim)
 else
 some ([], 1)
/-- loop.example/g01063/impl.ShiftScript -/
def impl_ShiftScript (x1 : GScript) (by_1 : Int) : Option (GScript × Int) :=
 (impl_ValidScript x1).bind fun r1 =>
 if r1 then
 ((impl_within by_1 0 10000).bind fun r2 =>
 if r2 then
 ((cloneL x1.Slides).bind fun r3 =>
 (cloneL x1.Acts).bind fun r4 =>
 onL (loop (S := ((List GAct) × Int)) (B := (List GAct)) (R := Empty) (fun ((out1, x2) : (List GAct) × Int) =>
 if x2 < (r4.length : Int) then
 ((at? out1 x2).bind fun v1 =>
 (at? out1 x2).bind fun v2 =>
 some (.next (out1.set x2.toNat (GAct.mk (w64 (v1.Tick + by_1)) v2.Word v2.Slide v2.Many), w64 (x2 + 1))))
 else
 some (.brk out1)) loopLim (r4, 0))
 (fun (out2 : List GAct) => (impl_ValidScript (GScript.mk r3 out2)).bind fun r5 =>
 if r5 then
 (some ((GScript.mk r3 out2), 0))
 else
 some ((GScript.mk [] []), 5)) Empty.elim)
 else
 some ((GScript.mk [] []), 2))
 else
 some ((GScript.mk [] []), 1)
/-- loop.example/g01063/impl.ShownAt -/
def impl_ShownAt (x1 : GScript) (tick1 : Int) : Option ((List (List UInt8)) × Int) :=
 (impl_ValidScript x1).bind fun r1 =>
 if r1 then
 ((impl_within tick1 0 10000).bind fun r2 =>
 if r2 then
 (onL (loop (S := Int) (B := Int) (R := Empty) (fun (n1 : Int) =>
 ((if n1 < (x1.Acts.length : Int) then
 ((at? x1.Acts n1).bind fun v1 =>
 some (decide (v1.Tick ≤ tick1)))
 else
 some false) : Option Bool).bind fun (x2 : Bool) =>
 if x2 then
 (some (.next (w64 (n1 + 1))))
 else
 some (.brk n1)) loopLim 0)
 (fun (n2 : Int) => onL (loop (S := ((List (List UInt8)) × Int)) (B := (List (List UInt8))) (R := Empty) (fun ((out1, x3) : (List (List UInt8)) × Int) =>
 if x3 < (x1.Slides.length : Int) then
 ((at? x1.Slides x3).bind fun v2 =>
 (sub? x1.Acts 0 n2).bind fun l1 =>
 (impl_isShown l1 v2).bind fun r3 =>
 if r3 then
 ((app? out1 ([v2] : List (List UInt8))).bind fun l2 =>
 some (.next (l2, w64 (x3 + 1))))
 else
 some (.next (out1, w64 (x3 + 1))))
 else
 some (.brk out1)) loopLim ([], 0))
 (fun (out2 : List (List UInt8)) => some (out2, 0)) Empty.elim) Empty.elim)
 else
 some ([], 2))
 else
 some ([], 1)
/-- loop.example/g01063/impl.TicksShown -/
def impl_TicksShown (x1 : GScript) (slide1 : List UInt8) : Option (Int × Int) :=
 (impl_ValidScript x1).bind fun r1 =>
 if r1 then
 ((impl_Script_hasSlide x1 slide1).bind fun r2 =>
 if r2 then
 ((impl_isShown x1.Acts slide1).bind fun r3 =>
 if r3 then
 (some (0, 6))
 else
 onL (loop (S := (Int × Int × Int)) (B := Int) (R := Empty) (fun ((sum1, since1, x2) : Int × Int × Int) =>
 if x2 < (x1.Acts.length : Int) then
 ((at? x1.Acts x2).bind fun v1 =>
 if (v1.Slide == slide1) then
 (if (v1.Word == [115, 104, 111, 119]) then
 (some (.next (sum1, v1.Tick, w64 (x2 + 1))))
 else
 if (v1.Word == [104, 105, 100, 101]) then
 (some (.next (w64 (sum1 + (w64 (v1.Tick - since1))), since1, w64 (x2 + 1))))
 else
 some (.next (sum1, since1, w64 (x2 + 1))))
 else
 some (.next (sum1, since1, w64 (x2 + 1))))
 else
 some (.brk sum1)) loopLim (0, 0, 0))
 (fun (sum2 : Int) => some (sum2, 0)) Empty.elim)
 else
 some (0, 3))
 else
 some (0, 1)
/-- loop.example/g01063/laws.f6big -/
def laws_f6big (code1 : List Int) : Option Bool :=
 some (decide ((code1.length : Int) > 4096))
/-- loop.example/g01063/laws.f6texts -/
def laws_f6texts (a1 : List (List UInt8)) (b1 : List (List UInt8)) : Option Bool :=
 if (a1.length : Int) = (b1.length : Int) then
 (onL (loop (S := Int) (B := Unit) (R := Bool) (fun (i1 : Int) =>
 if i1 < (a1.length : Int) then
 ((at? a1 i1).bind fun v1 =>
 (at? b1 i1).bind fun v2 =>
 if (v1 == v2) then
 (some (.next (w64 (i1 + 1))))
 else
 some (.ret false))
 else
 some (.brk ())) loopLim 0)
 (fun (_ : Unit) => some true) (fun r => some r))
 else
 some false
/-- loop.example/g01063/laws.f6word -/
def laws_f6word (list1 : List (List UInt8)) (s1 : List UInt8) : Option Bool :=
 onL (loop (S := Int) (B := Unit) (R := Bool) (fun (i1 : Int) =>
 if i1 < (list1.length : Int) then
 ((at? list1 i1).bind fun v1 =>
 if (v1 == s1) then
 (some (.ret true))
 else
 some (.next (w64 (i1 + 1))))
 else
 some (.brk ())) loopLim 0)
 (fun (_ : Unit) => some false) (fun r => some r)
/-- (*loop.example/g01063/spec.l00Src).next -/
def spec_l00Src_next (s1 : GL00Src) : Option (Int × GL00Src) :=
 ((if s1.at_ < (s1.code.length : Int) then
 ((at? s1.code s1.at_).bind fun v1 =>
 some (w64 (v1)))
 else
 some 0) : Option Int).bind fun (b1 : Int) =>
 if (w64 (s1.at_ + 1)) ≤ (s1.code.length : Int) then
 (some (b1, (GL00Src.mk s1.code (w64 (s1.at_ + 1)) (IntKind.wrap .u64 ((IntKind.wrap .u64 ((IntKind.wrap .u64 (s1.seed * 6364136223846793005)) + (IntKind.wrap .u64 (b1)))) + 1442695040888963407)))))
 else
 (shr? .u64 (IntKind.wrap .u64 ((IntKind.wrap .u64 ((IntKind.wrap .u64 (s1.seed * 6364136223846793005)) + (IntKind.wrap .u64 (b1)))) + 1442695040888963407)) 40).bind fun q1 =>
 some (w64 (bit_and .u64 q1 255), (GL00Src.mk s1.code (w64 (s1.at_ + 1)) (IntKind.wrap .u64 ((IntKind.wrap .u64 ((IntKind.wrap .u64 (s1.seed * 6364136223846793005)) + (IntKind.wrap .u64 (b1)))) + 1442695040888963407))))
/-- (*loop.example/g01063/spec.l00Src).pick -/
def spec_l00Src_pick (s1 : GL00Src) (n1 : Int) : Option (Int × GL00Src) :=
 if n1 ≤ 1 then
 (some (0, s1))
 else
 (spec_l00Src_next s1).bind fun r1 =>
 if n1 > 200 then
 ((spec_l00Src_next r1.2).bind fun r2 =>
 (mod? (w64 ((w64 (r1.1 * 256)) + r2.1)) n1).bind fun q1 =>
 some (q1, r2.2))
 else
 (mod? r1.1 n1).bind fun q2 =>
 some (q2, r1.2)
/-- (*loop.example/g01063/spec.l00Src).among -/
def spec_l00Src_among (s1 : GL00Src) (list1 : List Int) : Option (Int × GL00Src) :=
 (spec_l00Src_pick s1 (list1.length : Int)).bind fun r1 =>
 (at? list1 r1.1).bind fun v1 =>
 some (v1, r1.2)
/-- (*loop.example/g01063/spec.l00Src).one -/
def spec_l00Src_one (s1 : GL00Src) (n1 : Int) : Option (Bool × GL00Src) :=
 (spec_l00Src_pick s1 n1).bind fun r1 =>
 some ((decide (r1.1 = 0)), r1.2)
/-- loop.example/g01063/spec.l00From -/
def spec_l00From (code1 : List Int) : Option GL00Src :=
 some (GL00Src.mk code1 0 0)
/-- (*loop.example/g01063/spec.l00Src).text -/
def spec_l00Src_text (s1 : GL00Src) (list1 : List (List UInt8)) : Option ((List UInt8) × GL00Src) :=
 (spec_l00Src_pick s1 (list1.length : Int)).bind fun r1 =>
 (at? list1 r1.1).bind fun v1 =>
 some (v1, r1.2)
/-- loop.example/g01063/spec.l00In -/
def spec_l00In (n1 : Int) (low1 : Int) (high1 : Int) : Option Bool :=
 if n1 ≥ low1 then
 (some (decide (n1 ≤ high1)))
 else
 some false
/-- loop.example/g01063/spec.l18Has -/
def spec_l18Has (list1 : List (List UInt8)) (name1 : List UInt8) : Option Bool :=
 onL (loop (S := Int) (B := Unit) (R := Bool) (fun (i1 : Int) =>
 if i1 < (list1.length : Int) then
 ((at? list1 i1).bind fun v1 =>
 if (v1 == name1) then
 (some (.ret true))
 else
 some (.next (w64 (i1 + 1))))
 else
 some (.brk ())) loopLim 0)
 (fun (_ : Unit) => some false) (fun r => some r)
/-- loop.example/g01063/spec.l18Is -/
def spec_l18Is (acts1 : List GAct) (slide1 : List UInt8) : Option Bool :=
 onL (loop (S := (Bool × Int)) (B := Bool) (R := Empty) (fun ((is1, i1) : Bool × Int) =>
 if i1 < (acts1.length : Int) then
 ((((at? acts1 i1).bind fun v1 =>
 if (v1.Slide == slide1) then
 ((at? acts1 i1).bind fun v2 =>
 some (!(v2.Word == [116, 117, 114, 110])))
 else
 some false) : Option Bool).bind fun (x1 : Bool) =>
 if x1 then
 ((at? acts1 i1).bind fun v3 =>
 some (.next ((v3.Word == [115, 104, 111, 119]), w64 (i1 + 1))))
 else
 some (.next (is1, w64 (i1 + 1))))
 else
 some (.brk is1)) loopLim (false, 0))
 (fun (is2 : Bool) => some is2) Empty.elim
/-- loop.example/g01063/spec.l18Act -/
def spec_l18Act (x1 : GScript) (a1 : GAct) : Option (Int × GScript) :=
 ((if (a1.Word == [115, 104, 111, 119]) then
 (some false)
 else
 if (a1.Word == [104, 105, 100, 101]) then
 (some false)
 else
 some (!(a1.Word == [116, 117, 114, 110]))) : Option Bool).bind fun (x2 : Bool) =>
 if x2 then
 (some (1, x1))
 else
 (spec_l18Has x1.Slides a1.Slide).bind fun r1 =>
 if r1 then
 ((((spec_l00In a1.Tick 0 10000).bind fun r2 =>
 if r2 then
 ((spec_l00In a1.Many 0 1000).bind fun r3 =>
 some (!r3))
 else
 some true) : Option Bool).bind fun (x3 : Bool) =>
 if x3 then
 (some (4, x1))
 else
 ((if (a1.Word == [116, 117, 114, 110]) then
 (some false)
 else
 some (!(decide (a1.Many = 0)))) : Option Bool).bind fun (x4 : Bool) =>
 if x4 then
 (some (4, x1))
 else
 ((if (x1.Acts.length : Int) > 0 then
 ((at? x1.Acts (w64 ((x1.Acts.length : Int) - 1))).bind fun v1 =>
 some (decide (v1.Tick > a1.Tick)))
 else
 some false) : Option Bool).bind fun (x5 : Bool) =>
 if x5 then
 (some (7, x1))
 else
 (spec_l18Is x1.Acts a1.Slide).bind fun r4 =>
 if (r4 == (a1.Word == [115, 104, 111, 119])) then
 (some (5, x1))
 else
 if (x1.Acts.length : Int) ≥ 60 then
 (some (8, x1))
 else
 (app? x1.Acts ([a1] : List GAct)).bind fun l1 =>
 some (0, (GScript.mk x1.Slides l1)))
 else
 some (6, x1)
/-- loop.example/g01063/spec.l18Empty -/
def spec_l18Empty  : Option GScript :=
 some (GScript.mk [] [])
/-- loop.example/g01063/spec.l18Draw -/
def spec_l18Draw (s1 : GL00Src) : Option (GScript × GL00Src) :=
 (spec_l18Empty ).bind fun r1 =>
 (spec_l00Src_pick s1 6).bind fun r2 =>
 onL (loop (S := ((List (List UInt8)) × Int)) (B := (List (List UInt8))) (R := Empty) (fun ((x1, k1) : (List (List UInt8)) × Int) =>
 if k1 > 0 then
 ((at? ([[99, 97, 115, 116, 108, 101], [109, 111, 111, 110], [114, 97, 116, 45, 50], [115, 104, 105, 112], [115, 116, 111, 114, 109]] : List (List UInt8)) (x1.length : Int)).bind fun v1 =>
 (app? x1 ([v1] : List (List UInt8))).bind fun l1 =>
 some (.next (l1, w64 (k1 - 1))))
 else
 some (.brk x1)) loopLim (r1.Slides, r2.1))
 (fun (x2 : List (List UInt8)) => (spec_l00Src_pick r2.2 12).bind fun r3 =>
 onL (loop (S := (GL00Src × GScript × Int × Int)) (B := (GL00Src × GScript)) (R := Empty) (fun ((s2, x3, tick1, k2) : GL00Src × GScript × Int × Int) =>
 ((if k2 > 0 then
 (some (decide ((x3.Slides.length : Int) > 0)))
 else
 some false) : Option Bool).bind fun (x4 : Bool) =>
 if x4 then
 ((spec_l00Src_text s2 [[115, 104, 111, 119], [104, 105, 100, 101], [116, 117, 114, 110]]).bind fun r4 =>
 (spec_l00Src_pick r4.2 (x3.Slides.length : Int)).bind fun r5 =>
 (at? x3.Slides r5.1).bind fun v2 =>
 ((if (r4.1 == [116, 117, 114, 110]) then
 ((spec_l00Src_pick r5.2 40).bind fun r6 =>
 some (r6.2, r6.1))
 else
 some (r5.2, 0)) : Option (GL00Src × Int)).bind fun ((s3, a1) : GL00Src × Int) =>
 (spec_l18Act x3 (GAct.mk tick1 r4.1 v2 a1)).bind fun r7 =>
 (spec_l00Src_pick s3 9).bind fun r8 =>
 some (.next (r8.2, r7.2, w64 (tick1 + r8.1), w64 (k2 - 1))))
 else
 some (.brk (s2, x3))) loopLim (r3.2, (GScript.mk x2 r1.Acts), 0, r3.1))
 (fun ((s4, x5) : GL00Src × GScript) => some (x5, s4)) Empty.elim) Empty.elim
/-- loop.example/g01063/spec.l18Bent -/
def spec_l18Bent (s1 : GL00Src) : Option (GScript × GL00Src) :=
 (spec_l18Draw s1).bind fun r1 =>
 (spec_l00Src_pick r1.2 20).bind fun r2 =>
 if r2.1 = 0 then
 ((spec_l00Src_text r2.2 [[], [109, 111, 111, 110], [83, 117, 110], [115, 117, 110]]).bind fun r3 =>
 (app? r1.1.Slides ([r3.1] : List (List UInt8))).bind fun l1 =>
 some ((GScript.mk l1 r1.1.Acts), r3.2))
 else
 if r2.1 = 1 then
 ((spec_l00Src_among r2.2 [(-1), 0, 10000, 10001]).bind fun r4 =>
 (spec_l00Src_text r4.2 [[115, 104, 111, 119], [98, 117, 114, 110]]).bind fun r5 =>
 (spec_l00Src_text r5.2 [[99, 97, 115, 116, 108, 101], [110, 111, 110, 101]]).bind fun r6 =>
 (app? r1.1.Acts ([(GAct.mk r4.1 r5.1 r6.1 0)] : List GAct)).bind fun l2 =>
 some ((GScript.mk r1.1.Slides l2), r6.2))
 else
 if r2.1 = 2 then
 ((spec_l00Src_among r2.2 [(-1), 0, 1000, 1001]).bind fun r7 =>
 (app? r1.1.Acts ([(GAct.mk 9000 [116, 117, 114, 110] [99, 97, 115, 116, 108, 101] r7.1)] : List GAct)).bind fun l3 =>
 some ((GScript.mk r1.1.Slides l3), r7.2))
 else
 if r2.1 = 3 then
 ((spec_l00Src_pick r2.2 2).bind fun r8 =>
 onL (loop (S := (List GAct)) (B := (List GAct)) (R := Empty) (fun (x1 : List GAct) =>
 if (x1.length : Int) < (w64 (60 + r8.1)) then
 (((if ((x1.length : Int).tmod 2) = 1 then
 (some [104, 105, 100, 101])
 else
 some [115, 104, 111, 119]) : Option (List UInt8)).bind fun (word1 : List UInt8) =>
 (app? x1 ([(GAct.mk 5 word1 [99, 97, 115, 116, 108, 101] 0)] : List GAct)).bind fun l4 =>
 some (.next l4))
 else
 some (.brk x1)) loopLim [])
 (fun (x2 : List GAct) => some ((GScript.mk [[99, 97, 115, 116, 108, 101]] x2), r8.2)) Empty.elim)
 else
 some (r1.1, r2.2)
/-- loop.example/g01063/spec.DrawShiftScript -/
def spec_DrawShiftScript (code1 : List Int) : Option (GScript × Int) :=
 (spec_l00From code1).bind fun r1 =>
 (spec_l18Bent r1).bind fun r2 =>
 (spec_l00Src_one r2.2 4).bind fun r3 =>
 if r3.1 then
 ((spec_l00Src_among r3.2 [(-1), 0, 9990, 10000, 10001]).bind fun r4 =>
 some (r2.1, r4.1))
 else
 (spec_l00Src_pick r3.2 100).bind fun r5 =>
 some (r2.1, r5.1)
/-- loop.example/g01063/spec.DrawShownAt -/
def spec_DrawShownAt (code1 : List Int) : Option (GScript × Int) :=
 (spec_l00From code1).bind fun r1 =>
 (spec_l18Bent r1).bind fun r2 =>
 (spec_l00Src_one r2.2 8).bind fun r3 =>
 if r3.1 then
 ((spec_l00Src_among r3.2 [(-1), 0, 10000, 10001]).bind fun r4 =>
 some (r2.1, r4.1))
 else
 (spec_l00Src_pick r3.2 70).bind fun r5 =>
 some (r2.1, r5.1)
/-- loop.example/g01063/spec.DrawTicksShown -/
def spec_DrawTicksShown (code1 : List Int) : Option (GScript × (List UInt8)) :=
 (spec_l00From code1).bind fun r1 =>
 (spec_l18Bent r1).bind fun r2 =>
 ((if (r2.1.Slides.length : Int) > 0 then
 ((spec_l00Src_one r2.2 8).bind fun r3 =>
 some (r3.2, (!r3.1)))
 else
 some (r2.2, false)) : Option (GL00Src × Bool)).bind fun ((s1, x1) : GL00Src × Bool) =>
 if x1 then
 ((spec_l00Src_pick s1 (r2.1.Slides.length : Int)).bind fun r4 =>
 (at? r2.1.Slides r4.1).bind fun v1 =>
 some (r2.1, v1))
 else
 (spec_l00Src_text s1 [[], [110, 111, 110, 101], [99, 97, 115, 116, 108, 101]]).bind fun r5 =>
 some (r2.1, r5.1)
/-- loop.example/g01063/spec.l01Digit -/
def spec_l01Digit (c1 : Int) : Option Bool :=
 if c1 ≥ 48 then
 (some (decide (c1 ≤ 57)))
 else
 some false
/-- loop.example/g01063/spec.l01Small -/
def spec_l01Small (c1 : Int) : Option Bool :=
 if c1 ≥ 97 then
 (some (decide (c1 ≤ 122)))
 else
 some false
/-- loop.example/g01063/spec.IsName -/
def spec_IsName (s1 : List UInt8) : Option Bool :=
 ((if (s1 == []) then
 (some true)
 else
 if (s1.length : Int) > 12 then
 (some true)
 else
 (at? s1 0).bind fun c1 =>
 (spec_l01Small (c1.toNat : Int)).bind fun r1 =>
 some (!r1)) : Option Bool).bind fun (x1 : Bool) =>
 if x1 then
 (some false)
 else
 onL (loop (S := Int) (B := Unit) (R := Bool) (fun (i1 : Int) =>
 if i1 < (s1.length : Int) then
 ((((at? s1 i1).bind fun c2 =>
 (spec_l01Small (c2.toNat : Int)).bind fun r2 =>
 if r2 then
 (some false)
 else
 (at? s1 i1).bind fun c3 =>
 (spec_l01Digit (c3.toNat : Int)).bind fun r3 =>
 if r3 then
 (some false)
 else
 (at? s1 i1).bind fun c4 =>
 some (!(decide ((c4.toNat : Int) = 45)))) : Option Bool).bind fun (x2 : Bool) =>
 if x2 then
 (some (.ret false))
 else
 some (.next (w64 (i1 + 1))))
 else
 some (.brk ())) loopLim 0)
 (fun (_ : Unit) => some true) (fun r => some r)
/-- loop.example/g01063/spec.l18Slide -/
def spec_l18Slide (x1 : GScript) (name1 : List UInt8) : Option (Int × GScript) :=
 (spec_IsName name1).bind fun r1 =>
 if r1 then
 ((spec_l18Has x1.Slides name1).bind fun r2 =>
 if r2 then
 (some (5, x1))
 else
 if (x1.Slides.length : Int) ≥ 60 then
 (some (8, x1))
 else
 (app? x1.Slides ([name1] : List (List UInt8))).bind fun l1 =>
 some (0, (GScript.mk l1 x1.Acts)))
 else
 some (3, x1)
/-- loop.example/g01063/spec.l18Ok -/
def spec_l18Ok (x1 : GScript) : Option Bool :=
 (spec_l18Empty ).bind fun r1 =>
 onL (loop (S := (GScript × Int)) (B := GScript) (R := Bool) (fun ((y1, i1) : GScript × Int) =>
 if i1 < (x1.Slides.length : Int) then
 ((at? x1.Slides i1).bind fun v1 =>
 (spec_l18Slide y1 v1).bind fun r2 =>
 if r2.1 = 0 then
 (some (.next (r2.2, w64 (i1 + 1))))
 else
 some (.ret false))
 else
 some (.brk y1)) loopLim (r1, 0))
 (fun (y2 : GScript) => onL (loop (S := (GScript × Int)) (B := Unit) (R := Bool) (fun ((y3, i2) : GScript × Int) =>
 if i2 < (x1.Acts.length : Int) then
 ((at? x1.Acts i2).bind fun v2 =>
 (spec_l18Act y3 v2).bind fun r3 =>
 if r3.1 = 0 then
 (some (.next (r3.2, w64 (i2 + 1))))
 else
 some (.ret false))
 else
 some (.brk ())) loopLim (y2, 0))
 (fun (_ : Unit) => some true) (fun r => some r)) (fun r => some r)
/-- loop.example/g01063/spec.NeverShown -/
def spec_NeverShown (x1 : GScript) : Option ((List (List UInt8)) × Int) :=
 (spec_l18Ok x1).bind fun r1 =>
 if r1 then
 (onL (loop (S := ((List (List UInt8)) × Int)) (B := (List (List UInt8))) (R := Empty) (fun ((out1, i1) : (List (List UInt8)) × Int) =>
 if i1 < (x1.Slides.length : Int) then
 (onL (loop (S := (Bool × Int)) (B := Bool) (R := Empty) (fun ((found1, k1) : Bool × Int) =>
 if k1 < (x1.Acts.length : Int) then
 (if found1 then
 (some (.next (true, w64 (k1 + 1))))
 else
 (at? x1.Acts k1).bind fun v1 =>
 if (v1.Word == [115, 104, 111, 119]) then
 ((at? x1.Acts k1).bind fun v2 =>
 (at? x1.Slides i1).bind fun v3 =>
 some (.next ((v2.Slide == v3), w64 (k1 + 1))))
 else
 some (.next (false, w64 (k1 + 1))))
 else
 some (.brk found1)) loopLim (false, 0))
 (fun (found2 : Bool) => if found2 then
 (some (.next (out1, w64 (i1 + 1))))
 else
 (at? x1.Slides i1).bind fun v4 =>
 (app? out1 ([v4] : List (List UInt8))).bind fun l1 =>
 some (.next (l1, w64 (i1 + 1)))) Empty.elim)
 else
 some (.brk out1)) loopLim ([], 0))
 (fun (out2 : List (List UInt8)) => some (out2, 0)) Empty.elim)
 else
 some ([], 1)
/-- loop.example/g01063/spec.SameScript -/
def spec_SameScript (a1 : GScript) (b1 : GScript) : Option Bool :=
 ((if (a1.Slides.length : Int) = (b1.Slides.length : Int) then
 (some (!(decide ((a1.Acts.length : Int) = (b1.Acts.length : Int)))))
 else
 some true) : Option Bool).bind fun (x1 : Bool) =>
 if x1 then
 (some false)
 else
 onL (loop (S := Int) (B := Unit) (R := Bool) (fun (i1 : Int) =>
 if i1 < (a1.Slides.length : Int) then
 ((at? a1.Slides i1).bind fun v1 =>
 (at? b1.Slides i1).bind fun v2 =>
 if (v1 == v2) then
 (some (.next (w64 (i1 + 1))))
 else
 some (.ret false))
 else
 some (.brk ())) loopLim 0)
 (fun (_ : Unit) => onL (loop (S := Int) (B := Unit) (R := Bool) (fun (i2 : Int) =>
 if i2 < (a1.Acts.length : Int) then
 ((at? a1.Acts i2).bind fun v3 =>
 (at? b1.Acts i2).bind fun v4 =>
 if (v3.Tick == v4.Tick && (v3.Word == v4.Word && (v3.Slide == v4.Slide && (v3.Many == v4.Many && true)))) then
 (some (.next (w64 (i2 + 1))))
 else
 some (.ret false))
 else
 some (.brk ())) loopLim 0)
 (fun (_ : Unit) => some true) (fun r => some r)) (fun r => some r)
/-- loop.example/g01063/spec.ShiftScript -/
def spec_ShiftScript (x1 : GScript) (by_1 : Int) : Option (GScript × Int) :=
 (spec_l18Ok x1).bind fun r1 =>
 if r1 then
 ((spec_l00In by_1 0 10000).bind fun r2 =>
 if r2 then
 ((app? ([] : List (List UInt8)) x1.Slides).bind fun l1 =>
 onL (loop (S := ((List GAct) × Int)) (B := (List GAct)) (R := Empty) (fun ((out1, i1) : (List GAct) × Int) =>
 if i1 < (x1.Acts.length : Int) then
 ((at? x1.Acts i1).bind fun v1 =>
 (app? out1 ([(GAct.mk (w64 (v1.Tick + by_1)) v1.Word v1.Slide v1.Many)] : List GAct)).bind fun l2 =>
 some (.next (l2, w64 (i1 + 1))))
 else
 some (.brk out1)) loopLim ([], 0))
 (fun (out2 : List GAct) => (spec_l18Ok (GScript.mk l1 out2)).bind fun r3 =>
 if r3 then
 (some ((GScript.mk l1 out2), 0))
 else
 some ((GScript.mk [] []), 5)) Empty.elim)
 else
 some ((GScript.mk [] []), 2))
 else
 some ((GScript.mk [] []), 1)
/-- loop.example/g01063/spec.ShownAt -/
def spec_ShownAt (x1 : GScript) (tick1 : Int) : Option ((List (List UInt8)) × Int) :=
 (spec_l18Ok x1).bind fun r1 =>
 if r1 then
 ((spec_l00In tick1 0 10000).bind fun r2 =>
 if r2 then
 (onL (loop (S := Int) (B := Int) (R := Empty) (fun (n1 : Int) =>
 ((if n1 < (x1.Acts.length : Int) then
 ((at? x1.Acts n1).bind fun v1 =>
 some (decide (v1.Tick ≤ tick1)))
 else
 some false) : Option Bool).bind fun (x2 : Bool) =>
 if x2 then
 (some (.next (w64 (n1 + 1))))
 else
 some (.brk n1)) loopLim 0)
 (fun (n2 : Int) => onL (loop (S := ((List (List UInt8)) × Int)) (B := (List (List UInt8))) (R := Empty) (fun ((out1, i1) : (List (List UInt8)) × Int) =>
 if i1 < (x1.Slides.length : Int) then
 ((sub? x1.Acts 0 n2).bind fun l1 =>
 (at? x1.Slides i1).bind fun v2 =>
 (spec_l18Is l1 v2).bind fun r3 =>
 if r3 then
 ((at? x1.Slides i1).bind fun v3 =>
 (app? out1 ([v3] : List (List UInt8))).bind fun l2 =>
 some (.next (l2, w64 (i1 + 1))))
 else
 some (.next (out1, w64 (i1 + 1))))
 else
 some (.brk out1)) loopLim ([], 0))
 (fun (out2 : List (List UInt8)) => some (out2, 0)) Empty.elim) Empty.elim)
 else
 some ([], 2))
 else
 some ([], 1)
/-- loop.example/g01063/spec.TicksShown -/
def spec_TicksShown (x1 : GScript) (slide1 : List UInt8) : Option (Int × Int) :=
 (spec_l18Ok x1).bind fun r1 =>
 if r1 then
 ((spec_l18Has x1.Slides slide1).bind fun r2 =>
 if r2 then
 (onL (loop (S := (Int × Int × Int)) (B := (Int × Int)) (R := Empty) (fun ((sum1, since1, i1) : Int × Int × Int) =>
 if i1 < (x1.Acts.length : Int) then
 ((at? x1.Acts i1).bind fun v1 =>
 if (v1.Slide == slide1) then
 (((if (v1.Word == [115, 104, 111, 119]) then
 (some v1.Tick)
 else
 some since1) : Option Int).bind fun (since2 : Int) =>
 if (v1.Word == [104, 105, 100, 101]) then
 (some (.next (w64 (sum1 + (w64 (v1.Tick - since2))), (-1), w64 (i1 + 1))))
 else
 some (.next (sum1, since2, w64 (i1 + 1))))
 else
 some (.next (sum1, since1, w64 (i1 + 1))))
 else
 some (.brk (sum1, since1))) loopLim (0, (-1), 0))
 (fun ((sum2, since3) : Int × Int) => if since3 ≥ 0 then
 (some (0, 6))
 else
 some (sum2, 0)) Empty.elim)
 else
 some (0, 3))
 else
 some (0, 1)
/-- loop.example/g01063/laws.FnActs -/
def laws_FnActs (code1 : List Int) : Option Bool :=
 (laws_f6big code1).bind fun r1 =>
 if r1 then
 (some true)
 else
 (spec_DrawShownAt code1).bind fun r2 =>
 (impl_ShownAt r2.1 r2.2).bind fun r3 =>
 (spec_ShownAt r2.1 r2.2).bind fun r4 =>
 (impl_NeverShown r2.1).bind fun r5 =>
 (spec_NeverShown r2.1).bind fun r6 =>
 (spec_DrawShiftScript code1).bind fun r7 =>
 (impl_ShiftScript r7.1 r7.2).bind fun r8 =>
 (spec_ShiftScript r7.1 r7.2).bind fun r9 =>
 (spec_DrawTicksShown code1).bind fun r10 =>
 (impl_TicksShown r10.1 r10.2).bind fun r11 =>
 (spec_TicksShown r10.1 r10.2).bind fun r12 =>
 ((if r3.2 = r4.2 then
 ((laws_f6texts r3.1 r4.1).bind fun r13 =>
 if r13 then
 (if r5.2 = r6.2 then
 ((laws_f6texts r5.1 r6.1).bind fun r14 =>
 if r14 then
 (if r8.2 = r9.2 then
 ((spec_SameScript r8.1 r9.1).bind fun r15 =>
 if r15 then
 (if r11.2 = r12.2 then
 (some (!(decide (r11.1 = r12.1))))
 else
 some true)
 else
 some true)
 else
 some true)
 else
 some true)
 else
 some true)
 else
 some true)
 else
 some true) : Option Bool).bind fun (x1 : Bool) =>
 if x1 then
 (some false)
 else
 onS (S := Unit) (B := Empty) (R := Bool) (if r3.2 = 0 then
 (onL (loop (S := Int) (B := Unit) (R := Bool) (fun (i1 : Int) =>
 if i1 < (r4.1.length : Int) then
 ((at? r4.1 i1).bind fun v1 =>
 (laws_f6word r6.1 v1).bind fun r16 =>
 if r16 then
 (some (.ret false))
 else
 some (.next (w64 (i1 + 1))))
 else
 some (.brk ())) loopLim 0)
 (fun (_ : Unit) => some (.next ())) (fun r => some (.ret r)))
 else
 some (.next ()))
 (fun (_ : Unit) => ((if r11.2 = 0 then
 (some (decide (r12.1 < 0)))
 else
 some false) : Option Bool).bind fun (x2 : Bool) =>
 if x2 then
 (some false)
 else
 if r8.2 = 0 then
 (onL (loop (S := Int) (B := Unit) (R := Bool) (fun (t1 : Int) =>
 ((if t1 ≤ 60 then
 (some (decide ((w64 (t1 + r7.2)) ≤ 10000)))
 else
 some false) : Option Bool).bind fun (x3 : Bool) =>
 if x3 then
 ((spec_ShownAt r7.1 t1).bind fun r17 =>
 (impl_ShownAt r8.1 (w64 (t1 + r7.2))).bind fun r18 =>
 ((if r17.2 = 0 then
 (if r18.2 = 0 then
 ((laws_f6texts r17.1 r18.1).bind fun r19 =>
 some (!r19))
 else
 some true)
 else
 some true) : Option Bool).bind fun (x4 : Bool) =>
 if x4 then
 (some (.ret false))
 else
 some (.next (w64 (t1 + 7))))
 else
 some (.brk ())) loopLim 0)
 (fun (_ : Unit) => some true) (fun r => some r))
 else
 some true)
 Empty.elim (fun r => some r)
end Go.Vs.G
