/- The functions that the law reaches, as typed Lean functions, printed by program. No conditions. -/
import Derived.Test.YtolinhiimdajhaaV5
set_option maxRecDepth 100000
open Go Go.Vs
namespace Go.Vs.G
structure GAct where
  Tick : Int
  Word : List UInt8
  Slide : List UInt8
  Many : Int
  deriving DecidableEq, Inhabited
structure GBlades where
  Many : Int
  Open : Int
  deriving DecidableEq, Inhabited
structure GCause where
  Name : List UInt8
  Signs : List Int
  deriving DecidableEq, Inhabited
structure GCue where
  At : Int
  Ticks : Int
  Hands : Int
  Slack : Int
  deriving DecidableEq, Inhabited
structure GFraction where
  Num : Int
  Den : Int
  deriving DecidableEq, Inhabited
structure GL00Src where
  code : List Int
  at_ : Int
  seed : Int
  deriving DecidableEq, Inhabited
structure GLamp where
  Heats : Int
  Cools : Int
  Limit : Int
  deriving DecidableEq, Inhabited
structure GPoint where
  X : Int
  Y : Int
  deriving DecidableEq, Inhabited
structure GShown where
  On : Int
  Off : Int
  Fade : Int
  deriving DecidableEq, Inhabited
structure GTitle where
  No : Int
  Name : List UInt8
  Glass : Int
  Broken : Int
  deriving DecidableEq, Inhabited
def GAct.enc (x : GAct) : Tree := .agg [.int .i64 x.Tick, .str x.Word, .str x.Slide, .int .i64 x.Many]
def GCause.enco (x : GCause) : Tree := .agg [.str x.Name, .sl true 1 (x.Signs.map (Tree.int .i64))]
def GCause.encs (x : GCause) : Tree := .agg [.str x.Name, .sl false 1 (x.Signs.map (Tree.int .i64))]
def GCue.enc (x : GCue) : Tree := .agg [.int .i64 x.At, .int .i64 x.Ticks, .int .i64 x.Hands, .int .i64 x.Slack]
def GPoint.enc (x : GPoint) : Tree := .agg [.int .i64 x.X, .int .i64 x.Y]
def GShown.enc (x : GShown) : Tree := .agg [.int .i64 x.On, .int .i64 x.Off, .int .i64 x.Fade]
def GTitle.enc (x : GTitle) : Tree := .agg [.int .i64 x.No, .str x.Name, .int .i64 x.Glass, .int .i64 x.Broken]
def GAct.ok (x : GAct) : Prop := (okI .i64) x.Tick ∧ okS x.Word ∧ okS x.Slide ∧ (okI .i64) x.Many
def GBlades.ok (x : GBlades) : Prop := (okI .i64) x.Many ∧ (okI .i64) x.Open
def GCause.ok (x : GCause) : Prop := okS x.Name ∧ (okL (okI .i64)) x.Signs
def GCue.ok (x : GCue) : Prop := (okI .i64) x.At ∧ (okI .i64) x.Ticks ∧ (okI .i64) x.Hands ∧ (okI .i64) x.Slack
def GFraction.ok (x : GFraction) : Prop := (okI .i64) x.Num ∧ (okI .i64) x.Den
def GL00Src.ok (x : GL00Src) : Prop := (okL (okI .u8)) x.code ∧ (okI .i64) x.at_ ∧ (okI .u64) x.seed
def GLamp.ok (x : GLamp) : Prop := (okI .i64) x.Heats ∧ (okI .i64) x.Cools ∧ (okI .i64) x.Limit
def GPoint.ok (x : GPoint) : Prop := (okI .i64) x.X ∧ (okI .i64) x.Y
def GShown.ok (x : GShown) : Prop := (okI .i64) x.On ∧ (okI .i64) x.Off ∧ (okI .i64) x.Fade
def GTitle.ok (x : GTitle) : Prop := (okI .i64) x.No ∧ okS x.Name ∧ (okI .i64) x.Glass ∧ (okI .i64) x.Broken
/-- (loop.example/g01063/impl.Shown).isOn -/
def impl_Shown_isOn (x1 : GShown) (tick1 : Int) : Option Bool :=
 if x1.On ≤ tick1 then
 (some (decide (tick1 < x1.Off)))
 else
 some false
/-- (loop.example/g01063/impl.Shown).level -/
def impl_Shown_level (x1 : GShown) (tick1 : Int) : Option Int :=
 (impl_Shown_isOn x1 tick1).bind fun r1 =>
 if r1 then
 (if x1.Fade = 0 then
 (some 100)
 else
 (div? .i64 (w64 (100 * (w64 (tick1 - x1.On)))) x1.Fade).bind fun q1 =>
 (div? .i64 (w64 (100 * (w64 (x1.Off - tick1)))) x1.Fade).bind fun q2 =>
 some (imin (imin 100 q1) q2))
 else
 some 0
/-- loop.example/g01063/impl.light -/
def impl_light (list1 : List GShown) (tick1 : Int) : Option Int :=
 onL (loop (S := (Int × Int)) (B := Int) (R := Empty) (fun ((sum1, x1) : Int × Int) =>
 if x1 < (list1.length : Int) then
 ((at? list1 x1).bind fun v1 =>
 (impl_Shown_level v1 tick1).bind fun r1 =>
 some (.next (w64 (sum1 + r1), w64 (x1 + 1))))
 else
 some (.brk sum1)) loopLim (0, 0))
 (fun (sum2 : Int) => some sum2) Empty.elim
/-- loop.example/g01063/impl.within -/
def impl_within (n1 : Int) (low1 : Int) (high1 : Int) : Option Bool :=
 if n1 ≥ low1 then
 (some (decide (n1 ≤ high1)))
 else
 some false
/-- loop.example/g01063/impl.ValidShown$1 -/
def impl_ValidShown_1 (x1 : GShown) : Option Bool :=
 (impl_within x1.On 0 10000).bind fun r1 =>
 if r1 then
 ((impl_within x1.Off (w64 (x1.On + 1)) 20000).bind fun r2 =>
 if r2 then
 ((impl_within x1.Fade 0 500).bind fun r3 =>
 some (!r3))
 else
 some true)
 else
 some true
/-- slices.IndexFunc[[]loop.example/g01063/impl.Shown,loop.example/g01063/impl.Shown] -/
def slices_IndexFunc_impl_Shown_impl_Shown_828 (s1 : List GShown) (f1 : GShown → Option Bool) : Option Int :=
 onL (loop (S := Int) (B := Unit) (R := Int) (fun (x1 : Int) =>
 if x1 < (s1.length : Int) then
 ((at? s1 x1).bind fun v1 =>
 (f1 v1).bind fun r1 =>
 if r1 then
 (some (.ret x1))
 else
 some (.next (w64 (x1 + 1))))
 else
 some (.brk ())) loopLim 0)
 (fun (_ : Unit) => some (-1)) (fun r => some r)
/-- slices.ContainsFunc[[]loop.example/g01063/impl.Shown,loop.example/g01063/impl.Shown] -/
def slices_ContainsFunc_impl_Shown_impl_Shown_806 (s1 : List GShown) (f1 : GShown → Option Bool) : Option Bool :=
 (slices_IndexFunc_impl_Shown_impl_Shown_828 s1 f1).bind fun r1 =>
 some (decide (r1 ≥ 0))
/-- loop.example/g01063/impl.ValidShown -/
def impl_ValidShown (list1 : List GShown) : Option Bool :=
 if (list1.length : Int) ≤ 12 then
 ((slices_ContainsFunc_impl_Shown_impl_Shown_806 list1 (fun a0 => impl_ValidShown_1 a0)).bind fun r1 =>
 some (!r1))
 else
 some false
/-- loop.example/g01063/impl.ticksCode -/
def impl_ticksCode (list1 : List GShown) (from_1 : Int) (to_1 : Int) : Option Int :=
 (impl_ValidShown list1).bind fun r1 =>
 if r1 then
 ((((impl_within from_1 0 20000).bind fun r2 =>
 if r2 then
 ((impl_within to_1 from_1 20000).bind fun r3 =>
 some (!r3))
 else
 some true) : Option Bool).bind fun (x1 : Bool) =>
 if x1 then
 (some 2)
 else
 some 0)
 else
 some 1
/-- loop.example/g01063/impl.DarkTicks -/
def impl_DarkTicks (list1 : List GShown) (from_1 : Int) (to_1 : Int) : Option (Int × Int) :=
 (impl_ticksCode list1 from_1 to_1).bind fun r1 =>
 if r1 = 0 then
 (onL (loop (S := (Int × Int)) (B := Int) (R := Empty) (fun ((count1, tick1) : Int × Int) =>
 if tick1 < to_1 then
 ((impl_light list1 tick1).bind fun r2 =>
 if r2 = 0 then
 (some (.next (w64 (count1 + 1), w64 (tick1 + 1))))
 else
 some (.next (count1, w64 (tick1 + 1))))
 else
 some (.brk count1)) loopLim (0, from_1))
 (fun (count2 : Int) => some (count2, 0)) Empty.elim)
 else
 some (0, r1)
/-- loop.example/g01063/impl.FirstDarkTick -/
def impl_FirstDarkTick (list1 : List GShown) (from_1 : Int) (to_1 : Int) : Option (Int × Int) :=
 (impl_ticksCode list1 from_1 to_1).bind fun r1 =>
 if r1 = 0 then
 (onL (loop (S := Int) (B := Unit) (R := (Int × Int)) (fun (tick1 : Int) =>
 if tick1 < to_1 then
 ((impl_light list1 tick1).bind fun r2 =>
 if r2 = 0 then
 (some (.ret (tick1, 0)))
 else
 some (.next (w64 (tick1 + 1))))
 else
 some (.brk ())) loopLim from_1)
 (fun (_ : Unit) => some (0, 3)) (fun r => some r))
 else
 some (0, r1)
/-- loop.example/g01063/impl.LightAt -/
def impl_LightAt (list1 : List GShown) (tick1 : Int) : Option (Int × Int) :=
 (impl_ValidShown list1).bind fun r1 =>
 if r1 then
 ((impl_within tick1 0 20000).bind fun r2 =>
 if r2 then
 ((impl_light list1 tick1).bind fun r3 =>
 some (r3, 0))
 else
 some (0, 2))
 else
 some (0, 1)
/-- loop.example/g01063/impl.LevelAt -/
def impl_LevelAt (x1 : GShown) (tick1 : Int) : Option (Int × Int) :=
 (impl_LightAt [x1] tick1).bind fun r1 =>
 some (r1.1, r1.2)
/-- loop.example/g01063/impl.MoveShown -/
def impl_MoveShown (list1 : List GShown) (k1 : Int) (by_1 : Int) : Option ((List GShown) × Int) :=
 (impl_ValidShown list1).bind fun r1 =>
 if r1 then
 ((((impl_within k1 0 (w64 ((list1.length : Int) - 1))).bind fun r2 =>
 if r2 then
 ((impl_within by_1 0 10000).bind fun r3 =>
 some (!r3))
 else
 some true) : Option Bool).bind fun (x1 : Bool) =>
 if x1 then
 (some ([], 2))
 else
 (cloneL list1).bind fun r4 =>
 (at? r4 k1).bind fun v1 =>
 (at? r4 k1).bind fun v2 =>
 (at? (r4.set k1.toNat (GShown.mk (w64 (v1.On + by_1)) v2.Off v2.Fade)) k1).bind fun v3 =>
 (at? (r4.set k1.toNat (GShown.mk (w64 (v1.On + by_1)) v2.Off v2.Fade)) k1).bind fun v4 =>
 (impl_ValidShown ((r4.set k1.toNat (GShown.mk (w64 (v1.On + by_1)) v2.Off v2.Fade)).set k1.toNat (GShown.mk v4.On (w64 (v3.Off + by_1)) v4.Fade))).bind fun r5 =>
 if r5 then
 (some ((r4.set k1.toNat (GShown.mk (w64 (v1.On + by_1)) v2.Off v2.Fade)).set k1.toNat (GShown.mk v4.On (w64 (v3.Off + by_1)) v4.Fade), 0))
 else
 some ([], 5))
 else
 some ([], 1)
/-- loop.example/g01063/laws.a2At -/
def laws_a2At (code1 : List Int) (at_1 : Int) (n1 : Int) : Option Int :=
 ((if at_1 ≥ (code1.length : Int) then
 (some true)
 else
 some (decide (n1 < 1))) : Option Bool).bind fun (x1 : Bool) =>
 if x1 then
 (some 0)
 else
 (at? code1 at_1).bind fun v1 =>
 (mod? (w64 (v1)) n1).bind fun q1 =>
 some q1
/-- loop.example/g01063/laws.a2Long -/
def laws_a2Long (code1 : List Int) (more1 : List Int) : Option Bool :=
 if (code1.length : Int) > 3000 then
 (some true)
 else
 some (decide ((more1.length : Int) > 3000))
/-- loop.example/g01063/spec.l00From -/
def spec_l00From (code1 : List Int) : Option GL00Src :=
 some (GL00Src.mk code1 0 0)
/-- (*loop.example/g01063/spec.l00Src).next -/
def spec_l00Src_next (s1 : GL00Src) : Option (Int × GL00Src) :=
 ((if s1.at_ < (s1.code.length : Int) then
 ((at? s1.code s1.at_).bind fun v1 =>
 some (w64 (v1)))
 else
 some 0) : Option Int).bind fun (b1 : Int) =>
 if (w64 (s1.at_ + 1)) ≤ (s1.code.length : Int) then
 (some (b1, (GL00Src.mk s1.code (w64 (s1.at_ + 1)) (IntKind.wrap .u64 ((IntKind.wrap .u64 ((IntKind.wrap .u64 (s1.seed * 6364136223846793005)) + (IntKind.wrap .u64 (b1)))) + 1442695040888963407)))))
 else
 (shr? .u64 (IntKind.wrap .u64 ((IntKind.wrap .u64 ((IntKind.wrap .u64 (s1.seed * 6364136223846793005)) + (IntKind.wrap .u64 (b1)))) + 1442695040888963407)) 40).bind fun q1 =>
 some (w64 (bit_and .u64 q1 255), (GL00Src.mk s1.code (w64 (s1.at_ + 1)) (IntKind.wrap .u64 ((IntKind.wrap .u64 ((IntKind.wrap .u64 (s1.seed * 6364136223846793005)) + (IntKind.wrap .u64 (b1)))) + 1442695040888963407))))
/-- (*loop.example/g01063/spec.l00Src).pick -/
def spec_l00Src_pick (s1 : GL00Src) (n1 : Int) : Option (Int × GL00Src) :=
 if n1 ≤ 1 then
 (some (0, s1))
 else
 (spec_l00Src_next s1).bind fun r1 =>
 if n1 > 200 then
 ((spec_l00Src_next r1.2).bind fun r2 =>
 (mod? (w64 ((w64 (r1.1 * 256)) + r2.1)) n1).bind fun q1 =>
 some (q1, r2.2))
 else
 (mod? r1.1 n1).bind fun q2 =>
 some (q2, r1.2)
/-- loop.example/g01063/spec.l00Max -/
def spec_l00Max (a1 : Int) (b1 : Int) : Option Int :=
 if a1 > b1 then
 (some a1)
 else
 some b1
/-- loop.example/g01063/spec.l15Draw -/
def spec_l15Draw (s1 : GL00Src) : Option ((List GShown) × GL00Src) :=
 (spec_l00Src_pick s1 6).bind fun r1 =>
 (spec_l00Src_pick r1.2 6).bind fun r2 =>
 onL (loop (S := (GL00Src × (List GShown) × Int × Int)) (B := (GL00Src × (List GShown))) (R := Empty) (fun ((s2, out1, at_1, k1) : GL00Src × (List GShown) × Int × Int) =>
 if k1 > 0 then
 ((spec_l00Src_pick s2 20).bind fun r3 =>
 (spec_l00Src_pick r3.2 7).bind fun r4 =>
 (app? out1 ([(GShown.mk at_1 (w64 ((w64 (at_1 + 1)) + r3.1)) r4.1)] : List GShown)).bind fun l1 =>
 (spec_l00Src_pick r4.2 18).bind fun r5 =>
 (spec_l00Max 0 (w64 ((w64 (at_1 + r5.1)) - 3))).bind fun r6 =>
 some (.next (r5.2, l1, r6, w64 (k1 - 1))))
 else
 some (.brk (s2, out1))) loopLim (r2.2, [], r1.1, r2.1))
 (fun ((s3, out2) : GL00Src × (List GShown)) => some (out2, s3)) Empty.elim
/-- loop.example/g01063/spec.A2Shown -/
def spec_A2Shown (code1 : List Int) : Option (List GShown) :=
 (spec_l00From code1).bind fun r1 =>
 (spec_l15Draw r1).bind fun r2 =>
 some r2.1
/-- loop.example/g01063/laws.FnDissolves -/
def laws_FnDissolves (code1 : List Int) (more1 : List Int) : Option Bool :=
 (laws_a2Long code1 more1).bind fun r1 =>
 if r1 then
 (some true)
 else
 (spec_A2Shown code1).bind fun r2 =>
 (laws_a2At more1 0 30).bind fun r3 =>
 (laws_a2At more1 1 40).bind fun r4 =>
 (impl_DarkTicks r2 r3 (w64 (r3 + r4))).bind fun r5 =>
 (impl_FirstDarkTick r2 r3 (w64 (r3 + r4))).bind fun r6 =>
 onL (loop (S := (Int × Int × Int)) (B := (Int × Int)) (R := Bool) (fun ((n1, at_1, tick1) : Int × Int × Int) =>
 if tick1 < (w64 (r3 + r4)) then
 ((impl_LightAt r2 tick1).bind fun r7 =>
 onL (loop (S := (Int × Int)) (B := Int) (R := Bool) (fun ((sum1, i1) : Int × Int) =>
 if i1 < (r2.length : Int) then
 ((at? r2 i1).bind fun v1 =>
 (impl_LevelAt v1 tick1).bind fun r8 =>
 (at? r2 i1).bind fun v2 =>
 ((if tick1 ≥ v2.On then
 (some (decide (tick1 < v2.Off)))
 else
 some false) : Option Bool).bind fun (inside1 : Bool) =>
 ((if r8.2 = 0 then
 (if r8.1 < 0 then
 (some true)
 else
 if r8.1 > 100 then
 (some true)
 else
 if inside1 then
 (if v2.Fade = 0 then
 (if r8.1 = 100 then
 (if (w64 (r8.1 * v2.Fade)) > (w64 (100 * (imin (w64 (tick1 - v2.On)) (w64 (v2.Off - tick1))))) then
 (if v2.Fade > 0 then
 (some true)
 else
 if r8.1 < 100 then
 (some (decide ((w64 ((w64 (r8.1 + 1)) * v2.Fade)) ≤ (w64 (100 * (imin (w64 (tick1 - v2.On)) (w64 (v2.Off - tick1))))))))
 else
 some false)
 else
 if r8.1 < 100 then
 (some (decide ((w64 ((w64 (r8.1 + 1)) * v2.Fade)) ≤ (w64 (100 * (imin (w64 (tick1 - v2.On)) (w64 (v2.Off - tick1))))))))
 else
 some false)
 else
 some true)
 else
 if (w64 (r8.1 * v2.Fade)) > (w64 (100 * (imin (w64 (tick1 - v2.On)) (w64 (v2.Off - tick1))))) then
 (if v2.Fade > 0 then
 (some true)
 else
 if r8.1 < 100 then
 (some (decide ((w64 ((w64 (r8.1 + 1)) * v2.Fade)) ≤ (w64 (100 * (imin (w64 (tick1 - v2.On)) (w64 (v2.Off - tick1))))))))
 else
 some false)
 else
 if r8.1 < 100 then
 (some (decide ((w64 ((w64 (r8.1 + 1)) * v2.Fade)) ≤ (w64 (100 * (imin (w64 (tick1 - v2.On)) (w64 (v2.Off - tick1))))))))
 else
 some false)
 else
 if r8.1 = 0 then
 (some false)
 else
 some true)
 else
 some true) : Option Bool).bind fun (x1 : Bool) =>
 if x1 then
 (some (.ret false))
 else
 some (.next (w64 (sum1 + r8.1), w64 (i1 + 1))))
 else
 some (.brk sum1)) loopLim (0, 0))
 (fun (sum2 : Int) => ((if r7.2 = 0 then
 (some (!(decide (r7.1 = sum2))))
 else
 some true) : Option Bool).bind fun (x2 : Bool) =>
 if x2 then
 (some (.ret false))
 else
 if sum2 = 0 then
 (if at_1 < 0 then
 (some (.next (w64 (n1 + 1), tick1, w64 (tick1 + 1))))
 else
 some (.next (w64 (n1 + 1), at_1, w64 (tick1 + 1))))
 else
 some (.next (n1, at_1, w64 (tick1 + 1)))) (fun r => some (.ret r)))
 else
 some (.brk (n1, at_1))) loopLim (0, (-1), r3))
 (fun ((n2, at_2) : Int × Int) => ((if r5.2 = 0 then
 (if r5.1 = n2 then
 (if at_2 < 0 then
 (if r6.2 = 3 then
 (if at_2 ≥ 0 then
 (if r6.2 = 0 then
 (some (!(decide (r6.1 = at_2))))
 else
 some true)
 else
 some false)
 else
 some true)
 else
 if at_2 ≥ 0 then
 (if r6.2 = 0 then
 (some (!(decide (r6.1 = at_2))))
 else
 some true)
 else
 some false)
 else
 some true)
 else
 some true) : Option Bool).bind fun (x3 : Bool) =>
 if x3 then
 (some false)
 else
 if (r2.length : Int) = 0 then
 (some true)
 else
 (laws_a2At more1 2 20).bind fun r9 =>
 (impl_MoveShown r2 0 r9).bind fun r10 =>
 ((if r10.2 = 0 then
 (some (!(decide ((r10.1.length : Int) = (r2.length : Int)))))
 else
 some true) : Option Bool).bind fun (x4 : Bool) =>
 if x4 then
 (some false)
 else
 (at? r2 0).bind fun v3 =>
 (impl_LevelAt v3 r3).bind fun r11 =>
 (at? r10.1 0).bind fun v4 =>
 (impl_LevelAt v4 (w64 (r3 + r9))).bind fun r12 =>
 if r11.2 = 0 then
 (if r12.2 = 0 then
 (some (decide (r11.1 = r12.1)))
 else
 some false)
 else
 some false) (fun r => some r)
/-- (*loop.example/g01063/spec.l00Src).among -/
def spec_l00Src_among (s1 : GL00Src) (list1 : List Int) : Option (Int × GL00Src) :=
 (spec_l00Src_pick s1 (list1.length : Int)).bind fun r1 =>
 (at? list1 r1.1).bind fun v1 =>
 some (v1, r1.2)
/-- (*loop.example/g01063/spec.l00Src).one -/
def spec_l00Src_one (s1 : GL00Src) (n1 : Int) : Option (Bool × GL00Src) :=
 (spec_l00Src_pick s1 n1).bind fun r1 =>
 some ((decide (r1.1 = 0)), r1.2)
/-- (loop.example/g01063/impl.Blades).isOpen -/
def impl_Blades_isOpen (b1 : GBlades) (part1 : Int) : Option Bool :=
 (div? .i64 1000 b1.Many).bind fun q1 =>
 (mod? part1 q1).bind fun q2 =>
 (div? .i64 b1.Open b1.Many).bind fun q3 =>
 some (decide (q2 < q3))
/-- (loop.example/g01063/impl.Lamp).next -/
def impl_Lamp_next (x1 : GLamp) (heat1 : Int) (burns1 : Bool) : Option Int :=
 if burns1 then
 (some (w64 (heat1 + x1.Heats)))
 else
 some (imax (w64 (heat1 - x1.Cools)) 0)
/-- cmp.isNaN[int64] -/
def cmp_isNaN_int64_31 (x1 : Int) : Option Bool :=
 some (!(decide (x1 = x1)))
/-- cmp.Compare[int64] -/
def cmp_Compare_int64_27 (x1 : Int) (y1 : Int) : Option Int :=
 (cmp_isNaN_int64_31 x1).bind fun r1 =>
 (cmp_isNaN_int64_31 y1).bind fun r2 =>
 if r1 then
 (if r2 then
 (some 0)
 else
 some (-1))
 else
 if r2 then
 (some 1)
 else
 if x1 < y1 then
 (some (-1))
 else
 if x1 > y1 then
 (some 1)
 else
 some 0
/-- loop.example/g01063/impl.IsName -/
def impl_IsName (s1 : List UInt8) : Option Bool :=
 ((if (s1.length : Int) < 1 then
 (some true)
 else
 if (s1.length : Int) > 12 then
 (some true)
 else
 (at? s1 0).bind fun c1 =>
 if (c1.toNat : Int) < 97 then
 (some true)
 else
 (at? s1 0).bind fun c2 =>
 some (decide ((c2.toNat : Int) > 122))) : Option Bool).bind fun (x1 : Bool) =>
 if x1 then
 (some false)
 else
 onL (loop (S := Int) (B := Unit) (R := Bool) (fun (i1 : Int) =>
 if i1 < (s1.length : Int) then
 ((((at? s1 i1).bind fun c3 =>
 if (c3.toNat : Int) < 97 then
 ((at? s1 i1).bind fun c4 =>
 if (c4.toNat : Int) < 48 then
 ((at? s1 i1).bind fun c5 =>
 some (!(decide ((c5.toNat : Int) = 45))))
 else
 (at? s1 i1).bind fun c6 =>
 if (c6.toNat : Int) > 57 then
 ((at? s1 i1).bind fun c7 =>
 some (!(decide ((c7.toNat : Int) = 45))))
 else
 some false)
 else
 (at? s1 i1).bind fun c8 =>
 if (c8.toNat : Int) > 122 then
 ((at? s1 i1).bind fun c9 =>
 if (c9.toNat : Int) < 48 then
 ((at? s1 i1).bind fun c10 =>
 some (!(decide ((c10.toNat : Int) = 45))))
 else
 (at? s1 i1).bind fun c11 =>
 if (c11.toNat : Int) > 57 then
 ((at? s1 i1).bind fun c12 =>
 some (!(decide ((c12.toNat : Int) = 45))))
 else
 some false)
 else
 some false) : Option Bool).bind fun (x2 : Bool) =>
 if x2 then
 (some (.ret false))
 else
 some (.next (w64 (i1 + 1))))
 else
 some (.brk ())) loopLim 1)
 (fun (_ : Unit) => some true) (fun r => some r)
/-- loop.example/g01063/impl.ValidCauses$1 -/
def impl_ValidCauses_1 (o1 : GCause) (x1 : GCause) : Option Bool :=
 some (o1.Name == x1.Name)
/-- loop.example/g01063/impl.isIncreasing -/
def impl_isIncreasing (list1 : List Int) (most1 : Int) : Option Bool :=
 onL (loop (S := Int) (B := Unit) (R := Bool) (fun (x1 : Int) =>
 if x1 < (list1.length : Int) then
 ((at? list1 x1).bind fun v1 =>
 (((impl_within v1 0 (w64 (most1 - 1))).bind fun r1 =>
 if r1 then
 (if x1 > 0 then
 ((at? list1 (w64 (x1 - 1))).bind fun v2 =>
 some (decide (v2 ≥ v1)))
 else
 some false)
 else
 some true) : Option Bool).bind fun (x2 : Bool) =>
 if x2 then
 (some (.ret false))
 else
 some (.next (w64 (x1 + 1))))
 else
 some (.brk ())) loopLim 0)
 (fun (_ : Unit) => some true) (fun r => some r)
/-- slices.IndexFunc[[]loop.example/g01063/impl.Cause,loop.example/g01063/impl.Cause] -/
def slices_IndexFunc_impl_Cause_impl_Cause_821 (s1 : List GCause) (f1 : GCause → Option Bool) : Option Int :=
 onL (loop (S := Int) (B := Unit) (R := Int) (fun (x1 : Int) =>
 if x1 < (s1.length : Int) then
 ((at? s1 x1).bind fun v1 =>
 (f1 v1).bind fun r1 =>
 if r1 then
 (some (.ret x1))
 else
 some (.next (w64 (x1 + 1))))
 else
 some (.brk ())) loopLim 0)
 (fun (_ : Unit) => some (-1)) (fun r => some r)
/-- slices.ContainsFunc[[]loop.example/g01063/impl.Cause,loop.example/g01063/impl.Cause] -/
def slices_ContainsFunc_impl_Cause_impl_Cause_799 (s1 : List GCause) (f1 : GCause → Option Bool) : Option Bool :=
 (slices_IndexFunc_impl_Cause_impl_Cause_821 s1 f1).bind fun r1 =>
 some (decide (r1 ≥ 0))
/-- loop.example/g01063/impl.ValidCauses -/
def impl_ValidCauses (signs1 : Int) (list1 : List GCause) : Option Bool :=
 (((impl_within signs1 1 16).bind fun r1 =>
 if r1 then
 (some (decide ((list1.length : Int) > 10)))
 else
 some true) : Option Bool).bind fun (x1 : Bool) =>
 if x1 then
 (some false)
 else
 onL (loop (S := Int) (B := Unit) (R := Bool) (fun (x2 : Int) =>
 if x2 < (list1.length : Int) then
 ((at? list1 x2).bind fun v1 =>
 (((impl_IsName v1.Name).bind fun r2 =>
 if r2 then
 (if (v1.Signs.length : Int) = 0 then
 (some true)
 else
 (impl_isIncreasing v1.Signs signs1).bind fun r3 =>
 if r3 then
 ((sub? list1 0 x2).bind fun l1 =>
 (slices_ContainsFunc_impl_Cause_impl_Cause_799 l1 (fun a0 => impl_ValidCauses_1 a0 v1)).bind fun r4 =>
 some r4)
 else
 some true)
 else
 some true) : Option Bool).bind fun (x3 : Bool) =>
 if x3 then
 (some (.ret false))
 else
 some (.next (w64 (x2 + 1))))
 else
 some (.brk ())) loopLim 0)
 (fun (_ : Unit) => some true) (fun r => some r)
/-- slices.Equal[[]int64,int64] -/
def slices_Equal_int64_int64_811 (s1 : List Int) (s2 : List Int) : Option Bool :=
 if (s1.length : Int) = (s2.length : Int) then
 (onL (loop (S := Int) (B := Unit) (R := Bool) (fun (x1 : Int) =>
 if x1 < (s1.length : Int) then
 ((at? s1 x1).bind fun v1 =>
 (at? s2 x1).bind fun v2 =>
 if v1 = v2 then
 (some (.next (w64 (x1 + 1))))
 else
 some (.ret false))
 else
 some (.brk ())) loopLim 0)
 (fun (_ : Unit) => some true) (fun r => some r))
 else
 some false
/-- loop.example/g01063/impl.AlikeCauses -/
def impl_AlikeCauses (signs1 : Int) (list1 : List GCause) : Option ((List (List Int)) × Int) :=
 (impl_ValidCauses signs1 list1).bind fun r1 =>
 if r1 then
 (onL (loop (S := ((List (List Int)) × Int)) (B := (List (List Int))) (R := Empty) (fun ((out1, x1) : (List (List Int)) × Int) =>
 if x1 < (list1.length : Int) then
 ((at? list1 x1).bind fun v1 =>
 onL (loop (S := ((List (List Int)) × Int)) (B := (List (List Int))) (R := Empty) (fun ((out2, k1) : (List (List Int)) × Int) =>
 if k1 < (list1.length : Int) then
 ((at? list1 k1).bind fun v2 =>
 (slices_Equal_int64_int64_811 v1.Signs v2.Signs).bind fun r2 =>
 if r2 then
 ((app? out2 ([[x1, k1]] : List (List Int))).bind fun l1 =>
 some (.next (l1, w64 (k1 + 1))))
 else
 some (.next (out2, w64 (k1 + 1))))
 else
 some (.brk out2)) loopLim (out1, w64 (x1 + 1)))
 (fun (out3 : List (List Int)) => some (.next (out3, w64 (x1 + 1)))) Empty.elim)
 else
 some (.brk out1)) loopLim ([], 0))
 (fun (out4 : List (List Int)) => some (out4, 0)) Empty.elim)
 else
 some ([], 1)
/-- loop.example/g01063/impl.bestBurning -/
def impl_bestBurning (x1 : GLamp) (ticks1 : Int) : Option ((List UInt8) × Int) :=
 (mk? (w64 (ticks1 + 1)) ([] : List Int)).bind fun l1 =>
 (mk? (w64 (x1.Limit + 1)) (0 : Int)).bind fun l2 =>
 (at? l1 0).bind fun v1 =>
 onL (loop (S := ((List (List Int)) × Int)) (B := (List (List Int))) (R := Empty) (fun ((most1, left1) : (List (List Int)) × Int) =>
 if left1 ≤ ticks1 then
 (onL (loop (S := ((List (List Int)) × Int)) (B := (List (List Int))) (R := Empty) (fun ((most2, heat1) : (List (List Int)) × Int) =>
 if heat1 ≤ x1.Limit then
 ((at? most2 (w64 (left1 - 1))).bind fun v2 =>
 (impl_Lamp_next x1 heat1 false).bind fun r1 =>
 (at? v2 r1).bind fun v3 =>
 (impl_Lamp_next x1 heat1 true).bind fun r2 =>
 ((if r2 ≤ x1.Limit then
 ((at? most2 (w64 (left1 - 1))).bind fun v4 =>
 (at? v4 r2).bind fun v5 =>
 some (imax v3 (w64 (v5 + 1))))
 else
 some v3) : Option Int).bind fun (own1 : Int) =>
 (at? most2 left1).bind fun v6 =>
 (app? v6 ([own1] : List Int)).bind fun l3 =>
 (at? most2 left1).bind fun v7 =>
 some (.next (most2.set left1.toNat l3, w64 (heat1 + 1))))
 else
 some (.brk most2)) loopLim (most1, 0))
 (fun (most3 : List (List Int)) => some (.next (most3, w64 (left1 + 1)))) Empty.elim)
 else
 some (.brk most1)) loopLim (l1.set ((0 : Int).toNat) l2, 1))
 (fun (most4 : List (List Int)) => onL (loop (S := ((List Int) × Int × Int)) (B := (List Int)) (R := Empty) (fun ((out1, heat2, left2) : (List Int) × Int × Int) =>
 if left2 > 0 then
 ((impl_Lamp_next x1 heat2 true).bind fun r3 =>
 ((if r3 ≤ x1.Limit then
 ((at? most4 (w64 (left2 - 1))).bind fun v8 =>
 (at? v8 r3).bind fun v9 =>
 (at? most4 left2).bind fun v10 =>
 (at? v10 heat2).bind fun v11 =>
 some (decide ((w64 (v9 + 1)) = v11)))
 else
 some false) : Option Bool).bind fun (x2 : Bool) =>
 if x2 then
 ((app? out1 ([49] : List Int)).bind fun l4 =>
 some (.next (l4, r3, w64 (left2 - 1))))
 else
 (app? out1 ([48] : List Int)).bind fun l5 =>
 (impl_Lamp_next x1 heat2 false).bind fun r4 =>
 some (.next (l5, r4, w64 (left2 - 1))))
 else
 some (.brk out1)) loopLim ([], 0, ticks1))
 (fun (out2 : List Int) => (at? most4 ticks1).bind fun v12 =>
 (at? v12 0).bind fun v13 =>
 some (b2s out2, v13)) Empty.elim) Empty.elim
/-- loop.example/g01063/impl.ValidLamp -/
def impl_ValidLamp (x1 : GLamp) : Option Bool :=
 (impl_within x1.Heats 1 20).bind fun r1 =>
 if r1 then
 ((impl_within x1.Cools 1 20).bind fun r2 =>
 if r2 then
 ((impl_within x1.Limit 1 100).bind fun r3 =>
 some r3)
 else
 some false)
 else
 some false
/-- loop.example/g01063/impl.lampCode -/
def impl_lampCode (x1 : GLamp) (ticks1 : Int) : Option Int :=
 (impl_ValidLamp x1).bind fun r1 =>
 if r1 then
 ((impl_within ticks1 0 60).bind fun r2 =>
 if r2 then
 (some 0)
 else
 some 2)
 else
 some 1
/-- loop.example/g01063/impl.BestBurning -/
def impl_BestBurning (x1 : GLamp) (ticks1 : Int) : Option ((List UInt8) × Int) :=
 (impl_lampCode x1 ticks1).bind fun r1 =>
 if r1 = 0 then
 ((impl_bestBurning x1 ticks1).bind fun r2 =>
 some (r2.1, 0))
 else
 some ([], r1)
/-- loop.example/g01063/impl.ValidBlades -/
def impl_ValidBlades (b1 : GBlades) : Option Bool :=
 (impl_within b1.Many 1 12).bind fun r1 =>
 if r1 then
 ((mod? 1000 b1.Many).bind fun q1 =>
 if q1 = 0 then
 ((impl_within b1.Open 1 999).bind fun r2 =>
 if r2 then
 ((mod? b1.Open b1.Many).bind fun q2 =>
 some (decide (q2 = 0)))
 else
 some false)
 else
 some false)
 else
 some false
/-- loop.example/g01063/impl.bothOpen -/
def impl_bothOpen (a1 : GBlades) (b1 : GBlades) (by_1 : Int) : Option Int :=
 onL (loop (S := (Int × Int)) (B := Int) (R := Empty) (fun ((count1, x1) : Int × Int) =>
 if x1 < 1000 then
 ((((impl_Blades_isOpen a1 x1).bind fun r1 =>
 if r1 then
 ((impl_Blades_isOpen b1 ((w64 (x1 + by_1)).tmod 1000)).bind fun r2 =>
 some r2)
 else
 some false) : Option Bool).bind fun (x2 : Bool) =>
 if x2 then
 (some (.next (w64 (count1 + 1), w64 (x1 + 1))))
 else
 some (.next (count1, w64 (x1 + 1))))
 else
 some (.brk count1)) loopLim (0, 0))
 (fun (count2 : Int) => some count2) Empty.elim
/-- loop.example/g01063/impl.BestOffset -/
def impl_BestOffset (a1 : GBlades) (b1 : GBlades) : Option (Int × Int × Int) :=
 (((impl_ValidBlades a1).bind fun r1 =>
 if r1 then
 ((impl_ValidBlades b1).bind fun r2 =>
 some (!r2))
 else
 some true) : Option Bool).bind fun (x1 : Bool) =>
 if x1 then
 (some (0, 0, 1))
 else
 onL (loop (S := (Int × Int × Int)) (B := (Int × Int)) (R := Empty) (fun ((best1, most1, x2) : Int × Int × Int) =>
 if x2 < 1000 then
 ((impl_bothOpen a1 b1 x2).bind fun r3 =>
 if r3 > most1 then
 (some (.next (x2, r3, w64 (x2 + 1))))
 else
 some (.next (best1, most1, w64 (x2 + 1))))
 else
 some (.brk (best1, most1))) loopLim (0, (-1), 0))
 (fun ((best2, most2) : Int × Int) => some (best2, most2, 0)) Empty.elim
/-- loop.example/g01063/impl.causesCode -/
def impl_causesCode (signs1 : Int) (list1 : List GCause) (some_1 : List Int) (seen1 : List Int) : Option Int :=
 (impl_ValidCauses signs1 list1).bind fun r1 =>
 if r1 then
 ((((impl_isIncreasing some_1 (list1.length : Int)).bind fun r2 =>
 if r2 then
 ((impl_isIncreasing seen1 signs1).bind fun r3 =>
 some (!r3))
 else
 some true) : Option Bool).bind fun (x1 : Bool) =>
 if x1 then
 (some 2)
 else
 some 0)
 else
 some 1
/-- loop.example/g01063/impl.indicesOf -/
def impl_indicesOf (set1 : Int) : Option (List Int) :=
 onL (loop (S := ((List Int) × Int)) (B := (List Int)) (R := Empty) (fun ((out1, i1) : (List Int) × Int) =>
 (shr? .i64 set1 (IntKind.wrap .u64 (i1))).bind fun q1 =>
 if q1 > 0 then
 ((shr? .i64 set1 (IntKind.wrap .u64 (i1))).bind fun q2 =>
 if (bit_and .i64 q2 1) = 1 then
 ((app? out1 ([i1] : List Int)).bind fun l1 =>
 some (.next (l1, w64 (i1 + 1))))
 else
 some (.next (out1, w64 (i1 + 1))))
 else
 some (.brk out1)) loopLim ([], 0))
 (fun (out2 : List Int) => some out2) Empty.elim
/-- loop.example/g01063/impl.signsOf -/
def impl_signsOf (list1 : List GCause) (some_1 : List Int) : Option (List Int) :=
 onL (loop (S := ((List Int) × Int)) (B := (List Int)) (R := Empty) (fun ((out1, x1) : (List Int) × Int) =>
 if x1 < (some_1.length : Int) then
 ((at? some_1 x1).bind fun v1 =>
 (at? list1 v1).bind fun v2 =>
 (app? out1 v2.Signs).bind fun l1 =>
 some (.next (l1, w64 (x1 + 1))))
 else
 some (.brk out1)) loopLim ([], 0))
 (fun (out2 : List Int) => (slices_Sort_int64 out2).bind fun r1 =>
 (slices_Compact_int64 r1).bind fun r2 =>
 some r2) Empty.elim
/-- loop.example/g01063/impl.explanations -/
def impl_explanations (list1 : List GCause) (seen1 : List Int) : Option (List (List Int)) :=
 (shl? .i64 1 (IntKind.wrap .u64 ((list1.length : Int)))).bind fun q1 =>
 onL (loop (S := ((List (List Int)) × Int)) (B := (List (List Int))) (R := Empty) (fun ((out1, x1) : (List (List Int)) × Int) =>
 if x1 < q1 then
 ((impl_indicesOf x1).bind fun r1 =>
 (impl_signsOf list1 r1).bind fun r2 =>
 (slices_Equal_int64_int64_811 r2 seen1).bind fun r3 =>
 if r3 then
 ((app? out1 ([r1] : List (List Int))).bind fun l1 =>
 some (.next (l1, w64 (x1 + 1))))
 else
 some (.next (out1, w64 (x1 + 1))))
 else
 some (.brk out1)) loopLim ([], 0))
 (fun (out2 : List (List Int)) => some out2) Empty.elim
/-- loop.example/g01063/impl.shares -/
def impl_shares (list1 : List GCause) (all1 : List (List Int)) : Option (List Int) :=
 (mk? (list1.length : Int) (0 : Int)).bind fun l1 =>
 onL (loop (S := ((List Int) × Int)) (B := (List Int)) (R := Empty) (fun ((out1, x1) : (List Int) × Int) =>
 if x1 < (all1.length : Int) then
 ((at? all1 x1).bind fun v1 =>
 onL (loop (S := ((List Int) × Int)) (B := (List Int)) (R := Empty) (fun ((out2, x2) : (List Int) × Int) =>
 if x2 < (v1.length : Int) then
 ((at? v1 x2).bind fun v2 =>
 (at? out2 v2).bind fun v3 =>
 (at? out2 v2).bind fun v4 =>
 some (.next (out2.set v2.toNat (w64 (v3 + 1)), w64 (x2 + 1))))
 else
 some (.brk out2)) loopLim (out1, 0))
 (fun (out3 : List Int) => some (.next (out3, w64 (x1 + 1)))) Empty.elim)
 else
 some (.brk out1)) loopLim (l1, 0))
 (fun (out4 : List Int) => some out4) Empty.elim
/-- loop.example/g01063/impl.BestQuestion -/
def impl_BestQuestion (signs1 : Int) (list1 : List GCause) (seen1 : List Int) : Option (Int × Int) :=
 (impl_causesCode signs1 list1 [] seen1).bind fun r1 =>
 if r1 = 0 then
 ((impl_explanations list1 seen1).bind fun r2 =>
 if (r2.length : Int) = 0 then
 (some (0, 3))
 else
 (impl_shares list1 r2).bind fun r3 =>
 onL (loop (S := (Int × Int × Int)) (B := (Int × Int)) (R := Empty) (fun ((best1, least1, x1) : Int × Int × Int) =>
 if x1 < (r3.length : Int) then
 ((at? r3 x1).bind fun v1 =>
 if (imax v1 (w64 ((r2.length : Int) - v1))) < least1 then
 (some (.next (x1, imax v1 (w64 ((r2.length : Int) - v1)), w64 (x1 + 1))))
 else
 some (.next (best1, least1, w64 (x1 + 1))))
 else
 some (.brk (best1, least1))) loopLim (0, (r2.length : Int), 0))
 (fun ((best2, least2) : Int × Int) => if least2 = (r2.length : Int) then
 (some (0, 6))
 else
 some (best2, 0)) Empty.elim)
 else
 some (0, r1)
/-- loop.example/g01063/impl.gcd -/
def impl_gcd (a1 : Int) (b1 : Int) : Option Int :=
 onL (loop (S := (Int × Int)) (B := Int) (R := Empty) (fun ((a2, b2) : Int × Int) =>
 if b2 = 0 then
 (some (.brk a2))
 else
 (mod? a2 b2).bind fun q1 =>
 some (.next (b2, q1))) loopLim (a1, b1))
 (fun (a3 : Int) => some (imax a3 (w64 (0 - a3)))) Empty.elim
/-- loop.example/g01063/impl.ValidFraction -/
def impl_ValidFraction (f1 : GFraction) : Option Bool :=
 (impl_within f1.Den 1 1000000).bind fun r1 =>
 if r1 then
 ((impl_within f1.Num (-1000000) 1000000).bind fun r2 =>
 if r2 then
 ((impl_gcd f1.Num f1.Den).bind fun r3 =>
 some (decide (r3 = 1)))
 else
 some false)
 else
 some false
/-- loop.example/g01063/impl.lowest -/
def impl_lowest (num1 : Int) (den1 : Int) : Option GFraction :=
 ((if den1 < 0 then
 (some (w64 (0 - num1), w64 (0 - den1)))
 else
 some (num1, den1)) : Option (Int × Int)).bind fun ((num2, den2) : Int × Int) =>
 (impl_gcd num2 den2).bind fun r1 =>
 (div? .i64 num2 r1).bind fun q1 =>
 (div? .i64 den2 r1).bind fun q2 =>
 some (GFraction.mk q1 q2)
/-- loop.example/g01063/impl.brightnessAt -/
def impl_brightnessAt (bright1 : GFraction) (from_1 : Int) (to_1 : Int) : Option GFraction :=
 (impl_lowest (w64 ((w64 (bright1.Num * from_1)) * from_1)) (w64 ((w64 (bright1.Den * to_1)) * to_1))).bind fun r1 =>
 some r1
/-- loop.example/g01063/impl.isBrightness -/
def impl_isBrightness (f1 : GFraction) : Option Bool :=
 (impl_within f1.Num 0 100000).bind fun r1 =>
 if r1 then
 (some (decide (f1.Den ≤ 100000)))
 else
 some false
/-- loop.example/g01063/impl.isSide -/
def impl_isSide (n1 : Int) : Option Bool :=
 (impl_within n1 1 1000).bind fun r1 =>
 some r1
/-- loop.example/g01063/impl.BrightnessAt -/
def impl_BrightnessAt (bright1 : GFraction) (from_1 : Int) (to_1 : Int) : Option (GFraction × Int) :=
 (impl_ValidFraction bright1).bind fun r1 =>
 if r1 then
 ((((impl_isBrightness bright1).bind fun r2 =>
 if r2 then
 ((impl_isSide from_1).bind fun r3 =>
 if r3 then
 ((impl_isSide to_1).bind fun r4 =>
 some (!r4))
 else
 some true)
 else
 some true) : Option Bool).bind fun (x1 : Bool) =>
 if x1 then
 (some ((GFraction.mk 0 0), 2))
 else
 (impl_brightnessAt bright1 from_1 to_1).bind fun r5 =>
 some (r5, 0))
 else
 some ((GFraction.mk 0 0), 1)
/-- loop.example/g01063/impl.BrightnessOf -/
def impl_BrightnessOf (lumens1 : Int) (wide1 : Int) (high1 : Int) : Option (GFraction × Int) :=
 (((impl_isSide wide1).bind fun r1 =>
 if r1 then
 ((impl_isSide high1).bind fun r2 =>
 if r2 then
 ((impl_within lumens1 0 100000).bind fun r3 =>
 some (!r3))
 else
 some true)
 else
 some true) : Option Bool).bind fun (x1 : Bool) =>
 if x1 then
 (some ((GFraction.mk 0 0), 2))
 else
 (impl_lowest lumens1 (w64 (wide1 * high1))).bind fun r4 =>
 some (r4, 0)
/-- loop.example/g01063/impl.ValidBurning -/
def impl_ValidBurning (s1 : List UInt8) : Option Bool :=
 if (s1.length : Int) ≤ 60 then
 ((strings_Trim s1 [48, 49]).bind fun r1 =>
 some (r1 == []))
 else
 some false
/-- loop.example/g01063/impl.burnsOf -/
def impl_burnsOf (s1 : List UInt8) : Option (List (List Int)) :=
 onL (loop (S := ((List (List Int)) × Int)) (B := (List (List Int))) (R := Empty) (fun ((out1, x1) : (List (List Int)) × Int) =>
 if x1 < (s1.length : Int) then
 ((at? s1 x1).bind fun c1 =>
 if (c1.toNat : Int) = 48 then
 (some (.next (out1, w64 (x1 + 1))))
 else
 ((if x1 > 0 then
 ((at? s1 (w64 (x1 - 1))).bind fun c2 =>
 some (decide ((c2.toNat : Int) = 49)))
 else
 some false) : Option Bool).bind fun (x2 : Bool) =>
 if x2 then
 ((at? out1 (w64 ((out1.length : Int) - 1))).bind fun v1 =>
 (at? v1 1).bind fun v2 =>
 (at? v1 1).bind fun v3 =>
 some (.next (out1.set ((w64 ((out1.length : Int) - 1)).toNat) (v1.set ((1 : Int).toNat) (w64 (v2 + 1))), w64 (x1 + 1))))
 else
 (app? out1 ([[x1, 1]] : List (List Int))).bind fun l1 =>
 some (.next (l1, w64 (x1 + 1))))
 else
 some (.brk out1)) loopLim ([], 0))
 (fun (out2 : List (List Int)) => some out2) Empty.elim
/-- loop.example/g01063/impl.BurnsOf -/
def impl_BurnsOf (s1 : List UInt8) : Option ((List (List Int)) × Int) :=
 (impl_ValidBurning s1).bind fun r1 =>
 if r1 then
 ((impl_burnsOf s1).bind fun r2 =>
 some (r2, 0))
 else
 some ([], 1)
/-- loop.example/g01063/impl.checked -/
def impl_checked (f1 : GFraction) : Option (GFraction × Int) :=
 (impl_ValidFraction f1).bind fun r1 =>
 if r1 then
 (some (f1, 0))
 else
 some ((GFraction.mk 0 0), 5)
/-- loop.example/g01063/impl.CommonTime -/
def impl_CommonTime (a1 : GFraction) (b1 : GFraction) : Option (GFraction × Int) :=
 (((impl_ValidFraction a1).bind fun r1 =>
 if r1 then
 ((impl_ValidFraction b1).bind fun r2 =>
 some (!r2))
 else
 some true) : Option Bool).bind fun (x1 : Bool) =>
 if x1 then
 (some ((GFraction.mk 0 0), 1))
 else
 ((if a1.Num ≤ 0 then
 (some true)
 else
 some (decide (b1.Num ≤ 0))) : Option Bool).bind fun (x2 : Bool) =>
 if x2 then
 (some ((GFraction.mk 0 0), 6))
 else
 (impl_gcd a1.Den b1.Den).bind fun r3 =>
 (div? .i64 a1.Den r3).bind fun q1 =>
 (impl_gcd a1.Num b1.Num).bind fun r4 =>
 (impl_lowest (w64 (q1 * b1.Den)) r4).bind fun r5 =>
 (impl_checked r5).bind fun r6 =>
 some (r6.1, r6.2)
/-- loop.example/g01063/impl.CornerLight -/
def impl_CornerLight (throw1 : Int) (half1 : Int) : Option (GFraction × Int) :=
 (((impl_isSide throw1).bind fun r1 =>
 if r1 then
 ((impl_within half1 0 1000).bind fun r2 =>
 some (!r2))
 else
 some true) : Option Bool).bind fun (x1 : Bool) =>
 if x1 then
 (some ((GFraction.mk 0 0), 2))
 else
 (impl_lowest (w64 (throw1 * throw1)) (w64 ((w64 (throw1 * throw1)) + (w64 (half1 * half1))))).bind fun r3 =>
 (impl_lowest (w64 (r3.Num * r3.Num)) (w64 (r3.Den * r3.Den))).bind fun r4 =>
 some (r4, 0)
/-- loop.example/g01063/impl.CountExplanations -/
def impl_CountExplanations (signs1 : Int) (list1 : List GCause) (seen1 : List Int) : Option (Int × Int) :=
 (impl_causesCode signs1 list1 [] seen1).bind fun r1 =>
 if r1 = 0 then
 ((impl_explanations list1 seen1).bind fun r2 =>
 some ((r2.length : Int), 0))
 else
 some (0, r1)
/-- loop.example/g01063/impl.ExplainsSigns -/
def impl_ExplainsSigns (signs1 : Int) (list1 : List GCause) (some_1 : List Int) (seen1 : List Int) : Option (Bool × Int) :=
 (impl_causesCode signs1 list1 some_1 seen1).bind fun r1 =>
 if r1 = 0 then
 ((impl_signsOf list1 some_1).bind fun r2 =>
 (slices_Equal_int64_int64_811 r2 seen1).bind fun r3 =>
 some (r3, 0))
 else
 some (false, r1)
/-- loop.example/g01063/impl.FarthestFor -/
def impl_FarthestFor (bright1 : GFraction) (from_1 : Int) (least1 : GFraction) : Option (Int × Int) :=
 (((impl_ValidFraction bright1).bind fun r1 =>
 if r1 then
 ((impl_ValidFraction least1).bind fun r2 =>
 some (!r2))
 else
 some true) : Option Bool).bind fun (x1 : Bool) =>
 if x1 then
 (some (0, 1))
 else
 (((impl_isBrightness bright1).bind fun r3 =>
 if r3 then
 ((impl_isSide from_1).bind fun r4 =>
 if r4 then
 ((impl_isBrightness least1).bind fun r5 =>
 some (!r5))
 else
 some true)
 else
 some true) : Option Bool).bind fun (x2 : Bool) =>
 if x2 then
 (some (0, 2))
 else
 onL (loop (S := Int) (B := Unit) (R := (Int × Int)) (fun (to_1 : Int) =>
 if to_1 ≥ 1 then
 (if (w64 ((w64 ((w64 (bright1.Num * from_1)) * from_1)) * least1.Den)) ≥ (w64 ((w64 ((w64 (least1.Num * bright1.Den)) * to_1)) * to_1)) then
 (some (.ret (to_1, 0)))
 else
 some (.next (w64 (to_1 - 1))))
 else
 some (.brk ())) loopLim 1000)
 (fun (_ : Unit) => some (0, 3)) (fun r => some r)
/-- loop.example/g01063/impl.isRate -/
def impl_isRate (f1 : GFraction) : Option Bool :=
 (impl_within f1.Num 1 1000).bind fun r1 =>
 if r1 then
 (some (decide (f1.Den ≤ 1000)))
 else
 some false
/-- loop.example/g01063/impl.rateCode -/
def impl_rateCode (valid1 : Bool) (rate1 : GFraction) (least1 : Int) : Option Int :=
 ((if valid1 then
 ((impl_ValidFraction rate1).bind fun r1 =>
 some (!r1))
 else
 some true) : Option Bool).bind fun (x1 : Bool) =>
 if x1 then
 (some 1)
 else
 (((impl_isRate rate1).bind fun r2 =>
 if r2 then
 ((impl_within least1 1 200).bind fun r3 =>
 some (!r3))
 else
 some true) : Option Bool).bind fun (x2 : Bool) =>
 if x2 then
 (some 2)
 else
 some 0
/-- loop.example/g01063/impl.steady -/
def impl_steady (many1 : Int) (rate1 : GFraction) (least1 : Int) : Option Bool :=
 some (decide ((w64 (rate1.Num * many1)) ≥ (w64 (least1 * rate1.Den))))
/-- loop.example/g01063/impl.FewestBlades -/
def impl_FewestBlades (rate1 : GFraction) (least1 : Int) : Option (Int × Int) :=
 (impl_rateCode true rate1 least1).bind fun r1 =>
 if r1 = 0 then
 (onL (loop (S := Int) (B := Unit) (R := (Int × Int)) (fun (many1 : Int) =>
 if many1 ≤ 12 then
 ((((mod? 1000 many1).bind fun q1 =>
 if q1 = 0 then
 ((impl_steady many1 rate1 least1).bind fun r2 =>
 some r2)
 else
 some false) : Option Bool).bind fun (x1 : Bool) =>
 if x1 then
 (some (.ret (many1, 0)))
 else
 some (.next (w64 (many1 + 1))))
 else
 some (.brk ())) loopLim 1)
 (fun (_ : Unit) => some (0, 3)) (fun r => some r))
 else
 some (0, r1)
/-- loop.example/g01063/impl.HeatAfter -/
def impl_HeatAfter (x1 : GLamp) (s1 : List UInt8) : Option ((List Int) × Int) :=
 (((impl_ValidLamp x1).bind fun r1 =>
 if r1 then
 ((impl_ValidBurning s1).bind fun r2 =>
 some (!r2))
 else
 some true) : Option Bool).bind fun (x2 : Bool) =>
 if x2 then
 (some ([], 1))
 else
 onL (loop (S := ((List Int) × Int × Int)) (B := (List Int)) (R := Empty) (fun ((out1, heat1, x3) : (List Int) × Int × Int) =>
 if x3 < (s1.length : Int) then
 ((at? s1 x3).bind fun c1 =>
 (impl_Lamp_next x1 heat1 (decide ((c1.toNat : Int) = 49))).bind fun r3 =>
 (app? out1 ([r3] : List Int)).bind fun l1 =>
 some (.next (l1, r3, w64 (x3 + 1))))
 else
 some (.brk out1)) loopLim ([], 0, 0))
 (fun (out2 : List Int) => some (out2, 0)) Empty.elim
/-- loop.example/g01063/impl.FirstTooHot -/
def impl_FirstTooHot (x1 : GLamp) (s1 : List UInt8) : Option (Int × Int) :=
 (impl_HeatAfter x1 s1).bind fun r1 =>
 if r1.2 = 0 then
 (onL (loop (S := Int) (B := Unit) (R := (Int × Int)) (fun (x2 : Int) =>
 if x2 < (r1.1.length : Int) then
 ((at? r1.1 x2).bind fun v1 =>
 if v1 > x1.Limit then
 (some (.ret (x2, 0)))
 else
 some (.next (w64 (x2 + 1))))
 else
 some (.brk ())) loopLim 0)
 (fun (_ : Unit) => some (0, 3)) (fun r => some r))
 else
 some (0, r1.2)
/-- loop.example/g01063/impl.FlickerRate -/
def impl_FlickerRate (b1 : GBlades) (rate1 : GFraction) : Option (GFraction × Int) :=
 (impl_ValidBlades b1).bind fun r1 =>
 (impl_rateCode r1 rate1 1).bind fun r2 =>
 if r2 = 0 then
 ((impl_lowest (w64 (rate1.Num * b1.Many)) rate1.Den).bind fun r3 =>
 some (r3, 0))
 else
 some ((GFraction.mk 0 0), r2)
/-- loop.example/g01063/impl.validTitle -/
def impl_validTitle (x1 : GTitle) : Option Bool :=
 (impl_within x1.No 1 9999).bind fun r1 =>
 if r1 then
 ((impl_IsName x1.Name).bind fun r2 =>
 if r2 then
 ((impl_within x1.Glass 1 30).bind fun r3 =>
 if r3 then
 ((impl_within x1.Broken 0 x1.Glass).bind fun r4 =>
 some r4)
 else
 some false)
 else
 some false)
 else
 some false
/-- loop.example/g01063/impl.ValidTitles -/
def impl_ValidTitles (list1 : List GTitle) : Option Bool :=
 onL (loop (S := Int) (B := Unit) (R := Bool) (fun (x1 : Int) =>
 if x1 < (list1.length : Int) then
 ((at? list1 x1).bind fun v1 =>
 (((impl_validTitle v1).bind fun r1 =>
 if r1 then
 (if x1 > 0 then
 ((at? list1 (w64 (x1 - 1))).bind fun v2 =>
 some (decide (v2.No ≥ v1.No)))
 else
 some false)
 else
 some true) : Option Bool).bind fun (x2 : Bool) =>
 if x2 then
 (some (.ret false))
 else
 some (.next (w64 (x1 + 1))))
 else
 some (.brk ())) loopLim 0)
 (fun (_ : Unit) => some (decide ((list1.length : Int) ≤ 20))) (fun r => some r)
/-- loop.example/g01063/impl.FreeNumber -/
def impl_FreeNumber (list1 : List GTitle) : Option (Int × Int) :=
 (impl_ValidTitles list1).bind fun r1 =>
 if r1 then
 (onL (loop (S := (Int × Int)) (B := Int) (R := Empty) (fun ((no1, x1) : Int × Int) =>
 if x1 < (list1.length : Int) then
 ((at? list1 x1).bind fun v1 =>
 if v1.No = no1 then
 (some (.next (w64 (no1 + 1), w64 (x1 + 1))))
 else
 some (.next (no1, w64 (x1 + 1))))
 else
 some (.brk no1)) loopLim (1, 0))
 (fun (no2 : Int) => some (no2, 0)) Empty.elim)
 else
 some (0, 1)
/-- loop.example/g01063/impl.FuelFor -/
def impl_FuelFor (s1 : List UInt8) (each1 : Int) (start1 : Int) : Option (Int × Int) :=
 (impl_ValidBurning s1).bind fun r1 =>
 if r1 then
 ((((impl_within each1 0 1000).bind fun r2 =>
 if r2 then
 ((impl_within start1 0 1000).bind fun r3 =>
 some (!r3))
 else
 some true) : Option Bool).bind fun (x1 : Bool) =>
 if x1 then
 (some (0, 2))
 else
 (strings_Count s1 [49]).bind fun r4 =>
 (impl_burnsOf s1).bind fun r5 =>
 some (w64 ((w64 (each1 * r4)) + (w64 (start1 * (r5.length : Int)))), 0))
 else
 some (0, 1)
/-- loop.example/g01063/impl.GearedRate -/
def impl_GearedRate (rate1 : GFraction) (driver1 : Int) (driven1 : Int) : Option (GFraction × Int) :=
 (impl_ValidFraction rate1).bind fun r1 =>
 if r1 then
 ((((impl_within driver1 1 1000).bind fun r2 =>
 if r2 then
 ((impl_within driven1 1 1000).bind fun r3 =>
 some (!r3))
 else
 some true) : Option Bool).bind fun (x1 : Bool) =>
 if x1 then
 (some ((GFraction.mk 0 0), 2))
 else
 (impl_lowest (w64 (rate1.Num * driver1)) (w64 (rate1.Den * driven1))).bind fun r4 =>
 (impl_checked r4).bind fun r5 =>
 some (r5.1, r5.2))
 else
 some ((GFraction.mk 0 0), 1)
/-- loop.example/g01063/impl.IsOpenAt -/
def impl_IsOpenAt (b1 : GBlades) (part1 : Int) : Option (Bool × Int) :=
 (impl_ValidBlades b1).bind fun r1 =>
 if r1 then
 ((impl_within part1 0 999).bind fun r2 =>
 if r2 then
 ((impl_Blades_isOpen b1 part1).bind fun r3 =>
 some (r3, 0))
 else
 some (false, 2))
 else
 some (false, 1)
/-- loop.example/g01063/impl.IsSteady -/
def impl_IsSteady (b1 : GBlades) (rate1 : GFraction) (least1 : Int) : Option (Bool × Int) :=
 (impl_ValidBlades b1).bind fun r1 =>
 (impl_rateCode r1 rate1 least1).bind fun r2 =>
 if r2 = 0 then
 ((impl_steady b1.Many rate1 least1).bind fun r3 =>
 some (r3, 0))
 else
 some (false, r2)
/-- loop.example/g01063/impl.LightThrough$1 -/
def impl_LightThrough_1 (n1 : Int) : Option Bool :=
 (impl_within n1 0 1000).bind fun r1 =>
 some (!r1)
/-- slices.IndexFunc[[]int64,int64] -/
def slices_IndexFunc_int64_int64_818 (s1 : List Int) (f1 : Int → Option Bool) : Option Int :=
 onL (loop (S := Int) (B := Unit) (R := Int) (fun (x1 : Int) =>
 if x1 < (s1.length : Int) then
 ((at? s1 x1).bind fun v1 =>
 (f1 v1).bind fun r1 =>
 if r1 then
 (some (.ret x1))
 else
 some (.next (w64 (x1 + 1))))
 else
 some (.brk ())) loopLim 0)
 (fun (_ : Unit) => some (-1)) (fun r => some r)
/-- slices.ContainsFunc[[]int64,int64] -/
def slices_ContainsFunc_int64_int64_796 (s1 : List Int) (f1 : Int → Option Bool) : Option Bool :=
 (slices_IndexFunc_int64_int64_818 s1 f1).bind fun r1 =>
 some (decide (r1 ≥ 0))
/-- loop.example/g01063/impl.LightThrough -/
def impl_LightThrough (lumens1 : Int) (losses1 : List Int) : Option (GFraction × Int) :=
 (((impl_within lumens1 0 100000).bind fun r1 =>
 if r1 then
 (if (losses1.length : Int) > 4 then
 (some true)
 else
 (slices_ContainsFunc_int64_int64_796 losses1 (fun a0 => impl_LightThrough_1 a0)).bind fun r2 =>
 some r2)
 else
 some true) : Option Bool).bind fun (x1 : Bool) =>
 if x1 then
 (some ((GFraction.mk 0 0), 2))
 else
 onL (loop (S := (Int × Int × Int)) (B := (Int × Int)) (R := Empty) (fun ((num1, den1, x2) : Int × Int × Int) =>
 if x2 < (losses1.length : Int) then
 ((at? losses1 x2).bind fun v1 =>
 some (.next (w64 (num1 * (w64 (1000 - v1))), w64 (den1 * 1000), w64 (x2 + 1))))
 else
 some (.brk (num1, den1))) loopLim (lumens1, 1, 0))
 (fun ((num2, den2) : Int × Int) => (impl_lowest num2 den2).bind fun r3 =>
 some (r3, 0)) Empty.elim
/-- loop.example/g01063/impl.LitShare -/
def impl_LitShare (b1 : GBlades) : Option (GFraction × Int) :=
 (impl_ValidBlades b1).bind fun r1 =>
 if r1 then
 ((impl_lowest b1.Open 1000).bind fun r2 =>
 some (r2, 0))
 else
 some ((GFraction.mk 0 0), 1)
/-- loop.example/g01063/impl.LongestDark -/
def impl_LongestDark (b1 : GBlades) (rate1 : GFraction) : Option (GFraction × Int) :=
 (impl_ValidBlades b1).bind fun r1 =>
 (impl_rateCode r1 rate1 1).bind fun r2 =>
 if r2 = 0 then
 ((div? .i64 (w64 (1000 - b1.Open)) b1.Many).bind fun q1 =>
 (impl_lowest (w64 (q1 * rate1.Den)) (w64 (1000 * rate1.Num))).bind fun r3 =>
 some (r3, 0))
 else
 some ((GFraction.mk 0 0), r2)
/-- loop.example/g01063/impl.MostBurning -/
def impl_MostBurning (x1 : GLamp) (ticks1 : Int) : Option (Int × Int) :=
 (impl_lampCode x1 ticks1).bind fun r1 =>
 if r1 = 0 then
 ((impl_bestBurning x1 ticks1).bind fun r2 =>
 some (r2.2, 0))
 else
 some (0, r1)
/-- loop.example/g01063/impl.OpenParts -/
def impl_OpenParts (b1 : GBlades) (from_1 : Int) (to_1 : Int) : Option (Int × Int) :=
 (impl_ValidBlades b1).bind fun r1 =>
 if r1 then
 (((if 0 ≤ from_1 then
 (if from_1 ≤ to_1 then
 (some (!(decide (to_1 ≤ 1000))))
 else
 some true)
 else
 some true) : Option Bool).bind fun (x1 : Bool) =>
 if x1 then
 (some (0, 2))
 else
 onL (loop (S := (Int × Int)) (B := Int) (R := Empty) (fun ((count1, part1) : Int × Int) =>
 if part1 < to_1 then
 ((impl_Blades_isOpen b1 part1).bind fun r2 =>
 if r2 then
 (some (.next (w64 (count1 + 1), w64 (part1 + 1))))
 else
 some (.next (count1, w64 (part1 + 1))))
 else
 some (.brk count1)) loopLim (0, from_1))
 (fun (count2 : Int) => some (count2, 0)) Empty.elim)
 else
 some (0, 1)
/-- slices.Index[[]int64,int64] -/
def slices_Index_int64_int64_831 (s1 : List Int) (v1 : Int) : Option Int :=
 onL (loop (S := Int) (B := Unit) (R := Int) (fun (x1 : Int) =>
 if x1 < (s1.length : Int) then
 ((at? s1 x1).bind fun v2 =>
 if v1 = v2 then
 (some (.ret x1))
 else
 some (.next (w64 (x1 + 1))))
 else
 some (.brk ())) loopLim 0)
 (fun (_ : Unit) => some (-1)) (fun r => some r)
/-- slices.Contains[[]int64,int64] -/
def slices_Contains_int64_int64_808 (s1 : List Int) (v1 : Int) : Option Bool :=
 (slices_Index_int64_int64_831 s1 v1).bind fun r1 =>
 some (decide (r1 ≥ 0))
/-- loop.example/g01063/impl.PossibleCauses$1 -/
def impl_PossibleCauses_1 (s1 : Int) (x1 : List Int) : Option Bool :=
 (slices_Contains_int64_int64_808 x1 s1).bind fun r1 =>
 some (!r1)
/-- loop.example/g01063/impl.PossibleCauses -/
def impl_PossibleCauses (signs1 : Int) (list1 : List GCause) (seen1 : List Int) : Option ((List Int) × Int) :=
 (impl_causesCode signs1 list1 [] seen1).bind fun r1 =>
 if r1 = 0 then
 (onL (loop (S := ((List Int) × Int)) (B := (List Int)) (R := Empty) (fun ((out1, x1) : (List Int) × Int) =>
 if x1 < (list1.length : Int) then
 ((at? list1 x1).bind fun v1 =>
 (slices_ContainsFunc_int64_int64_796 v1.Signs (fun a0 => impl_PossibleCauses_1 a0 seen1)).bind fun r2 =>
 if r2 then
 (some (.next (out1, w64 (x1 + 1))))
 else
 (app? out1 ([x1] : List Int)).bind fun l1 =>
 some (.next (l1, w64 (x1 + 1))))
 else
 some (.brk out1)) loopLim ([], 0))
 (fun (out2 : List Int) => some (out2, 0)) Empty.elim)
 else
 some ([], r1)
/-- slices.Equal[[]loop.example/g01063/impl.Title,loop.example/g01063/impl.Title] -/
def slices_Equal_impl_Title_impl_Title_814 (s1 : List GTitle) (s2 : List GTitle) : Option Bool :=
 if (s1.length : Int) = (s2.length : Int) then
 (onL (loop (S := Int) (B := Unit) (R := Bool) (fun (x1 : Int) =>
 if x1 < (s1.length : Int) then
 ((at? s1 x1).bind fun v1 =>
 (at? s2 x1).bind fun v2 =>
 if (v1.No == v2.No && (v1.Name == v2.Name && (v1.Glass == v2.Glass && (v1.Broken == v2.Broken && true)))) then
 (some (.next (w64 (x1 + 1))))
 else
 some (.ret false))
 else
 some (.brk ())) loopLim 0)
 (fun (_ : Unit) => some true) (fun r => some r))
 else
 some false
/-- loop.example/g01063/impl.SameTitles -/
def impl_SameTitles (a1 : List GTitle) (b1 : List GTitle) : Option Bool :=
 (slices_Equal_impl_Title_impl_Title_814 a1 b1).bind fun r1 =>
 some r1
/-- loop.example/g01063/impl.ScreenArea -/
def impl_ScreenArea (wide1 : Int) (high1 : Int) : Option (Int × Int) :=
 (((impl_isSide wide1).bind fun r1 =>
 if r1 then
 ((impl_isSide high1).bind fun r2 =>
 some (!r2))
 else
 some true) : Option Bool).bind fun (x1 : Bool) =>
 if x1 then
 (some (0, 2))
 else
 some (w64 (wide1 * high1), 0)
/-- loop.example/g01063/impl.SignsOf -/
def impl_SignsOf (signs1 : Int) (list1 : List GCause) (some_1 : List Int) : Option ((List Int) × Int) :=
 (impl_causesCode signs1 list1 some_1 []).bind fun r1 =>
 if r1 = 0 then
 ((impl_signsOf list1 some_1).bind fun r2 =>
 some (r2, 0))
 else
 some ([], r1)
/-- loop.example/g01063/impl.SlowestSteady -/
def impl_SlowestSteady (b1 : GBlades) (least1 : Int) : Option (GFraction × Int) :=
 (impl_ValidBlades b1).bind fun r1 =>
 if r1 then
 ((impl_within least1 1 200).bind fun r2 =>
 if r2 then
 ((impl_lowest least1 b1.Many).bind fun r3 =>
 some (r3, 0))
 else
 some ((GFraction.mk 0 0), 2))
 else
 some ((GFraction.mk 0 0), 1)
/-- loop.example/g01063/impl.SureCauses -/
def impl_SureCauses (signs1 : Int) (list1 : List GCause) (seen1 : List Int) : Option ((List Int) × Int) :=
 (impl_causesCode signs1 list1 [] seen1).bind fun r1 =>
 if r1 = 0 then
 ((impl_explanations list1 seen1).bind fun r2 =>
 if (r2.length : Int) = 0 then
 (some ([], 3))
 else
 (impl_shares list1 r2).bind fun r3 =>
 onL (loop (S := ((List Int) × Int)) (B := (List Int)) (R := Empty) (fun ((out1, x1) : (List Int) × Int) =>
 if x1 < (r3.length : Int) then
 ((at? r3 x1).bind fun v1 =>
 if v1 = (r2.length : Int) then
 ((app? out1 ([x1] : List Int)).bind fun l1 =>
 some (.next (l1, w64 (x1 + 1))))
 else
 some (.next (out1, w64 (x1 + 1))))
 else
 some (.brk out1)) loopLim ([], 0))
 (fun (out2 : List Int) => some (out2, 0)) Empty.elim)
 else
 some ([], r1)
/-- loop.example/g01063/impl.TwoWheels -/
def impl_TwoWheels (a1 : GBlades) (b1 : GBlades) (by_1 : Int) : Option (Int × Int) :=
 (((impl_ValidBlades a1).bind fun r1 =>
 if r1 then
 ((impl_ValidBlades b1).bind fun r2 =>
 some (!r2))
 else
 some true) : Option Bool).bind fun (x1 : Bool) =>
 if x1 then
 (some (0, 1))
 else
 (impl_within by_1 0 999).bind fun r3 =>
 if r3 then
 ((impl_bothOpen a1 b1 by_1).bind fun r4 =>
 some (r4, 0))
 else
 some (0, 2)
/-- loop.example/g01063/impl.WholeTitles -/
def impl_WholeTitles (list1 : List GTitle) : Option ((List Int) × Int) :=
 (impl_ValidTitles list1).bind fun r1 =>
 if r1 then
 (onL (loop (S := ((List Int) × Int)) (B := (List Int)) (R := Empty) (fun ((out1, x1) : (List Int) × Int) =>
 if x1 < (list1.length : Int) then
 ((at? list1 x1).bind fun v1 =>
 if v1.Broken = 0 then
 ((app? out1 ([v1.No] : List Int)).bind fun l1 =>
 some (.next (l1, w64 (x1 + 1))))
 else
 some (.next (out1, w64 (x1 + 1))))
 else
 some (.brk out1)) loopLim ([], 0))
 (fun (out2 : List Int) => some (out2, 0)) Empty.elim)
 else
 some ([], 1)
/-- loop.example/g01063/impl.WholeTurns -/
def impl_WholeTurns (rate1 : GFraction) (seconds1 : Int) : Option (Int × Int) :=
 (impl_ValidFraction rate1).bind fun r1 =>
 if r1 then
 ((impl_within seconds1 0 1000000).bind fun r2 =>
 if r2 then
 (if rate1.Num < 0 then
 (some (0, 6))
 else
 (div? .i64 (w64 (rate1.Num * seconds1)) rate1.Den).bind fun q1 =>
 some (q1, 0))
 else
 some (0, 2))
 else
 some (0, 1)
/-- slices.Compare[[]int64,int64] -/
def slices_Compare_int64_int64_792 (s1 : List Int) (s2 : List Int) : Option Int :=
 onL (loop (S := Int) (B := Unit) (R := Int) (fun (x1 : Int) =>
 if x1 < (s1.length : Int) then
 ((at? s1 x1).bind fun v1 =>
 if x1 ≥ (s2.length : Int) then
 (some (.ret 1))
 else
 (at? s2 x1).bind fun v2 =>
 (cmp_Compare_int64_27 v1 v2).bind fun r1 =>
 if r1 = 0 then
 (some (.next (w64 (x1 + 1))))
 else
 some (.ret r1))
 else
 some (.brk ())) loopLim 0)
 (fun (_ : Unit) => if (s1.length : Int) < (s2.length : Int) then
 (some (-1))
 else
 some 0) (fun r => some r)
/-- loop.example/g01063/impl.chosenLamps -/
def impl_chosenLamps (lamps1 : List Int) (prices1 : List Int) (need1 : Int) : Option ((List Int) × Int × Bool) :=
 (shl? .i64 1 (IntKind.wrap .u64 ((lamps1.length : Int)))).bind fun q1 =>
 onL (loop (S := ((List Int) × Int × Bool × Int)) (B := ((List Int) × Int × Bool)) (R := Empty) (fun ((best1, least1, found1, x1) : (List Int) × Int × Bool × Int) =>
 if x1 < q1 then
 ((impl_indicesOf x1).bind fun r1 =>
 onL (loop (S := (Int × Int × Int)) (B := (Int × Int)) (R := Empty) (fun ((light1, price1, x2) : Int × Int × Int) =>
 if x2 < (r1.length : Int) then
 ((at? r1 x2).bind fun v1 =>
 (at? lamps1 v1).bind fun v2 =>
 (at? prices1 v1).bind fun v3 =>
 some (.next (w64 (light1 + v2), w64 (price1 + v3), w64 (x2 + 1))))
 else
 some (.brk (light1, price1))) loopLim (0, 0, 0))
 (fun ((light2, price2) : Int × Int) => if light2 < need1 then
 (some (.next (best1, least1, found1, w64 (x1 + 1))))
 else
 ((if price2 < least1 then
 (some true)
 else
 if price2 = least1 then
 (if (r1.length : Int) < (best1.length : Int) then
 (some true)
 else
 if (r1.length : Int) = (best1.length : Int) then
 ((slices_Compare_int64_int64_792 r1 best1).bind fun r2 =>
 some (decide (r2 < 0)))
 else
 some false)
 else
 some false) : Option Bool).bind fun (better1 : Bool) =>
 ((if found1 then
 (some better1)
 else
 some true) : Option Bool).bind fun (x3 : Bool) =>
 if x3 then
 (some (.next (r1, price2, true, w64 (x1 + 1))))
 else
 some (.next (best1, least1, found1, w64 (x1 + 1)))) Empty.elim)
 else
 some (.brk (best1, least1, found1))) loopLim ([], 0, false, 0))
 (fun ((best2, least2, found2) : (List Int) × Int × Bool) => some (best2, least2, found2)) Empty.elim
/-- loop.example/g01063/laws.a2Ones -/
def laws_a2Ones (s1 : List UInt8) : Option Int :=
 onL (loop (S := (Int × Int)) (B := Int) (R := Empty) (fun ((n1, i1) : Int × Int) =>
 if i1 < (s1.length : Int) then
 ((at? s1 i1).bind fun c1 =>
 if (c1.toNat : Int) = 49 then
 (some (.next (w64 (n1 + 1), w64 (i1 + 1))))
 else
 some (.next (n1, w64 (i1 + 1))))
 else
 some (.brk n1)) loopLim (0, 0))
 (fun (n2 : Int) => some n2) Empty.elim
/-- loop.example/g01063/spec.A2Burning -/
def spec_A2Burning (code1 : List Int) (ticks1 : Int) : Option (List UInt8) :=
 (spec_l00From code1).bind fun r1 =>
 onL (loop (S := (GL00Src × (List Int) × Int)) (B := (List Int)) (R := Empty) (fun ((s1, out1, k1) : GL00Src × (List Int) × Int) =>
 if k1 > 0 then
 ((spec_l00Src_pick s1 4).bind fun r2 =>
 (at? ([48, 49, 49, 48] : List UInt8) r2.1).bind fun c1 =>
 (app? out1 ([(c1.toNat : Int)] : List Int)).bind fun l1 =>
 some (.next (r2.2, l1, w64 (k1 - 1))))
 else
 some (.brk out1)) loopLim (r1, [], ticks1))
 (fun (out2 : List Int) => some (b2s out2)) Empty.elim
/-- loop.example/g01063/spec.l21Draw -/
def spec_l21Draw (s1 : GL00Src) : Option (GLamp × GL00Src) :=
 (spec_l00Src_pick s1 5).bind fun r1 =>
 (spec_l00Src_pick r1.2 4).bind fun r2 =>
 (spec_l00Src_pick r2.2 20).bind fun r3 =>
 some ((GLamp.mk (w64 (1 + r1.1)) (w64 (1 + r2.1)) (w64 (1 + r3.1))), r3.2)
/-- loop.example/g01063/spec.A2Lamp -/
def spec_A2Lamp (code1 : List Int) : Option GLamp :=
 (spec_l00From code1).bind fun r1 =>
 (spec_l21Draw r1).bind fun r2 =>
 some r2.1
/-- loop.example/g01063/laws.FnBurning -/
def laws_FnBurning (code1 : List Int) (more1 : List Int) : Option Bool :=
 (laws_a2Long code1 more1).bind fun r1 =>
 if r1 then
 (some true)
 else
 (spec_A2Lamp code1).bind fun r2 =>
 (laws_a2At more1 0 20).bind fun r3 =>
 (impl_MostBurning r2 r3).bind fun r4 =>
 (impl_BestBurning r2 r3).bind fun r5 =>
 (impl_FirstTooHot r2 r5.1).bind fun r6 =>
 ((if r4.2 = 0 then
 (if r5.2 = 0 then
 (if (r5.1.length : Int) = r3 then
 (if r6.2 = 3 then
 ((laws_a2Ones r5.1).bind fun r7 =>
 some (!(decide (r7 = r4.1))))
 else
 some true)
 else
 some true)
 else
 some true)
 else
 some true) : Option Bool).bind fun (x1 : Bool) =>
 if x1 then
 (some false)
 else
 (spec_A2Burning more1 r3).bind fun r8 =>
 (impl_HeatAfter r2 r8).bind fun r9 =>
 (impl_FirstTooHot r2 r8).bind fun r10 =>
 ((if r9.2 = 0 then
 (some (!(decide ((r9.1.length : Int) = r3))))
 else
 some true) : Option Bool).bind fun (x2 : Bool) =>
 if x2 then
 (some false)
 else
 onL (loop (S := (Int × Int × Int)) (B := Int) (R := Bool) (fun ((now1, first1, i1) : Int × Int × Int) =>
 if i1 < (r8.length : Int) then
 ((at? r8 i1).bind fun c1 =>
 ((if (c1.toNat : Int) = 49 then
 (some (w64 (now1 + r2.Heats)))
 else
 some (imax 0 (w64 (now1 - r2.Cools)))) : Option Int).bind fun (now2 : Int) =>
 (at? r9.1 i1).bind fun v1 =>
 if v1 = now2 then
 (((if now2 > r2.Limit then
 (some (decide (first1 < 0)))
 else
 some false) : Option Bool).bind fun (x3 : Bool) =>
 if x3 then
 (some (.next (now2, i1, w64 (i1 + 1))))
 else
 some (.next (now2, first1, w64 (i1 + 1))))
 else
 some (.ret false))
 else
 some (.brk first1)) loopLim (0, (-1), 0))
 (fun (first2 : Int) => if first2 ≥ 0 then
 (((if r10.2 = 0 then
 (some (decide (r10.1 = first2)))
 else
 some false) : Option Bool).bind fun (x4 : Bool) =>
 some x4)
 else
 if r10.2 = 3 then
 ((laws_a2Ones r8).bind fun r11 =>
 some (decide (r11 ≤ r4.1)))
 else
 some false) (fun r => some r)
/-- loop.example/g01063/laws.eqInt64S -/
def laws_eqInt64S (a1 : List Int) (b1 : List Int) : Option Bool :=
 if (a1.length : Int) = (b1.length : Int) then
 (onL (loop (S := Int) (B := Unit) (R := Bool) (fun (i1 : Int) =>
 if i1 < (a1.length : Int) then
 ((at? a1 i1).bind fun v1 =>
 (at? b1 i1).bind fun v2 =>
 if v1 = v2 then
 (some (.next (w64 (i1 + 1))))
 else
 some (.ret false))
 else
 some (.brk ())) loopLim 0)
 (fun (_ : Unit) => some true) (fun r => some r))
 else
 some false
/-- loop.example/g01063/laws.eqCause -/
def laws_eqCause (a1 : GCause) (b1 : GCause) : Option Bool :=
 if (a1.Name == b1.Name) then
 ((laws_eqInt64S a1.Signs b1.Signs).bind fun r1 =>
 if r1 then
 (some true)
 else
 some false)
 else
 some false
/-- loop.example/g01063/laws.eqCauseS -/
def laws_eqCauseS (a1 : List GCause) (b1 : List GCause) : Option Bool :=
 if (a1.length : Int) = (b1.length : Int) then
 (onL (loop (S := Int) (B := Unit) (R := Bool) (fun (i1 : Int) =>
 if i1 < (a1.length : Int) then
 ((at? a1 i1).bind fun v1 =>
 (at? b1 i1).bind fun v2 =>
 (laws_eqCause v1 v2).bind fun r1 =>
 if r1 then
 (some (.next (w64 (i1 + 1))))
 else
 some (.ret false))
 else
 some (.brk ())) loopLim 0)
 (fun (_ : Unit) => some true) (fun r => some r))
 else
 some false
/-- loop.example/g01063/laws.eqInt64SS -/
def laws_eqInt64SS (a1 : List (List Int)) (b1 : List (List Int)) : Option Bool :=
 if (a1.length : Int) = (b1.length : Int) then
 (onL (loop (S := Int) (B := Unit) (R := Bool) (fun (i1 : Int) =>
 if i1 < (a1.length : Int) then
 ((at? a1 i1).bind fun v1 =>
 (at? b1 i1).bind fun v2 =>
 (laws_eqInt64S v1 v2).bind fun r1 =>
 if r1 then
 (some (.next (w64 (i1 + 1))))
 else
 some (.ret false))
 else
 some (.brk ())) loopLim 0)
 (fun (_ : Unit) => some true) (fun r => some r))
 else
 some false
/-- loop.example/g01063/laws.heldInt64S -/
def laws_heldInt64S (a1 : List Int) (k1 : Int) : Option Int :=
 onL (loop (S := (Int × Int)) (B := Int) (R := Int) (fun ((k2, i1) : Int × Int) =>
 if i1 < (a1.length : Int) then
 ((at? a1 i1).bind fun v1 =>
 if v1 = k2 then
 (some (.next (w64 (k2 + 1), w64 (i1 + 1))))
 else
 some (.ret (-1)))
 else
 some (.brk k2)) loopLim (k1, 0))
 (fun (k3 : Int) => some k3) (fun r => some r)
/-- loop.example/g01063/laws.heldInt64SS -/
def laws_heldInt64SS (a1 : List (List Int)) (k1 : Int) : Option Int :=
 onL (loop (S := (Int × Int)) (B := Int) (R := Int) (fun ((k2, i1) : Int × Int) =>
 if i1 < (a1.length : Int) then
 ((at? a1 i1).bind fun v1 =>
 (laws_heldInt64S v1 k2).bind fun r1 =>
 if r1 < 0 then
 (some (.ret (-1)))
 else
 some (.next (r1, w64 (i1 + 1))))
 else
 some (.brk k2)) loopLim (k1, 0))
 (fun (k3 : Int) => some k3) (fun r => some r)
/-- loop.example/g01063/laws.markInt64S -/
def laws_markInt64S (a1 : List Int) (k1 : Int) : Option (Int × (List Int)) :=
 onL (loop (S := ((List Int) × Int × Int)) (B := ((List Int) × Int)) (R := Empty) (fun ((a2, k2, i1) : (List Int) × Int × Int) =>
 if i1 < (a2.length : Int) then
 ((at? a2 i1).bind fun v1 =>
 some (.next (a2.set i1.toNat k2, w64 (k2 + 1), w64 (i1 + 1))))
 else
 some (.brk (a2, k2))) loopLim (a1, k1, 0))
 (fun ((a3, k3) : (List Int) × Int) => some (k3, a3)) Empty.elim
/-- loop.example/g01063/laws.markText -/
def laws_markText (k1 : Int) : Option (List UInt8) :=
 if k1 ≤ 0 then
 (some [109, 48])
 else
 onL (loop (S := (Int × (List UInt8))) (B := (List UInt8)) (R := Empty) (fun ((k2, out1) : Int × (List UInt8)) =>
 if k2 > 0 then
 ((app? (b2s [IntKind.wrap .u8 (w64 (48 + (k2.tmod 10)))] : List UInt8) out1).bind fun s1 =>
 some (.next (w64 (k2.tdiv 10), s1)))
 else
 some (.brk out1)) loopLim (k1, []))
 (fun (out2 : List UInt8) => (app? ([109] : List UInt8) out2).bind fun s2 =>
 some s2) Empty.elim
/-- loop.example/g01063/laws.markCauseS -/
def laws_markCauseS (a1 : List GCause) (k1 : Int) : Option (Int × (List GCause)) :=
 onL (loop (S := ((List GCause) × Int × Int)) (B := ((List GCause) × Int)) (R := Empty) (fun ((a2, k2, i1) : (List GCause) × Int × Int) =>
 if i1 < (a2.length : Int) then
 ((laws_markText k2).bind fun r1 =>
 (at? a2 i1).bind fun v1 =>
 (at? (a2.set i1.toNat (GCause.mk r1 v1.Signs)) i1).bind fun v2 =>
 (laws_markInt64S v2.Signs (w64 (k2 + 1))).bind fun r2 =>
 some (.next ((a2.set i1.toNat (GCause.mk r1 v1.Signs)).set i1.toNat (GCause.mk v2.Name r2.2), r2.1, w64 (i1 + 1))))
 else
 some (.brk (a2, k2))) loopLim (a1, k1, 0))
 (fun ((a3, k3) : (List GCause) × Int) => some (k3, a3)) Empty.elim
/-- loop.example/g01063/laws.markInt64SS -/
def laws_markInt64SS (a1 : List (List Int)) (k1 : Int) : Option (Int × (List (List Int))) :=
 onL (loop (S := ((List (List Int)) × Int × Int)) (B := ((List (List Int)) × Int)) (R := Empty) (fun ((a2, k2, i1) : (List (List Int)) × Int × Int) =>
 if i1 < (a2.length : Int) then
 ((at? a2 i1).bind fun v1 =>
 (laws_markInt64S v1 k2).bind fun r1 =>
 some (.next (a2.set i1.toNat r1.2, r1.1, w64 (i1 + 1))))
 else
 some (.brk (a2, k2))) loopLim (a1, k1, 0))
 (fun ((a3, k3) : (List (List Int)) × Int) => some (k3, a3)) Empty.elim
/-- loop.example/g01063/laws.szInt64S -/
def laws_szInt64S (a1 : List Int) (left1 : Int) : Option Int :=
 if (w64 (left1 - (a1.length : Int))) < 0 then
 (some (-1))
 else
 some (w64 (left1 - (a1.length : Int)))
/-- loop.example/g01063/laws.szCause -/
def laws_szCause (a1 : GCause) (left1 : Int) : Option Int :=
 if (w64 (left1 - (a1.Name.length : Int))) < 0 then
 (some (-1))
 else
 (laws_szInt64S a1.Signs (w64 (left1 - (a1.Name.length : Int)))).bind fun r1 =>
 if r1 < 0 then
 (some (-1))
 else
 some r1
/-- loop.example/g01063/laws.szCauseS -/
def laws_szCauseS (a1 : List GCause) (left1 : Int) : Option Int :=
 if (w64 (left1 - (a1.length : Int))) < 0 then
 (some (-1))
 else
 onL (loop (S := (Int × Int)) (B := Int) (R := Int) (fun ((left2, i1) : Int × Int) =>
 if i1 < (a1.length : Int) then
 ((at? a1 i1).bind fun v1 =>
 (laws_szCause v1 left2).bind fun r1 =>
 if r1 < 0 then
 (some (.ret (-1)))
 else
 some (.next (r1, w64 (i1 + 1))))
 else
 some (.brk left2)) loopLim (w64 (left1 - (a1.length : Int)), 0))
 (fun (left3 : Int) => some left3) (fun r => some r)
/-- loop.example/g01063/laws.toInt64S -/
def laws_toInt64S (a1 : List Int) : Option (List Int) :=
 (mk? (a1.length : Int) (0 : Int)).bind fun l1 =>
 onL (loop (S := ((List Int) × Int)) (B := (List Int)) (R := Empty) (fun ((out1, i1) : (List Int) × Int) =>
 if i1 < (a1.length : Int) then
 ((at? a1 i1).bind fun v1 =>
 (at? out1 i1).bind fun v2 =>
 some (.next (out1.set i1.toNat v1, w64 (i1 + 1))))
 else
 some (.brk out1)) loopLim (l1, 0))
 (fun (out2 : List Int) => some out2) Empty.elim
/-- loop.example/g01063/laws.toCause -/
def laws_toCause (a1 : GCause) : Option GCause :=
 (laws_toInt64S a1.Signs).bind fun r1 =>
 some (GCause.mk a1.Name r1)
/-- loop.example/g01063/laws.toCauseS -/
def laws_toCauseS (a1 : List GCause) : Option (List GCause) :=
 (mk? (a1.length : Int) ((GCause.mk [] []) : GCause)).bind fun l1 =>
 onL (loop (S := ((List GCause) × Int)) (B := (List GCause)) (R := Empty) (fun ((out1, i1) : (List GCause) × Int) =>
 if i1 < (a1.length : Int) then
 ((at? a1 i1).bind fun v1 =>
 (laws_toCause v1).bind fun r1 =>
 (at? out1 i1).bind fun v2 =>
 some (.next (out1.set i1.toNat r1, w64 (i1 + 1))))
 else
 some (.brk out1)) loopLim (l1, 0))
 (fun (out2 : List GCause) => some out2) Empty.elim
/-- loop.example/g01063/spec.l22Bits -/
def spec_l22Bits (list1 : List Int) : Option Int :=
 onL (loop (S := (Int × Int)) (B := Int) (R := Empty) (fun ((out1, i1) : Int × Int) =>
 if i1 < (list1.length : Int) then
 ((at? list1 i1).bind fun v1 =>
 (shl? .i64 1 (IntKind.wrap .u64 (v1))).bind fun q1 =>
 some (.next (bit_or .i64 out1 q1, w64 (i1 + 1))))
 else
 some (.brk out1)) loopLim (0, 0))
 (fun (out2 : Int) => some out2) Empty.elim
/-- loop.example/g01063/spec.l01Digit -/
def spec_l01Digit (c1 : Int) : Option Bool :=
 if c1 ≥ 48 then
 (some (decide (c1 ≤ 57)))
 else
 some false
/-- loop.example/g01063/spec.l01Small -/
def spec_l01Small (c1 : Int) : Option Bool :=
 if c1 ≥ 97 then
 (some (decide (c1 ≤ 122)))
 else
 some false
/-- loop.example/g01063/spec.IsName -/
def spec_IsName (s1 : List UInt8) : Option Bool :=
 ((if (s1 == []) then
 (some true)
 else
 if (s1.length : Int) > 12 then
 (some true)
 else
 (at? s1 0).bind fun c1 =>
 (spec_l01Small (c1.toNat : Int)).bind fun r1 =>
 some (!r1)) : Option Bool).bind fun (x1 : Bool) =>
 if x1 then
 (some false)
 else
 onL (loop (S := Int) (B := Unit) (R := Bool) (fun (i1 : Int) =>
 if i1 < (s1.length : Int) then
 ((((at? s1 i1).bind fun c2 =>
 (spec_l01Small (c2.toNat : Int)).bind fun r2 =>
 if r2 then
 (some false)
 else
 (at? s1 i1).bind fun c3 =>
 (spec_l01Digit (c3.toNat : Int)).bind fun r3 =>
 if r3 then
 (some false)
 else
 (at? s1 i1).bind fun c4 =>
 some (!(decide ((c4.toNat : Int) = 45)))) : Option Bool).bind fun (x2 : Bool) =>
 if x2 then
 (some (.ret false))
 else
 some (.next (w64 (i1 + 1))))
 else
 some (.brk ())) loopLim 0)
 (fun (_ : Unit) => some true) (fun r => some r)
/-- loop.example/g01063/spec.l00In -/
def spec_l00In (n1 : Int) (low1 : Int) (high1 : Int) : Option Bool :=
 if n1 ≥ low1 then
 (some (decide (n1 ≤ high1)))
 else
 some false
/-- loop.example/g01063/spec.l00Rises -/
def spec_l00Rises (list1 : List Int) (low1 : Int) (high1 : Int) : Option Bool :=
 onL (loop (S := Int) (B := Unit) (R := Bool) (fun (i1 : Int) =>
 if i1 < (list1.length : Int) then
 ((((at? list1 i1).bind fun v1 =>
 (spec_l00In v1 low1 high1).bind fun r1 =>
 if r1 then
 (if i1 > 0 then
 ((at? list1 (w64 (i1 - 1))).bind fun v2 =>
 (at? list1 i1).bind fun v3 =>
 some (decide (v2 ≥ v3)))
 else
 some false)
 else
 some true) : Option Bool).bind fun (x1 : Bool) =>
 if x1 then
 (some (.ret false))
 else
 some (.next (w64 (i1 + 1))))
 else
 some (.brk ())) loopLim 0)
 (fun (_ : Unit) => some true) (fun r => some r)
/-- loop.example/g01063/spec.l22Ok -/
def spec_l22Ok (signs1 : Int) (list1 : List GCause) : Option Bool :=
 (((spec_l00In signs1 1 16).bind fun r1 =>
 if r1 then
 (some (decide ((list1.length : Int) > 10)))
 else
 some true) : Option Bool).bind fun (x1 : Bool) =>
 if x1 then
 (some false)
 else
 onL (loop (S := Int) (B := Unit) (R := Bool) (fun (i1 : Int) =>
 if i1 < (list1.length : Int) then
 ((((at? list1 i1).bind fun v1 =>
 (spec_IsName v1.Name).bind fun r2 =>
 if r2 then
 ((at? list1 i1).bind fun v2 =>
 if (v2.Signs.length : Int) = 0 then
 (some true)
 else
 (at? list1 i1).bind fun v3 =>
 (spec_l00Rises v3.Signs 0 (w64 (signs1 - 1))).bind fun r3 =>
 some (!r3))
 else
 some true) : Option Bool).bind fun (x2 : Bool) =>
 if x2 then
 (some (.ret false))
 else
 onL (loop (S := Int) (B := Unit) (R := Bool) (fun (k1 : Int) =>
 if k1 < i1 then
 ((at? list1 k1).bind fun v4 =>
 (at? list1 i1).bind fun v5 =>
 if (v4.Name == v5.Name) then
 (some (.ret false))
 else
 some (.next (w64 (k1 + 1))))
 else
 some (.brk ())) loopLim 0)
 (fun (_ : Unit) => some (.next (w64 (i1 + 1)))) (fun r => some (.ret r)))
 else
 some (.brk ())) loopLim 0)
 (fun (_ : Unit) => some true) (fun r => some r)
/-- loop.example/g01063/spec.AlikeCauses -/
def spec_AlikeCauses (signs1 : Int) (list1 : List GCause) : Option ((List (List Int)) × Int) :=
 (spec_l22Ok signs1 list1).bind fun r1 =>
 if r1 then
 (onL (loop (S := ((List (List Int)) × Int)) (B := (List (List Int))) (R := Empty) (fun ((out1, i1) : (List (List Int)) × Int) =>
 if i1 < (list1.length : Int) then
 (onL (loop (S := ((List (List Int)) × Int)) (B := (List (List Int))) (R := Empty) (fun ((out2, k1) : (List (List Int)) × Int) =>
 if k1 < (list1.length : Int) then
 ((at? list1 i1).bind fun v1 =>
 (spec_l22Bits v1.Signs).bind fun r2 =>
 (at? list1 k1).bind fun v2 =>
 (spec_l22Bits v2.Signs).bind fun r3 =>
 if r2 = r3 then
 ((app? out2 ([[i1, k1]] : List (List Int))).bind fun l1 =>
 some (.next (l1, w64 (k1 + 1))))
 else
 some (.next (out2, w64 (k1 + 1))))
 else
 some (.brk out2)) loopLim (out1, w64 (i1 + 1)))
 (fun (out3 : List (List Int)) => some (.next (out3, w64 (i1 + 1)))) Empty.elim)
 else
 some (.brk out1)) loopLim ([], 0))
 (fun (out4 : List (List Int)) => some (out4, 0)) Empty.elim)
 else
 some ([], 1)
/-- loop.example/g01063/laws.FnExactAlikeCauses -/
def laws_FnExactAlikeCauses (aSigns1 : Int) (aList1 : List GCause) : Option Bool :=
 (laws_szCauseS aList1 1048576).bind fun r1 =>
 if r1 < 0 then
 (some true)
 else
 (laws_toCauseS aList1).bind fun r2 =>
 (spec_AlikeCauses aSigns1 r2).bind fun r3 =>
 (laws_toCauseS aList1).bind fun r4 =>
 (impl_AlikeCauses aSigns1 r4).bind fun r5 =>
 (((laws_eqInt64SS r5.1 r3.1).bind fun r6 =>
 if r6 then
 (some (!(decide (r5.2 = r3.2))))
 else
 some true) : Option Bool).bind fun (x1 : Bool) =>
 if x1 then
 (some false)
 else
 (laws_toCauseS aList1).bind fun r7 =>
 (laws_eqCauseS r4 r7).bind fun r8 =>
 if r8 then
 ((laws_markCauseS r4 1).bind fun r9 =>
 ((if r9.1 < 0 then
 (some true)
 else
 (laws_eqInt64SS r5.1 r3.1).bind fun r10 =>
 if r10 then
 (some (!(decide (r5.2 = r3.2))))
 else
 some true) : Option Bool).bind fun (x2 : Bool) =>
 if x2 then
 (some false)
 else
 (laws_markInt64SS r5.1 1).bind fun r11 =>
 (laws_heldInt64SS r11.2 1).bind fun r12 =>
 if r12 < 0 then
 (some false)
 else
 if r12 = r11.1 then
 ((laws_toCauseS aList1).bind fun r13 =>
 (impl_AlikeCauses aSigns1 r13).bind fun r14 =>
 (((laws_eqInt64SS r14.1 r3.1).bind fun r15 =>
 if r15 then
 (some (!(decide (r14.2 = r3.2))))
 else
 some true) : Option Bool).bind fun (x3 : Bool) =>
 if x3 then
 (some false)
 else
 (laws_heldInt64SS r11.2 1).bind fun r16 =>
 if r16 < 0 then
 (some false)
 else
 if r16 = r11.1 then
 (some true)
 else
 some false)
 else
 some false)
 else
 some false
/-- loop.example/g01063/spec.l22Signs -/
def spec_l22Signs (list1 : List GCause) (some_1 : Int) : Option Int :=
 onL (loop (S := (Int × Int)) (B := Int) (R := Empty) (fun ((out1, i1) : Int × Int) =>
 if i1 < (list1.length : Int) then
 ((shr? .i64 some_1 (IntKind.wrap .u64 (i1))).bind fun q1 =>
 if (bit_and .i64 q1 1) = 1 then
 ((at? list1 i1).bind fun v1 =>
 (spec_l22Bits v1.Signs).bind fun r1 =>
 some (.next (bit_or .i64 out1 r1, w64 (i1 + 1))))
 else
 some (.next (out1, w64 (i1 + 1))))
 else
 some (.brk out1)) loopLim (0, 0))
 (fun (out2 : Int) => some out2) Empty.elim
/-- loop.example/g01063/spec.l22All -/
def spec_l22All (list1 : List GCause) (seen1 : List Int) : Option (List Int) :=
 (spec_l22Bits seen1).bind fun r1 =>
 onL (loop (S := ((List Int) × Int)) (B := (List Int)) (R := Empty) (fun ((out1, some_1) : (List Int) × Int) =>
 (shl? .i64 1 (IntKind.wrap .u64 ((list1.length : Int)))).bind fun q1 =>
 if some_1 < q1 then
 ((spec_l22Signs list1 some_1).bind fun r2 =>
 if r2 = r1 then
 ((app? out1 ([some_1] : List Int)).bind fun l1 =>
 some (.next (l1, w64 (some_1 + 1))))
 else
 some (.next (out1, w64 (some_1 + 1))))
 else
 some (.brk out1)) loopLim ([], 0))
 (fun (out2 : List Int) => some out2) Empty.elim
/-- loop.example/g01063/spec.l22Code -/
def spec_l22Code (signs1 : Int) (list1 : List GCause) (seen1 : List Int) : Option Int :=
 (spec_l22Ok signs1 list1).bind fun r1 =>
 if r1 then
 ((spec_l00Rises seen1 0 (w64 (signs1 - 1))).bind fun r2 =>
 if r2 then
 (some 0)
 else
 some 2)
 else
 some 1
/-- loop.example/g01063/spec.l22Some -/
def spec_l22Some (signs1 : Int) (list1 : List GCause) (seen1 : List Int) : Option ((List Int) × Int) :=
 (spec_l22Code signs1 list1 seen1).bind fun r1 =>
 if r1 = 0 then
 ((spec_l22All list1 seen1).bind fun r2 =>
 if (r2.length : Int) = 0 then
 (some ([], 3))
 else
 some (r2, 0))
 else
 some ([], r1)
/-- loop.example/g01063/spec.BestQuestion -/
def spec_BestQuestion (signs1 : Int) (list1 : List GCause) (seen1 : List Int) : Option (Int × Int) :=
 (spec_l22Some signs1 list1 seen1).bind fun r1 =>
 if r1.2 = 0 then
 (onL (loop (S := (Int × Int × Int)) (B := Int) (R := Empty) (fun ((best1, least1, k1) : Int × Int × Int) =>
 if k1 < (list1.length : Int) then
 (onL (loop (S := (Int × Int)) (B := Int) (R := Empty) (fun ((n1, i1) : Int × Int) =>
 if i1 < (r1.1.length : Int) then
 ((at? r1.1 i1).bind fun v1 =>
 (shr? .i64 v1 (IntKind.wrap .u64 (k1))).bind fun q1 =>
 some (.next (w64 (n1 + (bit_and .i64 q1 1)), w64 (i1 + 1))))
 else
 some (.brk n1)) loopLim (0, 0))
 (fun (n2 : Int) => (spec_l00Max n2 (w64 ((r1.1.length : Int) - n2))).bind fun r2 =>
 if r2 < least1 then
 (some (.next (k1, r2, w64 (k1 + 1))))
 else
 some (.next (best1, least1, w64 (k1 + 1)))) Empty.elim)
 else
 some (.brk best1)) loopLim ((-1), (r1.1.length : Int), 0))
 (fun (best2 : Int) => if best2 < 0 then
 (some (0, 6))
 else
 some (best2, 0)) Empty.elim)
 else
 some (0, r1.2)
/-- loop.example/g01063/laws.FnExactBestQuestion -/
def laws_FnExactBestQuestion (aSigns1 : Int) (aList1 : List GCause) (aSeen1 : List Int) : Option Bool :=
 if (aSeen1.length : Int) > 1048576 then
 (some true)
 else
 (laws_szCauseS aList1 1048576).bind fun r1 =>
 if r1 < 0 then
 (some true)
 else
 (laws_toCauseS aList1).bind fun r2 =>
 (laws_toInt64S aSeen1).bind fun r3 =>
 (spec_BestQuestion aSigns1 r2 r3).bind fun r4 =>
 (laws_toCauseS aList1).bind fun r5 =>
 (laws_toInt64S aSeen1).bind fun r6 =>
 (impl_BestQuestion aSigns1 r5 r6).bind fun r7 =>
 ((if r7.1 = r4.1 then
 (some (!(decide (r7.2 = r4.2))))
 else
 some true) : Option Bool).bind fun (x1 : Bool) =>
 if x1 then
 (some false)
 else
 (laws_toCauseS aList1).bind fun r8 =>
 (laws_eqCauseS r5 r8).bind fun r9 =>
 if r9 then
 ((laws_toInt64S aSeen1).bind fun r10 =>
 (laws_eqInt64S r6 r10).bind fun r11 =>
 if r11 then
 (some true)
 else
 some false)
 else
 some false
/-- loop.example/g01063/spec.l21Burning -/
def spec_l21Burning (s1 : List UInt8) : Option Bool :=
 onL (loop (S := Int) (B := Unit) (R := Bool) (fun (i1 : Int) =>
 if i1 < (s1.length : Int) then
 ((((at? s1 i1).bind fun c1 =>
 if (c1.toNat : Int) = 48 then
 (some false)
 else
 (at? s1 i1).bind fun c2 =>
 some (!(decide ((c2.toNat : Int) = 49)))) : Option Bool).bind fun (x1 : Bool) =>
 if x1 then
 (some (.ret false))
 else
 some (.next (w64 (i1 + 1))))
 else
 some (.brk ())) loopLim 0)
 (fun (_ : Unit) => some (decide ((s1.length : Int) ≤ 60))) (fun r => some r)
/-- loop.example/g01063/spec.l21Burns -/
def spec_l21Burns (s1 : List UInt8) : Option (List (List Int)) :=
 onL (loop (S := ((List (List Int)) × Int)) (B := (List (List Int))) (R := Empty) (fun ((out1, i1) : (List (List Int)) × Int) =>
 if i1 < (s1.length : Int) then
 ((at? s1 i1).bind fun c1 =>
 if (c1.toNat : Int) = 49 then
 (((if i1 = 0 then
 (some true)
 else
 (at? s1 (w64 (i1 - 1))).bind fun c2 =>
 some (!(decide ((c2.toNat : Int) = 49)))) : Option Bool).bind fun (x1 : Bool) =>
 ((if x1 then
 ((app? out1 ([[i1, 0]] : List (List Int))).bind fun l1 =>
 some l1)
 else
 some out1) : Option (List (List Int))).bind fun (out2 : List (List Int)) =>
 (at? out2 (w64 ((out2.length : Int) - 1))).bind fun v1 =>
 (at? v1 1).bind fun v2 =>
 (at? v1 1).bind fun v3 =>
 some (.next (out2.set ((w64 ((out2.length : Int) - 1)).toNat) (v1.set ((1 : Int).toNat) (w64 (v2 + 1))), w64 (i1 + 1))))
 else
 some (.next (out1, w64 (i1 + 1))))
 else
 some (.brk out1)) loopLim ([], 0))
 (fun (out3 : List (List Int)) => some out3) Empty.elim
/-- loop.example/g01063/spec.BurnsOf -/
def spec_BurnsOf (s1 : List UInt8) : Option ((List (List Int)) × Int) :=
 (spec_l21Burning s1).bind fun r1 =>
 if r1 then
 ((spec_l21Burns s1).bind fun r2 =>
 some (r2, 0))
 else
 some ([], 1)
/-- loop.example/g01063/laws.FnExactBurnsOf -/
def laws_FnExactBurnsOf (aS1 : List UInt8) : Option Bool :=
 if (aS1.length : Int) > 1048576 then
 (some true)
 else
 (spec_BurnsOf aS1).bind fun r1 =>
 (impl_BurnsOf aS1).bind fun r2 =>
 (((laws_eqInt64SS r2.1 r1.1).bind fun r3 =>
 if r3 then
 (some (!(decide (r2.2 = r1.2))))
 else
 some true) : Option Bool).bind fun (x1 : Bool) =>
 if x1 then
 (some false)
 else
 (laws_markInt64SS r2.1 1).bind fun r4 =>
 (laws_heldInt64SS r4.2 1).bind fun r5 =>
 if r5 < 0 then
 (some false)
 else
 if r5 = r4.1 then
 ((impl_BurnsOf aS1).bind fun r6 =>
 (((laws_eqInt64SS r6.1 r1.1).bind fun r7 =>
 if r7 then
 (some (!(decide (r6.2 = r1.2))))
 else
 some true) : Option Bool).bind fun (x2 : Bool) =>
 if x2 then
 (some false)
 else
 (laws_heldInt64SS r4.2 1).bind fun r8 =>
 if r8 < 0 then
 (some false)
 else
 if r8 = r4.1 then
 (some true)
 else
 some false)
 else
 some false
/-- loop.example/g01063/spec.CountExplanations -/
def spec_CountExplanations (signs1 : Int) (list1 : List GCause) (seen1 : List Int) : Option (Int × Int) :=
 (spec_l22Code signs1 list1 seen1).bind fun r1 =>
 if r1 = 0 then
 ((spec_l22All list1 seen1).bind fun r2 =>
 some ((r2.length : Int), 0))
 else
 some (0, r1)
/-- loop.example/g01063/laws.FnExactCountExplanations -/
def laws_FnExactCountExplanations (aSigns1 : Int) (aList1 : List GCause) (aSeen1 : List Int) : Option Bool :=
 if (aSeen1.length : Int) > 1048576 then
 (some true)
 else
 (laws_szCauseS aList1 1048576).bind fun r1 =>
 if r1 < 0 then
 (some true)
 else
 (laws_toCauseS aList1).bind fun r2 =>
 (laws_toInt64S aSeen1).bind fun r3 =>
 (spec_CountExplanations aSigns1 r2 r3).bind fun r4 =>
 (laws_toCauseS aList1).bind fun r5 =>
 (laws_toInt64S aSeen1).bind fun r6 =>
 (impl_CountExplanations aSigns1 r5 r6).bind fun r7 =>
 ((if r7.1 = r4.1 then
 (some (!(decide (r7.2 = r4.2))))
 else
 some true) : Option Bool).bind fun (x1 : Bool) =>
 if x1 then
 (some false)
 else
 (laws_toCauseS aList1).bind fun r8 =>
 (laws_eqCauseS r5 r8).bind fun r9 =>
 if r9 then
 ((laws_toInt64S aSeen1).bind fun r10 =>
 (laws_eqInt64S r6 r10).bind fun r11 =>
 if r11 then
 (some true)
 else
 some false)
 else
 some false
/-- loop.example/g01063/spec.ExplainsSigns -/
def spec_ExplainsSigns (signs1 : Int) (list1 : List GCause) (some_1 : List Int) (seen1 : List Int) : Option (Bool × Int) :=
 (spec_l22Ok signs1 list1).bind fun r1 =>
 if r1 then
 ((((spec_l00Rises some_1 0 (w64 ((list1.length : Int) - 1))).bind fun r2 =>
 if r2 then
 ((spec_l00Rises seen1 0 (w64 (signs1 - 1))).bind fun r3 =>
 some (!r3))
 else
 some true) : Option Bool).bind fun (x1 : Bool) =>
 if x1 then
 (some (false, 2))
 else
 (spec_l22Bits some_1).bind fun r4 =>
 (spec_l22Signs list1 r4).bind fun r5 =>
 (spec_l22Bits seen1).bind fun r6 =>
 some ((decide (r5 = r6)), 0))
 else
 some (false, 1)
/-- loop.example/g01063/laws.FnExactExplainsSigns -/
def laws_FnExactExplainsSigns (aSigns1 : Int) (aList1 : List GCause) (aSome1 : List Int) (aSeen1 : List Int) : Option Bool :=
 if (aSome1.length : Int) > 1048576 then
 (some true)
 else
 if (aSeen1.length : Int) > 1048576 then
 (some true)
 else
 (laws_szCauseS aList1 1048576).bind fun r1 =>
 if r1 < 0 then
 (some true)
 else
 (laws_toCauseS aList1).bind fun r2 =>
 (laws_toInt64S aSome1).bind fun r3 =>
 (laws_toInt64S aSeen1).bind fun r4 =>
 (spec_ExplainsSigns aSigns1 r2 r3 r4).bind fun r5 =>
 (laws_toCauseS aList1).bind fun r6 =>
 (laws_toInt64S aSome1).bind fun r7 =>
 (laws_toInt64S aSeen1).bind fun r8 =>
 (impl_ExplainsSigns aSigns1 r6 r7 r8).bind fun r9 =>
 ((if (r9.1 == r5.1) then
 (some (!(decide (r9.2 = r5.2))))
 else
 some true) : Option Bool).bind fun (x1 : Bool) =>
 if x1 then
 (some false)
 else
 (laws_toCauseS aList1).bind fun r10 =>
 (laws_eqCauseS r6 r10).bind fun r11 =>
 if r11 then
 ((laws_toInt64S aSome1).bind fun r12 =>
 (laws_eqInt64S r7 r12).bind fun r13 =>
 if r13 then
 ((laws_toInt64S aSeen1).bind fun r14 =>
 (laws_eqInt64S r8 r14).bind fun r15 =>
 if r15 then
 (some true)
 else
 some false)
 else
 some false)
 else
 some false
/-- loop.example/g01063/laws.toLamp -/
def laws_toLamp (a1 : GLamp) : Option GLamp :=
 some a1
/-- loop.example/g01063/spec.l21Ok -/
def spec_l21Ok (x1 : GLamp) : Option Bool :=
 (spec_l00In x1.Heats 1 20).bind fun r1 =>
 if r1 then
 ((spec_l00In x1.Cools 1 20).bind fun r2 =>
 if r2 then
 ((spec_l00In x1.Limit 1 100).bind fun r3 =>
 some r3)
 else
 some false)
 else
 some false
/-- loop.example/g01063/spec.l21Code -/
def spec_l21Code (x1 : GLamp) (s1 : List UInt8) : Option Int :=
 (((spec_l21Ok x1).bind fun r1 =>
 if r1 then
 ((spec_l21Burning s1).bind fun r2 =>
 some (!r2))
 else
 some true) : Option Bool).bind fun (x2 : Bool) =>
 if x2 then
 (some 1)
 else
 some 0
/-- loop.example/g01063/spec.l21Next -/
def spec_l21Next (x1 : GLamp) (heat1 : Int) (burns1 : Bool) : Option Int :=
 if burns1 then
 (some (w64 (heat1 + x1.Heats)))
 else
 (spec_l00Max 0 (w64 (heat1 - x1.Cools))).bind fun r1 =>
 some r1
/-- loop.example/g01063/spec.l21Heat -/
def spec_l21Heat (x1 : GLamp) (s1 : List UInt8) : Option (List Int) :=
 onL (loop (S := ((List Int) × Int × Int)) (B := (List Int)) (R := Empty) (fun ((out1, heat1, i1) : (List Int) × Int × Int) =>
 if i1 < (s1.length : Int) then
 ((at? s1 i1).bind fun c1 =>
 (spec_l21Next x1 heat1 (decide ((c1.toNat : Int) = 49))).bind fun r1 =>
 (app? out1 ([r1] : List Int)).bind fun l1 =>
 some (.next (l1, r1, w64 (i1 + 1))))
 else
 some (.brk out1)) loopLim ([], 0, 0))
 (fun (out2 : List Int) => some out2) Empty.elim
/-- loop.example/g01063/spec.FirstTooHot -/
def spec_FirstTooHot (x1 : GLamp) (s1 : List UInt8) : Option (Int × Int) :=
 (spec_l21Code x1 s1).bind fun r1 =>
 if r1 = 0 then
 ((spec_l21Heat x1 s1).bind fun r2 =>
 onL (loop (S := Int) (B := Unit) (R := (Int × Int)) (fun (i1 : Int) =>
 if i1 < (r2.length : Int) then
 ((at? r2 i1).bind fun v1 =>
 if v1 > x1.Limit then
 (some (.ret (i1, 0)))
 else
 some (.next (w64 (i1 + 1))))
 else
 some (.brk ())) loopLim 0)
 (fun (_ : Unit) => some (0, 3)) (fun r => some r))
 else
 some (0, r1)
/-- loop.example/g01063/laws.FnExactFirstTooHot -/
def laws_FnExactFirstTooHot (aX1 : GLamp) (aS1 : List UInt8) : Option Bool :=
 if (aS1.length : Int) > 1048576 then
 (some true)
 else
 (laws_toLamp aX1).bind fun r1 =>
 (spec_FirstTooHot r1 aS1).bind fun r2 =>
 (laws_toLamp aX1).bind fun r3 =>
 (impl_FirstTooHot r3 aS1).bind fun r4 =>
 ((if r4.1 = r2.1 then
 (some (!(decide (r4.2 = r2.2))))
 else
 some true) : Option Bool).bind fun (x1 : Bool) =>
 if x1 then
 (some false)
 else
 some true
/-- loop.example/g01063/laws.eqTitle -/
def laws_eqTitle (a1 : GTitle) (b1 : GTitle) : Option Bool :=
 if a1.No = b1.No then
 (if (a1.Name == b1.Name) then
 (if a1.Glass = b1.Glass then
 (if a1.Broken = b1.Broken then
 (some true)
 else
 some false)
 else
 some false)
 else
 some false)
 else
 some false
/-- loop.example/g01063/laws.eqTitleS -/
def laws_eqTitleS (a1 : List GTitle) (b1 : List GTitle) : Option Bool :=
 if (a1.length : Int) = (b1.length : Int) then
 (onL (loop (S := Int) (B := Unit) (R := Bool) (fun (i1 : Int) =>
 if i1 < (a1.length : Int) then
 ((at? a1 i1).bind fun v1 =>
 (at? b1 i1).bind fun v2 =>
 (laws_eqTitle v1 v2).bind fun r1 =>
 if r1 then
 (some (.next (w64 (i1 + 1))))
 else
 some (.ret false))
 else
 some (.brk ())) loopLim 0)
 (fun (_ : Unit) => some true) (fun r => some r))
 else
 some false
/-- loop.example/g01063/laws.szTitle -/
def laws_szTitle (a1 : GTitle) (left1 : Int) : Option Int :=
 if (w64 (left1 - (a1.Name.length : Int))) < 0 then
 (some (-1))
 else
 some (w64 (left1 - (a1.Name.length : Int)))
/-- loop.example/g01063/laws.szTitleS -/
def laws_szTitleS (a1 : List GTitle) (left1 : Int) : Option Int :=
 if (w64 (left1 - (a1.length : Int))) < 0 then
 (some (-1))
 else
 onL (loop (S := (Int × Int)) (B := Int) (R := Int) (fun ((left2, i1) : Int × Int) =>
 if i1 < (a1.length : Int) then
 ((at? a1 i1).bind fun v1 =>
 (laws_szTitle v1 left2).bind fun r1 =>
 if r1 < 0 then
 (some (.ret (-1)))
 else
 some (.next (r1, w64 (i1 + 1))))
 else
 some (.brk left2)) loopLim (w64 (left1 - (a1.length : Int)), 0))
 (fun (left3 : Int) => some left3) (fun r => some r)
/-- loop.example/g01063/laws.toTitle -/
def laws_toTitle (a1 : GTitle) : Option GTitle :=
 some a1
/-- loop.example/g01063/laws.toTitleS -/
def laws_toTitleS (a1 : List GTitle) : Option (List GTitle) :=
 (mk? (a1.length : Int) ((GTitle.mk 0 [] 0 0) : GTitle)).bind fun l1 =>
 onL (loop (S := ((List GTitle) × Int)) (B := (List GTitle)) (R := Empty) (fun ((out1, i1) : (List GTitle) × Int) =>
 if i1 < (a1.length : Int) then
 ((at? a1 i1).bind fun v1 =>
 (laws_toTitle v1).bind fun r1 =>
 (at? out1 i1).bind fun v2 =>
 some (.next (out1.set i1.toNat r1, w64 (i1 + 1))))
 else
 some (.brk out1)) loopLim (l1, 0))
 (fun (out2 : List GTitle) => some out2) Empty.elim
/-- loop.example/g01063/spec.l23One -/
def spec_l23One (x1 : GTitle) : Option Bool :=
 (spec_l00In x1.No 1 9999).bind fun r1 =>
 if r1 then
 ((spec_IsName x1.Name).bind fun r2 =>
 if r2 then
 ((spec_l00In x1.Glass 1 30).bind fun r3 =>
 if r3 then
 ((spec_l00In x1.Broken 0 x1.Glass).bind fun r4 =>
 some r4)
 else
 some false)
 else
 some false)
 else
 some false
/-- loop.example/g01063/spec.l23Ok -/
def spec_l23Ok (list1 : List GTitle) : Option Bool :=
 onL (loop (S := Int) (B := Unit) (R := Bool) (fun (i1 : Int) =>
 if i1 < (list1.length : Int) then
 ((((at? list1 i1).bind fun v1 =>
 (spec_l23One v1).bind fun r1 =>
 if r1 then
 (if i1 > 0 then
 ((at? list1 (w64 (i1 - 1))).bind fun v2 =>
 (at? list1 i1).bind fun v3 =>
 some (decide (v2.No ≥ v3.No)))
 else
 some false)
 else
 some true) : Option Bool).bind fun (x1 : Bool) =>
 if x1 then
 (some (.ret false))
 else
 some (.next (w64 (i1 + 1))))
 else
 some (.brk ())) loopLim 0)
 (fun (_ : Unit) => some (decide ((list1.length : Int) ≤ 20))) (fun r => some r)
/-- loop.example/g01063/spec.FreeNumber -/
def spec_FreeNumber (list1 : List GTitle) : Option (Int × Int) :=
 (spec_l23Ok list1).bind fun r1 =>
 if r1 then
 (onL (loop (S := (Int × Int)) (B := Int) (R := Empty) (fun ((no1, i1) : Int × Int) =>
 if i1 < (list1.length : Int) then
 ((at? list1 i1).bind fun v1 =>
 if v1.No = no1 then
 (some (.next (w64 (no1 + 1), w64 (i1 + 1))))
 else
 some (.next (no1, w64 (i1 + 1))))
 else
 some (.brk no1)) loopLim (1, 0))
 (fun (no2 : Int) => some (no2, 0)) Empty.elim)
 else
 some (0, 1)
/-- loop.example/g01063/laws.FnExactFreeNumber -/
def laws_FnExactFreeNumber (aList1 : List GTitle) : Option Bool :=
 (laws_szTitleS aList1 1048576).bind fun r1 =>
 if r1 < 0 then
 (some true)
 else
 (laws_toTitleS aList1).bind fun r2 =>
 (spec_FreeNumber r2).bind fun r3 =>
 (laws_toTitleS aList1).bind fun r4 =>
 (impl_FreeNumber r4).bind fun r5 =>
 ((if r5.1 = r3.1 then
 (some (!(decide (r5.2 = r3.2))))
 else
 some true) : Option Bool).bind fun (x1 : Bool) =>
 if x1 then
 (some false)
 else
 (laws_toTitleS aList1).bind fun r6 =>
 (laws_eqTitleS r4 r6).bind fun r7 =>
 if r7 then
 (some true)
 else
 some false
/-- loop.example/g01063/spec.FuelFor -/
def spec_FuelFor (s1 : List UInt8) (each1 : Int) (start1 : Int) : Option (Int × Int) :=
 (spec_l21Burning s1).bind fun r1 =>
 if r1 then
 ((((spec_l00In each1 0 1000).bind fun r2 =>
 if r2 then
 ((spec_l00In start1 0 1000).bind fun r3 =>
 some (!r3))
 else
 some true) : Option Bool).bind fun (x1 : Bool) =>
 if x1 then
 (some (0, 2))
 else
 (spec_l21Burns s1).bind fun r4 =>
 onL (loop (S := (Int × Int)) (B := Int) (R := Empty) (fun ((sum1, i1) : Int × Int) =>
 if i1 < (r4.length : Int) then
 ((at? r4 i1).bind fun v1 =>
 (at? v1 1).bind fun v2 =>
 some (.next (w64 (sum1 + (w64 (each1 * v2))), w64 (i1 + 1))))
 else
 some (.brk sum1)) loopLim (w64 (start1 * (r4.length : Int)), 0))
 (fun (sum2 : Int) => some (sum2, 0)) Empty.elim)
 else
 some (0, 1)
/-- loop.example/g01063/laws.FnExactFuelFor -/
def laws_FnExactFuelFor (aS1 : List UInt8) (aEach1 : Int) (aStart1 : Int) : Option Bool :=
 if (aS1.length : Int) > 1048576 then
 (some true)
 else
 (spec_FuelFor aS1 aEach1 aStart1).bind fun r1 =>
 (impl_FuelFor aS1 aEach1 aStart1).bind fun r2 =>
 ((if r2.1 = r1.1 then
 (some (!(decide (r2.2 = r1.2))))
 else
 some true) : Option Bool).bind fun (x1 : Bool) =>
 if x1 then
 (some false)
 else
 some true
/-- loop.example/g01063/spec.HeatAfter -/
def spec_HeatAfter (x1 : GLamp) (s1 : List UInt8) : Option ((List Int) × Int) :=
 (spec_l21Code x1 s1).bind fun r1 =>
 if r1 = 0 then
 ((spec_l21Heat x1 s1).bind fun r2 =>
 some (r2, 0))
 else
 some ([], r1)
/-- loop.example/g01063/laws.FnExactHeatAfter -/
def laws_FnExactHeatAfter (aX1 : GLamp) (aS1 : List UInt8) : Option Bool :=
 if (aS1.length : Int) > 1048576 then
 (some true)
 else
 (laws_toLamp aX1).bind fun r1 =>
 (spec_HeatAfter r1 aS1).bind fun r2 =>
 (laws_toLamp aX1).bind fun r3 =>
 (impl_HeatAfter r3 aS1).bind fun r4 =>
 (((laws_eqInt64S r4.1 r2.1).bind fun r5 =>
 if r5 then
 (some (!(decide (r4.2 = r2.2))))
 else
 some true) : Option Bool).bind fun (x1 : Bool) =>
 if x1 then
 (some false)
 else
 (laws_markInt64S r4.1 1).bind fun r6 =>
 (laws_heldInt64S r6.2 1).bind fun r7 =>
 if r7 < 0 then
 (some false)
 else
 if r7 = r6.1 then
 ((laws_toLamp aX1).bind fun r8 =>
 (impl_HeatAfter r8 aS1).bind fun r9 =>
 (((laws_eqInt64S r9.1 r2.1).bind fun r10 =>
 if r10 then
 (some (!(decide (r9.2 = r2.2))))
 else
 some true) : Option Bool).bind fun (x2 : Bool) =>
 if x2 then
 (some false)
 else
 (laws_heldInt64S r6.2 1).bind fun r11 =>
 if r11 < 0 then
 (some false)
 else
 if r11 = r6.1 then
 (some true)
 else
 some false)
 else
 some false
/-- loop.example/g01063/spec.PossibleCauses -/
def spec_PossibleCauses (signs1 : Int) (list1 : List GCause) (seen1 : List Int) : Option ((List Int) × Int) :=
 (spec_l22Code signs1 list1 seen1).bind fun r1 =>
 if r1 = 0 then
 (onL (loop (S := ((List Int) × Int)) (B := (List Int)) (R := Empty) (fun ((out1, i1) : (List Int) × Int) =>
 if i1 < (list1.length : Int) then
 ((at? list1 i1).bind fun v1 =>
 (spec_l22Bits v1.Signs).bind fun r2 =>
 (spec_l22Bits seen1).bind fun r3 =>
 if (bit_andNot .i64 r2 r3) = 0 then
 ((app? out1 ([i1] : List Int)).bind fun l1 =>
 some (.next (l1, w64 (i1 + 1))))
 else
 some (.next (out1, w64 (i1 + 1))))
 else
 some (.brk out1)) loopLim ([], 0))
 (fun (out2 : List Int) => some (out2, 0)) Empty.elim)
 else
 some ([], r1)
/-- loop.example/g01063/laws.FnExactPossibleCauses -/
def laws_FnExactPossibleCauses (aSigns1 : Int) (aList1 : List GCause) (aSeen1 : List Int) : Option Bool :=
 if (aSeen1.length : Int) > 1048576 then
 (some true)
 else
 (laws_szCauseS aList1 1048576).bind fun r1 =>
 if r1 < 0 then
 (some true)
 else
 (laws_toCauseS aList1).bind fun r2 =>
 (laws_toInt64S aSeen1).bind fun r3 =>
 (spec_PossibleCauses aSigns1 r2 r3).bind fun r4 =>
 (laws_toCauseS aList1).bind fun r5 =>
 (laws_toInt64S aSeen1).bind fun r6 =>
 (impl_PossibleCauses aSigns1 r5 r6).bind fun r7 =>
 (((laws_eqInt64S r7.1 r4.1).bind fun r8 =>
 if r8 then
 (some (!(decide (r7.2 = r4.2))))
 else
 some true) : Option Bool).bind fun (x1 : Bool) =>
 if x1 then
 (some false)
 else
 (laws_toCauseS aList1).bind fun r9 =>
 (laws_eqCauseS r5 r9).bind fun r10 =>
 if r10 then
 ((laws_toInt64S aSeen1).bind fun r11 =>
 (laws_eqInt64S r6 r11).bind fun r12 =>
 if r12 then
 ((laws_markCauseS r5 1).bind fun r13 =>
 (laws_markInt64S r6 r13.1).bind fun r14 =>
 ((if r14.1 < 0 then
 (some true)
 else
 (laws_eqInt64S r7.1 r4.1).bind fun r15 =>
 if r15 then
 (some (!(decide (r7.2 = r4.2))))
 else
 some true) : Option Bool).bind fun (x2 : Bool) =>
 if x2 then
 (some false)
 else
 (laws_markInt64S r7.1 1).bind fun r16 =>
 (laws_heldInt64S r16.2 1).bind fun r17 =>
 if r17 < 0 then
 (some false)
 else
 if r17 = r16.1 then
 ((laws_toCauseS aList1).bind fun r18 =>
 (laws_toInt64S aSeen1).bind fun r19 =>
 (impl_PossibleCauses aSigns1 r18 r19).bind fun r20 =>
 (((laws_eqInt64S r20.1 r4.1).bind fun r21 =>
 if r21 then
 (some (!(decide (r20.2 = r4.2))))
 else
 some true) : Option Bool).bind fun (x3 : Bool) =>
 if x3 then
 (some false)
 else
 (laws_heldInt64S r16.2 1).bind fun r22 =>
 if r22 < 0 then
 (some false)
 else
 if r22 = r16.1 then
 (some true)
 else
 some false)
 else
 some false)
 else
 some false)
 else
 some false
/-- loop.example/g01063/spec.SameTitles -/
def spec_SameTitles (a1 : List GTitle) (b1 : List GTitle) : Option Bool :=
 if (a1.length : Int) = (b1.length : Int) then
 (onL (loop (S := Int) (B := Unit) (R := Bool) (fun (i1 : Int) =>
 if i1 < (a1.length : Int) then
 ((at? a1 i1).bind fun v1 =>
 (at? b1 i1).bind fun v2 =>
 if (v1.No == v2.No && (v1.Name == v2.Name && (v1.Glass == v2.Glass && (v1.Broken == v2.Broken && true)))) then
 (some (.next (w64 (i1 + 1))))
 else
 some (.ret false))
 else
 some (.brk ())) loopLim 0)
 (fun (_ : Unit) => some true) (fun r => some r))
 else
 some false
/-- loop.example/g01063/laws.FnExactSameTitles -/
def laws_FnExactSameTitles (aA1 : List GTitle) (aB1 : List GTitle) : Option Bool :=
 (laws_szTitleS aA1 1048576).bind fun r1 =>
 if r1 < 0 then
 (some true)
 else
 (laws_szTitleS aB1 r1).bind fun r2 =>
 if r2 < 0 then
 (some true)
 else
 (laws_toTitleS aA1).bind fun r3 =>
 (laws_toTitleS aB1).bind fun r4 =>
 (spec_SameTitles r3 r4).bind fun r5 =>
 (laws_toTitleS aA1).bind fun r6 =>
 (laws_toTitleS aB1).bind fun r7 =>
 (impl_SameTitles r6 r7).bind fun r8 =>
 if (r8 == r5) then
 ((laws_toTitleS aA1).bind fun r9 =>
 (laws_eqTitleS r6 r9).bind fun r10 =>
 if r10 then
 ((laws_toTitleS aB1).bind fun r11 =>
 (laws_eqTitleS r7 r11).bind fun r12 =>
 if r12 then
 (some true)
 else
 some false)
 else
 some false)
 else
 some false
/-- loop.example/g01063/spec.l22List -/
def spec_l22List (bits1 : Int) : Option (List Int) :=
 onL (loop (S := ((List Int) × Int)) (B := (List Int)) (R := Empty) (fun ((out1, k1) : (List Int) × Int) =>
 if k1 < 20 then
 ((shr? .i64 bits1 (IntKind.wrap .u64 (k1))).bind fun q1 =>
 if (bit_and .i64 q1 1) = 1 then
 ((app? out1 ([k1] : List Int)).bind fun l1 =>
 some (.next (l1, w64 (k1 + 1))))
 else
 some (.next (out1, w64 (k1 + 1))))
 else
 some (.brk out1)) loopLim ([], 0))
 (fun (out2 : List Int) => some out2) Empty.elim
/-- loop.example/g01063/spec.SignsOf -/
def spec_SignsOf (signs1 : Int) (list1 : List GCause) (some_1 : List Int) : Option ((List Int) × Int) :=
 (spec_l22Ok signs1 list1).bind fun r1 =>
 if r1 then
 ((spec_l00Rises some_1 0 (w64 ((list1.length : Int) - 1))).bind fun r2 =>
 if r2 then
 ((spec_l22Bits some_1).bind fun r3 =>
 (spec_l22Signs list1 r3).bind fun r4 =>
 (spec_l22List r4).bind fun r5 =>
 some (r5, 0))
 else
 some ([], 2))
 else
 some ([], 1)
/-- loop.example/g01063/laws.FnExactSignsOf -/
def laws_FnExactSignsOf (aSigns1 : Int) (aList1 : List GCause) (aSome1 : List Int) : Option Bool :=
 if (aSome1.length : Int) > 1048576 then
 (some true)
 else
 (laws_szCauseS aList1 1048576).bind fun r1 =>
 if r1 < 0 then
 (some true)
 else
 (laws_toCauseS aList1).bind fun r2 =>
 (laws_toInt64S aSome1).bind fun r3 =>
 (spec_SignsOf aSigns1 r2 r3).bind fun r4 =>
 (laws_toCauseS aList1).bind fun r5 =>
 (laws_toInt64S aSome1).bind fun r6 =>
 (impl_SignsOf aSigns1 r5 r6).bind fun r7 =>
 (((laws_eqInt64S r7.1 r4.1).bind fun r8 =>
 if r8 then
 (some (!(decide (r7.2 = r4.2))))
 else
 some true) : Option Bool).bind fun (x1 : Bool) =>
 if x1 then
 (some false)
 else
 (laws_toCauseS aList1).bind fun r9 =>
 (laws_eqCauseS r5 r9).bind fun r10 =>
 if r10 then
 ((laws_toInt64S aSome1).bind fun r11 =>
 (laws_eqInt64S r6 r11).bind fun r12 =>
 if r12 then
 ((laws_markCauseS r5 1).bind fun r13 =>
 (laws_markInt64S r6 r13.1).bind fun r14 =>
 ((if r14.1 < 0 then
 (some true)
 else
 (laws_eqInt64S r7.1 r4.1).bind fun r15 =>
 if r15 then
 (some (!(decide (r7.2 = r4.2))))
 else
 some true) : Option Bool).bind fun (x2 : Bool) =>
 if x2 then
 (some false)
 else
 (laws_markInt64S r7.1 1).bind fun r16 =>
 (laws_heldInt64S r16.2 1).bind fun r17 =>
 if r17 < 0 then
 (some false)
 else
 if r17 = r16.1 then
 ((laws_toCauseS aList1).bind fun r18 =>
 (laws_toInt64S aSome1).bind fun r19 =>
 (impl_SignsOf aSigns1 r18 r19).bind fun r20 =>
 (((laws_eqInt64S r20.1 r4.1).bind fun r21 =>
 if r21 then
 (some (!(decide (r20.2 = r4.2))))
 else
 some true) : Option Bool).bind fun (x3 : Bool) =>
 if x3 then
 (some false)
 else
 (laws_heldInt64S r16.2 1).bind fun r22 =>
 if r22 < 0 then
 (some false)
 else
 if r22 = r16.1 then
 (some true)
 else
 some false)
 else
 some false)
 else
 some false)
 else
 some false
/-- loop.example/g01063/spec.SureCauses -/
def spec_SureCauses (signs1 : Int) (list1 : List GCause) (seen1 : List Int) : Option ((List Int) × Int) :=
 (spec_l22Some signs1 list1 seen1).bind fun r1 =>
 if r1.2 = 0 then
 ((at? r1.1 0).bind fun v1 =>
 onL (loop (S := (Int × Int)) (B := Int) (R := Empty) (fun ((both1, i1) : Int × Int) =>
 if i1 < (r1.1.length : Int) then
 ((at? r1.1 i1).bind fun v2 =>
 some (.next (bit_and .i64 both1 v2, w64 (i1 + 1))))
 else
 some (.brk both1)) loopLim (v1, 1))
 (fun (both2 : Int) => (spec_l22List both2).bind fun r2 =>
 some (r2, 0)) Empty.elim)
 else
 some ([], r1.2)
/-- loop.example/g01063/laws.FnExactSureCauses -/
def laws_FnExactSureCauses (aSigns1 : Int) (aList1 : List GCause) (aSeen1 : List Int) : Option Bool :=
 if (aSeen1.length : Int) > 1048576 then
 (some true)
 else
 (laws_szCauseS aList1 1048576).bind fun r1 =>
 if r1 < 0 then
 (some true)
 else
 (laws_toCauseS aList1).bind fun r2 =>
 (laws_toInt64S aSeen1).bind fun r3 =>
 (spec_SureCauses aSigns1 r2 r3).bind fun r4 =>
 (laws_toCauseS aList1).bind fun r5 =>
 (laws_toInt64S aSeen1).bind fun r6 =>
 (impl_SureCauses aSigns1 r5 r6).bind fun r7 =>
 (((laws_eqInt64S r7.1 r4.1).bind fun r8 =>
 if r8 then
 (some (!(decide (r7.2 = r4.2))))
 else
 some true) : Option Bool).bind fun (x1 : Bool) =>
 if x1 then
 (some false)
 else
 (laws_toCauseS aList1).bind fun r9 =>
 (laws_eqCauseS r5 r9).bind fun r10 =>
 if r10 then
 ((laws_toInt64S aSeen1).bind fun r11 =>
 (laws_eqInt64S r6 r11).bind fun r12 =>
 if r12 then
 ((laws_markCauseS r5 1).bind fun r13 =>
 (laws_markInt64S r6 r13.1).bind fun r14 =>
 ((if r14.1 < 0 then
 (some true)
 else
 (laws_eqInt64S r7.1 r4.1).bind fun r15 =>
 if r15 then
 (some (!(decide (r7.2 = r4.2))))
 else
 some true) : Option Bool).bind fun (x2 : Bool) =>
 if x2 then
 (some false)
 else
 (laws_markInt64S r7.1 1).bind fun r16 =>
 (laws_heldInt64S r16.2 1).bind fun r17 =>
 if r17 < 0 then
 (some false)
 else
 if r17 = r16.1 then
 ((laws_toCauseS aList1).bind fun r18 =>
 (laws_toInt64S aSeen1).bind fun r19 =>
 (impl_SureCauses aSigns1 r18 r19).bind fun r20 =>
 (((laws_eqInt64S r20.1 r4.1).bind fun r21 =>
 if r21 then
 (some (!(decide (r20.2 = r4.2))))
 else
 some true) : Option Bool).bind fun (x3 : Bool) =>
 if x3 then
 (some false)
 else
 (laws_heldInt64S r16.2 1).bind fun r22 =>
 if r22 < 0 then
 (some false)
 else
 if r22 = r16.1 then
 (some true)
 else
 some false)
 else
 some false)
 else
 some false)
 else
 some false
/-- loop.example/g01063/spec.ValidBurning -/
def spec_ValidBurning (s1 : List UInt8) : Option Bool :=
 (spec_l21Burning s1).bind fun r1 =>
 some r1
/-- loop.example/g01063/laws.FnExactValidBurning -/
def laws_FnExactValidBurning (aS1 : List UInt8) : Option Bool :=
 if (aS1.length : Int) > 1048576 then
 (some true)
 else
 (spec_ValidBurning aS1).bind fun r1 =>
 (impl_ValidBurning aS1).bind fun r2 =>
 if (r2 == r1) then
 (some true)
 else
 some false
/-- loop.example/g01063/spec.ValidCauses -/
def spec_ValidCauses (signs1 : Int) (list1 : List GCause) : Option Bool :=
 (spec_l22Ok signs1 list1).bind fun r1 =>
 some r1
/-- loop.example/g01063/laws.FnExactValidCauses -/
def laws_FnExactValidCauses (aSigns1 : Int) (aList1 : List GCause) : Option Bool :=
 (laws_szCauseS aList1 1048576).bind fun r1 =>
 if r1 < 0 then
 (some true)
 else
 (laws_toCauseS aList1).bind fun r2 =>
 (spec_ValidCauses aSigns1 r2).bind fun r3 =>
 (laws_toCauseS aList1).bind fun r4 =>
 (impl_ValidCauses aSigns1 r4).bind fun r5 =>
 if (r5 == r3) then
 ((laws_toCauseS aList1).bind fun r6 =>
 (laws_eqCauseS r4 r6).bind fun r7 =>
 if r7 then
 (some true)
 else
 some false)
 else
 some false
/-- loop.example/g01063/spec.ValidTitles -/
def spec_ValidTitles (list1 : List GTitle) : Option Bool :=
 (spec_l23Ok list1).bind fun r1 =>
 some r1
/-- loop.example/g01063/laws.FnExactValidTitles -/
def laws_FnExactValidTitles (aList1 : List GTitle) : Option Bool :=
 (laws_szTitleS aList1 1048576).bind fun r1 =>
 if r1 < 0 then
 (some true)
 else
 (laws_toTitleS aList1).bind fun r2 =>
 (spec_ValidTitles r2).bind fun r3 =>
 (laws_toTitleS aList1).bind fun r4 =>
 (impl_ValidTitles r4).bind fun r5 =>
 if (r5 == r3) then
 ((laws_toTitleS aList1).bind fun r6 =>
 (laws_eqTitleS r4 r6).bind fun r7 =>
 if r7 then
 (some true)
 else
 some false)
 else
 some false
/-- loop.example/g01063/laws.markTitleS -/
def laws_markTitleS (a1 : List GTitle) (k1 : Int) : Option (Int × (List GTitle)) :=
 onL (loop (S := ((List GTitle) × Int × Int)) (B := ((List GTitle) × Int)) (R := Empty) (fun ((a2, k2, i1) : (List GTitle) × Int × Int) =>
 if i1 < (a2.length : Int) then
 ((at? a2 i1).bind fun v1 =>
 (laws_markText (w64 (k2 + 1))).bind fun r1 =>
 (at? (a2.set i1.toNat (GTitle.mk k2 v1.Name v1.Glass v1.Broken)) i1).bind fun v2 =>
 (at? ((a2.set i1.toNat (GTitle.mk k2 v1.Name v1.Glass v1.Broken)).set i1.toNat (GTitle.mk v2.No r1 v2.Glass v2.Broken)) i1).bind fun v3 =>
 (at? (((a2.set i1.toNat (GTitle.mk k2 v1.Name v1.Glass v1.Broken)).set i1.toNat (GTitle.mk v2.No r1 v2.Glass v2.Broken)).set i1.toNat (GTitle.mk v3.No v3.Name (w64 ((w64 (k2 + 1)) + 1)) v3.Broken)) i1).bind fun v4 =>
 some (.next ((((a2.set i1.toNat (GTitle.mk k2 v1.Name v1.Glass v1.Broken)).set i1.toNat (GTitle.mk v2.No r1 v2.Glass v2.Broken)).set i1.toNat (GTitle.mk v3.No v3.Name (w64 ((w64 (k2 + 1)) + 1)) v3.Broken)).set i1.toNat (GTitle.mk v4.No v4.Name v4.Glass (w64 ((w64 ((w64 (k2 + 1)) + 1)) + 1))), w64 ((w64 ((w64 ((w64 (k2 + 1)) + 1)) + 1)) + 1), w64 (i1 + 1))))
 else
 some (.brk (a2, k2))) loopLim (a1, k1, 0))
 (fun ((a3, k3) : (List GTitle) × Int) => some (k3, a3)) Empty.elim
/-- loop.example/g01063/spec.WholeTitles -/
def spec_WholeTitles (list1 : List GTitle) : Option ((List Int) × Int) :=
 (spec_l23Ok list1).bind fun r1 =>
 if r1 then
 (onL (loop (S := ((List Int) × Int)) (B := (List Int)) (R := Empty) (fun ((out1, i1) : (List Int) × Int) =>
 if i1 < (list1.length : Int) then
 ((at? list1 i1).bind fun v1 =>
 if v1.Broken = 0 then
 ((at? list1 i1).bind fun v2 =>
 (app? out1 ([v2.No] : List Int)).bind fun l1 =>
 some (.next (l1, w64 (i1 + 1))))
 else
 some (.next (out1, w64 (i1 + 1))))
 else
 some (.brk out1)) loopLim ([], 0))
 (fun (out2 : List Int) => some (out2, 0)) Empty.elim)
 else
 some ([], 1)
/-- loop.example/g01063/laws.FnExactWholeTitles -/
def laws_FnExactWholeTitles (aList1 : List GTitle) : Option Bool :=
 (laws_szTitleS aList1 1048576).bind fun r1 =>
 if r1 < 0 then
 (some true)
 else
 (laws_toTitleS aList1).bind fun r2 =>
 (spec_WholeTitles r2).bind fun r3 =>
 (laws_toTitleS aList1).bind fun r4 =>
 (impl_WholeTitles r4).bind fun r5 =>
 (((laws_eqInt64S r5.1 r3.1).bind fun r6 =>
 if r6 then
 (some (!(decide (r5.2 = r3.2))))
 else
 some true) : Option Bool).bind fun (x1 : Bool) =>
 if x1 then
 (some false)
 else
 (laws_toTitleS aList1).bind fun r7 =>
 (laws_eqTitleS r4 r7).bind fun r8 =>
 if r8 then
 ((laws_markTitleS r4 1).bind fun r9 =>
 ((if r9.1 < 0 then
 (some true)
 else
 (laws_eqInt64S r5.1 r3.1).bind fun r10 =>
 if r10 then
 (some (!(decide (r5.2 = r3.2))))
 else
 some true) : Option Bool).bind fun (x2 : Bool) =>
 if x2 then
 (some false)
 else
 (laws_markInt64S r5.1 1).bind fun r11 =>
 (laws_heldInt64S r11.2 1).bind fun r12 =>
 if r12 < 0 then
 (some false)
 else
 if r12 = r11.1 then
 ((laws_toTitleS aList1).bind fun r13 =>
 (impl_WholeTitles r13).bind fun r14 =>
 (((laws_eqInt64S r14.1 r3.1).bind fun r15 =>
 if r15 then
 (some (!(decide (r14.2 = r3.2))))
 else
 some true) : Option Bool).bind fun (x3 : Bool) =>
 if x3 then
 (some false)
 else
 (laws_heldInt64S r11.2 1).bind fun r16 =>
 if r16 < 0 then
 (some false)
 else
 if r16 = r11.1 then
 (some true)
 else
 some false)
 else
 some false)
 else
 some false
/-- loop.example/g01063/laws.f6big -/
def laws_f6big (code1 : List Int) : Option Bool :=
 some (decide ((code1.length : Int) > 4096))
/-- loop.example/g01063/spec.l00Gcd -/
def spec_l00Gcd (a1 : Int) (b1 : Int) : Option Int :=
 onL (loop (S := (Int × Int)) (B := Int) (R := Empty) (fun ((a2, b2) : Int × Int) =>
 if b2 = 0 then
 (some (.brk a2))
 else
 (mod? a2 b2).bind fun q1 =>
 some (.next (b2, q1))) loopLim (a1, b1))
 (fun (a3 : Int) => some a3) Empty.elim
/-- loop.example/g01063/spec.l00Size -/
def spec_l00Size (n1 : Int) : Option Int :=
 if n1 < 0 then
 (some (w64 (0 - n1)))
 else
 some n1
/-- loop.example/g01063/spec.l02Make -/
def spec_l02Make (num1 : Int) (den1 : Int) : Option GFraction :=
 (spec_l00Size num1).bind fun r1 =>
 (spec_l00Gcd r1 den1).bind fun r2 =>
 (div? .i64 num1 r2).bind fun q1 =>
 (div? .i64 den1 r2).bind fun q2 =>
 some (GFraction.mk q1 q2)
/-- loop.example/g01063/spec.l02Ok -/
def spec_l02Ok (f1 : GFraction) : Option Bool :=
 (spec_l00In f1.Den 1 1000000).bind fun r1 =>
 if r1 then
 ((spec_l00In f1.Num (-1000000) 1000000).bind fun r2 =>
 if r2 then
 ((spec_l00Size f1.Num).bind fun r3 =>
 (spec_l00Gcd r3 f1.Den).bind fun r4 =>
 some (decide (r4 = 1)))
 else
 some false)
 else
 some false
/-- loop.example/g01063/spec.l12Bright -/
def spec_l12Bright (f1 : GFraction) : Option Bool :=
 (spec_l02Ok f1).bind fun r1 =>
 if r1 then
 ((spec_l00In f1.Num 0 100000).bind fun r2 =>
 if r2 then
 (some (decide (f1.Den ≤ 100000)))
 else
 some false)
 else
 some false
/-- loop.example/g01063/spec.l12Far -/
def spec_l12Far (n1 : Int) : Option Bool :=
 (spec_l00In n1 1 1000).bind fun r1 =>
 some r1
/-- loop.example/g01063/spec.BrightnessAt -/
def spec_BrightnessAt (bright1 : GFraction) (from_1 : Int) (to_1 : Int) : Option (GFraction × Int) :=
 (spec_l02Ok bright1).bind fun r1 =>
 if r1 then
 ((((spec_l12Bright bright1).bind fun r2 =>
 if r2 then
 ((spec_l12Far from_1).bind fun r3 =>
 if r3 then
 ((spec_l12Far to_1).bind fun r4 =>
 some (!r4))
 else
 some true)
 else
 some true) : Option Bool).bind fun (x1 : Bool) =>
 if x1 then
 (some ((GFraction.mk 0 0), 2))
 else
 (spec_l02Make (w64 ((w64 (bright1.Num * from_1)) * from_1)) (w64 ((w64 (bright1.Den * to_1)) * to_1))).bind fun r5 =>
 some (r5, 0))
 else
 some ((GFraction.mk 0 0), 1)
/-- loop.example/g01063/spec.l12Side -/
def spec_l12Side (n1 : Int) : Option Bool :=
 (spec_l00In n1 1 1000).bind fun r1 =>
 some r1
/-- loop.example/g01063/spec.BrightnessOf -/
def spec_BrightnessOf (lumens1 : Int) (wide1 : Int) (high1 : Int) : Option (GFraction × Int) :=
 (((spec_l00In lumens1 0 100000).bind fun r1 =>
 if r1 then
 ((spec_l12Side wide1).bind fun r2 =>
 if r2 then
 ((spec_l12Side high1).bind fun r3 =>
 some (!r3))
 else
 some true)
 else
 some true) : Option Bool).bind fun (x1 : Bool) =>
 if x1 then
 (some ((GFraction.mk 0 0), 2))
 else
 (spec_l02Make lumens1 (w64 (wide1 * high1))).bind fun r4 =>
 some (r4, 0)
/-- loop.example/g01063/spec.CornerLight -/
def spec_CornerLight (throw1 : Int) (half1 : Int) : Option (GFraction × Int) :=
 (((spec_l12Far throw1).bind fun r1 =>
 if r1 then
 ((spec_l00In half1 0 1000).bind fun r2 =>
 some (!r2))
 else
 some true) : Option Bool).bind fun (x1 : Bool) =>
 if x1 then
 (some ((GFraction.mk 0 0), 2))
 else
 (spec_l02Make (w64 ((w64 (throw1 * throw1)) * (w64 (throw1 * throw1)))) (w64 ((w64 ((w64 (throw1 * throw1)) + (w64 (half1 * half1)))) * (w64 ((w64 (throw1 * throw1)) + (w64 (half1 * half1))))))).bind fun r3 =>
 some (r3, 0)
/-- loop.example/g01063/spec.l02Draw -/
def spec_l02Draw (s1 : GL00Src) : Option (GFraction × GL00Src) :=
 (spec_l00Src_pick s1 60).bind fun r1 =>
 (spec_l00Src_pick r1.2 20).bind fun r2 =>
 (spec_l02Make (w64 (r1.1 - 15)) (w64 (1 + r2.1))).bind fun r3 =>
 some (r3, r2.2)
/-- loop.example/g01063/spec.l02Bent -/
def spec_l02Bent (s1 : GL00Src) : Option (GFraction × GL00Src) :=
 (spec_l02Draw s1).bind fun r1 =>
 (spec_l00Src_pick r1.2 20).bind fun r2 =>
 if r2.1 = 0 then
 ((spec_l00Src_among r2.2 [(-1), 0, 1, 1000000, 1000001]).bind fun r3 =>
 some ((GFraction.mk r1.1.Num r3.1), r3.2))
 else
 if r2.1 = 1 then
 ((spec_l00Src_among r2.2 [(-1000001), (-1000000), 1000000, 1000001, (-9223372036854775808)]).bind fun r4 =>
 some ((GFraction.mk r4.1 r1.1.Den), r4.2))
 else
 if r2.1 = 2 then
 ((spec_l00Src_pick r2.2 5).bind fun r5 =>
 some ((GFraction.mk (w64 (2 * r5.1)) 4), r5.2))
 else
 if r2.1 = 3 then
 ((spec_l00Src_pick r2.2 3).bind fun r6 =>
 some ((GFraction.mk (w64 (999983 - r6.1)) 1000000), r6.2))
 else
 some (r1.1, r2.2)
/-- loop.example/g01063/spec.l12DrawBright -/
def spec_l12DrawBright (s1 : GL00Src) : Option (GFraction × GL00Src) :=
 (spec_l00Src_pick s1 12).bind fun r1 =>
 if r1.1 = 0 then
 ((spec_l02Bent r1.2).bind fun r2 =>
 some (r2.1, r2.2))
 else
 if r1.1 = 1 then
 ((spec_l00Src_among r1.2 [(-1), 0, 1, 100000, 100001]).bind fun r3 =>
 some ((GFraction.mk r3.1 1), r3.2))
 else
 if r1.1 = 2 then
 ((spec_l00Src_among r1.2 [1, 100000, 100001]).bind fun r4 =>
 some ((GFraction.mk 1 r4.1), r4.2))
 else
 (spec_l00Src_pick r1.2 300).bind fun r5 =>
 (spec_l00Src_pick r5.2 40).bind fun r6 =>
 (spec_l02Make (w64 (1 + r5.1)) (w64 (1 + r6.1))).bind fun r7 =>
 some (r7, r6.2)
/-- loop.example/g01063/spec.l12DrawFar -/
def spec_l12DrawFar (s1 : GL00Src) : Option (Int × GL00Src) :=
 (spec_l00Src_one s1 10).bind fun r1 =>
 if r1.1 then
 ((spec_l00Src_among r1.2 [(-1), 0, 1, 1000, 1001]).bind fun r2 =>
 some (r2.1, r2.2))
 else
 (spec_l00Src_pick r1.2 60).bind fun r3 =>
 some (w64 (5 + r3.1), r3.2)
/-- loop.example/g01063/spec.DrawBrightnessAt -/
def spec_DrawBrightnessAt (code1 : List Int) : Option (GFraction × Int × Int) :=
 (spec_l00From code1).bind fun r1 =>
 (spec_l12DrawBright r1).bind fun r2 =>
 (spec_l12DrawFar r2.2).bind fun r3 =>
 (spec_l12DrawFar r3.2).bind fun r4 =>
 some (r2.1, r3.1, r4.1)
/-- loop.example/g01063/spec.l12DrawLumens -/
def spec_l12DrawLumens (s1 : GL00Src) : Option (Int × GL00Src) :=
 (spec_l00Src_one s1 10).bind fun r1 =>
 if r1.1 then
 ((spec_l00Src_among r1.2 [(-1), 0, 1, 100000, 100001]).bind fun r2 =>
 some (r2.1, r2.2))
 else
 (spec_l00Src_pick r1.2 200).bind fun r3 =>
 some (w64 (50 * r3.1), r3.2)
/-- loop.example/g01063/spec.l12DrawSide -/
def spec_l12DrawSide (s1 : GL00Src) : Option (Int × GL00Src) :=
 (spec_l00Src_one s1 10).bind fun r1 =>
 if r1.1 then
 ((spec_l00Src_among r1.2 [(-1), 0, 1, 1000, 1001, (-9223372036854775808)]).bind fun r2 =>
 some (r2.1, r2.2))
 else
 (spec_l00Src_pick r1.2 90).bind fun r3 =>
 some (w64 (10 + r3.1), r3.2)
/-- loop.example/g01063/spec.DrawBrightnessOf -/
def spec_DrawBrightnessOf (code1 : List Int) : Option (Int × Int × Int) :=
 (spec_l00From code1).bind fun r1 =>
 (spec_l12DrawLumens r1).bind fun r2 =>
 (spec_l12DrawSide r2.2).bind fun r3 =>
 (spec_l12DrawSide r3.2).bind fun r4 =>
 some (r2.1, r3.1, r4.1)
/-- loop.example/g01063/spec.DrawCornerLight -/
def spec_DrawCornerLight (code1 : List Int) : Option (Int × Int) :=
 (spec_l00From code1).bind fun r1 =>
 (spec_l12DrawFar r1).bind fun r2 =>
 (spec_l00Src_one r2.2 8).bind fun r3 =>
 if r3.1 then
 ((spec_l00Src_among r3.2 [(-1), 0, 1000, 1001]).bind fun r4 =>
 some (r2.1, r4.1))
 else
 (spec_l00Src_pick r3.2 60).bind fun r5 =>
 some (r2.1, r5.1)
/-- loop.example/g01063/spec.DrawFarthestFor -/
def spec_DrawFarthestFor (code1 : List Int) : Option (GFraction × Int × GFraction) :=
 (spec_l00From code1).bind fun r1 =>
 (spec_l12DrawBright r1).bind fun r2 =>
 (spec_l12DrawFar r2.2).bind fun r3 =>
 (spec_l12DrawBright r3.2).bind fun r4 =>
 some (r2.1, r3.1, r4.1)
/-- loop.example/g01063/spec.DrawLightThrough -/
def spec_DrawLightThrough (code1 : List Int) : Option (Int × (List Int)) :=
 (spec_l00From code1).bind fun r1 =>
 (spec_l12DrawLumens r1).bind fun r2 =>
 (spec_l00Src_pick r2.2 4).bind fun r3 =>
 (spec_l00Src_one r3.2 12).bind fun r4 =>
 ((if r4.1 then
 ((spec_l00Src_pick r4.2 2).bind fun r5 =>
 some (r5.2, w64 (4 + r5.1)))
 else
 some (r4.2, r3.1)) : Option (GL00Src × Int)).bind fun ((s1, n1) : GL00Src × Int) =>
 onL (loop (S := (GL00Src × (List Int) × Int)) (B := (GL00Src × (List Int))) (R := Empty) (fun ((s2, losses1, k1) : GL00Src × (List Int) × Int) =>
 if k1 > 0 then
 ((spec_l00Src_pick s2 20).bind fun r6 =>
 (app? losses1 ([w64 (50 * r6.1)] : List Int)).bind fun l1 =>
 some (.next (r6.2, l1, w64 (k1 - 1))))
 else
 some (.brk (s2, losses1))) loopLim (s1, [], n1))
 (fun ((s3, losses2) : GL00Src × (List Int)) => ((if n1 > 0 then
 ((spec_l00Src_one s3 10).bind fun r7 =>
 some (r7.2, r7.1))
 else
 some (s3, false)) : Option (GL00Src × Bool)).bind fun ((s4, x1) : GL00Src × Bool) =>
 if x1 then
 ((spec_l00Src_among s4 [(-1), 0, 1000, 1001]).bind fun r8 =>
 (at? losses2 0).bind fun v1 =>
 some (r2.1, losses2.set ((0 : Int).toNat) r8.1))
 else
 some (r2.1, losses2)) Empty.elim
/-- loop.example/g01063/spec.DrawScreenArea -/
def spec_DrawScreenArea (code1 : List Int) : Option (Int × Int) :=
 (spec_l00From code1).bind fun r1 =>
 (spec_l12DrawSide r1).bind fun r2 =>
 (spec_l12DrawSide r2.2).bind fun r3 =>
 some (r2.1, r3.1)
/-- loop.example/g01063/spec.l12Enough -/
def spec_l12Enough (a1 : Int) (b1 : Int) (from_1 : Int) (to_1 : Int) : Option Bool :=
 some (decide ((w64 (a1 * (w64 (from_1 * from_1)))) ≥ (w64 (b1 * (w64 (to_1 * to_1))))))
/-- loop.example/g01063/spec.FarthestFor -/
def spec_FarthestFor (bright1 : GFraction) (from_1 : Int) (least1 : GFraction) : Option (Int × Int) :=
 (((spec_l02Ok bright1).bind fun r1 =>
 if r1 then
 ((spec_l02Ok least1).bind fun r2 =>
 some (!r2))
 else
 some true) : Option Bool).bind fun (x1 : Bool) =>
 if x1 then
 (some (0, 1))
 else
 (((spec_l12Bright bright1).bind fun r3 =>
 if r3 then
 ((spec_l12Bright least1).bind fun r4 =>
 if r4 then
 ((spec_l12Far from_1).bind fun r5 =>
 some (!r5))
 else
 some true)
 else
 some true) : Option Bool).bind fun (x2 : Bool) =>
 if x2 then
 (some (0, 2))
 else
 (spec_l00Gcd (w64 (bright1.Num * least1.Den)) (w64 (least1.Num * bright1.Den))).bind fun r6 =>
 (spec_l00Max 1 r6).bind fun r7 =>
 (div? .i64 (w64 (bright1.Num * least1.Den)) r7).bind fun q1 =>
 (div? .i64 (w64 (least1.Num * bright1.Den)) r7).bind fun q2 =>
 onL (loop (S := Int) (B := Unit) (R := (Int × Int)) (fun (to_1 : Int) =>
 if to_1 ≥ 1 then
 ((spec_l12Enough q1 q2 from_1 to_1).bind fun r8 =>
 if r8 then
 (some (.ret (to_1, 0)))
 else
 some (.next (w64 (to_1 - 1))))
 else
 some (.brk ())) loopLim 1000)
 (fun (_ : Unit) => some (0, 3)) (fun r => some r)
/-- loop.example/g01063/spec.LightThrough -/
def spec_LightThrough (lumens1 : Int) (losses1 : List Int) : Option (GFraction × Int) :=
 (spec_l00In lumens1 0 100000).bind fun r1 =>
 if r1 then
 (onL (loop (S := Int) (B := Unit) (R := (GFraction × Int)) (fun (i1 : Int) =>
 if i1 < (losses1.length : Int) then
 ((at? losses1 i1).bind fun v1 =>
 (spec_l00In v1 0 1000).bind fun r2 =>
 if r2 then
 (some (.next (w64 (i1 + 1))))
 else
 some (.ret ((GFraction.mk 0 0), 2)))
 else
 some (.brk ())) loopLim 0)
 (fun (_ : Unit) => if (losses1.length : Int) > 4 then
 (some ((GFraction.mk 0 0), 2))
 else
 onL (loop (S := (Int × Int × Int)) (B := (Int × Int)) (R := Empty) (fun ((num1, den1, i2) : Int × Int × Int) =>
 if i2 < (losses1.length : Int) then
 ((at? losses1 i2).bind fun v2 =>
 some (.next (w64 (num1 * (w64 (1000 - v2))), w64 (den1 * 1000), w64 (i2 + 1))))
 else
 some (.brk (num1, den1))) loopLim (lumens1, 1, 0))
 (fun ((num2, den2) : Int × Int) => (spec_l02Make num2 den2).bind fun r3 =>
 some (r3, 0)) Empty.elim) (fun r => some r))
 else
 some ((GFraction.mk 0 0), 2)
/-- loop.example/g01063/spec.ScreenArea -/
def spec_ScreenArea (wide1 : Int) (high1 : Int) : Option (Int × Int) :=
 (((spec_l12Side wide1).bind fun r1 =>
 if r1 then
 ((spec_l12Side high1).bind fun r2 =>
 some (!r2))
 else
 some true) : Option Bool).bind fun (x1 : Bool) =>
 if x1 then
 (some (0, 2))
 else
 some (w64 (wide1 * high1), 0)
/-- loop.example/g01063/laws.FnLight -/
def laws_FnLight (code1 : List Int) : Option Bool :=
 (laws_f6big code1).bind fun r1 =>
 if r1 then
 (some true)
 else
 (spec_DrawLightThrough code1).bind fun r2 =>
 (impl_LightThrough r2.1 r2.2).bind fun r3 =>
 (spec_LightThrough r2.1 r2.2).bind fun r4 =>
 (spec_DrawBrightnessAt code1).bind fun r5 =>
 (impl_BrightnessAt r5.1 r5.2.1 r5.2.2).bind fun r6 =>
 (spec_BrightnessAt r5.1 r5.2.1 r5.2.2).bind fun r7 =>
 (spec_DrawFarthestFor code1).bind fun r8 =>
 (impl_FarthestFor r8.1 r8.2.1 r8.2.2).bind fun r9 =>
 (spec_FarthestFor r8.1 r8.2.1 r8.2.2).bind fun r10 =>
 (spec_DrawBrightnessOf code1).bind fun r11 =>
 (impl_BrightnessOf r11.1 r11.2.1 r11.2.2).bind fun r12 =>
 (spec_BrightnessOf r11.1 r11.2.1 r11.2.2).bind fun r13 =>
 (spec_DrawCornerLight code1).bind fun r14 =>
 (impl_CornerLight r14.1 r14.2).bind fun r15 =>
 (spec_CornerLight r14.1 r14.2).bind fun r16 =>
 (spec_DrawScreenArea code1).bind fun r17 =>
 (impl_ScreenArea r17.1 r17.2).bind fun r18 =>
 (spec_ScreenArea r17.1 r17.2).bind fun r19 =>
 ((if r3.2 = r4.2 then
 (if (r3.1.Num == r4.1.Num && (r3.1.Den == r4.1.Den && true)) then
 (if r6.2 = r7.2 then
 (if (r6.1.Num == r7.1.Num && (r6.1.Den == r7.1.Den && true)) then
 (if r9.2 = r10.2 then
 (if r9.1 = r10.1 then
 (if r12.2 = r13.2 then
 (if (r12.1.Num == r13.1.Num && (r12.1.Den == r13.1.Den && true)) then
 (if r15.2 = r16.2 then
 (if (r15.1.Num == r16.1.Num && (r15.1.Den == r16.1.Den && true)) then
 (if r18.2 = r19.2 then
 (some (!(decide (r18.1 = r19.1))))
 else
 some true)
 else
 some true)
 else
 some true)
 else
 some true)
 else
 some true)
 else
 some true)
 else
 some true)
 else
 some true)
 else
 some true)
 else
 some true)
 else
 some true) : Option Bool).bind fun (x1 : Bool) =>
 if x1 then
 (some false)
 else
 ((if r3.2 = 0 then
 (if r4.1.Num > (w64 (r2.1 * r4.1.Den)) then
 (some true)
 else
 some (decide (r4.1.Num < 0)))
 else
 some false) : Option Bool).bind fun (x2 : Bool) =>
 if x2 then
 (some false)
 else
 ((if r15.2 = 0 then
 (if r16.1.Num > r16.1.Den then
 (some true)
 else
 some (decide (r16.1.Num < 1)))
 else
 some false) : Option Bool).bind fun (x3 : Bool) =>
 if x3 then
 (some false)
 else
 ((if r12.2 = 0 then
 (some (!(decide ((w64 ((w64 (r13.1.Num * r11.2.1)) * r11.2.2)) = (w64 (r11.1 * r13.1.Den))))))
 else
 some false) : Option Bool).bind fun (x4 : Bool) =>
 if x4 then
 (some false)
 else
 ((if r9.2 = 0 then
 (some (decide (r10.1 < 1000)))
 else
 some false) : Option Bool).bind fun (x5 : Bool) =>
 if x5 then
 ((impl_BrightnessAt r8.1 r8.2.1 (w64 (r10.1 + 1))).bind fun r20 =>
 ((if r20.2 = 0 then
 (if r20.1.Num < 0 then
 (some true)
 else
 if r20.1.Num > 1000000000000 then
 (some true)
 else
 if r20.1.Den < 1 then
 (some true)
 else
 if r20.1.Den > 1000000000000 then
 (some true)
 else
 some (decide (r8.2.2.Den > 100000)))
 else
 some true) : Option Bool).bind fun (x6 : Bool) =>
 if x6 then
 (some false)
 else
 (div? .i64 r20.1.Num r20.1.Den).bind fun q1 =>
 (div? .i64 r8.2.2.Num r8.2.2.Den).bind fun q2 =>
 if q1 > q2 then
 (some false)
 else
 some true)
 else
 some true
/-- loop.example/g01063/spec.l09Open -/
def spec_l09Open (b1 : GBlades) (part1 : Int) : Option Bool :=
 (div? .i64 1000 b1.Many).bind fun q1 =>
 (mod? part1 q1).bind fun q2 =>
 (div? .i64 b1.Open b1.Many).bind fun q3 =>
 some (decide (q2 < q3))
/-- loop.example/g01063/spec.l09Both -/
def spec_l09Both (a1 : GBlades) (b1 : GBlades) (by_1 : Int) : Option Int :=
 onL (loop (S := (Int × Int)) (B := Int) (R := Empty) (fun ((n1, part1) : Int × Int) =>
 if part1 < 1000 then
 ((((spec_l09Open a1 part1).bind fun r1 =>
 if r1 then
 ((spec_l09Open b1 (w64 (part1 + by_1))).bind fun r2 =>
 some r2)
 else
 some false) : Option Bool).bind fun (x1 : Bool) =>
 if x1 then
 (some (.next (w64 (n1 + 1), w64 (part1 + 1))))
 else
 some (.next (n1, w64 (part1 + 1))))
 else
 some (.brk n1)) loopLim (0, 0))
 (fun (n2 : Int) => some n2) Empty.elim
/-- loop.example/g01063/spec.l09Ok -/
def spec_l09Ok (b1 : GBlades) : Option Bool :=
 (spec_l00In b1.Many 1 12).bind fun r1 =>
 if r1 then
 ((spec_l00In b1.Open 1 999).bind fun r2 =>
 if r2 then
 ((mod? b1.Open b1.Many).bind fun q1 =>
 if q1 = 0 then
 ((mod? 1000 b1.Many).bind fun q2 =>
 some (decide (q2 = 0)))
 else
 some false)
 else
 some false)
 else
 some false
/-- loop.example/g01063/spec.BestOffset -/
def spec_BestOffset (a1 : GBlades) (b1 : GBlades) : Option (Int × Int × Int) :=
 (((spec_l09Ok a1).bind fun r1 =>
 if r1 then
 ((spec_l09Ok b1).bind fun r2 =>
 some (!r2))
 else
 some true) : Option Bool).bind fun (x1 : Bool) =>
 if x1 then
 (some (0, 0, 1))
 else
 onL (loop (S := (Int × Int × Int)) (B := (Int × Int)) (R := Empty) (fun ((best1, most1, by_1) : Int × Int × Int) =>
 if by_1 < 1000 then
 ((spec_l09Both a1 b1 by_1).bind fun r3 =>
 if r3 > most1 then
 (some (.next (by_1, r3, w64 (by_1 + 1))))
 else
 some (.next (best1, most1, w64 (by_1 + 1))))
 else
 some (.brk (best1, most1))) loopLim (0, (-1), 0))
 (fun ((best2, most2) : Int × Int) => some (best2, most2, 0)) Empty.elim
/-- loop.example/g01063/spec.l09Draw -/
def spec_l09Draw (s1 : GL00Src) : Option (GBlades × GL00Src) :=
 (spec_l00Src_among s1 [1, 2, 2, 4, 5, 8, 10]).bind fun r1 =>
 (div? .i64 1000 r1.1).bind fun q1 =>
 (spec_l00Src_pick r1.2 (w64 (q1 - 1))).bind fun r2 =>
 (spec_l00Src_pick r2.2 16).bind fun r3 =>
 if r3.1 = 0 then
 ((spec_l00Src_among r3.2 [(-1), 0, 3, 12, 13, (-9223372036854775808)]).bind fun r4 =>
 some ((GBlades.mk r4.1 (w64 (r1.1 * (w64 (1 + r2.1))))), r4.2))
 else
 if r3.1 = 1 then
 ((spec_l00Src_among r3.2 [(-1), 0, 1, 7, 999, 1000]).bind fun r5 =>
 some ((GBlades.mk r1.1 r5.1), r5.2))
 else
 some ((GBlades.mk r1.1 (w64 (r1.1 * (w64 (1 + r2.1))))), r3.2)
/-- loop.example/g01063/spec.DrawBestOffset -/
def spec_DrawBestOffset (code1 : List Int) : Option (GBlades × GBlades) :=
 (spec_l00From code1).bind fun r1 =>
 (spec_l09Draw r1).bind fun r2 =>
 (spec_l09Draw r2.2).bind fun r3 =>
 some (r2.1, r3.1)
/-- loop.example/g01063/laws.FnOffsets -/
def laws_FnOffsets (code1 : List Int) : Option Bool :=
 (laws_f6big code1).bind fun r1 =>
 if r1 then
 (some true)
 else
 (spec_DrawBestOffset code1).bind fun r2 =>
 (impl_BestOffset r2.1 r2.2).bind fun r3 =>
 (spec_BestOffset r2.1 r2.2).bind fun r4 =>
 ((if r3.2.2 = r4.2.2 then
 (if r3.1 = r4.1 then
 (some (!(decide (r3.2.1 = r4.2.1))))
 else
 some true)
 else
 some true) : Option Bool).bind fun (x1 : Bool) =>
 if x1 then
 (some false)
 else
 if r3.2.2 = 0 then
 ((impl_TwoWheels r2.1 r2.2 r4.1).bind fun r5 =>
 (impl_TwoWheels r2.1 r2.2 0).bind fun r6 =>
 if r5.2 = 0 then
 (if r5.1 = r4.2.1 then
 (if r6.2 = 0 then
 (some (decide (r6.1 ≤ r4.2.1)))
 else
 some false)
 else
 some false)
 else
 some false)
 else
 some true
/-- loop.example/g01063/spec.A2Fraction -/
def spec_A2Fraction (code1 : List Int) : Option GFraction :=
 (spec_l00From code1).bind fun r1 =>
 (spec_l02Draw r1).bind fun r2 =>
 some r2.1
/-- loop.example/g01063/laws.FnRates -/
def laws_FnRates (code1 : List Int) (more1 : List Int) : Option Bool :=
 (laws_a2Long code1 more1).bind fun r1 =>
 if r1 then
 (some true)
 else
 (spec_A2Fraction code1).bind fun r2 =>
 (spec_A2Fraction more1).bind fun r3 =>
 (laws_a2At more1 0 200).bind fun r4 =>
 (impl_WholeTurns r2 r4).bind fun r5 =>
 onS (S := Unit) (B := Empty) (R := Bool) (if r2.Num < 0 then
 (if r5.2 = 6 then
 (some (.next ()))
 else
 some (.ret false))
 else
 if r5.2 = 0 then
 (if r5.1 < 0 then
 (some (.ret false))
 else
 if r5.1 > 1000000 then
 (some (.ret false))
 else
 if (w64 (r5.1 * r2.Den)) > (w64 (r2.Num * r4)) then
 (some (.ret false))
 else
 if (w64 ((w64 (r5.1 + 1)) * r2.Den)) ≤ (w64 (r2.Num * r4)) then
 (some (.ret false))
 else
 some (.next ()))
 else
 some (.ret false))
 (fun (_ : Unit) => (laws_a2At more1 1 40).bind fun r6 =>
 (laws_a2At more1 2 40).bind fun r7 =>
 (impl_GearedRate r2 (w64 (8 + r6)) (w64 (8 + r7))).bind fun r8 =>
 (impl_GearedRate r8.1 (w64 (8 + r7)) (w64 (8 + r6))).bind fun r9 =>
 ((if r8.2 = 0 then
 (if (w64 ((w64 (r8.1.Num * r2.Den)) * (w64 (8 + r7)))) = (w64 ((w64 (r2.Num * (w64 (8 + r6)))) * r8.1.Den)) then
 (if r9.2 = 0 then
 (some (!(r9.1.Num == r2.Num && (r9.1.Den == r2.Den && true))))
 else
 some true)
 else
 some true)
 else
 some true) : Option Bool).bind fun (x1 : Bool) =>
 if x1 then
 (some false)
 else
 (impl_CommonTime r2 r3).bind fun r10 =>
 ((if r2.Num ≤ 0 then
 (some true)
 else
 some (decide (r3.Num ≤ 0))) : Option Bool).bind fun (x2 : Bool) =>
 if x2 then
 (some (decide (r10.2 = 6)))
 else
 ((if r10.2 = 0 then
 (if r10.1.Num < 1 then
 (some true)
 else
 if r10.1.Den < 1 then
 (some true)
 else
 if r10.1.Num > 1000000 then
 (some true)
 else
 if r10.1.Den > 1000000 then
 (some true)
 else
 (mod? (w64 (r2.Num * r10.1.Num)) (w64 (r2.Den * r10.1.Den))).bind fun q1 =>
 if q1 = 0 then
 ((mod? (w64 (r3.Num * r10.1.Num)) (w64 (r3.Den * r10.1.Den))).bind fun q2 =>
 some (!(decide (q2 = 0))))
 else
 some true)
 else
 some true) : Option Bool).bind fun (x3 : Bool) =>
 if x3 then
 (some false)
 else
 onL (loop (S := Int) (B := Unit) (R := Bool) (fun (k1 : Int) =>
 if k1 ≤ 60 then
 ((((mod? (w64 (r2.Num * r10.1.Num)) (w64 ((w64 (r2.Den * r10.1.Den)) * k1))).bind fun q3 =>
 if q3 = 0 then
 ((mod? (w64 (r3.Num * r10.1.Num)) (w64 ((w64 (r3.Den * r10.1.Den)) * k1))).bind fun q4 =>
 some (decide (q4 = 0)))
 else
 some false) : Option Bool).bind fun (x4 : Bool) =>
 if x4 then
 (some (.ret false))
 else
 some (.next (w64 (k1 + 1))))
 else
 some (.brk ())) loopLim 2)
 (fun (_ : Unit) => some true) (fun r => some r))
 Empty.elim (fun r => some r)
/-- loop.example/g01063/spec.l09DrawLeast -/
def spec_l09DrawLeast (s1 : GL00Src) : Option (Int × GL00Src) :=
 (spec_l00Src_one s1 10).bind fun r1 =>
 if r1.1 then
 ((spec_l00Src_among r1.2 [(-1), 0, 1, 200, 201, (-9223372036854775808)]).bind fun r2 =>
 some (r2.1, r2.2))
 else
 (spec_l00Src_pick r1.2 60).bind fun r3 =>
 some (w64 (5 + r3.1), r3.2)
/-- loop.example/g01063/spec.l09DrawRate -/
def spec_l09DrawRate (s1 : GL00Src) : Option (GFraction × GL00Src) :=
 (spec_l00Src_pick s1 12).bind fun r1 =>
 if r1.1 = 0 then
 ((spec_l02Bent r1.2).bind fun r2 =>
 some (r2.1, r2.2))
 else
 if r1.1 = 1 then
 ((spec_l00Src_among r1.2 [(-1), 1, 999, 1000, 1001]).bind fun r3 =>
 some ((GFraction.mk r3.1 1), r3.2))
 else
 if r1.1 = 2 then
 ((spec_l00Src_among r1.2 [1, 1000, 1001]).bind fun r4 =>
 some ((GFraction.mk 1 r4.1), r4.2))
 else
 (spec_l00Src_pick r1.2 90).bind fun r5 =>
 (spec_l00Src_pick r5.2 9).bind fun r6 =>
 (spec_l02Make (w64 (1 + r5.1)) (w64 (1 + r6.1))).bind fun r7 =>
 some (r7, r6.2)
/-- loop.example/g01063/spec.DrawFewestBlades -/
def spec_DrawFewestBlades (code1 : List Int) : Option (GFraction × Int) :=
 (spec_l00From code1).bind fun r1 =>
 (spec_l09DrawRate r1).bind fun r2 =>
 (spec_l09DrawLeast r2.2).bind fun r3 =>
 some (r2.1, r3.1)
/-- loop.example/g01063/spec.DrawIsSteady -/
def spec_DrawIsSteady (code1 : List Int) : Option (GBlades × GFraction × Int) :=
 (spec_l00From code1).bind fun r1 =>
 (spec_l09Draw r1).bind fun r2 =>
 (spec_l09DrawRate r2.2).bind fun r3 =>
 (spec_l09DrawLeast r3.2).bind fun r4 =>
 some (r2.1, r3.1, r4.1)
/-- loop.example/g01063/spec.l00Min -/
def spec_l00Min (a1 : Int) (b1 : Int) : Option Int :=
 if a1 < b1 then
 (some a1)
 else
 some b1
/-- loop.example/g01063/spec.l09Part -/
def spec_l09Part (s1 : GL00Src) : Option (Int × GL00Src) :=
 (spec_l00Src_one s1 10).bind fun r1 =>
 if r1.1 then
 ((spec_l00Src_among r1.2 [(-1), 0, 999, 1000, 1001]).bind fun r2 =>
 some (r2.1, r2.2))
 else
 (spec_l00Src_pick r1.2 1000).bind fun r3 =>
 some (r3.1, r3.2)
/-- loop.example/g01063/spec.DrawOpenParts -/
def spec_DrawOpenParts (code1 : List Int) : Option (GBlades × Int × Int) :=
 (spec_l00From code1).bind fun r1 =>
 (spec_l09Draw r1).bind fun r2 =>
 (spec_l09Part r2.2).bind fun r3 =>
 (spec_l00Src_one r3.2 8).bind fun r4 =>
 if r4.1 then
 ((spec_l09Part r4.2).bind fun r5 =>
 some (r2.1, r3.1, r5.1))
 else
 (spec_l00Src_pick r4.2 300).bind fun r6 =>
 (spec_l00Min 1000 (w64 (r3.1 + r6.1))).bind fun r7 =>
 some (r2.1, r3.1, r7)
/-- loop.example/g01063/spec.DrawSlowestSteady -/
def spec_DrawSlowestSteady (code1 : List Int) : Option (GBlades × Int) :=
 (spec_l00From code1).bind fun r1 =>
 (spec_l09Draw r1).bind fun r2 =>
 (spec_l09DrawLeast r2.2).bind fun r3 =>
 some (r2.1, r3.1)
/-- loop.example/g01063/spec.l09Least -/
def spec_l09Least (n1 : Int) : Option Bool :=
 (spec_l00In n1 1 200).bind fun r1 =>
 some r1
/-- loop.example/g01063/spec.l09Rate -/
def spec_l09Rate (f1 : GFraction) : Option Bool :=
 (spec_l02Ok f1).bind fun r1 =>
 if r1 then
 ((spec_l00In f1.Num 1 1000).bind fun r2 =>
 if r2 then
 (some (decide (f1.Den ≤ 1000)))
 else
 some false)
 else
 some false
/-- loop.example/g01063/spec.FewestBlades -/
def spec_FewestBlades (rate1 : GFraction) (least1 : Int) : Option (Int × Int) :=
 (spec_l02Ok rate1).bind fun r1 =>
 if r1 then
 ((((spec_l09Rate rate1).bind fun r2 =>
 if r2 then
 ((spec_l09Least least1).bind fun r3 =>
 some (!r3))
 else
 some true) : Option Bool).bind fun (x1 : Bool) =>
 if x1 then
 (some (0, 2))
 else
 onL (loop (S := Int) (B := Unit) (R := (Int × Int)) (fun (n1 : Int) =>
 if n1 ≤ 12 then
 ((((mod? 1000 n1).bind fun q1 =>
 if q1 = 0 then
 (some (decide ((w64 (rate1.Num * n1)) ≥ (w64 (least1 * rate1.Den)))))
 else
 some false) : Option Bool).bind fun (x2 : Bool) =>
 if x2 then
 (some (.ret (n1, 0)))
 else
 some (.next (w64 (n1 + 1))))
 else
 some (.brk ())) loopLim 1)
 (fun (_ : Unit) => some (0, 3)) (fun r => some r))
 else
 some (0, 1)
/-- loop.example/g01063/spec.l09Code -/
def spec_l09Code (b1 : GBlades) (rate1 : GFraction) : Option Int :=
 (((spec_l09Ok b1).bind fun r1 =>
 if r1 then
 ((spec_l02Ok rate1).bind fun r2 =>
 some (!r2))
 else
 some true) : Option Bool).bind fun (x1 : Bool) =>
 if x1 then
 (some 1)
 else
 (spec_l09Rate rate1).bind fun r3 =>
 if r3 then
 (some 0)
 else
 some 2
/-- loop.example/g01063/spec.FlickerRate -/
def spec_FlickerRate (b1 : GBlades) (rate1 : GFraction) : Option (GFraction × Int) :=
 (spec_l09Code b1 rate1).bind fun r1 =>
 if r1 = 0 then
 ((spec_l02Make (w64 (rate1.Num * b1.Many)) rate1.Den).bind fun r2 =>
 some (r2, 0))
 else
 some ((GFraction.mk 0 0), r1)
/-- loop.example/g01063/spec.IsSteady -/
def spec_IsSteady (b1 : GBlades) (rate1 : GFraction) (least1 : Int) : Option (Bool × Int) :=
 (spec_l09Code b1 rate1).bind fun r1 =>
 ((if r1 = 0 then
 ((spec_l09Least least1).bind fun r2 =>
 some (!r2))
 else
 some false) : Option Bool).bind fun (x1 : Bool) =>
 ((if x1 then
 (some 2)
 else
 some r1) : Option Int).bind fun (code1 : Int) =>
 if code1 = 0 then
 (some ((decide ((w64 (rate1.Num * b1.Many)) ≥ (w64 (least1 * rate1.Den)))), 0))
 else
 some (false, code1)
/-- loop.example/g01063/spec.OpenParts -/
def spec_OpenParts (b1 : GBlades) (from_1 : Int) (to_1 : Int) : Option (Int × Int) :=
 (spec_l09Ok b1).bind fun r1 =>
 if r1 then
 ((((spec_l00In from_1 0 1000).bind fun r2 =>
 if r2 then
 ((spec_l00In to_1 from_1 1000).bind fun r3 =>
 some (!r3))
 else
 some true) : Option Bool).bind fun (x1 : Bool) =>
 if x1 then
 (some (0, 2))
 else
 onL (loop (S := (Int × Int)) (B := Int) (R := Empty) (fun ((n1, part1) : Int × Int) =>
 if part1 < to_1 then
 ((spec_l09Open b1 part1).bind fun r4 =>
 if r4 then
 (some (.next (w64 (n1 + 1), w64 (part1 + 1))))
 else
 some (.next (n1, w64 (part1 + 1))))
 else
 some (.brk n1)) loopLim (0, from_1))
 (fun (n2 : Int) => some (n2, 0)) Empty.elim)
 else
 some (0, 1)
/-- loop.example/g01063/spec.SlowestSteady -/
def spec_SlowestSteady (b1 : GBlades) (least1 : Int) : Option (GFraction × Int) :=
 (spec_l09Ok b1).bind fun r1 =>
 if r1 then
 ((spec_l09Least least1).bind fun r2 =>
 if r2 then
 ((spec_l02Make least1 b1.Many).bind fun r3 =>
 some (r3, 0))
 else
 some ((GFraction.mk 0 0), 2))
 else
 some ((GFraction.mk 0 0), 1)
/-- loop.example/g01063/spec.ValidBlades -/
def spec_ValidBlades (b1 : GBlades) : Option Bool :=
 (spec_l09Ok b1).bind fun r1 =>
 some r1
/-- loop.example/g01063/laws.FnSteady -/
def laws_FnSteady (code1 : List Int) : Option Bool :=
 (laws_f6big code1).bind fun r1 =>
 if r1 then
 (some true)
 else
 (spec_DrawIsSteady code1).bind fun r2 =>
 (impl_IsSteady r2.1 r2.2.1 r2.2.2).bind fun r3 =>
 (spec_IsSteady r2.1 r2.2.1 r2.2.2).bind fun r4 =>
 (spec_DrawFewestBlades code1).bind fun r5 =>
 (impl_FewestBlades r5.1 r5.2).bind fun r6 =>
 (spec_FewestBlades r5.1 r5.2).bind fun r7 =>
 (spec_DrawSlowestSteady code1).bind fun r8 =>
 (impl_SlowestSteady r8.1 r8.2).bind fun r9 =>
 (spec_SlowestSteady r8.1 r8.2).bind fun r10 =>
 (spec_DrawOpenParts code1).bind fun r11 =>
 (impl_OpenParts r11.1 r11.2.1 r11.2.2).bind fun r12 =>
 (spec_OpenParts r11.1 r11.2.1 r11.2.2).bind fun r13 =>
 (impl_FlickerRate r2.1 r2.2.1).bind fun r14 =>
 (spec_FlickerRate r2.1 r2.2.1).bind fun r15 =>
 ((if r3.2 = r4.2 then
 (if (r3.1 == r4.1) then
 (if r6.2 = r7.2 then
 (if r6.1 = r7.1 then
 (if r9.2 = r10.2 then
 (if (r9.1.Num == r10.1.Num && (r9.1.Den == r10.1.Den && true)) then
 (if r12.2 = r13.2 then
 (if r12.1 = r13.1 then
 (if r14.2 = r15.2 then
 (if (r14.1.Num == r15.1.Num && (r14.1.Den == r15.1.Den && true)) then
 ((impl_ValidBlades r2.1).bind fun r16 =>
 (spec_ValidBlades r2.1).bind fun r17 =>
 some (!(r16 == r17)))
 else
 some true)
 else
 some true)
 else
 some true)
 else
 some true)
 else
 some true)
 else
 some true)
 else
 some true)
 else
 some true)
 else
 some true)
 else
 some true) : Option Bool).bind fun (x1 : Bool) =>
 if x1 then
 (some false)
 else
 ((if r3.2 = 0 then
 (some (!(r4.1 == (decide (r15.1.Num ≥ (w64 (r2.2.2 * r15.1.Den)))))))
 else
 some false) : Option Bool).bind fun (x2 : Bool) =>
 if x2 then
 (some false)
 else
 onS (S := Unit) (B := Empty) (R := Bool) (if r6.2 = 0 then
 ((impl_IsSteady (GBlades.mk r7.1 r7.1) r5.1 r5.2).bind fun r18 =>
 if r18.2 = 0 then
 (if r18.1 then
 (some (.next ()))
 else
 some (.ret false))
 else
 some (.ret false))
 else
 some (.next ()))
 (fun (_ : Unit) => ((if r9.2 = 0 then
 (if r8.2 ≤ 200 then
 (some (decide (r10.1.Num ≤ 1000)))
 else
 some false)
 else
 some false) : Option Bool).bind fun (x3 : Bool) =>
 onS (S := Unit) (B := Empty) (R := Bool) (if x3 then
 ((impl_IsSteady r8.1 r10.1 r8.2).bind fun r19 =>
 if r19.2 = 0 then
 (if r19.1 then
 (some (.next ()))
 else
 some (.ret false))
 else
 some (.ret false))
 else
 some (.next ()))
 (fun (_ : Unit) => if r12.2 = 0 then
 (onL (loop (S := (Int × Int)) (B := Int) (R := Bool) (fun ((count1, k1) : Int × Int) =>
 if k1 < r11.2.2 then
 ((impl_IsOpenAt r11.1 k1).bind fun r20 =>
 if r20.2 = 0 then
 (if r20.1 then
 (some (.next (w64 (count1 + 1), w64 (k1 + 1))))
 else
 some (.next (count1, w64 (k1 + 1))))
 else
 some (.ret false))
 else
 some (.brk count1)) loopLim (0, r11.2.1))
 (fun (count2 : Int) => some (decide (count2 = r13.1))) (fun r => some r))
 else
 some true)
 Empty.elim (fun r => some r))
 Empty.elim (fun r => some r)
/-- loop.example/g01063/spec.DrawIsOpenAt -/
def spec_DrawIsOpenAt (code1 : List Int) : Option (GBlades × Int) :=
 (spec_l00From code1).bind fun r1 =>
 (spec_l09Draw r1).bind fun r2 =>
 (spec_l09Part r2.2).bind fun r3 =>
 some (r2.1, r3.1)
/-- loop.example/g01063/spec.DrawLitShare -/
def spec_DrawLitShare (code1 : List Int) : Option GBlades :=
 (spec_l00From code1).bind fun r1 =>
 (spec_l09Draw r1).bind fun r2 =>
 some r2.1
/-- loop.example/g01063/spec.l09With -/
def spec_l09With (code1 : List Int) : Option (GBlades × GFraction) :=
 (spec_l00From code1).bind fun r1 =>
 (spec_l09Draw r1).bind fun r2 =>
 (spec_l09DrawRate r2.2).bind fun r3 =>
 some (r2.1, r3.1)
/-- loop.example/g01063/spec.DrawLongestDark -/
def spec_DrawLongestDark (code1 : List Int) : Option (GBlades × GFraction) :=
 (spec_l09With code1).bind fun r1 =>
 some (r1.1, r1.2)
/-- loop.example/g01063/spec.DrawTwoWheels -/
def spec_DrawTwoWheels (code1 : List Int) : Option (GBlades × GBlades × Int) :=
 (spec_l00From code1).bind fun r1 =>
 (spec_l09Draw r1).bind fun r2 =>
 (spec_l09Draw r2.2).bind fun r3 =>
 (spec_l09Part r3.2).bind fun r4 =>
 some (r2.1, r3.1, r4.1)
/-- loop.example/g01063/spec.IsOpenAt -/
def spec_IsOpenAt (b1 : GBlades) (part1 : Int) : Option (Bool × Int) :=
 (spec_l09Ok b1).bind fun r1 =>
 if r1 then
 ((spec_l00In part1 0 999).bind fun r2 =>
 if r2 then
 ((spec_l09Open b1 part1).bind fun r3 =>
 some (r3, 0))
 else
 some (false, 2))
 else
 some (false, 1)
/-- loop.example/g01063/spec.LitShare -/
def spec_LitShare (b1 : GBlades) : Option (GFraction × Int) :=
 (spec_l09Ok b1).bind fun r1 =>
 if r1 then
 ((spec_l02Make b1.Open 1000).bind fun r2 =>
 some (r2, 0))
 else
 some ((GFraction.mk 0 0), 1)
/-- loop.example/g01063/spec.LongestDark -/
def spec_LongestDark (b1 : GBlades) (rate1 : GFraction) : Option (GFraction × Int) :=
 (spec_l09Code b1 rate1).bind fun r1 =>
 if r1 = 0 then
 ((div? .i64 (w64 (1000 - b1.Open)) b1.Many).bind fun q1 =>
 (spec_l02Make (w64 (q1 * rate1.Den)) (w64 (1000 * rate1.Num))).bind fun r2 =>
 some (r2, 0))
 else
 some ((GFraction.mk 0 0), r1)
/-- loop.example/g01063/spec.TwoWheels -/
def spec_TwoWheels (a1 : GBlades) (b1 : GBlades) (by_1 : Int) : Option (Int × Int) :=
 (((spec_l09Ok a1).bind fun r1 =>
 if r1 then
 ((spec_l09Ok b1).bind fun r2 =>
 some (!r2))
 else
 some true) : Option Bool).bind fun (x1 : Bool) =>
 if x1 then
 (some (0, 1))
 else
 (spec_l00In by_1 0 999).bind fun r3 =>
 if r3 then
 ((spec_l09Both a1 b1 by_1).bind fun r4 =>
 some (r4, 0))
 else
 some (0, 2)
/-- loop.example/g01063/laws.FnWheelsOfLight -/
def laws_FnWheelsOfLight (code1 : List Int) : Option Bool :=
 (laws_f6big code1).bind fun r1 =>
 if r1 then
 (some true)
 else
 (spec_DrawTwoWheels code1).bind fun r2 =>
 (impl_TwoWheels r2.1 r2.2.1 r2.2.2).bind fun r3 =>
 (spec_TwoWheels r2.1 r2.2.1 r2.2.2).bind fun r4 =>
 (spec_DrawLitShare code1).bind fun r5 =>
 (impl_LitShare r5).bind fun r6 =>
 (spec_LitShare r5).bind fun r7 =>
 (spec_DrawLongestDark code1).bind fun r8 =>
 (impl_LongestDark r8.1 r8.2).bind fun r9 =>
 (spec_LongestDark r8.1 r8.2).bind fun r10 =>
 (spec_DrawIsOpenAt code1).bind fun r11 =>
 (impl_IsOpenAt r11.1 r11.2).bind fun r12 =>
 (spec_IsOpenAt r11.1 r11.2).bind fun r13 =>
 ((if r3.2 = r4.2 then
 (if r3.1 = r4.1 then
 (if r6.2 = r7.2 then
 (if (r6.1.Num == r7.1.Num && (r6.1.Den == r7.1.Den && true)) then
 (if r9.2 = r10.2 then
 (if (r9.1.Num == r10.1.Num && (r9.1.Den == r10.1.Den && true)) then
 (if r12.2 = r13.2 then
 (some (!(r12.1 == r13.1)))
 else
 some true)
 else
 some true)
 else
 some true)
 else
 some true)
 else
 some true)
 else
 some true)
 else
 some true) : Option Bool).bind fun (x1 : Bool) =>
 if x1 then
 (some false)
 else
 onS (S := Unit) (B := Empty) (R := Bool) (if r6.2 = 0 then
 ((impl_OpenParts r5 0 1000).bind fun r14 =>
 if r14.2 = 0 then
 (if r14.1 = r5.Open then
 (if (w64 (r7.1.Num * 1000)) = (w64 (r14.1 * r7.1.Den)) then
 (some (.next ()))
 else
 some (.ret false))
 else
 some (.ret false))
 else
 some (.ret false))
 else
 some (.next ()))
 (fun (_ : Unit) => ((if r9.2 = 0 then
 (some (decide (r10.1.Num < 0)))
 else
 some false) : Option Bool).bind fun (x2 : Bool) =>
 if x2 then
 (some false)
 else
 if r3.2 = 0 then
 (if r4.1 ≥ 0 then
 (if r4.1 ≤ (imin r2.1.Open r2.2.1.Open) then
 (some (decide (r4.1 ≥ (w64 ((w64 (r2.1.Open + r2.2.1.Open)) - 1000)))))
 else
 some false)
 else
 some false)
 else
 some true)
 Empty.elim (fun r => some r)
/-- loop.example/g01063/spec.l11Less -/
def spec_l11Less (a1 : List Int) (b1 : List Int) : Option Bool :=
 if (a1.length : Int) = (b1.length : Int) then
 (onL (loop (S := Int) (B := Unit) (R := Bool) (fun (i1 : Int) =>
 if i1 < (a1.length : Int) then
 ((at? a1 i1).bind fun v1 =>
 (at? b1 i1).bind fun v2 =>
 if v1 = v2 then
 (some (.next (w64 (i1 + 1))))
 else
 (at? a1 i1).bind fun v3 =>
 (at? b1 i1).bind fun v4 =>
 some (.ret (decide (v3 < v4))))
 else
 some (.brk ())) loopLim 0)
 (fun (_ : Unit) => some false) (fun r => some r))
 else
 some (decide ((a1.length : Int) < (b1.length : Int)))
/-- loop.example/g01063/spec.l12Some -/
def spec_l12Some (n1 : Int) (bits1 : Int) : Option (List Int) :=
 onL (loop (S := ((List Int) × Int)) (B := (List Int)) (R := Empty) (fun ((out1, k1) : (List Int) × Int) =>
 if k1 < n1 then
 ((shr? .i64 bits1 (IntKind.wrap .u64 (k1))).bind fun q1 =>
 if (bit_and .i64 q1 1) = 1 then
 ((app? out1 ([k1] : List Int)).bind fun l1 =>
 some (.next (l1, w64 (k1 + 1))))
 else
 some (.next (out1, w64 (k1 + 1))))
 else
 some (.brk out1)) loopLim ([], 0))
 (fun (out2 : List Int) => some out2) Empty.elim
/-- loop.example/g01063/spec.l12Sum -/
def spec_l12Sum (lamps1 : List Int) (bits1 : Int) : Option Int :=
 onL (loop (S := (Int × Int)) (B := Int) (R := Empty) (fun ((sum1, k1) : Int × Int) =>
 if k1 < (lamps1.length : Int) then
 ((shr? .i64 bits1 (IntKind.wrap .u64 (k1))).bind fun q1 =>
 if (bit_and .i64 q1 1) = 1 then
 ((at? lamps1 k1).bind fun v1 =>
 some (.next (w64 (sum1 + v1), w64 (k1 + 1))))
 else
 some (.next (sum1, w64 (k1 + 1))))
 else
 some (.brk sum1)) loopLim (0, 0))
 (fun (sum2 : Int) => some sum2) Empty.elim
/-- loop.example/g01063/spec.l21Table -/
def spec_l21Table (x1 : GLamp) (ticks1 : Int) : Option (List (List Int)) :=
 (mk? (w64 (x1.Limit + 1)) (0 : Int)).bind fun l1 =>
 onL (loop (S := ((List (List Int)) × Int)) (B := (List (List Int))) (R := Empty) (fun ((out1, k1) : (List (List Int)) × Int) =>
 if k1 ≤ ticks1 then
 (onL (loop (S := ((List Int) × Int)) (B := (List Int)) (R := Empty) (fun ((row1, heat1) : (List Int) × Int) =>
 if heat1 ≤ x1.Limit then
 ((at? out1 (w64 (k1 - 1))).bind fun v1 =>
 (spec_l21Next x1 heat1 false).bind fun r1 =>
 (at? v1 r1).bind fun v2 =>
 ((if (w64 (heat1 + x1.Heats)) ≤ x1.Limit then
 ((at? out1 (w64 (k1 - 1))).bind fun v3 =>
 (at? v3 (w64 (heat1 + x1.Heats))).bind fun v4 =>
 (spec_l00Max v2 (w64 (1 + v4))).bind fun r2 =>
 some r2)
 else
 some v2) : Option Int).bind fun (best1 : Int) =>
 (app? row1 ([best1] : List Int)).bind fun l2 =>
 some (.next (l2, w64 (heat1 + 1))))
 else
 some (.brk row1)) loopLim ([], 0))
 (fun (row2 : List Int) => (app? out1 ([row2] : List (List Int))).bind fun l3 =>
 some (.next (l3, w64 (k1 + 1)))) Empty.elim)
 else
 some (.brk out1)) loopLim ([l1], 1))
 (fun (out2 : List (List Int)) => some out2) Empty.elim
/-- loop.example/g01063/spec.l21Ticks -/
def spec_l21Ticks (x1 : GLamp) (ticks1 : Int) : Option Int :=
 (spec_l21Ok x1).bind fun r1 =>
 if r1 then
 ((spec_l00In ticks1 0 60).bind fun r2 =>
 if r2 then
 (some 0)
 else
 some 2)
 else
 some 1
/-- loop.example/g01063/spec.BestBurning -/
def spec_BestBurning (x1 : GLamp) (ticks1 : Int) : Option ((List UInt8) × Int) :=
 (spec_l21Ticks x1 ticks1).bind fun r1 =>
 if r1 = 0 then
 ((spec_l21Table x1 ticks1).bind fun r2 =>
 onL (loop (S := ((List Int) × Int × Int)) (B := (List Int)) (R := Empty) (fun ((out1, heat1, left1) : (List Int) × Int × Int) =>
 if left1 > 0 then
 (((if (w64 (heat1 + x1.Heats)) ≤ x1.Limit then
 ((at? r2 (w64 (left1 - 1))).bind fun v1 =>
 (at? v1 (w64 (heat1 + x1.Heats))).bind fun v2 =>
 (at? r2 left1).bind fun v3 =>
 (at? v3 heat1).bind fun v4 =>
 some (decide ((w64 (1 + v2)) = v4)))
 else
 some false) : Option Bool).bind fun (x2 : Bool) =>
 if x2 then
 ((app? out1 ([49] : List Int)).bind fun l1 =>
 some (.next (l1, w64 (heat1 + x1.Heats), w64 (left1 - 1))))
 else
 (app? out1 ([48] : List Int)).bind fun l2 =>
 (spec_l21Next x1 heat1 false).bind fun r3 =>
 some (.next (l2, r3, w64 (left1 - 1))))
 else
 some (.brk out1)) loopLim ([], 0, ticks1))
 (fun (out2 : List Int) => some (b2s out2, 0)) Empty.elim)
 else
 some ([], r1)
/-- loop.example/g01063/laws.FnExactBestBurning -/
def laws_FnExactBestBurning (aX1 : GLamp) (aTicks1 : Int) : Option Bool :=
 (laws_toLamp aX1).bind fun r1 =>
 (spec_BestBurning r1 aTicks1).bind fun r2 =>
 (laws_toLamp aX1).bind fun r3 =>
 (impl_BestBurning r3 aTicks1).bind fun r4 =>
 ((if (r4.1 == r2.1) then
 (some (!(decide (r4.2 = r2.2))))
 else
 some true) : Option Bool).bind fun (x1 : Bool) =>
 if x1 then
 (some false)
 else
 some true
/-- loop.example/g01063/spec.MostBurning -/
def spec_MostBurning (x1 : GLamp) (ticks1 : Int) : Option (Int × Int) :=
 (spec_l21Ticks x1 ticks1).bind fun r1 =>
 if r1 = 0 then
 ((spec_l21Table x1 ticks1).bind fun r2 =>
 (at? r2 ticks1).bind fun v1 =>
 (at? v1 0).bind fun v2 =>
 some (v2, 0))
 else
 some (0, r1)
/-- loop.example/g01063/laws.FnExactMostBurning -/
def laws_FnExactMostBurning (aX1 : GLamp) (aTicks1 : Int) : Option Bool :=
 (laws_toLamp aX1).bind fun r1 =>
 (spec_MostBurning r1 aTicks1).bind fun r2 =>
 (laws_toLamp aX1).bind fun r3 =>
 (impl_MostBurning r3 aTicks1).bind fun r4 =>
 ((if r4.1 = r2.1 then
 (some (!(decide (r4.2 = r2.2))))
 else
 some true) : Option Bool).bind fun (x1 : Bool) =>
 if x1 then
 (some false)
 else
 some true
end Go.Vs.G
