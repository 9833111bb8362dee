/- The functions that the law reaches, as typed Lean functions, printed by program. No conditions. -/
import Derived.Test.YtaaoecnfjibfcaaV5
set_option maxRecDepth 100000
open Go Go.Vs
namespace Go.Vs.G
structure GAct where
  Tick : Int
  Word : List UInt8
  Slide : List UInt8
  Many : Int
  deriving DecidableEq, Inhabited
structure GCue where
  At : Int
  Ticks : Int
  Hands : Int
  Slack : Int
  deriving DecidableEq, Inhabited
structure GFraction where
  Num : Int
  Den : Int
  deriving DecidableEq, Inhabited
structure GL00Src where
  code : List Int
  at_ : Int
  seed : Int
  deriving DecidableEq, Inhabited
structure GPoint where
  X : Int
  Y : Int
  deriving DecidableEq, Inhabited
structure GShown where
  On : Int
  Off : Int
  Fade : Int
  deriving DecidableEq, Inhabited
def GAct.enc (x : GAct) : Tree := .agg [.int .i64 x.Tick, .str x.Word, .str x.Slide, .int .i64 x.Many]
def GCue.enc (x : GCue) : Tree := .agg [.int .i64 x.At, .int .i64 x.Ticks, .int .i64 x.Hands, .int .i64 x.Slack]
def GPoint.enc (x : GPoint) : Tree := .agg [.int .i64 x.X, .int .i64 x.Y]
def GShown.enc (x : GShown) : Tree := .agg [.int .i64 x.On, .int .i64 x.Off, .int .i64 x.Fade]
def GAct.ok (x : GAct) : Prop := (okI .i64) x.Tick ∧ okS x.Word ∧ okS x.Slide ∧ (okI .i64) x.Many
def GCue.ok (x : GCue) : Prop := (okI .i64) x.At ∧ (okI .i64) x.Ticks ∧ (okI .i64) x.Hands ∧ (okI .i64) x.Slack
def GFraction.ok (x : GFraction) : Prop := (okI .i64) x.Num ∧ (okI .i64) x.Den
def GL00Src.ok (x : GL00Src) : Prop := (okL (okI .u8)) x.code ∧ (okI .i64) x.at_ ∧ (okI .u64) x.seed
def GPoint.ok (x : GPoint) : Prop := (okI .i64) x.X ∧ (okI .i64) x.Y
def GShown.ok (x : GShown) : Prop := (okI .i64) x.On ∧ (okI .i64) x.Off ∧ (okI .i64) x.Fade
/-- loop.example/g01063/impl.handsAt -/
def impl_handsAt (list1 : List GCue) (tick1 : Int) : Option Int :=
 onL (loop (S := (Int × Int)) (B := Int) (R := Empty) (fun ((sum1, x1) : Int × Int) =>
 if x1 < (list1.length : Int) then
 ((at? list1 x1).bind fun v1 =>
 ((if v1.At ≤ tick1 then
 (some (decide (tick1 < (w64 (v1.At + v1.Ticks)))))
 else
 some false) : Option Bool).bind fun (x2 : Bool) =>
 if x2 then
 (some (.next (w64 (sum1 + v1.Hands), w64 (x1 + 1))))
 else
 some (.next (sum1, w64 (x1 + 1))))
 else
 some (.brk sum1)) loopLim (0, 0))
 (fun (sum2 : Int) => some sum2) Empty.elim
/-- loop.example/g01063/impl.mostHands -/
def impl_mostHands (list1 : List GCue) : Option Int :=
 onL (loop (S := (Int × Int)) (B := Int) (R := Empty) (fun ((most1, x1) : Int × Int) =>
 if x1 < (list1.length : Int) then
 ((at? list1 x1).bind fun v1 =>
 (impl_handsAt list1 v1.At).bind fun r1 =>
 some (.next (imax most1 r1, w64 (x1 + 1))))
 else
 some (.brk most1)) loopLim (0, 0))
 (fun (most2 : Int) => some most2) Empty.elim
/-- loop.example/g01063/impl.shiftCues -/
def impl_shiftCues (list1 : List GCue) (shifts1 : List Int) : Option (List GCue) :=
 (cloneL list1).bind fun r1 =>
 onL (loop (S := ((List GCue) × Int)) (B := (List GCue)) (R := Empty) (fun ((out1, x1) : (List GCue) × Int) =>
 if x1 < (shifts1.length : Int) then
 ((at? shifts1 x1).bind fun v1 =>
 (at? out1 x1).bind fun v2 =>
 (at? out1 x1).bind fun v3 =>
 (at? (out1.set x1.toNat (GCue.mk (w64 (v2.At + v1)) v3.Ticks v3.Hands v3.Slack)) x1).bind fun v4 =>
 (at? (out1.set x1.toNat (GCue.mk (w64 (v2.At + v1)) v3.Ticks v3.Hands v3.Slack)) x1).bind fun v5 =>
 some (.next ((out1.set x1.toNat (GCue.mk (w64 (v2.At + v1)) v3.Ticks v3.Hands v3.Slack)).set x1.toNat (GCue.mk v5.At v5.Ticks v5.Hands (w64 (v4.Slack - v1))), w64 (x1 + 1))))
 else
 some (.brk out1)) loopLim (r1, 0))
 (fun (out2 : List GCue) => some out2) Empty.elim
/-- loop.example/g01063/impl.HandsWithSlack$1 -/
def impl_HandsWithSlack_1 (shifts1 : List Int) (x1 : Int) (x2 : List GCue) : Option (Int × (List GCue)) :=
 (impl_shiftCues x2 shifts1).bind fun r1 =>
 (impl_mostHands r1).bind fun r2 =>
 some (imin x1 r2, x2)
/-- loop.example/g01063/impl.within -/
def impl_within (n1 : Int) (low1 : Int) (high1 : Int) : Option Bool :=
 if n1 ≥ low1 then
 (some (decide (n1 ≤ high1)))
 else
 some false
/-- loop.example/g01063/impl.ValidCues$1 -/
def impl_ValidCues_1 (c1 : GCue) : Option Bool :=
 (impl_within c1.At 0 10000).bind fun r1 =>
 if r1 then
 ((impl_within c1.Ticks 1 1000).bind fun r2 =>
 if r2 then
 ((impl_within c1.Hands 1 4).bind fun r3 =>
 if r3 then
 ((impl_within c1.Slack 0 6).bind fun r4 =>
 some (!r4))
 else
 some true)
 else
 some true)
 else
 some true
/-- slices.IndexFunc[[]loop.example/g01063/impl.Cue,loop.example/g01063/impl.Cue] -/
def slices_IndexFunc_impl_Cue_impl_Cue_822 (s1 : List GCue) (f1 : GCue → Option Bool) : Option Int :=
 onL (loop (S := Int) (B := Unit) (R := Int) (fun (x1 : Int) =>
 if x1 < (s1.length : Int) then
 ((at? s1 x1).bind fun v1 =>
 (f1 v1).bind fun r1 =>
 if r1 then
 (some (.ret x1))
 else
 some (.next (w64 (x1 + 1))))
 else
 some (.brk ())) loopLim 0)
 (fun (_ : Unit) => some (-1)) (fun r => some r)
/-- slices.ContainsFunc[[]loop.example/g01063/impl.Cue,loop.example/g01063/impl.Cue] -/
def slices_ContainsFunc_impl_Cue_impl_Cue_800 (s1 : List GCue) (f1 : GCue → Option Bool) : Option Bool :=
 (slices_IndexFunc_impl_Cue_impl_Cue_822 s1 f1).bind fun r1 =>
 some (decide (r1 ≥ 0))
/-- loop.example/g01063/impl.ValidCues -/
def impl_ValidCues (list1 : List GCue) : Option Bool :=
 if (list1.length : Int) ≤ 6 then
 ((slices_ContainsFunc_impl_Cue_impl_Cue_800 list1 (fun a0 => impl_ValidCues_1 a0)).bind fun r1 =>
 some (!r1))
 else
 some false
/-- loop.example/g01063/impl.allShifts -/
def impl_allShifts_n {τ : Type} (list1 : List GCue) (yieldf : List Int → τ → Option τ) : Nat → List Int → τ → Option τ
 | 0, _, _ => none
 | n + 1, done1, st1 =>
   if (done1.length : Int) = (list1.length : Int) then
   ((yieldf done1 st1).bind fun st2 =>
   some st2)
   else
   onL (loop (S := (τ × Int)) (B := τ) (R := Empty) (fun ((yield1, by_1) : τ × Int) =>
   (at? list1 (done1.length : Int)).bind fun v1 =>
   if by_1 ≤ v1.Slack then
   ((cloneL done1).bind fun r1 =>
   (app? r1 ([by_1] : List Int)).bind fun l1 =>
   (impl_allShifts_n list1 yieldf n l1 yield1).bind fun r2 =>
   some (.next (r2, w64 (by_1 + 1))))
   else
   some (.brk yield1)) loopLim (st1, 0))
   (fun (yield2 : τ) => some yield2) Empty.elim
def impl_allShifts {τ : Type} (list1 : List GCue) (done1 : List Int) (yieldf : List Int → τ → Option τ) (st1 : τ) : Option τ := impl_allShifts_n list1 yieldf 8 done1 st1
/-- loop.example/g01063/impl.HandsWithSlack -/
def impl_HandsWithSlack (list1 : List GCue) : Option (Int × Int) :=
 (impl_ValidCues list1).bind fun r1 =>
 if r1 then
 ((impl_mostHands list1).bind fun r2 =>
 (impl_allShifts list1 [] (fun a0 (x : Int × (List GCue)) => impl_HandsWithSlack_1 a0 x.1 x.2) (r2, list1)).bind fun st1 =>
 some (st1.1, 0))
 else
 some (0, 1)
/-- loop.example/g01063/impl.sumOf -/
def impl_sumOf (list1 : List Int) : Option Int :=
 onL (loop (S := (Int × Int)) (B := Int) (R := Empty) (fun ((sum1, x1) : Int × Int) =>
 if x1 < (list1.length : Int) then
 ((at? list1 x1).bind fun v1 =>
 some (.next (w64 (sum1 + v1), w64 (x1 + 1))))
 else
 some (.brk sum1)) loopLim (0, 0))
 (fun (sum2 : Int) => some sum2) Empty.elim
/-- loop.example/g01063/impl.LeastShifts$1 -/
def impl_LeastShifts_1 (shifts1 : List Int) (x1 : Int) (x2 : List GCue) (x3 : Int) (x4 : List Int) : Option (Int × (List GCue) × Int × (List Int)) :=
 (impl_sumOf shifts1).bind fun r1 =>
 ((if x1 < 0 then
 ((impl_shiftCues x2 shifts1).bind fun r2 =>
 (impl_mostHands r2).bind fun r3 =>
 some (decide (r3 ≤ x3)))
 else
 if r1 < x1 then
 ((impl_shiftCues x2 shifts1).bind fun r4 =>
 (impl_mostHands r4).bind fun r5 =>
 some (decide (r5 ≤ x3)))
 else
 some false) : Option Bool).bind fun (x5 : Bool) =>
 if x5 then
 ((cloneL shifts1).bind fun r6 =>
 some (r1, x2, x3, r6))
 else
 some (x1, x2, x3, x4)
/-- loop.example/g01063/impl.cuesCode -/
def impl_cuesCode (list1 : List GCue) (hands1 : Int) : Option Int :=
 (impl_ValidCues list1).bind fun r1 =>
 if r1 then
 ((impl_within hands1 0 24).bind fun r2 =>
 if r2 then
 (some 0)
 else
 some 2)
 else
 some 1
/-- loop.example/g01063/impl.LeastShifts -/
def impl_LeastShifts (list1 : List GCue) (hands1 : Int) : Option ((List Int) × Int) :=
 (impl_cuesCode list1 hands1).bind fun r1 =>
 if r1 = 0 then
 ((impl_allShifts list1 [] (fun a0 (x : Int × (List GCue) × Int × (List Int)) => impl_LeastShifts_1 a0 x.1 x.2.1 x.2.2.1 x.2.2.2) ((-1), list1, hands1, [])).bind fun st1 =>
 if st1.1 < 0 then
 (some ([], 3))
 else
 some (st1.2.2.2, 0))
 else
 some ([], r1)
/-- loop.example/g01063/impl.MostHands -/
def impl_MostHands (list1 : List GCue) : Option (Int × Int) :=
 (impl_ValidCues list1).bind fun r1 =>
 if r1 then
 ((impl_mostHands list1).bind fun r2 =>
 some (r2, 0))
 else
 some (0, 1)
/-- loop.example/g01063/laws.a2Long -/
def laws_a2Long (code1 : List Int) (more1 : List Int) : Option Bool :=
 if (code1.length : Int) > 3000 then
 (some true)
 else
 some (decide ((more1.length : Int) > 3000))
/-- loop.example/g01063/laws.a2Sum -/
def laws_a2Sum (list1 : List Int) : Option Int :=
 onL (loop (S := (Int × Int)) (B := Int) (R := Empty) (fun ((sum1, i1) : Int × Int) =>
 if i1 < (list1.length : Int) then
 ((at? list1 i1).bind fun v1 =>
 some (.next (w64 (sum1 + v1), w64 (i1 + 1))))
 else
 some (.brk sum1)) loopLim (0, 0))
 (fun (sum2 : Int) => some sum2) Empty.elim
/-- loop.example/g01063/spec.l00From -/
def spec_l00From (code1 : List Int) : Option GL00Src :=
 some (GL00Src.mk code1 0 0)
/-- (*loop.example/g01063/spec.l00Src).next -/
def spec_l00Src_next (s1 : GL00Src) : Option (Int × GL00Src) :=
 ((if s1.at_ < (s1.code.length : Int) then
 ((at? s1.code s1.at_).bind fun v1 =>
 some (w64 (v1)))
 else
 some 0) : Option Int).bind fun (b1 : Int) =>
 if (w64 (s1.at_ + 1)) ≤ (s1.code.length : Int) then
 (some (b1, (GL00Src.mk s1.code (w64 (s1.at_ + 1)) (IntKind.wrap .u64 ((IntKind.wrap .u64 ((IntKind.wrap .u64 (s1.seed * 6364136223846793005)) + (IntKind.wrap .u64 (b1)))) + 1442695040888963407)))))
 else
 (shr? .u64 (IntKind.wrap .u64 ((IntKind.wrap .u64 ((IntKind.wrap .u64 (s1.seed * 6364136223846793005)) + (IntKind.wrap .u64 (b1)))) + 1442695040888963407)) 40).bind fun q1 =>
 some (w64 (bit_and .u64 q1 255), (GL00Src.mk s1.code (w64 (s1.at_ + 1)) (IntKind.wrap .u64 ((IntKind.wrap .u64 ((IntKind.wrap .u64 (s1.seed * 6364136223846793005)) + (IntKind.wrap .u64 (b1)))) + 1442695040888963407))))
/-- (*loop.example/g01063/spec.l00Src).pick -/
def spec_l00Src_pick (s1 : GL00Src) (n1 : Int) : Option (Int × GL00Src) :=
 if n1 ≤ 1 then
 (some (0, s1))
 else
 (spec_l00Src_next s1).bind fun r1 =>
 if n1 > 200 then
 ((spec_l00Src_next r1.2).bind fun r2 =>
 (mod? (w64 ((w64 (r1.1 * 256)) + r2.1)) n1).bind fun q1 =>
 some (q1, r2.2))
 else
 (mod? r1.1 n1).bind fun q2 =>
 some (q2, r1.2)
/-- loop.example/g01063/spec.l17Draw -/
def spec_l17Draw (s1 : GL00Src) : Option ((List GCue) × GL00Src) :=
 (spec_l00Src_pick s1 6).bind fun r1 =>
 onL (loop (S := (GL00Src × (List GCue) × Int)) (B := (GL00Src × (List GCue))) (R := Empty) (fun ((s2, out1, k1) : GL00Src × (List GCue) × Int) =>
 if k1 > 0 then
 ((spec_l00Src_pick s2 20).bind fun r2 =>
 (spec_l00Src_pick r2.2 7).bind fun r3 =>
 (spec_l00Src_pick r3.2 2).bind fun r4 =>
 (spec_l00Src_pick r4.2 5).bind fun r5 =>
 (app? out1 ([(GCue.mk r2.1 (w64 (1 + r3.1)) (w64 (1 + r4.1)) r5.1)] : List GCue)).bind fun l1 =>
 some (.next (r5.2, l1, w64 (k1 - 1))))
 else
 some (.brk (s2, out1))) loopLim (r1.2, [], r1.1))
 (fun ((s3, out2) : GL00Src × (List GCue)) => some (out2, s3)) Empty.elim
/-- loop.example/g01063/spec.A2Cues -/
def spec_A2Cues (code1 : List Int) : Option (List GCue) :=
 (spec_l00From code1).bind fun r1 =>
 (spec_l17Draw r1).bind fun r2 =>
 some r2.1
/-- loop.example/g01063/spec.l00Max -/
def spec_l00Max (a1 : Int) (b1 : Int) : Option Int :=
 if a1 > b1 then
 (some a1)
 else
 some b1
/-- loop.example/g01063/spec.l00In -/
def spec_l00In (n1 : Int) (low1 : Int) (high1 : Int) : Option Bool :=
 if n1 ≥ low1 then
 (some (decide (n1 ≤ high1)))
 else
 some false
/-- loop.example/g01063/spec.l17At -/
def spec_l17At (list1 : List GCue) (tick1 : Int) : Option Int :=
 onL (loop (S := (Int × Int)) (B := Int) (R := Empty) (fun ((sum1, i1) : Int × Int) =>
 if i1 < (list1.length : Int) then
 ((at? list1 i1).bind fun v1 =>
 (at? list1 i1).bind fun v2 =>
 (at? list1 i1).bind fun v3 =>
 (spec_l00In tick1 v1.At (w64 ((w64 (v2.At + v3.Ticks)) - 1))).bind fun r1 =>
 if r1 then
 ((at? list1 i1).bind fun v4 =>
 some (.next (w64 (sum1 + v4.Hands), w64 (i1 + 1))))
 else
 some (.next (sum1, w64 (i1 + 1))))
 else
 some (.brk sum1)) loopLim (0, 0))
 (fun (sum2 : Int) => some sum2) Empty.elim
/-- loop.example/g01063/spec.l17Most -/
def spec_l17Most (list1 : List GCue) : Option Int :=
 onL (loop (S := (Int × Int)) (B := Int) (R := Empty) (fun ((most1, i1) : Int × Int) =>
 if i1 < (list1.length : Int) then
 ((at? list1 i1).bind fun v1 =>
 (spec_l17At list1 v1.At).bind fun r1 =>
 (spec_l00Max most1 r1).bind fun r2 =>
 some (.next (r2, w64 (i1 + 1))))
 else
 some (.brk most1)) loopLim (0, 0))
 (fun (most2 : Int) => some most2) Empty.elim
/-- loop.example/g01063/spec.l17Ok -/
def spec_l17Ok (list1 : List GCue) : Option Bool :=
 onL (loop (S := Int) (B := Unit) (R := Bool) (fun (i1 : Int) =>
 if i1 < (list1.length : Int) then
 ((at? list1 i1).bind fun v1 =>
 (((spec_l00In v1.At 0 10000).bind fun r1 =>
 if r1 then
 ((spec_l00In v1.Ticks 1 1000).bind fun r2 =>
 if r2 then
 ((spec_l00In v1.Hands 1 4).bind fun r3 =>
 if r3 then
 ((spec_l00In v1.Slack 0 6).bind fun r4 =>
 some (!r4))
 else
 some true)
 else
 some true)
 else
 some true) : Option Bool).bind fun (x1 : Bool) =>
 if x1 then
 (some (.ret false))
 else
 some (.next (w64 (i1 + 1))))
 else
 some (.brk ())) loopLim 0)
 (fun (_ : Unit) => some (decide ((list1.length : Int) ≤ 6))) (fun r => some r)
/-- loop.example/g01063/spec.MostHands -/
def spec_MostHands (list1 : List GCue) : Option (Int × Int) :=
 (spec_l17Ok list1).bind fun r1 =>
 if r1 then
 ((spec_l17Most list1).bind fun r2 =>
 some (r2, 0))
 else
 some (0, 1)
/-- loop.example/g01063/spec.l17Shift -/
def spec_l17Shift (x1 : GCue) (by_1 : Int) : Option GCue :=
 some (GCue.mk (w64 (x1.At + by_1)) x1.Ticks x1.Hands (w64 (x1.Slack - by_1)))
/-- loop.example/g01063/spec.ShiftCues -/
def spec_ShiftCues (list1 : List GCue) (shifts1 : List Int) : Option ((List GCue) × Int) :=
 (spec_l17Ok list1).bind fun r1 =>
 if r1 then
 (if (shifts1.length : Int) = (list1.length : Int) then
 (onL (loop (S := ((List GCue) × Int)) (B := (List GCue)) (R := ((List GCue) × Int)) (fun ((out1, i1) : (List GCue) × Int) =>
 if i1 < (list1.length : Int) then
 ((at? shifts1 i1).bind fun v1 =>
 (at? list1 i1).bind fun v2 =>
 (spec_l00In v1 0 v2.Slack).bind fun r2 =>
 if r2 then
 ((at? list1 i1).bind fun v3 =>
 (at? shifts1 i1).bind fun v4 =>
 (spec_l17Shift v3 v4).bind fun r3 =>
 (app? out1 ([r3] : List GCue)).bind fun l1 =>
 some (.next (l1, w64 (i1 + 1))))
 else
 some (.ret ([], 2)))
 else
 some (.brk out1)) loopLim ([], 0))
 (fun (out2 : List GCue) => (spec_l17Ok out2).bind fun r4 =>
 if r4 then
 (some (out2, 0))
 else
 some ([], 5)) (fun r => some r))
 else
 some ([], 2))
 else
 some ([], 1)
/-- loop.example/g01063/laws.FnShifts -/
def laws_FnShifts (code1 : List Int) : Option Bool :=
 (laws_a2Long code1 []).bind fun r1 =>
 if r1 then
 (some true)
 else
 (spec_A2Cues code1).bind fun r2 =>
 (impl_HandsWithSlack r2).bind fun r3 =>
 (impl_MostHands r2).bind fun r4 =>
 ((if r3.2 = 0 then
 (if r3.1 < 0 then
 (some true)
 else
 if r4.2 = 0 then
 (if r3.1 > r4.1 then
 (some true)
 else
 some (!((decide (r3.1 = 0)) == (decide ((r2.length : Int) = 0)))))
 else
 some true)
 else
 some true) : Option Bool).bind fun (x1 : Bool) =>
 if x1 then
 (some false)
 else
 (impl_LeastShifts r2 r3.1).bind fun r5 =>
 (spec_ShiftCues r2 r5.1).bind fun r6 =>
 (spec_MostHands r6.1).bind fun r7 =>
 (impl_LeastShifts r2 r4.1).bind fun r8 =>
 ((if r5.2 = 0 then
 (if r6.2 = 0 then
 (if r7.2 = 0 then
 (if r7.1 > r3.1 then
 (some true)
 else
 if r8.2 = 0 then
 (if (r8.1.length : Int) = (r2.length : Int) then
 ((laws_a2Sum r8.1).bind fun r9 =>
 if r9 = 0 then
 ((laws_a2Sum r5.1).bind fun r10 =>
 some (!((decide (r10 = 0)) == (decide (r3.1 = r4.1)))))
 else
 some true)
 else
 some true)
 else
 some true)
 else
 some true)
 else
 some true)
 else
 some true) : Option Bool).bind fun (x2 : Bool) =>
 if x2 then
 (some false)
 else
 if r3.1 = 0 then
 (some true)
 else
 (impl_LeastShifts r2 (w64 (r3.1 - 1))).bind fun r11 =>
 some (decide (r11.2 = 3))
end Go.Vs.G
