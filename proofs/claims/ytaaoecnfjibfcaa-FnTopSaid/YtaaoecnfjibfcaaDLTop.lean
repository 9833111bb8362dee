/- The functions that the law reaches, as typed Lean functions, printed by program. No conditions. -/
import Derived.Test.YtaaoecnfjibfcaaV5
set_option maxRecDepth 100000
open Go Go.Vs
namespace Go.Vs.G
structure GAct where
  Tick : Int
  Word : List UInt8
  Slide : List UInt8
  Many : Int
  deriving DecidableEq, Inhabited
structure GCue where
  At : Int
  Ticks : Int
  Hands : Int
  Slack : Int
  deriving DecidableEq, Inhabited
structure GFraction where
  Num : Int
  Den : Int
  deriving DecidableEq, Inhabited
structure GL00Src where
  code : List Int
  at_ : Int
  seed : Int
  deriving DecidableEq, Inhabited
structure GPoint where
  X : Int
  Y : Int
  deriving DecidableEq, Inhabited
structure GShown where
  On : Int
  Off : Int
  Fade : Int
  deriving DecidableEq, Inhabited
def GAct.enc (x : GAct) : Tree := .agg [.int .i64 x.Tick, .str x.Word, .str x.Slide, .int .i64 x.Many]
def GCue.enc (x : GCue) : Tree := .agg [.int .i64 x.At, .int .i64 x.Ticks, .int .i64 x.Hands, .int .i64 x.Slack]
def GPoint.enc (x : GPoint) : Tree := .agg [.int .i64 x.X, .int .i64 x.Y]
def GShown.enc (x : GShown) : Tree := .agg [.int .i64 x.On, .int .i64 x.Off, .int .i64 x.Fade]
def GAct.ok (x : GAct) : Prop := (okI .i64) x.Tick ∧ okS x.Word ∧ okS x.Slide ∧ (okI .i64) x.Many
def GCue.ok (x : GCue) : Prop := (okI .i64) x.At ∧ (okI .i64) x.Ticks ∧ (okI .i64) x.Hands ∧ (okI .i64) x.Slack
def GFraction.ok (x : GFraction) : Prop := (okI .i64) x.Num ∧ (okI .i64) x.Den
def GL00Src.ok (x : GL00Src) : Prop := (okL (okI .u8)) x.code ∧ (okI .i64) x.at_ ∧ (okI .u64) x.seed
def GPoint.ok (x : GPoint) : Prop := (okI .i64) x.X ∧ (okI .i64) x.Y
def GShown.ok (x : GShown) : Prop := (okI .i64) x.On ∧ (okI .i64) x.Off ∧ (okI .i64) x.Fade
/-- slices.Index[[]byte,byte] -/
def slices_Index_byte_byte_830 (s1 : List Int) (v1 : Int) : Option Int :=
 onL (loop (S := Int) (B := Unit) (R := Int) (fun (x1 : Int) =>
 if x1 < (s1.length : Int) then
 ((at? s1 x1).bind fun v2 =>
 if v1 = v2 then
 (some (.ret x1))
 else
 some (.next (w64 (x1 + 1))))
 else
 some (.brk ())) loopLim 0)
 (fun (_ : Unit) => some (-1)) (fun r => some r)
/-- loop.example/g01063/impl.bestLoading -/
def impl_bestLoading (s1 : List UInt8) (places1 : Int) : Option (List Int) :=
 (mk? places1 (0 : Int)).bind fun l1 =>
 onL (loop (S := ((List Int) × (List Int) × Int)) (B := (List Int)) (R := Empty) (fun ((out1, magazine1, x1) : (List Int) × (List Int) × Int) =>
 if x1 < (s1.length : Int) then
 ((at? s1 x1).bind fun c1 =>
 (slices_Index_byte_byte_830 magazine1 (c1.toNat : Int)).bind fun r1 =>
 ((if r1 < 0 then
 ((slices_Index_byte_byte_830 magazine1 0).bind fun r2 =>
 some r2)
 else
 some r1) : Option Int).bind fun (k1 : Int) =>
 ((if k1 < 0 then
 (onL (loop (S := (Int × Int × Int)) (B := Int) (R := Empty) (fun ((k2, far1, x2) : Int × Int × Int) =>
 if x2 < (magazine1.length : Int) then
 ((at? magazine1 x2).bind fun v1 =>
 (sub? s1 x1 s1.length).bind fun s2 =>
 (strings_IndexByte s2 v1).bind fun r3 =>
 if r3 < 0 then
 (some (.brk x2))
 else
 if r3 > far1 then
 (some (.next (x2, r3, w64 (x2 + 1))))
 else
 some (.next (k2, far1, w64 (x2 + 1))))
 else
 some (.brk k2)) loopLim (0, (-1), 0))
 (fun (k3 : Int) => some k3) Empty.elim)
 else
 some k1) : Option Int).bind fun (k4 : Int) =>
 (at? s1 x1).bind fun c2 =>
 (at? magazine1 k4).bind fun v2 =>
 (app? out1 ([k4] : List Int)).bind fun l2 =>
 some (.next (l2, magazine1.set k4.toNat (c2.toNat : Int), w64 (x1 + 1))))
 else
 some (.brk out1)) loopLim ([], l1, 0))
 (fun (out2 : List Int) => some out2) Empty.elim
/-- loop.example/g01063/impl.isLetters -/
def impl_isLetters (s1 : List UInt8) (most1 : Int) : Option Bool :=
 onL (loop (S := Int) (B := Unit) (R := Bool) (fun (i1 : Int) =>
 if i1 < (s1.length : Int) then
 ((((at? s1 i1).bind fun c1 =>
 if (c1.toNat : Int) < 97 then
 (some true)
 else
 (at? s1 i1).bind fun c2 =>
 some (decide ((c2.toNat : Int) > 122))) : Option Bool).bind fun (x1 : Bool) =>
 if x1 then
 (some (.ret false))
 else
 some (.next (w64 (i1 + 1))))
 else
 some (.brk ())) loopLim 0)
 (fun (_ : Unit) => if (s1.length : Int) ≥ 1 then
 (some (decide ((s1.length : Int) ≤ most1)))
 else
 some false) (fun r => some r)
/-- loop.example/g01063/impl.ValidShowing -/
def impl_ValidShowing (s1 : List UInt8) : Option Bool :=
 if (s1 == []) then
 (some true)
 else
 (impl_isLetters s1 40).bind fun r1 =>
 some r1
/-- loop.example/g01063/impl.within -/
def impl_within (n1 : Int) (low1 : Int) (high1 : Int) : Option Bool :=
 if n1 ≥ low1 then
 (some (decide (n1 ≤ high1)))
 else
 some false
/-- loop.example/g01063/impl.showingCode -/
def impl_showingCode (s1 : List UInt8) (places1 : Int) : Option Int :=
 (impl_ValidShowing s1).bind fun r1 =>
 if r1 then
 ((impl_within places1 1 6).bind fun r2 =>
 if r2 then
 (some 0)
 else
 some 2)
 else
 some 1
/-- loop.example/g01063/impl.BestLoading -/
def impl_BestLoading (s1 : List UInt8) (places1 : Int) : Option ((List Int) × Int) :=
 (impl_showingCode s1 places1).bind fun r1 =>
 if r1 = 0 then
 ((impl_bestLoading s1 places1).bind fun r2 =>
 some (r2, 0))
 else
 some ([], r1)
/-- loop.example/g01063/impl.ValidMotion -/
def impl_ValidMotion (s1 : List UInt8) : Option Bool :=
 (impl_isLetters s1 24).bind fun r1 =>
 some r1
/-- loop.example/g01063/impl.nearest -/
def impl_nearest (pictures1 : Int) (slits1 : Int) (flash1 : Int) : Option Int :=
 (div? .i64 (w64 ((w64 ((w64 (2 * flash1)) * pictures1)) + slits1)) (w64 (2 * slits1))).bind fun q1 =>
 some q1
/-- loop.example/g01063/impl.seenOrder -/
def impl_seenOrder (pictures1 : Int) (slits1 : Int) : Option (List Int) :=
 onL (loop (S := ((List Int) × Int)) (B := (List Int)) (R := Empty) (fun ((out1, x1) : (List Int) × Int) =>
 if x1 < slits1 then
 ((impl_nearest pictures1 slits1 x1).bind fun r1 =>
 (mod? r1 pictures1).bind fun q1 =>
 (app? out1 ([q1] : List Int)).bind fun l1 =>
 some (.next (l1, w64 (x1 + 1))))
 else
 some (.brk out1)) loopLim ([], 0))
 (fun (out2 : List Int) => some out2) Empty.elim
/-- loop.example/g01063/impl.discFor -/
def impl_discFor (motion1 : List UInt8) (pictures1 : Int) : Option ((List UInt8) × Bool) :=
 (mk? pictures1 (0 : Int)).bind fun l1 =>
 (impl_seenOrder pictures1 (motion1.length : Int)).bind fun r1 =>
 onL (loop (S := ((List Int) × Int)) (B := (List Int)) (R := ((List UInt8) × Bool)) (fun ((out1, x1) : (List Int) × Int) =>
 if x1 < (r1.length : Int) then
 ((at? r1 x1).bind fun v1 =>
 (((at? out1 v1).bind fun v2 =>
 if v2 = 0 then
 (some false)
 else
 (at? out1 v1).bind fun v3 =>
 (at? motion1 x1).bind fun c1 =>
 some (!(decide (v3 = (c1.toNat : Int))))) : Option Bool).bind fun (x2 : Bool) =>
 if x2 then
 (some (.ret ([], false)))
 else
 (at? motion1 x1).bind fun c2 =>
 (at? out1 v1).bind fun v4 =>
 some (.next (out1.set v1.toNat (c2.toNat : Int), w64 (x1 + 1))))
 else
 some (.brk out1)) loopLim (l1, 0))
 (fun (out2 : List Int) => onL (loop (S := ((List Int) × Int)) (B := (List Int)) (R := Empty) (fun ((out3, k1) : (List Int) × Int) =>
 if k1 < (out3.length : Int) then
 ((at? out3 k1).bind fun v5 =>
 if v5 = 0 then
 ((at? out3 (w64 (k1 - 1))).bind fun v6 =>
 (at? out3 k1).bind fun v7 =>
 some (.next (out3.set k1.toNat v6, w64 (k1 + 1))))
 else
 some (.next (out3, w64 (k1 + 1))))
 else
 some (.brk out3)) loopLim (out2, 1))
 (fun (out4 : List Int) => some (b2s out4, true)) Empty.elim) (fun r => some r)
/-- loop.example/g01063/impl.DiscFor -/
def impl_DiscFor (motion1 : List UInt8) (pictures1 : Int) : Option ((List UInt8) × Int) :=
 (impl_ValidMotion motion1).bind fun r1 =>
 if r1 then
 ((impl_within pictures1 1 24).bind fun r2 =>
 if r2 then
 ((impl_discFor motion1 pictures1).bind fun r3 =>
 if r3.2 then
 (some (r3.1, 0))
 else
 some ([], 9))
 else
 some ([], 2))
 else
 some ([], 1)
/-- loop.example/g01063/impl.loadsOf -/
def impl_loadsOf (s1 : List UInt8) (places1 : Int) (plan1 : List Int) : Option Int :=
 (mk? places1 (0 : Int)).bind fun l1 =>
 onL (loop (S := ((List Int) × Int × Int)) (B := Int) (R := Empty) (fun ((magazine1, count1, x1) : (List Int) × Int × Int) =>
 if x1 < (plan1.length : Int) then
 ((at? plan1 x1).bind fun v1 =>
 (at? magazine1 v1).bind fun v2 =>
 (at? s1 x1).bind fun c1 =>
 if v2 = (c1.toNat : Int) then
 (some (.next (magazine1, count1, w64 (x1 + 1))))
 else
 (at? s1 x1).bind fun c2 =>
 (at? magazine1 v1).bind fun v3 =>
 some (.next (magazine1.set v1.toNat (c2.toNat : Int), w64 (count1 + 1), w64 (x1 + 1))))
 else
 some (.brk count1)) loopLim (l1, 0, 0))
 (fun (count2 : Int) => some count2) Empty.elim
/-- loop.example/g01063/impl.FewestLoads -/
def impl_FewestLoads (s1 : List UInt8) (places1 : Int) : Option (Int × Int) :=
 (impl_showingCode s1 places1).bind fun r1 =>
 if r1 = 0 then
 ((impl_bestLoading s1 places1).bind fun r2 =>
 (impl_loadsOf s1 places1 r2).bind fun r3 =>
 some (r3, 0))
 else
 some (0, r1)
/-- loop.example/g01063/impl.FewestPictures -/
def impl_FewestPictures (motion1 : List UInt8) : Option (Int × Int) :=
 (impl_ValidMotion motion1).bind fun r1 =>
 if r1 then
 (onL (loop (S := Int) (B := Int) (R := Empty) (fun (pictures1 : Int) =>
 if pictures1 < (motion1.length : Int) then
 ((impl_discFor motion1 pictures1).bind fun r2 =>
 if r2.2 then
 (some (.brk pictures1))
 else
 some (.next (w64 (pictures1 + 1))))
 else
 some (.brk pictures1)) loopLim 1)
 (fun (pictures2 : Int) => some (pictures2, 0)) Empty.elim)
 else
 some (0, 1)
/-- loop.example/g01063/impl.ValidCues$1 -/
def impl_ValidCues_1 (c1 : GCue) : Option Bool :=
 (impl_within c1.At 0 10000).bind fun r1 =>
 if r1 then
 ((impl_within c1.Ticks 1 1000).bind fun r2 =>
 if r2 then
 ((impl_within c1.Hands 1 4).bind fun r3 =>
 if r3 then
 ((impl_within c1.Slack 0 6).bind fun r4 =>
 some (!r4))
 else
 some true)
 else
 some true)
 else
 some true
/-- slices.IndexFunc[[]loop.example/g01063/impl.Cue,loop.example/g01063/impl.Cue] -/
def slices_IndexFunc_impl_Cue_impl_Cue_822 (s1 : List GCue) (f1 : GCue → Option Bool) : Option Int :=
 onL (loop (S := Int) (B := Unit) (R := Int) (fun (x1 : Int) =>
 if x1 < (s1.length : Int) then
 ((at? s1 x1).bind fun v1 =>
 (f1 v1).bind fun r1 =>
 if r1 then
 (some (.ret x1))
 else
 some (.next (w64 (x1 + 1))))
 else
 some (.brk ())) loopLim 0)
 (fun (_ : Unit) => some (-1)) (fun r => some r)
/-- slices.ContainsFunc[[]loop.example/g01063/impl.Cue,loop.example/g01063/impl.Cue] -/
def slices_ContainsFunc_impl_Cue_impl_Cue_800 (s1 : List GCue) (f1 : GCue → Option Bool) : Option Bool :=
 (slices_IndexFunc_impl_Cue_impl_Cue_822 s1 f1).bind fun r1 =>
 some (decide (r1 ≥ 0))
/-- loop.example/g01063/impl.ValidCues -/
def impl_ValidCues (list1 : List GCue) : Option Bool :=
 if (list1.length : Int) ≤ 6 then
 ((slices_ContainsFunc_impl_Cue_impl_Cue_800 list1 (fun a0 => impl_ValidCues_1 a0)).bind fun r1 =>
 some (!r1))
 else
 some false
/-- loop.example/g01063/impl.cuesCode -/
def impl_cuesCode (list1 : List GCue) (hands1 : Int) : Option Int :=
 (impl_ValidCues list1).bind fun r1 =>
 if r1 then
 ((impl_within hands1 0 24).bind fun r2 =>
 if r2 then
 (some 0)
 else
 some 2)
 else
 some 1
/-- loop.example/g01063/impl.handsAt -/
def impl_handsAt (list1 : List GCue) (tick1 : Int) : Option Int :=
 onL (loop (S := (Int × Int)) (B := Int) (R := Empty) (fun ((sum1, x1) : Int × Int) =>
 if x1 < (list1.length : Int) then
 ((at? list1 x1).bind fun v1 =>
 ((if v1.At ≤ tick1 then
 (some (decide (tick1 < (w64 (v1.At + v1.Ticks)))))
 else
 some false) : Option Bool).bind fun (x2 : Bool) =>
 if x2 then
 (some (.next (w64 (sum1 + v1.Hands), w64 (x1 + 1))))
 else
 some (.next (sum1, w64 (x1 + 1))))
 else
 some (.brk sum1)) loopLim (0, 0))
 (fun (sum2 : Int) => some sum2) Empty.elim
/-- loop.example/g01063/impl.FirstOverload -/
def impl_FirstOverload (list1 : List GCue) (hands1 : Int) : Option (Int × Int) :=
 (impl_cuesCode list1 hands1).bind fun r1 =>
 if r1 = 0 then
 (onL (loop (S := (Int × Int)) (B := Int) (R := Empty) (fun ((first1, x1) : Int × Int) =>
 if x1 < (list1.length : Int) then
 ((at? list1 x1).bind fun v1 =>
 (((impl_handsAt list1 v1.At).bind fun r2 =>
 if r2 > hands1 then
 (if first1 < 0 then
 (some true)
 else
 some (decide (v1.At < first1)))
 else
 some false) : Option Bool).bind fun (x2 : Bool) =>
 if x2 then
 (some (.next (v1.At, w64 (x1 + 1))))
 else
 some (.next (first1, w64 (x1 + 1))))
 else
 some (.brk first1)) loopLim ((-1), 0))
 (fun (first2 : Int) => if first2 < 0 then
 (some (0, 3))
 else
 some (first2, 0)) Empty.elim)
 else
 some (0, r1)
/-- loop.example/g01063/impl.mostHands -/
def impl_mostHands (list1 : List GCue) : Option Int :=
 onL (loop (S := (Int × Int)) (B := Int) (R := Empty) (fun ((most1, x1) : Int × Int) =>
 if x1 < (list1.length : Int) then
 ((at? list1 x1).bind fun v1 =>
 (impl_handsAt list1 v1.At).bind fun r1 =>
 some (.next (imax most1 r1, w64 (x1 + 1))))
 else
 some (.brk most1)) loopLim (0, 0))
 (fun (most2 : Int) => some most2) Empty.elim
/-- loop.example/g01063/impl.shiftCues -/
def impl_shiftCues (list1 : List GCue) (shifts1 : List Int) : Option (List GCue) :=
 (cloneL list1).bind fun r1 =>
 onL (loop (S := ((List GCue) × Int)) (B := (List GCue)) (R := Empty) (fun ((out1, x1) : (List GCue) × Int) =>
 if x1 < (shifts1.length : Int) then
 ((at? shifts1 x1).bind fun v1 =>
 (at? out1 x1).bind fun v2 =>
 (at? out1 x1).bind fun v3 =>
 (at? (out1.set x1.toNat (GCue.mk (w64 (v2.At + v1)) v3.Ticks v3.Hands v3.Slack)) x1).bind fun v4 =>
 (at? (out1.set x1.toNat (GCue.mk (w64 (v2.At + v1)) v3.Ticks v3.Hands v3.Slack)) x1).bind fun v5 =>
 some (.next ((out1.set x1.toNat (GCue.mk (w64 (v2.At + v1)) v3.Ticks v3.Hands v3.Slack)).set x1.toNat (GCue.mk v5.At v5.Ticks v5.Hands (w64 (v4.Slack - v1))), w64 (x1 + 1))))
 else
 some (.brk out1)) loopLim (r1, 0))
 (fun (out2 : List GCue) => some out2) Empty.elim
/-- loop.example/g01063/impl.sumOf -/
def impl_sumOf (list1 : List Int) : Option Int :=
 onL (loop (S := (Int × Int)) (B := Int) (R := Empty) (fun ((sum1, x1) : Int × Int) =>
 if x1 < (list1.length : Int) then
 ((at? list1 x1).bind fun v1 =>
 some (.next (w64 (sum1 + v1), w64 (x1 + 1))))
 else
 some (.brk sum1)) loopLim (0, 0))
 (fun (sum2 : Int) => some sum2) Empty.elim
/-- loop.example/g01063/impl.LeastShifts$1 -/
def impl_LeastShifts_1 (shifts1 : List Int) (x1 : Int) (x2 : List GCue) (x3 : Int) (x4 : List Int) : Option (Int × (List GCue) × Int × (List Int)) :=
 (impl_sumOf shifts1).bind fun r1 =>
 ((if x1 < 0 then
 ((impl_shiftCues x2 shifts1).bind fun r2 =>
 (impl_mostHands r2).bind fun r3 =>
 some (decide (r3 ≤ x3)))
 else
 if r1 < x1 then
 ((impl_shiftCues x2 shifts1).bind fun r4 =>
 (impl_mostHands r4).bind fun r5 =>
 some (decide (r5 ≤ x3)))
 else
 some false) : Option Bool).bind fun (x5 : Bool) =>
 if x5 then
 ((cloneL shifts1).bind fun r6 =>
 some (r1, x2, x3, r6))
 else
 some (x1, x2, x3, x4)
/-- loop.example/g01063/impl.allShifts -/
def impl_allShifts_n {τ : Type} (list1 : List GCue) (yieldf : List Int → τ → Option τ) : Nat → List Int → τ → Option τ
 | 0, _, _ => none
 | n + 1, done1, st1 =>
   if (done1.length : Int) = (list1.length : Int) then
   ((yieldf done1 st1).bind fun st2 =>
   some st2)
   else
   onL (loop (S := (τ × Int)) (B := τ) (R := Empty) (fun ((yield1, by_1) : τ × Int) =>
   (at? list1 (done1.length : Int)).bind fun v1 =>
   if by_1 ≤ v1.Slack then
   ((cloneL done1).bind fun r1 =>
   (app? r1 ([by_1] : List Int)).bind fun l1 =>
   (impl_allShifts_n list1 yieldf n l1 yield1).bind fun r2 =>
   some (.next (r2, w64 (by_1 + 1))))
   else
   some (.brk yield1)) loopLim (st1, 0))
   (fun (yield2 : τ) => some yield2) Empty.elim
def impl_allShifts {τ : Type} (list1 : List GCue) (done1 : List Int) (yieldf : List Int → τ → Option τ) (st1 : τ) : Option τ := impl_allShifts_n list1 yieldf 8 done1 st1
/-- loop.example/g01063/impl.LeastShifts -/
def impl_LeastShifts (list1 : List GCue) (hands1 : Int) : Option ((List Int) × Int) :=
 (impl_cuesCode list1 hands1).bind fun r1 =>
 if r1 = 0 then
 ((impl_allShifts list1 [] (fun a0 (x : Int × (List GCue) × Int × (List Int)) => impl_LeastShifts_1 a0 x.1 x.2.1 x.2.2.1 x.2.2.2) ((-1), list1, hands1, [])).bind fun st1 =>
 if st1.1 < 0 then
 (some ([], 3))
 else
 some (st1.2.2.2, 0))
 else
 some ([], r1)
/-- loop.example/g01063/impl.LoadsOf$1 -/
def impl_LoadsOf_1 (k1 : Int) (x1 : Int) : Option Bool :=
 (impl_within k1 0 (w64 (x1 - 1))).bind fun r1 =>
 some (!r1)
/-- slices.IndexFunc[[]int64,int64] -/
def slices_IndexFunc_int64_int64_818 (s1 : List Int) (f1 : Int → Option Bool) : Option Int :=
 onL (loop (S := Int) (B := Unit) (R := Int) (fun (x1 : Int) =>
 if x1 < (s1.length : Int) then
 ((at? s1 x1).bind fun v1 =>
 (f1 v1).bind fun r1 =>
 if r1 then
 (some (.ret x1))
 else
 some (.next (w64 (x1 + 1))))
 else
 some (.brk ())) loopLim 0)
 (fun (_ : Unit) => some (-1)) (fun r => some r)
/-- slices.ContainsFunc[[]int64,int64] -/
def slices_ContainsFunc_int64_int64_796 (s1 : List Int) (f1 : Int → Option Bool) : Option Bool :=
 (slices_IndexFunc_int64_int64_818 s1 f1).bind fun r1 =>
 some (decide (r1 ≥ 0))
/-- loop.example/g01063/impl.LoadsOf -/
def impl_LoadsOf (s1 : List UInt8) (places1 : Int) (plan1 : List Int) : Option (Int × Int) :=
 (impl_showingCode s1 places1).bind fun r1 =>
 ((if r1 = 0 then
 (if (plan1.length : Int) = (s1.length : Int) then
 ((slices_ContainsFunc_int64_int64_796 plan1 (fun a0 => impl_LoadsOf_1 a0 places1)).bind fun r2 =>
 some r2)
 else
 some true)
 else
 some false) : Option Bool).bind fun (x1 : Bool) =>
 ((if x1 then
 (some 2)
 else
 some r1) : Option Int).bind fun (code1 : Int) =>
 if code1 = 0 then
 ((impl_loadsOf s1 places1 plan1).bind fun r3 =>
 some (r3, 0))
 else
 some (0, code1)
/-- loop.example/g01063/impl.MostHands -/
def impl_MostHands (list1 : List GCue) : Option (Int × Int) :=
 (impl_ValidCues list1).bind fun r1 =>
 if r1 then
 ((impl_mostHands list1).bind fun r2 =>
 some (r2, 0))
 else
 some (0, 1)
/-- loop.example/g01063/impl.MotionOf -/
def impl_MotionOf (disc1 : List UInt8) (slits1 : Int) : Option ((List UInt8) × Int) :=
 (impl_ValidMotion disc1).bind fun r1 =>
 if r1 then
 ((impl_within slits1 1 24).bind fun r2 =>
 if r2 then
 ((impl_seenOrder (disc1.length : Int) slits1).bind fun r3 =>
 onL (loop (S := ((List Int) × Int)) (B := (List Int)) (R := Empty) (fun ((out1, x1) : (List Int) × Int) =>
 if x1 < (r3.length : Int) then
 ((at? r3 x1).bind fun v1 =>
 (at? disc1 v1).bind fun c1 =>
 (app? out1 ([(c1.toNat : Int)] : List Int)).bind fun l1 =>
 some (.next (l1, w64 (x1 + 1))))
 else
 some (.brk out1)) loopLim ([], 0))
 (fun (out2 : List Int) => some (b2s out2, 0)) Empty.elim)
 else
 some ([], 2))
 else
 some ([], 1)
/-- loop.example/g01063/impl.ShiftCues -/
def impl_ShiftCues (list1 : List GCue) (shifts1 : List Int) : Option ((List GCue) × Int) :=
 (impl_ValidCues list1).bind fun r1 =>
 if r1 then
 (if (shifts1.length : Int) = (list1.length : Int) then
 (onL (loop (S := Int) (B := Unit) (R := ((List GCue) × Int)) (fun (x1 : Int) =>
 if x1 < (shifts1.length : Int) then
 ((at? shifts1 x1).bind fun v1 =>
 (at? list1 x1).bind fun v2 =>
 (impl_within v1 0 v2.Slack).bind fun r2 =>
 if r2 then
 (some (.next (w64 (x1 + 1))))
 else
 some (.ret ([], 2)))
 else
 some (.brk ())) loopLim 0)
 (fun (_ : Unit) => (impl_shiftCues list1 shifts1).bind fun r3 =>
 (impl_ValidCues r3).bind fun r4 =>
 if r4 then
 (some (r3, 0))
 else
 some ([], 5)) (fun r => some r))
 else
 some ([], 2))
 else
 some ([], 1)
/-- loop.example/g01063/laws.a2At -/
def laws_a2At (code1 : List Int) (at_1 : Int) (n1 : Int) : Option Int :=
 ((if at_1 ≥ (code1.length : Int) then
 (some true)
 else
 some (decide (n1 < 1))) : Option Bool).bind fun (x1 : Bool) =>
 if x1 then
 (some 0)
 else
 (at? code1 at_1).bind fun v1 =>
 (mod? (w64 (v1)) n1).bind fun q1 =>
 some q1
/-- loop.example/g01063/laws.a2Long -/
def laws_a2Long (code1 : List Int) (more1 : List Int) : Option Bool :=
 if (code1.length : Int) > 3000 then
 (some true)
 else
 some (decide ((more1.length : Int) > 3000))
/-- loop.example/g01063/laws.a2Sum -/
def laws_a2Sum (list1 : List Int) : Option Int :=
 onL (loop (S := (Int × Int)) (B := Int) (R := Empty) (fun ((sum1, i1) : Int × Int) =>
 if i1 < (list1.length : Int) then
 ((at? list1 i1).bind fun v1 =>
 some (.next (w64 (sum1 + v1), w64 (i1 + 1))))
 else
 some (.brk sum1)) loopLim (0, 0))
 (fun (sum2 : Int) => some sum2) Empty.elim
/-- loop.example/g01063/spec.l00From -/
def spec_l00From (code1 : List Int) : Option GL00Src :=
 some (GL00Src.mk code1 0 0)
/-- (*loop.example/g01063/spec.l00Src).next -/
def spec_l00Src_next (s1 : GL00Src) : Option (Int × GL00Src) :=
 ((if s1.at_ < (s1.code.length : Int) then
 ((at? s1.code s1.at_).bind fun v1 =>
 some (w64 (v1)))
 else
 some 0) : Option Int).bind fun (b1 : Int) =>
 if (w64 (s1.at_ + 1)) ≤ (s1.code.length : Int) then
 (some (b1, (GL00Src.mk s1.code (w64 (s1.at_ + 1)) (IntKind.wrap .u64 ((IntKind.wrap .u64 ((IntKind.wrap .u64 (s1.seed * 6364136223846793005)) + (IntKind.wrap .u64 (b1)))) + 1442695040888963407)))))
 else
 (shr? .u64 (IntKind.wrap .u64 ((IntKind.wrap .u64 ((IntKind.wrap .u64 (s1.seed * 6364136223846793005)) + (IntKind.wrap .u64 (b1)))) + 1442695040888963407)) 40).bind fun q1 =>
 some (w64 (bit_and .u64 q1 255), (GL00Src.mk s1.code (w64 (s1.at_ + 1)) (IntKind.wrap .u64 ((IntKind.wrap .u64 ((IntKind.wrap .u64 (s1.seed * 6364136223846793005)) + (IntKind.wrap .u64 (b1)))) + 1442695040888963407))))
/-- (*loop.example/g01063/spec.l00Src).pick -/
def spec_l00Src_pick (s1 : GL00Src) (n1 : Int) : Option (Int × GL00Src) :=
 if n1 ≤ 1 then
 (some (0, s1))
 else
 (spec_l00Src_next s1).bind fun r1 =>
 if n1 > 200 then
 ((spec_l00Src_next r1.2).bind fun r2 =>
 (mod? (w64 ((w64 (r1.1 * 256)) + r2.1)) n1).bind fun q1 =>
 some (q1, r2.2))
 else
 (mod? r1.1 n1).bind fun q2 =>
 some (q2, r1.2)
/-- loop.example/g01063/spec.l17Draw -/
def spec_l17Draw (s1 : GL00Src) : Option ((List GCue) × GL00Src) :=
 (spec_l00Src_pick s1 6).bind fun r1 =>
 onL (loop (S := (GL00Src × (List GCue) × Int)) (B := (GL00Src × (List GCue))) (R := Empty) (fun ((s2, out1, k1) : GL00Src × (List GCue) × Int) =>
 if k1 > 0 then
 ((spec_l00Src_pick s2 20).bind fun r2 =>
 (spec_l00Src_pick r2.2 7).bind fun r3 =>
 (spec_l00Src_pick r3.2 2).bind fun r4 =>
 (spec_l00Src_pick r4.2 5).bind fun r5 =>
 (app? out1 ([(GCue.mk r2.1 (w64 (1 + r3.1)) (w64 (1 + r4.1)) r5.1)] : List GCue)).bind fun l1 =>
 some (.next (r5.2, l1, w64 (k1 - 1))))
 else
 some (.brk (s2, out1))) loopLim (r1.2, [], r1.1))
 (fun ((s3, out2) : GL00Src × (List GCue)) => some (out2, s3)) Empty.elim
/-- loop.example/g01063/spec.A2Cues -/
def spec_A2Cues (code1 : List Int) : Option (List GCue) :=
 (spec_l00From code1).bind fun r1 =>
 (spec_l17Draw r1).bind fun r2 =>
 some r2.1
/-- loop.example/g01063/spec.l00Floor -/
def spec_l00Floor (num1 : Int) (den1 : Int) : Option Int :=
 (div? .i64 num1 den1).bind fun q1 =>
 (mod? num1 den1).bind fun q2 =>
 if q2 < 0 then
 (some (w64 (q1 - 1)))
 else
 some q1
/-- loop.example/g01063/spec.l00Round -/
def spec_l00Round (num1 : Int) (den1 : Int) : Option Int :=
 (spec_l00Floor (w64 ((w64 (2 * num1)) + den1)) (w64 (2 * den1))).bind fun r1 =>
 some r1
/-- loop.example/g01063/spec.l03Near -/
def spec_l03Near (pictures1 : Int) (slits1 : Int) (flash1 : Int) : Option Int :=
 (spec_l00Round (w64 (flash1 * pictures1)) slits1).bind fun r1 =>
 some r1
/-- loop.example/g01063/spec.l03Seen -/
def spec_l03Seen (pictures1 : Int) (slits1 : Int) (flash1 : Int) : Option Int :=
 (spec_l03Near pictures1 slits1 flash1).bind fun r1 =>
 (mod? r1 pictures1).bind fun q1 =>
 some q1
/-- loop.example/g01063/spec.l06Motion -/
def spec_l06Motion (disc1 : List UInt8) (slits1 : Int) : Option (List UInt8) :=
 onL (loop (S := ((List Int) × Int)) (B := (List Int)) (R := Empty) (fun ((out1, k1) : (List Int) × Int) =>
 if k1 < slits1 then
 ((spec_l03Seen (disc1.length : Int) slits1 k1).bind fun r1 =>
 (at? disc1 r1).bind fun c1 =>
 (app? out1 ([(c1.toNat : Int)] : List Int)).bind fun l1 =>
 some (.next (l1, w64 (k1 + 1))))
 else
 some (.brk out1)) loopLim ([], 0))
 (fun (out2 : List Int) => some (b2s out2)) Empty.elim
/-- loop.example/g01063/spec.l06Draw -/
def spec_l06Draw (s1 : GL00Src) : Option ((List UInt8) × GL00Src) :=
 (spec_l00Src_pick s1 6).bind fun r1 =>
 onL (loop (S := (GL00Src × (List Int) × Int)) (B := (GL00Src × (List Int))) (R := Empty) (fun ((s2, out1, k1) : GL00Src × (List Int) × Int) =>
 if k1 > 0 then
 ((spec_l00Src_pick s2 3).bind fun r2 =>
 (at? ([97, 98, 99] : List UInt8) r2.1).bind fun c1 =>
 (app? out1 ([(c1.toNat : Int)] : List Int)).bind fun l1 =>
 some (.next (r2.2, l1, w64 (k1 - 1))))
 else
 some (.brk (s2, out1))) loopLim (r1.2, [], w64 (1 + r1.1)))
 (fun ((s3, out2) : GL00Src × (List Int)) => (spec_l00Src_pick s3 4).bind fun r3 =>
 if r3.1 = 0 then
 ((app? (b2s out2 : List UInt8) (b2s out2)).bind fun s4 =>
 some (s4, r3.2))
 else
 if r3.1 = 1 then
 ((spec_l00Src_pick r3.2 12).bind fun r4 =>
 (spec_l06Motion (b2s out2) (w64 (1 + r4.1))).bind fun r5 =>
 some (r5, r4.2))
 else
 some (b2s out2, r3.2)) Empty.elim
/-- loop.example/g01063/spec.A2Motion -/
def spec_A2Motion (code1 : List Int) : Option (List UInt8) :=
 (spec_l00From code1).bind fun r1 =>
 (spec_l06Draw r1).bind fun r2 =>
 some r2.1
/-- loop.example/g01063/spec.A2Plan -/
def spec_A2Plan (code1 : List Int) (n1 : Int) (places1 : Int) : Option (List Int) :=
 (spec_l00From code1).bind fun r1 =>
 onL (loop (S := (GL00Src × (List Int) × Int)) (B := (List Int)) (R := Empty) (fun ((s1, out1, k1) : GL00Src × (List Int) × Int) =>
 if k1 < n1 then
 ((spec_l00Src_pick s1 places1).bind fun r2 =>
 (app? out1 ([r2.1] : List Int)).bind fun l1 =>
 some (.next (r2.2, l1, w64 (k1 + 1))))
 else
 some (.brk out1)) loopLim (r1, [], 0))
 (fun (out2 : List Int) => some out2) Empty.elim
/-- loop.example/g01063/spec.A2Shifts -/
def spec_A2Shifts (code1 : List Int) (list1 : List GCue) : Option (List Int) :=
 (spec_l00From code1).bind fun r1 =>
 onL (loop (S := (GL00Src × (List Int) × Int)) (B := (List Int)) (R := Empty) (fun ((s1, out1, i1) : GL00Src × (List Int) × Int) =>
 if i1 < (list1.length : Int) then
 ((at? list1 i1).bind fun v1 =>
 (spec_l00Src_pick s1 (w64 (v1.Slack + 1))).bind fun r2 =>
 (app? out1 ([r2.1] : List Int)).bind fun l1 =>
 some (.next (r2.2, l1, w64 (i1 + 1))))
 else
 some (.brk out1)) loopLim (r1, [], 0))
 (fun (out2 : List Int) => some out2) Empty.elim
/-- loop.example/g01063/spec.l20Draw -/
def spec_l20Draw (s1 : GL00Src) : Option ((List UInt8) × GL00Src) :=
 (spec_l00Src_pick s1 6).bind fun r1 =>
 (spec_l00Src_pick r1.2 20).bind fun r2 =>
 onL (loop (S := (GL00Src × (List Int) × Int)) (B := (GL00Src × (List Int))) (R := Empty) (fun ((s2, out1, k1) : GL00Src × (List Int) × Int) =>
 if k1 > 0 then
 ((spec_l00Src_pick s2 (w64 (2 + r1.1))).bind fun r3 =>
 (app? out1 ([IntKind.wrap .u8 (w64 (97 + r3.1))] : List Int)).bind fun l1 =>
 some (.next (r3.2, l1, w64 (k1 - 1))))
 else
 some (.brk (s2, out1))) loopLim (r2.2, [], r2.1))
 (fun ((s3, out2) : GL00Src × (List Int)) => some (b2s out2, s3)) Empty.elim
/-- loop.example/g01063/spec.A2Showing -/
def spec_A2Showing (code1 : List Int) : Option (List UInt8) :=
 (spec_l00From code1).bind fun r1 =>
 (spec_l20Draw r1).bind fun r2 =>
 some r2.1
/-- loop.example/g01063/spec.l00In -/
def spec_l00In (n1 : Int) (low1 : Int) (high1 : Int) : Option Bool :=
 if n1 ≥ low1 then
 (some (decide (n1 ≤ high1)))
 else
 some false
/-- loop.example/g01063/spec.l06Many -/
def spec_l06Many (n1 : Int) : Option Bool :=
 (spec_l00In n1 1 24).bind fun r1 =>
 some r1
/-- loop.example/g01063/spec.l06Ok -/
def spec_l06Ok (s1 : List UInt8) : Option Bool :=
 onL (loop (S := Int) (B := Unit) (R := Bool) (fun (i1 : Int) =>
 if i1 < (s1.length : Int) then
 ((((at? s1 i1).bind fun c1 =>
 if (c1.toNat : Int) < 97 then
 (some true)
 else
 (at? s1 i1).bind fun c2 =>
 some (decide ((c2.toNat : Int) > 122))) : Option Bool).bind fun (x1 : Bool) =>
 if x1 then
 (some (.ret false))
 else
 some (.next (w64 (i1 + 1))))
 else
 some (.brk ())) loopLim 0)
 (fun (_ : Unit) => (spec_l00In (s1.length : Int) 1 24).bind fun r1 =>
 some r1) (fun r => some r)
/-- loop.example/g01063/spec.l06Code -/
def spec_l06Code (s1 : List UInt8) (n1 : Int) : Option Int :=
 (spec_l06Ok s1).bind fun r1 =>
 if r1 then
 ((spec_l06Many n1).bind fun r2 =>
 if r2 then
 (some 0)
 else
 some 2)
 else
 some 1
/-- loop.example/g01063/spec.l06Disc -/
def spec_l06Disc (motion1 : List UInt8) (pictures1 : Int) : Option ((List UInt8) × Bool) :=
 (mk? pictures1 (0 : Int)).bind fun l1 =>
 onL (loop (S := ((List Int) × Int)) (B := (List Int)) (R := ((List UInt8) × Bool)) (fun ((out1, k1) : (List Int) × Int) =>
 if k1 < (motion1.length : Int) then
 ((spec_l03Seen pictures1 (motion1.length : Int) k1).bind fun r1 =>
 (((at? out1 r1).bind fun v1 =>
 if v1 = 0 then
 (some false)
 else
 (at? out1 r1).bind fun v2 =>
 (at? motion1 k1).bind fun c1 =>
 some (!(decide (v2 = (c1.toNat : Int))))) : Option Bool).bind fun (x1 : Bool) =>
 if x1 then
 (some (.ret ([], false)))
 else
 (at? motion1 k1).bind fun c2 =>
 (at? out1 r1).bind fun v3 =>
 some (.next (out1.set r1.toNat (c2.toNat : Int), w64 (k1 + 1))))
 else
 some (.brk out1)) loopLim (l1, 0))
 (fun (out2 : List Int) => onL (loop (S := ((List Int) × Int)) (B := (List Int)) (R := Empty) (fun ((out3, p1) : (List Int) × Int) =>
 if p1 < (out3.length : Int) then
 ((at? out3 p1).bind fun v4 =>
 if v4 = 0 then
 ((at? out3 (w64 (p1 - 1))).bind fun v5 =>
 (at? out3 p1).bind fun v6 =>
 some (.next (out3.set p1.toNat v5, w64 (p1 + 1))))
 else
 some (.next (out3, w64 (p1 + 1))))
 else
 some (.brk out3)) loopLim (out2, 1))
 (fun (out4 : List Int) => some (b2s out4, true)) Empty.elim) (fun r => some r)
/-- loop.example/g01063/spec.DiscFor -/
def spec_DiscFor (motion1 : List UInt8) (pictures1 : Int) : Option ((List UInt8) × Int) :=
 (spec_l06Code motion1 pictures1).bind fun r1 =>
 if r1 = 0 then
 ((spec_l06Disc motion1 pictures1).bind fun r2 =>
 if r2.2 then
 (some (r2.1, 0))
 else
 some ([], 9))
 else
 some ([], r1)
/-- loop.example/g01063/spec.l20Ok -/
def spec_l20Ok (s1 : List UInt8) : Option Bool :=
 onL (loop (S := Int) (B := Unit) (R := Bool) (fun (i1 : Int) =>
 if i1 < (s1.length : Int) then
 ((((at? s1 i1).bind fun c1 =>
 if (c1.toNat : Int) < 97 then
 (some true)
 else
 (at? s1 i1).bind fun c2 =>
 some (decide ((c2.toNat : Int) > 122))) : Option Bool).bind fun (x1 : Bool) =>
 if x1 then
 (some (.ret false))
 else
 some (.next (w64 (i1 + 1))))
 else
 some (.brk ())) loopLim 0)
 (fun (_ : Unit) => some (decide ((s1.length : Int) ≤ 40))) (fun r => some r)
/-- loop.example/g01063/spec.l20Code -/
def spec_l20Code (s1 : List UInt8) (places1 : Int) : Option Int :=
 (spec_l20Ok s1).bind fun r1 =>
 if r1 then
 ((spec_l00In places1 1 6).bind fun r2 =>
 if r2 then
 (some 0)
 else
 some 2)
 else
 some 1
/-- loop.example/g01063/spec.l20Of -/
def spec_l20Of (s1 : List UInt8) (places1 : Int) (plan1 : List Int) : Option Int :=
 (mk? places1 (0 : Int)).bind fun l1 =>
 onL (loop (S := ((List Int) × Int × Int)) (B := Int) (R := Empty) (fun ((now1, n1, i1) : (List Int) × Int × Int) =>
 if i1 < (s1.length : Int) then
 ((at? plan1 i1).bind fun v1 =>
 (at? now1 v1).bind fun v2 =>
 (at? s1 i1).bind fun c1 =>
 ((if v2 = (c1.toNat : Int) then
 (some n1)
 else
 some (w64 (n1 + 1))) : Option Int).bind fun (n2 : Int) =>
 (at? plan1 i1).bind fun v3 =>
 (at? s1 i1).bind fun c2 =>
 (at? now1 v3).bind fun v4 =>
 some (.next (now1.set v3.toNat (c2.toNat : Int), n2, w64 (i1 + 1))))
 else
 some (.brk n1)) loopLim (l1, 0, 0))
 (fun (n3 : Int) => some n3) Empty.elim
/-- loop.example/g01063/spec.LoadsOf -/
def spec_LoadsOf (s1 : List UInt8) (places1 : Int) (plan1 : List Int) : Option (Int × Int) :=
 (spec_l20Code s1 places1).bind fun r1 =>
 if r1 = 0 then
 (if (plan1.length : Int) = (s1.length : Int) then
 (onL (loop (S := Int) (B := Unit) (R := (Int × Int)) (fun (i1 : Int) =>
 if i1 < (plan1.length : Int) then
 ((at? plan1 i1).bind fun v1 =>
 (spec_l00In v1 0 (w64 (places1 - 1))).bind fun r2 =>
 if r2 then
 (some (.next (w64 (i1 + 1))))
 else
 some (.ret (0, 2)))
 else
 some (.brk ())) loopLim 0)
 (fun (_ : Unit) => (spec_l20Of s1 places1 plan1).bind fun r3 =>
 some (r3, 0)) (fun r => some r))
 else
 some (0, 2))
 else
 some (0, r1)
/-- loop.example/g01063/spec.l00Max -/
def spec_l00Max (a1 : Int) (b1 : Int) : Option Int :=
 if a1 > b1 then
 (some a1)
 else
 some b1
/-- loop.example/g01063/spec.l17At -/
def spec_l17At (list1 : List GCue) (tick1 : Int) : Option Int :=
 onL (loop (S := (Int × Int)) (B := Int) (R := Empty) (fun ((sum1, i1) : Int × Int) =>
 if i1 < (list1.length : Int) then
 ((at? list1 i1).bind fun v1 =>
 (at? list1 i1).bind fun v2 =>
 (at? list1 i1).bind fun v3 =>
 (spec_l00In tick1 v1.At (w64 ((w64 (v2.At + v3.Ticks)) - 1))).bind fun r1 =>
 if r1 then
 ((at? list1 i1).bind fun v4 =>
 some (.next (w64 (sum1 + v4.Hands), w64 (i1 + 1))))
 else
 some (.next (sum1, w64 (i1 + 1))))
 else
 some (.brk sum1)) loopLim (0, 0))
 (fun (sum2 : Int) => some sum2) Empty.elim
/-- loop.example/g01063/spec.l17Most -/
def spec_l17Most (list1 : List GCue) : Option Int :=
 onL (loop (S := (Int × Int)) (B := Int) (R := Empty) (fun ((most1, i1) : Int × Int) =>
 if i1 < (list1.length : Int) then
 ((at? list1 i1).bind fun v1 =>
 (spec_l17At list1 v1.At).bind fun r1 =>
 (spec_l00Max most1 r1).bind fun r2 =>
 some (.next (r2, w64 (i1 + 1))))
 else
 some (.brk most1)) loopLim (0, 0))
 (fun (most2 : Int) => some most2) Empty.elim
/-- loop.example/g01063/spec.l17Ok -/
def spec_l17Ok (list1 : List GCue) : Option Bool :=
 onL (loop (S := Int) (B := Unit) (R := Bool) (fun (i1 : Int) =>
 if i1 < (list1.length : Int) then
 ((at? list1 i1).bind fun v1 =>
 (((spec_l00In v1.At 0 10000).bind fun r1 =>
 if r1 then
 ((spec_l00In v1.Ticks 1 1000).bind fun r2 =>
 if r2 then
 ((spec_l00In v1.Hands 1 4).bind fun r3 =>
 if r3 then
 ((spec_l00In v1.Slack 0 6).bind fun r4 =>
 some (!r4))
 else
 some true)
 else
 some true)
 else
 some true) : Option Bool).bind fun (x1 : Bool) =>
 if x1 then
 (some (.ret false))
 else
 some (.next (w64 (i1 + 1))))
 else
 some (.brk ())) loopLim 0)
 (fun (_ : Unit) => some (decide ((list1.length : Int) ≤ 6))) (fun r => some r)
/-- loop.example/g01063/spec.MostHands -/
def spec_MostHands (list1 : List GCue) : Option (Int × Int) :=
 (spec_l17Ok list1).bind fun r1 =>
 if r1 then
 ((spec_l17Most list1).bind fun r2 =>
 some (r2, 0))
 else
 some (0, 1)
/-- loop.example/g01063/spec.l17Shift -/
def spec_l17Shift (x1 : GCue) (by_1 : Int) : Option GCue :=
 some (GCue.mk (w64 (x1.At + by_1)) x1.Ticks x1.Hands (w64 (x1.Slack - by_1)))
/-- loop.example/g01063/spec.ShiftCues -/
def spec_ShiftCues (list1 : List GCue) (shifts1 : List Int) : Option ((List GCue) × Int) :=
 (spec_l17Ok list1).bind fun r1 =>
 if r1 then
 (if (shifts1.length : Int) = (list1.length : Int) then
 (onL (loop (S := ((List GCue) × Int)) (B := (List GCue)) (R := ((List GCue) × Int)) (fun ((out1, i1) : (List GCue) × Int) =>
 if i1 < (list1.length : Int) then
 ((at? shifts1 i1).bind fun v1 =>
 (at? list1 i1).bind fun v2 =>
 (spec_l00In v1 0 v2.Slack).bind fun r2 =>
 if r2 then
 ((at? list1 i1).bind fun v3 =>
 (at? shifts1 i1).bind fun v4 =>
 (spec_l17Shift v3 v4).bind fun r3 =>
 (app? out1 ([r3] : List GCue)).bind fun l1 =>
 some (.next (l1, w64 (i1 + 1))))
 else
 some (.ret ([], 2)))
 else
 some (.brk out1)) loopLim ([], 0))
 (fun (out2 : List GCue) => (spec_l17Ok out2).bind fun r4 =>
 if r4 then
 (some (out2, 0))
 else
 some ([], 5)) (fun r => some r))
 else
 some ([], 2))
 else
 some ([], 1)
/-- loop.example/g01063/laws.FnTop -/
def laws_FnTop (code1 : List Int) (more1 : List Int) : Option Bool :=
 (laws_a2Long code1 more1).bind fun r1 =>
 if r1 then
 (some true)
 else
 (spec_A2Motion code1).bind fun r2 =>
 (impl_FewestPictures r2).bind fun r3 =>
 (impl_DiscFor r2 r3.1).bind fun r4 =>
 (impl_MotionOf r4.1 (r2.length : Int)).bind fun r5 =>
 ((if r3.2 = 0 then
 (if r3.1 < 1 then
 (some true)
 else
 if r3.1 > (r2.length : Int) then
 (some true)
 else
 if r4.2 = 0 then
 (if (r4.1.length : Int) = r3.1 then
 (if r5.2 = 0 then
 (some (!(r5.1 == r2)))
 else
 some true)
 else
 some true)
 else
 some true)
 else
 some true) : Option Bool).bind fun (x1 : Bool) =>
 if x1 then
 (some false)
 else
 onL (loop (S := Int) (B := Unit) (R := Bool) (fun (k1 : Int) =>
 if k1 < r3.1 then
 ((spec_DiscFor r2 k1).bind fun r6 =>
 if r6.2 = 9 then
 (some (.next (w64 (k1 + 1))))
 else
 some (.ret false))
 else
 some (.brk ())) loopLim 1)
 (fun (_ : Unit) => (spec_A2Cues more1).bind fun r7 =>
 (laws_a2At more1 0 5).bind fun r8 =>
 (impl_LeastShifts r7 r8).bind fun r9 =>
 (spec_A2Shifts code1 r7).bind fun r10 =>
 (spec_ShiftCues r7 r10).bind fun r11 =>
 (spec_MostHands r11.1).bind fun r12 =>
 ((if r11.2 = 0 then
 (if r12.2 = 0 then
 (if r9.2 = 0 then
 (some false)
 else
 if r9.2 = 3 then
 (some (decide (r12.1 ≤ r8)))
 else
 some true)
 else
 some true)
 else
 some true) : Option Bool).bind fun (x2 : Bool) =>
 if x2 then
 (some false)
 else
 onS (S := Unit) (B := Empty) (R := Bool) (if r9.2 = 0 then
 ((impl_ShiftCues r7 r9.1).bind fun r13 =>
 (impl_MostHands r13.1).bind fun r14 =>
 (impl_FirstOverload r13.1 r8).bind fun r15 =>
 if r13.2 = 0 then
 (if r14.2 = 0 then
 (if r14.1 > r8 then
 (some (.ret false))
 else
 if r15.2 = 3 then
 (if r12.1 ≤ r8 then
 ((laws_a2Sum r10).bind fun r16 =>
 (laws_a2Sum r9.1).bind fun r17 =>
 if r16 < r17 then
 (some (.ret false))
 else
 some (.next ()))
 else
 some (.next ()))
 else
 some (.ret false))
 else
 some (.ret false))
 else
 some (.ret false))
 else
 some (.next ()))
 (fun (_ : Unit) => (spec_A2Showing code1).bind fun r18 =>
 (laws_a2At more1 1 4).bind fun r19 =>
 (impl_FewestLoads r18 (w64 (1 + r19))).bind fun r20 =>
 (impl_BestLoading r18 (w64 (1 + r19))).bind fun r21 =>
 (impl_LoadsOf r18 (w64 (1 + r19)) r21.1).bind fun r22 =>
 (spec_A2Plan more1 (r18.length : Int) (w64 (1 + r19))).bind fun r23 =>
 (spec_LoadsOf r18 (w64 (1 + r19)) r23).bind fun r24 =>
 if r20.2 = 0 then
 (if r21.2 = 0 then
 (if r22.2 = 0 then
 (if r22.1 = r20.1 then
 (if r24.2 = 0 then
 (some (decide (r24.1 ≥ r20.1)))
 else
 some false)
 else
 some false)
 else
 some false)
 else
 some false)
 else
 some false)
 Empty.elim (fun r => some r)) (fun r => some r)
end Go.Vs.G
