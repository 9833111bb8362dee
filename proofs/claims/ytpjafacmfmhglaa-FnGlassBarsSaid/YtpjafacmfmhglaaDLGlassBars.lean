/- The functions that the law reaches, as typed Lean functions, printed by program. No conditions. -/
import Derived.Test.YtpjafacmfmhglaaV5
set_option maxRecDepth 100000
open Go Go.Vs
namespace Go.Vs.G
structure GAct where
  Tick : Int
  Word : List UInt8
  Slide : List UInt8
  Many : Int
  deriving DecidableEq, Inhabited
structure GBar where
  A : Int
  X : Int
  B : Int
  Y : Int
  deriving DecidableEq, Inhabited
structure GCue where
  At : Int
  Ticks : Int
  Hands : Int
  Slack : Int
  deriving DecidableEq, Inhabited
structure GL00Src where
  code : List Int
  at_ : Int
  seed : Int
  deriving DecidableEq, Inhabited
structure GPlacesKey where
  a0 : Int
  a1 : Int
  a2 : Int
  a3 : Int
  deriving DecidableEq, Inhabited
structure GPoint where
  X : Int
  Y : Int
  deriving DecidableEq, Inhabited
structure GShown where
  On : Int
  Off : Int
  Fade : Int
  deriving DecidableEq, Inhabited
structure GSlide where
  Stops : List Int
  Bars : List GBar
  deriving DecidableEq, Inhabited
def GAct.enc (x : GAct) : Tree := .agg [.int .i64 x.Tick, .str x.Word, .str x.Slide, .int .i64 x.Many]
def GBar.enc (x : GBar) : Tree := .agg [.int .i64 x.A, .int .i64 x.X, .int .i64 x.B, .int .i64 x.Y]
def GCue.enc (x : GCue) : Tree := .agg [.int .i64 x.At, .int .i64 x.Ticks, .int .i64 x.Hands, .int .i64 x.Slack]
def GPlacesKey.enc (x : GPlacesKey) : Tree := .agg [.int .i64 x.a0, .int .i64 x.a1, .int .i64 x.a2, .int .i64 x.a3]
def GPoint.enc (x : GPoint) : Tree := .agg [.int .i64 x.X, .int .i64 x.Y]
def GShown.enc (x : GShown) : Tree := .agg [.int .i64 x.On, .int .i64 x.Off, .int .i64 x.Fade]
def GAct.ok (x : GAct) : Prop := (okI .i64) x.Tick ∧ okS x.Word ∧ okS x.Slide ∧ (okI .i64) x.Many
def GBar.ok (x : GBar) : Prop := (okI .i64) x.A ∧ (okI .i64) x.X ∧ (okI .i64) x.B ∧ (okI .i64) x.Y
def GCue.ok (x : GCue) : Prop := (okI .i64) x.At ∧ (okI .i64) x.Ticks ∧ (okI .i64) x.Hands ∧ (okI .i64) x.Slack
def GL00Src.ok (x : GL00Src) : Prop := (okL (okI .u8)) x.code ∧ (okI .i64) x.at_ ∧ (okI .u64) x.seed
def GPlacesKey.ok (x : GPlacesKey) : Prop := (okI .i64) x.a0 ∧ (okI .i64) x.a1 ∧ (okI .i64) x.a2 ∧ (okI .i64) x.a3
def GPoint.ok (x : GPoint) : Prop := (okI .i64) x.X ∧ (okI .i64) x.Y
def GShown.ok (x : GShown) : Prop := (okI .i64) x.On ∧ (okI .i64) x.Off ∧ (okI .i64) x.Fade
def GSlide.ok (x : GSlide) : Prop := (okL (okI .i64)) x.Stops ∧ (okL GBar.ok) x.Bars
/-- (loop.example/g01063/impl.Slide).mayStand$1 -/
def impl_Slide_mayStand_1 (b1 : GBar) (x1 : List Int) : Option Bool :=
 (at? x1 b1.A).bind fun v1 =>
 if v1 = b1.X then
 ((at? x1 b1.B).bind fun v2 =>
 some (decide (v2 = b1.Y)))
 else
 some false
/-- slices.IndexFunc[[]loop.example/g01063/impl.Bar,loop.example/g01063/impl.Bar] -/
def slices_IndexFunc_impl_Bar_impl_Bar_820 (s1 : List GBar) (f1 : GBar → Option Bool) : Option Int :=
 onL (loop (S := Int) (B := Unit) (R := Int) (fun (x1 : Int) =>
 if x1 < (s1.length : Int) then
 ((at? s1 x1).bind fun v1 =>
 (f1 v1).bind fun r1 =>
 if r1 then
 (some (.ret x1))
 else
 some (.next (w64 (x1 + 1))))
 else
 some (.brk ())) loopLim 0)
 (fun (_ : Unit) => some (-1)) (fun r => some r)
/-- slices.ContainsFunc[[]loop.example/g01063/impl.Bar,loop.example/g01063/impl.Bar] -/
def slices_ContainsFunc_impl_Bar_impl_Bar_798 (s1 : List GBar) (f1 : GBar → Option Bool) : Option Bool :=
 (slices_IndexFunc_impl_Bar_impl_Bar_820 s1 f1).bind fun r1 =>
 some (decide (r1 ≥ 0))
/-- (loop.example/g01063/impl.Slide).mayStand -/
def impl_Slide_mayStand (x1 : GSlide) (places1 : List Int) : Option Bool :=
 (slices_ContainsFunc_impl_Bar_impl_Bar_798 x1.Bars (fun a0 => impl_Slide_mayStand_1 a0 places1)).bind fun r1 =>
 some (!r1)
/-- loop.example/g01063/impl.within -/
def impl_within (n1 : Int) (low1 : Int) (high1 : Int) : Option Bool :=
 if n1 ≥ low1 then
 (some (decide (n1 ≤ high1)))
 else
 some false
/-- (loop.example/g01063/impl.Slide).placesOk -/
def impl_Slide_placesOk (x1 : GSlide) (places1 : List Int) : Option Bool :=
 if (places1.length : Int) = (x1.Stops.length : Int) then
 (onL (loop (S := Int) (B := Unit) (R := Bool) (fun (x2 : Int) =>
 if x2 < (places1.length : Int) then
 ((at? places1 x2).bind fun v1 =>
 (at? x1.Stops x2).bind fun v2 =>
 (impl_within v1 0 (w64 (v2 - 1))).bind fun r1 =>
 if r1 then
 (some (.next (w64 (x2 + 1))))
 else
 some (.ret false))
 else
 some (.brk ())) loopLim 0)
 (fun (_ : Unit) => some true) (fun r => some r))
 else
 some false
/-- (loop.example/g01063/impl.Slide).moved -/
def impl_Slide_moved (x1 : GSlide) (places1 : List Int) (move1 : Int) : Option ((List Int) × Bool) :=
 (cloneL places1).bind fun r1 =>
 ((if (move1.tmod 2) = 0 then
 ((at? r1 (w64 (move1.tdiv 2))).bind fun v1 =>
 (at? r1 (w64 (move1.tdiv 2))).bind fun v2 =>
 some (r1.set ((w64 (move1.tdiv 2)).toNat) (w64 (v1 + 1))))
 else
 (at? r1 (w64 (move1.tdiv 2))).bind fun v3 =>
 (at? r1 (w64 (move1.tdiv 2))).bind fun v4 =>
 some (r1.set ((w64 (move1.tdiv 2)).toNat) (w64 (v3 - 1)))) : Option (List Int)).bind fun (out1 : List Int) =>
 (impl_Slide_placesOk x1 out1).bind fun r2 =>
 if r2 then
 ((impl_Slide_mayStand x1 out1).bind fun r3 =>
 some (out1, r3))
 else
 some (out1, false)
/-- loop.example/g01063/impl.key -/
def impl_key (l : List Int) : Option GPlacesKey := (impl_key4 l).map fun r => ⟨r.1, r.2.1, r.2.2.1, r.2.2.2⟩
/-- (loop.example/g01063/impl.Slide).reach -/
def impl_Slide_reach (x1 : GSlide) (from_1 : List Int) : Option (List (GPlacesKey × (List Int))) :=
 (impl_key from_1).bind fun r1 =>
 onL (loop (S := ((List (GPlacesKey × (List Int))) × (List (List Int)) × Int)) (B := (List (GPlacesKey × (List Int)))) (R := Empty) (fun ((out1, queue1, i1) : (List (GPlacesKey × (List Int))) × (List (List Int)) × Int) =>
 if i1 < (queue1.length : Int) then
 (onL (loop (S := ((List (GPlacesKey × (List Int))) × (List (List Int)) × Int)) (B := ((List (GPlacesKey × (List Int))) × (List (List Int)))) (R := Empty) (fun ((out2, queue2, x2) : (List (GPlacesKey × (List Int))) × (List (List Int)) × Int) =>
 if x2 < (w64 (2 * (x1.Stops.length : Int))) then
 ((at? queue2 i1).bind fun v1 =>
 (impl_Slide_moved x1 v1 x2).bind fun r2 =>
 (impl_key r2.1).bind fun r3 =>
 ((if r2.2 then
 (some (mhas (fun (k : GPlacesKey) => [k.a0, k.a1, k.a2, k.a3]) out2 r3))
 else
 some true) : Option Bool).bind fun (x3 : Bool) =>
 if x3 then
 (some (.next (out2, queue2, w64 (x2 + 1))))
 else
 (impl_key r2.1).bind fun r4 =>
 (at? queue2 i1).bind fun v2 =>
 (impl_key v2).bind fun r5 =>
 (cloneL (mget (fun (k : GPlacesKey) => [k.a0, k.a1, k.a2, k.a3]) out2 r5 ([] : List Int))).bind fun r6 =>
 (app? r6 ([x2] : List Int)).bind fun l1 =>
 (app? queue2 ([r2.1] : List (List Int))).bind fun l2 =>
 some (.next (mput (fun (k : GPlacesKey) => [k.a0, k.a1, k.a2, k.a3]) out2 r4 l1, l2, w64 (x2 + 1))))
 else
 some (.brk (out2, queue2))) loopLim (out1, queue1, 0))
 (fun ((out3, queue3) : (List (GPlacesKey × (List Int))) × (List (List Int))) => some (.next (out3, queue3, w64 (i1 + 1)))) Empty.elim)
 else
 some (.brk out1)) loopLim (mput (fun (k : GPlacesKey) => [k.a0, k.a1, k.a2, k.a3]) ([] : List (GPlacesKey × (List Int))) r1 ([] : List Int), [from_1], 0))
 (fun (out4 : List (GPlacesKey × (List Int))) => some out4) Empty.elim
/-- loop.example/g01063/impl.ValidSlide$1 -/
def impl_ValidSlide_1 (s1 : Int) : Option Bool :=
 (impl_within s1 1 4).bind fun r1 =>
 some (!r1)
/-- loop.example/g01063/impl.ValidSlide$2 -/
def impl_ValidSlide_2 (b1 : GBar) (x1 : Int) (x2 : GSlide) : Option Bool :=
 (impl_within b1.A 0 (w64 (x1 - 1))).bind fun r1 =>
 if r1 then
 ((impl_within b1.B (w64 (b1.A + 1)) (w64 (x1 - 1))).bind fun r2 =>
 if r2 then
 ((at? x2.Stops b1.A).bind fun v1 =>
 (impl_within b1.X 0 (w64 (v1 - 1))).bind fun r3 =>
 if r3 then
 ((at? x2.Stops b1.B).bind fun v2 =>
 (impl_within b1.Y 0 (w64 (v2 - 1))).bind fun r4 =>
 some (!r4))
 else
 some true)
 else
 some true)
 else
 some true
/-- slices.IndexFunc[[]int64,int64] -/
def slices_IndexFunc_int64_int64_818 (s1 : List Int) (f1 : Int → Option Bool) : Option Int :=
 onL (loop (S := Int) (B := Unit) (R := Int) (fun (x1 : Int) =>
 if x1 < (s1.length : Int) then
 ((at? s1 x1).bind fun v1 =>
 (f1 v1).bind fun r1 =>
 if r1 then
 (some (.ret x1))
 else
 some (.next (w64 (x1 + 1))))
 else
 some (.brk ())) loopLim 0)
 (fun (_ : Unit) => some (-1)) (fun r => some r)
/-- slices.ContainsFunc[[]int64,int64] -/
def slices_ContainsFunc_int64_int64_796 (s1 : List Int) (f1 : Int → Option Bool) : Option Bool :=
 (slices_IndexFunc_int64_int64_818 s1 f1).bind fun r1 =>
 some (decide (r1 ≥ 0))
/-- loop.example/g01063/impl.ValidSlide -/
def impl_ValidSlide (x1 : GSlide) : Option Bool :=
 ((if (x1.Stops.length : Int) < 1 then
 (some true)
 else
 if (x1.Stops.length : Int) > 4 then
 (some true)
 else
 (slices_ContainsFunc_int64_int64_796 x1.Stops (fun a0 => impl_ValidSlide_1 a0)).bind fun r1 =>
 some r1) : Option Bool).bind fun (x2 : Bool) =>
 if x2 then
 (some false)
 else
 if (x1.Bars.length : Int) ≤ 8 then
 ((slices_ContainsFunc_impl_Bar_impl_Bar_798 x1.Bars (fun a0 => impl_ValidSlide_2 a0 (x1.Stops.length : Int) x1)).bind fun r2 =>
 some (!r2))
 else
 some false
/-- loop.example/g01063/impl.slideCode$1 -/
def impl_slideCode_1 (p1 : List Int) (x1 : GSlide) : Option Bool :=
 (impl_Slide_placesOk x1 p1).bind fun r1 =>
 some (!r1)
/-- loop.example/g01063/impl.slideCode$2 -/
def impl_slideCode_2 (p1 : List Int) (x1 : GSlide) : Option Bool :=
 (impl_Slide_mayStand x1 p1).bind fun r1 =>
 some (!r1)
/-- slices.IndexFunc[[][]int64,[]int64] -/
def slices_IndexFunc_int64_int64_817 (s1 : List (List Int)) (f1 : (List Int) → Option Bool) : Option Int :=
 onL (loop (S := Int) (B := Unit) (R := Int) (fun (x1 : Int) =>
 if x1 < (s1.length : Int) then
 ((at? s1 x1).bind fun v1 =>
 (f1 v1).bind fun r1 =>
 if r1 then
 (some (.ret x1))
 else
 some (.next (w64 (x1 + 1))))
 else
 some (.brk ())) loopLim 0)
 (fun (_ : Unit) => some (-1)) (fun r => some r)
/-- slices.ContainsFunc[[][]int64,[]int64] -/
def slices_ContainsFunc_int64_int64_795 (s1 : List (List Int)) (f1 : (List Int) → Option Bool) : Option Bool :=
 (slices_IndexFunc_int64_int64_817 s1 f1).bind fun r1 =>
 some (decide (r1 ≥ 0))
/-- loop.example/g01063/impl.slideCode -/
def impl_slideCode (x1 : GSlide) (move1 : Int) (all1 : List (List Int)) : Option Int :=
 (impl_ValidSlide x1).bind fun r1 =>
 if r1 then
 ((((slices_ContainsFunc_int64_int64_795 all1 (fun a0 => impl_slideCode_1 a0 x1)).bind fun r2 =>
 if r2 then
 (some true)
 else
 (impl_within move1 0 (w64 ((w64 (2 * (x1.Stops.length : Int))) - 1))).bind fun r3 =>
 some (!r3)) : Option Bool).bind fun (x2 : Bool) =>
 if x2 then
 (some 2)
 else
 (slices_ContainsFunc_int64_int64_795 all1 (fun a0 => impl_slideCode_2 a0 x1)).bind fun r4 =>
 if r4 then
 (some 9)
 else
 some 0)
 else
 some 1
/-- loop.example/g01063/impl.CountPlaces -/
def impl_CountPlaces (x1 : GSlide) (places1 : List Int) : Option (Int × Int) :=
 (impl_slideCode x1 0 [places1]).bind fun r1 =>
 if r1 = 0 then
 ((impl_Slide_reach x1 places1).bind fun r2 =>
 some ((r2.length : Int), 0))
 else
 some (0, r1)
/-- slices.Grow[[]loop.example/g01063/impl.Bar,loop.example/g01063/impl.Bar] -/
def slices_Grow_Bar (n : Int) : Option (List GBar) := slices_GrowN n
/-- slices.Concat[[]loop.example/g01063/impl.Bar,loop.example/g01063/impl.Bar] -/
def slices_Concat_impl_Bar_impl_Bar_794 (slices1 : List (List GBar)) : Option (List GBar) :=
 onL (loop (S := (Int × Int)) (B := Int) (R := Empty) (fun ((size1, x1) : Int × Int) =>
 if x1 < (slices1.length : Int) then
 ((at? slices1 x1).bind fun v1 =>
 if (w64 (size1 + (v1.length : Int))) < 0 then
 none
 else
 some (.next (w64 (size1 + (v1.length : Int)), w64 (x1 + 1))))
 else
 some (.brk size1)) loopLim (0, 0))
 (fun (size2 : Int) => (slices_Grow_Bar size2).bind fun r1 =>
 onL (loop (S := ((List GBar) × Int)) (B := (List GBar)) (R := Empty) (fun ((newslice1, x2) : (List GBar) × Int) =>
 if x2 < (slices1.length : Int) then
 ((at? slices1 x2).bind fun v2 =>
 (app? newslice1 v2).bind fun l1 =>
 some (.next (l1, w64 (x2 + 1))))
 else
 some (.brk newslice1)) loopLim (r1, 0))
 (fun (newslice2 : List GBar) => some newslice2) Empty.elim) Empty.elim
/-- loop.example/g01063/impl.UselessBars -/
def impl_UselessBars (x1 : GSlide) (places1 : List Int) : Option ((List Int) × Int) :=
 (impl_slideCode x1 0 [places1]).bind fun r1 =>
 if r1 = 0 then
 ((impl_Slide_reach x1 places1).bind fun r2 =>
 onL (loop (S := ((List Int) × Int)) (B := (List Int)) (R := Empty) (fun ((out1, x2) : (List Int) × Int) =>
 if x2 < (x1.Bars.length : Int) then
 ((sub? x1.Bars 0 x2).bind fun l1 =>
 (sub? x1.Bars (w64 (x2 + 1)) x1.Bars.length).bind fun l2 =>
 (slices_Concat_impl_Bar_impl_Bar_794 [l1, l2]).bind fun r3 =>
 (impl_Slide_reach (GSlide.mk x1.Stops r3) places1).bind fun r4 =>
 if (r4.length : Int) = (r2.length : Int) then
 ((app? out1 ([x2] : List Int)).bind fun l3 =>
 some (.next (l3, w64 (x2 + 1))))
 else
 some (.next (out1, w64 (x2 + 1))))
 else
 some (.brk out1)) loopLim ([], 0))
 (fun (out2 : List Int) => some (out2, 0)) Empty.elim)
 else
 some ([], r1)
/-- loop.example/g01063/laws.a2Has -/
def laws_a2Has (list1 : List Int) (n1 : Int) : Option Bool :=
 onL (loop (S := Int) (B := Unit) (R := Bool) (fun (i1 : Int) =>
 if i1 < (list1.length : Int) then
 ((at? list1 i1).bind fun v1 =>
 if v1 = n1 then
 (some (.ret true))
 else
 some (.next (w64 (i1 + 1))))
 else
 some (.brk ())) loopLim 0)
 (fun (_ : Unit) => some false) (fun r => some r)
/-- loop.example/g01063/laws.a2Long -/
def laws_a2Long (code1 : List Int) (more1 : List Int) : Option Bool :=
 if (code1.length : Int) > 3000 then
 (some true)
 else
 some (decide ((more1.length : Int) > 3000))
/-- loop.example/g01063/laws.a2Rises -/
def laws_a2Rises (list1 : List Int) (n1 : Int) : Option Bool :=
 onL (loop (S := Int) (B := Unit) (R := Bool) (fun (i1 : Int) =>
 if i1 < (list1.length : Int) then
 ((((at? list1 i1).bind fun v1 =>
 if v1 < 0 then
 (some true)
 else
 (at? list1 i1).bind fun v2 =>
 if v2 ≥ n1 then
 (some true)
 else
 if i1 > 0 then
 ((at? list1 (w64 (i1 - 1))).bind fun v3 =>
 (at? list1 i1).bind fun v4 =>
 some (decide (v3 ≥ v4)))
 else
 some false) : Option Bool).bind fun (x1 : Bool) =>
 if x1 then
 (some (.ret false))
 else
 some (.next (w64 (i1 + 1))))
 else
 some (.brk ())) loopLim 0)
 (fun (_ : Unit) => some true) (fun r => some r)
/-- (*loop.example/g01063/spec.l00Src).next -/
def spec_l00Src_next (s1 : GL00Src) : Option (Int × GL00Src) :=
 ((if s1.at_ < (s1.code.length : Int) then
 ((at? s1.code s1.at_).bind fun v1 =>
 some (w64 (v1)))
 else
 some 0) : Option Int).bind fun (b1 : Int) =>
 if (w64 (s1.at_ + 1)) ≤ (s1.code.length : Int) then
 (some (b1, (GL00Src.mk s1.code (w64 (s1.at_ + 1)) (IntKind.wrap .u64 ((IntKind.wrap .u64 ((IntKind.wrap .u64 (s1.seed * 6364136223846793005)) + (IntKind.wrap .u64 (b1)))) + 1442695040888963407)))))
 else
 (shr? .u64 (IntKind.wrap .u64 ((IntKind.wrap .u64 ((IntKind.wrap .u64 (s1.seed * 6364136223846793005)) + (IntKind.wrap .u64 (b1)))) + 1442695040888963407)) 40).bind fun q1 =>
 some (w64 (bit_and .u64 q1 255), (GL00Src.mk s1.code (w64 (s1.at_ + 1)) (IntKind.wrap .u64 ((IntKind.wrap .u64 ((IntKind.wrap .u64 (s1.seed * 6364136223846793005)) + (IntKind.wrap .u64 (b1)))) + 1442695040888963407))))
/-- (*loop.example/g01063/spec.l00Src).pick -/
def spec_l00Src_pick (s1 : GL00Src) (n1 : Int) : Option (Int × GL00Src) :=
 if n1 ≤ 1 then
 (some (0, s1))
 else
 (spec_l00Src_next s1).bind fun r1 =>
 if n1 > 200 then
 ((spec_l00Src_next r1.2).bind fun r2 =>
 (mod? (w64 ((w64 (r1.1 * 256)) + r2.1)) n1).bind fun q1 =>
 some (q1, r2.2))
 else
 (mod? r1.1 n1).bind fun q2 =>
 some (q2, r1.2)
/-- loop.example/g01063/spec.l00From -/
def spec_l00From (code1 : List Int) : Option GL00Src :=
 some (GL00Src.mk code1 0 0)
/-- loop.example/g01063/spec.l13Draw -/
def spec_l13Draw (s1 : GL00Src) : Option (GSlide × GL00Src) :=
 (spec_l00Src_pick s1 3).bind fun r1 =>
 onL (loop (S := (GL00Src × (List Int) × Int)) (B := (GL00Src × (List Int))) (R := Empty) (fun ((s2, x1, k1) : GL00Src × (List Int) × Int) =>
 if k1 > 0 then
 ((spec_l00Src_pick s2 4).bind fun r2 =>
 (app? x1 ([w64 (1 + r2.1)] : List Int)).bind fun l1 =>
 some (.next (r2.2, l1, w64 (k1 - 1))))
 else
 some (.brk (s2, x1))) loopLim (r1.2, [], w64 (1 + r1.1)))
 (fun ((s3, x2) : GL00Src × (List Int)) => (spec_l00Src_pick s3 6).bind fun r3 =>
 onL (loop (S := (GL00Src × (List GBar) × Int)) (B := (GL00Src × (List GBar))) (R := Empty) (fun ((s4, x3, k2) : GL00Src × (List GBar) × Int) =>
 ((if k2 > 0 then
 (some (decide ((x2.length : Int) > 1)))
 else
 some false) : Option Bool).bind fun (x4 : Bool) =>
 if x4 then
 ((spec_l00Src_pick s4 (w64 ((x2.length : Int) - 1))).bind fun r4 =>
 (spec_l00Src_pick r4.2 (w64 (1 + r4.1))).bind fun r5 =>
 (at? x2 r5.1).bind fun v1 =>
 (spec_l00Src_pick r5.2 v1).bind fun r6 =>
 (at? x2 (w64 (1 + r4.1))).bind fun v2 =>
 (spec_l00Src_pick r6.2 v2).bind fun r7 =>
 (app? x3 ([(GBar.mk r5.1 r6.1 (w64 (1 + r4.1)) r7.1)] : List GBar)).bind fun l2 =>
 some (.next (r7.2, l2, w64 (k2 - 1))))
 else
 some (.brk (s4, x3))) loopLim (r3.2, [], r3.1))
 (fun ((s5, x5) : GL00Src × (List GBar)) => some ((GSlide.mk x2 x5), s5)) Empty.elim) Empty.elim
/-- loop.example/g01063/spec.l13May -/
def spec_l13May (x1 : GSlide) (places1 : List Int) : Option Bool :=
 onL (loop (S := Int) (B := Unit) (R := Bool) (fun (i1 : Int) =>
 if i1 < (x1.Bars.length : Int) then
 ((at? x1.Bars i1).bind fun v1 =>
 (((at? places1 v1.A).bind fun v2 =>
 if v2 = v1.X then
 ((at? places1 v1.B).bind fun v3 =>
 some (decide (v3 = v1.Y)))
 else
 some false) : Option Bool).bind fun (x2 : Bool) =>
 if x2 then
 (some (.ret false))
 else
 some (.next (w64 (i1 + 1))))
 else
 some (.brk ())) loopLim 0)
 (fun (_ : Unit) => some true) (fun r => some r)
/-- loop.example/g01063/spec.A2Slide -/
def spec_A2Slide (code1 : List Int) : Option (GSlide × (List Int)) :=
 (spec_l00From code1).bind fun r1 =>
 (spec_l13Draw r1).bind fun r2 =>
 onL (loop (S := (GL00Src × Int)) (B := Unit) (R := (GSlide × (List Int))) (fun ((s1, try_1) : GL00Src × Int) =>
 if try_1 < 6 then
 (onL (loop (S := (GL00Src × (List Int) × Int)) (B := (GL00Src × (List Int))) (R := Empty) (fun ((s2, places1, i1) : GL00Src × (List Int) × Int) =>
 if i1 < (r2.1.Stops.length : Int) then
 ((at? r2.1.Stops i1).bind fun v1 =>
 (spec_l00Src_pick s2 v1).bind fun r3 =>
 (app? places1 ([r3.1] : List Int)).bind fun l1 =>
 some (.next (r3.2, l1, w64 (i1 + 1))))
 else
 some (.brk (s2, places1))) loopLim (s1, [], 0))
 (fun ((s3, places2) : GL00Src × (List Int)) => (spec_l13May r2.1 places2).bind fun r4 =>
 if r4 then
 (some (.ret (r2.1, places2)))
 else
 some (.next (s3, w64 (try_1 + 1)))) Empty.elim)
 else
 some (.brk ())) loopLim (r2.2, 0))
 (fun (_ : Unit) => some (r2.1, [])) (fun r => some r)
/-- loop.example/g01063/laws.FnGlassBars -/
def laws_FnGlassBars (code1 : List Int) : Option Bool :=
 (laws_a2Long code1 []).bind fun r1 =>
 if r1 then
 (some true)
 else
 (spec_A2Slide code1).bind fun r2 =>
 if (r2.2.length : Int) = 0 then
 (some true)
 else
 (impl_CountPlaces r2.1 r2.2).bind fun r3 =>
 (impl_UselessBars r2.1 r2.2).bind fun r4 =>
 onL (loop (S := (Int × Int)) (B := Int) (R := Empty) (fun ((all1, i1) : Int × Int) =>
 if i1 < (r2.1.Stops.length : Int) then
 ((at? r2.1.Stops i1).bind fun v1 =>
 some (.next (w64 (all1 * v1), w64 (i1 + 1))))
 else
 some (.brk all1)) loopLim (1, 0))
 (fun (all2 : Int) => ((if r3.2 = 0 then
 (if r3.1 < 1 then
 (some true)
 else
 if r3.1 > all2 then
 (some true)
 else
 if r4.2 = 0 then
 ((laws_a2Rises r4.1 (r2.1.Bars.length : Int)).bind fun r5 =>
 some (!r5))
 else
 some true)
 else
 some true) : Option Bool).bind fun (x1 : Bool) =>
 if x1 then
 (some false)
 else
 onL (loop (S := Int) (B := Unit) (R := Bool) (fun (i2 : Int) =>
 if i2 < (r2.1.Bars.length : Int) then
 ((sub? r2.1.Bars 0 i2).bind fun l1 =>
 (app? ([] : List GBar) l1).bind fun l2 =>
 (sub? r2.1.Bars (w64 (i2 + 1)) r2.1.Bars.length).bind fun l3 =>
 (app? l2 l3).bind fun l4 =>
 (impl_CountPlaces (GSlide.mk r2.1.Stops l4) r2.2).bind fun r6 =>
 ((if r6.2 = 0 then
 (if r6.1 < r3.1 then
 (some true)
 else
 (laws_a2Has r4.1 i2).bind fun r7 =>
 some (!((decide (r6.1 = r3.1)) == r7)))
 else
 some true) : Option Bool).bind fun (x2 : Bool) =>
 if x2 then
 (some (.ret false))
 else
 some (.next (w64 (i2 + 1))))
 else
 some (.brk ())) loopLim 0)
 (fun (_ : Unit) => (impl_CountPlaces (GSlide.mk r2.1.Stops []) r2.2).bind fun r8 =>
 if r8.2 = 0 then
 (some (decide (r8.1 = all2)))
 else
 some false) (fun r => some r)) Empty.elim
end Go.Vs.G
