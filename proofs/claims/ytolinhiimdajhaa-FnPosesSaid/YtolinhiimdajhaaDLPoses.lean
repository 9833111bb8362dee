/- The functions that the law reaches, as typed Lean functions, printed by program. No conditions. -/
import Derived.Test.YtolinhiimdajhaaV5
set_option maxRecDepth 100000
open Go Go.Vs
namespace Go.Vs.G
structure GAct where
  Tick : Int
  Word : List UInt8
  Slide : List UInt8
  Many : Int
  deriving DecidableEq, Inhabited
structure GCue where
  At : Int
  Ticks : Int
  Hands : Int
  Slack : Int
  deriving DecidableEq, Inhabited
structure GFraction where
  Num : Int
  Den : Int
  deriving DecidableEq, Inhabited
structure GPoint where
  X : Int
  Y : Int
  deriving DecidableEq, Inhabited
structure GKeyPose where
  Tick : Int
  Joints : List GPoint
  deriving DecidableEq, Inhabited
structure GL00Src where
  code : List Int
  at_ : Int
  seed : Int
  deriving DecidableEq, Inhabited
structure GShown where
  On : Int
  Off : Int
  Fade : Int
  deriving DecidableEq, Inhabited
def GAct.enc (x : GAct) : Tree := .agg [.int .i64 x.Tick, .str x.Word, .str x.Slide, .int .i64 x.Many]
def GCue.enc (x : GCue) : Tree := .agg [.int .i64 x.At, .int .i64 x.Ticks, .int .i64 x.Hands, .int .i64 x.Slack]
def GPoint.enc (x : GPoint) : Tree := .agg [.int .i64 x.X, .int .i64 x.Y]
def GKeyPose.encs (x : GKeyPose) : Tree := .agg [.int .i64 x.Tick, .sl false 2 (x.Joints.map GPoint.enc)]
def GShown.enc (x : GShown) : Tree := .agg [.int .i64 x.On, .int .i64 x.Off, .int .i64 x.Fade]
def GAct.ok (x : GAct) : Prop := (okI .i64) x.Tick ∧ okS x.Word ∧ okS x.Slide ∧ (okI .i64) x.Many
def GCue.ok (x : GCue) : Prop := (okI .i64) x.At ∧ (okI .i64) x.Ticks ∧ (okI .i64) x.Hands ∧ (okI .i64) x.Slack
def GFraction.ok (x : GFraction) : Prop := (okI .i64) x.Num ∧ (okI .i64) x.Den
def GPoint.ok (x : GPoint) : Prop := (okI .i64) x.X ∧ (okI .i64) x.Y
def GKeyPose.ok (x : GKeyPose) : Prop := (okI .i64) x.Tick ∧ (okL GPoint.ok) x.Joints
def GL00Src.ok (x : GL00Src) : Prop := (okL (okI .u8)) x.code ∧ (okI .i64) x.at_ ∧ (okI .u64) x.seed
def GShown.ok (x : GShown) : Prop := (okI .i64) x.On ∧ (okI .i64) x.Off ∧ (okI .i64) x.Fade
/-- loop.example/g01063/impl.within -/
def impl_within (n1 : Int) (low1 : Int) (high1 : Int) : Option Bool :=
 if n1 ≥ low1 then
 (some (decide (n1 ≤ high1)))
 else
 some false
/-- loop.example/g01063/impl.ValidPose$1 -/
def impl_ValidPose_1 (p1 : GPoint) : Option Bool :=
 (impl_within p1.X 0 1000).bind fun r1 =>
 if r1 then
 ((impl_within p1.Y 0 1000).bind fun r2 =>
 some (!r2))
 else
 some true
/-- slices.IndexFunc[[]loop.example/g01063/impl.Point,loop.example/g01063/impl.Point] -/
def slices_IndexFunc_impl_Point_impl_Point_826 (s1 : List GPoint) (f1 : GPoint → Option Bool) : Option Int :=
 onL (loop (S := Int) (B := Unit) (R := Int) (fun (x1 : Int) =>
 if x1 < (s1.length : Int) then
 ((at? s1 x1).bind fun v1 =>
 (f1 v1).bind fun r1 =>
 if r1 then
 (some (.ret x1))
 else
 some (.next (w64 (x1 + 1))))
 else
 some (.brk ())) loopLim 0)
 (fun (_ : Unit) => some (-1)) (fun r => some r)
/-- slices.ContainsFunc[[]loop.example/g01063/impl.Point,loop.example/g01063/impl.Point] -/
def slices_ContainsFunc_impl_Point_impl_Point_804 (s1 : List GPoint) (f1 : GPoint → Option Bool) : Option Bool :=
 (slices_IndexFunc_impl_Point_impl_Point_826 s1 f1).bind fun r1 =>
 some (decide (r1 ≥ 0))
/-- loop.example/g01063/impl.ValidPose -/
def impl_ValidPose (joints1 : List GPoint) : Option Bool :=
 if (joints1.length : Int) ≥ 1 then
 (if (joints1.length : Int) ≤ 8 then
 ((slices_ContainsFunc_impl_Point_impl_Point_804 joints1 (fun a0 => impl_ValidPose_1 a0)).bind fun r1 =>
 some (!r1))
 else
 some false)
 else
 some false
/-- loop.example/g01063/impl.GreatestMove -/
def impl_GreatestMove (a1 : List GPoint) (b1 : List GPoint) : Option (Int × Int × Int) :=
 (((impl_ValidPose a1).bind fun r1 =>
 if r1 then
 ((impl_ValidPose b1).bind fun r2 =>
 some (!r2))
 else
 some true) : Option Bool).bind fun (x1 : Bool) =>
 if x1 then
 (some (0, 0, 1))
 else
 if (a1.length : Int) = (b1.length : Int) then
 (onL (loop (S := (Int × Int × Int)) (B := (Int × Int)) (R := Empty) (fun ((best1, most1, x2) : Int × Int × Int) =>
 if x2 < (a1.length : Int) then
 ((at? a1 x2).bind fun v1 =>
 (at? b1 x2).bind fun v2 =>
 (at? a1 x2).bind fun v3 =>
 (at? b1 x2).bind fun v4 =>
 if (w64 ((w64 ((w64 (v1.X - v2.X)) * (w64 (v1.X - v2.X)))) + (w64 ((w64 (v3.Y - v4.Y)) * (w64 (v3.Y - v4.Y)))))) > most1 then
 (some (.next (x2, w64 ((w64 ((w64 (v1.X - v2.X)) * (w64 (v1.X - v2.X)))) + (w64 ((w64 (v3.Y - v4.Y)) * (w64 (v3.Y - v4.Y))))), w64 (x2 + 1))))
 else
 some (.next (best1, most1, w64 (x2 + 1))))
 else
 some (.brk (best1, most1))) loopLim (0, (-1), 0))
 (fun ((best2, most2) : Int × Int) => some (best2, most2, 0)) Empty.elim)
 else
 some (0, 0, 8)
/-- loop.example/g01063/impl.MirrorPose -/
def impl_MirrorPose (joints1 : List GPoint) (width1 : Int) : Option ((List GPoint) × Int) :=
 (impl_ValidPose joints1).bind fun r1 =>
 if r1 then
 ((impl_within width1 0 1000).bind fun r2 =>
 if r2 then
 (onL (loop (S := ((List GPoint) × Int)) (B := (List GPoint)) (R := ((List GPoint) × Int)) (fun ((out1, x1) : (List GPoint) × Int) =>
 if x1 < (joints1.length : Int) then
 ((at? joints1 x1).bind fun v1 =>
 if v1.X > width1 then
 (some (.ret ([], 6)))
 else
 (app? out1 ([(GPoint.mk (w64 (width1 - v1.X)) v1.Y)] : List GPoint)).bind fun l1 =>
 some (.next (l1, w64 (x1 + 1))))
 else
 some (.brk out1)) loopLim ([], 0))
 (fun (out2 : List GPoint) => some (out2, 0)) (fun r => some r))
 else
 some ([], 2))
 else
 some ([], 1)
/-- loop.example/g01063/impl.ValidKeys -/
def impl_ValidKeys (list1 : List GKeyPose) : Option Bool :=
 ((if (list1.length : Int) < 1 then
 (some true)
 else
 some (decide ((list1.length : Int) > 10))) : Option Bool).bind fun (x1 : Bool) =>
 if x1 then
 (some false)
 else
 onL (loop (S := Int) (B := Unit) (R := Bool) (fun (x2 : Int) =>
 if x2 < (list1.length : Int) then
 ((at? list1 x2).bind fun v1 =>
 (((impl_within v1.Tick 0 10000).bind fun r1 =>
 if r1 then
 ((impl_ValidPose v1.Joints).bind fun r2 =>
 if r2 then
 ((at? list1 0).bind fun v2 =>
 if (v1.Joints.length : Int) = (v2.Joints.length : Int) then
 (if x2 > 0 then
 ((at? list1 (w64 (x2 - 1))).bind fun v3 =>
 some (decide (v3.Tick ≥ v1.Tick)))
 else
 some false)
 else
 some true)
 else
 some true)
 else
 some true) : Option Bool).bind fun (x3 : Bool) =>
 if x3 then
 (some (.ret false))
 else
 some (.next (w64 (x2 + 1))))
 else
 some (.brk ())) loopLim 0)
 (fun (_ : Unit) => some true) (fun r => some r)
/-- loop.example/g01063/impl.rounded -/
def impl_rounded (num1 : Int) (den1 : Int) : Option Int :=
 (div? .i64 (w64 ((w64 (2 * num1)) + den1)) (w64 (2 * den1))).bind fun q1 =>
 (mod? (w64 ((w64 (2 * num1)) + den1)) (w64 (2 * den1))).bind fun q2 =>
 if q2 < 0 then
 (some (w64 (q1 - 1)))
 else
 some q1
/-- loop.example/g01063/impl.between -/
def impl_between (a1 : List GPoint) (b1 : List GPoint) (part1 : Int) (parts1 : Int) : Option (List GPoint) :=
 onL (loop (S := ((List GPoint) × Int)) (B := (List GPoint)) (R := Empty) (fun ((out1, x1) : (List GPoint) × Int) =>
 if x1 < (a1.length : Int) then
 ((at? a1 x1).bind fun v1 =>
 (at? b1 x1).bind fun v2 =>
 (impl_rounded (w64 ((w64 (v1.X * (w64 (parts1 - part1)))) + (w64 (v2.X * part1)))) parts1).bind fun r1 =>
 (at? a1 x1).bind fun v3 =>
 (at? b1 x1).bind fun v4 =>
 (impl_rounded (w64 ((w64 (v3.Y * (w64 (parts1 - part1)))) + (w64 (v4.Y * part1)))) parts1).bind fun r2 =>
 (app? out1 ([(GPoint.mk r1 r2)] : List GPoint)).bind fun l1 =>
 some (.next (l1, w64 (x1 + 1))))
 else
 some (.brk out1)) loopLim ([], 0))
 (fun (out2 : List GPoint) => some out2) Empty.elim
/-- loop.example/g01063/impl.poseAt -/
def impl_poseAt (list1 : List GKeyPose) (tick1 : Int) : Option (List GPoint) :=
 onL (loop (S := Int) (B := Unit) (R := (List GPoint)) (fun (i1 : Int) =>
 if i1 < (list1.length : Int) then
 ((at? list1 i1).bind fun v1 =>
 if tick1 < v1.Tick then
 ((at? list1 (w64 (i1 - 1))).bind fun v2 =>
 (at? list1 i1).bind fun v3 =>
 (at? list1 (w64 (i1 - 1))).bind fun v4 =>
 (at? list1 i1).bind fun v5 =>
 (at? list1 (w64 (i1 - 1))).bind fun v6 =>
 (impl_between v2.Joints v3.Joints (w64 (tick1 - v4.Tick)) (w64 (v5.Tick - v6.Tick))).bind fun r1 =>
 some (.ret r1))
 else
 some (.next (w64 (i1 + 1))))
 else
 some (.brk ())) loopLim 1)
 (fun (_ : Unit) => (at? list1 (w64 ((list1.length : Int) - 1))).bind fun v7 =>
 (cloneL v7.Joints).bind fun r2 =>
 some r2) (fun r => some r)
/-- loop.example/g01063/impl.PoseAt -/
def impl_PoseAt (list1 : List GKeyPose) (tick1 : Int) : Option ((List GPoint) × Int) :=
 (impl_ValidKeys list1).bind fun r1 =>
 if r1 then
 ((at? list1 0).bind fun v1 =>
 (at? list1 (w64 ((list1.length : Int) - 1))).bind fun v2 =>
 (impl_within tick1 v1.Tick v2.Tick).bind fun r2 =>
 if r2 then
 ((impl_poseAt list1 tick1).bind fun r3 =>
 some (r3, 0))
 else
 some ([], 2))
 else
 some ([], 1)
/-- loop.example/g01063/impl.PoseBetween -/
def impl_PoseBetween (a1 : List GPoint) (b1 : List GPoint) (part1 : Int) (parts1 : Int) : Option ((List GPoint) × Int) :=
 (((impl_ValidPose a1).bind fun r1 =>
 if r1 then
 ((impl_ValidPose b1).bind fun r2 =>
 some (!r2))
 else
 some true) : Option Bool).bind fun (x1 : Bool) =>
 if x1 then
 (some ([], 1))
 else
 (((impl_within parts1 1 10000).bind fun r3 =>
 if r3 then
 ((impl_within part1 0 parts1).bind fun r4 =>
 some (!r4))
 else
 some true) : Option Bool).bind fun (x2 : Bool) =>
 if x2 then
 (some ([], 2))
 else
 if (a1.length : Int) = (b1.length : Int) then
 ((impl_between a1 b1 part1 parts1).bind fun r5 =>
 some (r5, 0))
 else
 some ([], 8)
/-- slices.Equal[[]loop.example/g01063/impl.Point,loop.example/g01063/impl.Point] -/
def slices_Equal_impl_Point_impl_Point_813 (s1 : List GPoint) (s2 : List GPoint) : Option Bool :=
 if (s1.length : Int) = (s2.length : Int) then
 (onL (loop (S := Int) (B := Unit) (R := Bool) (fun (x1 : Int) =>
 if x1 < (s1.length : Int) then
 ((at? s1 x1).bind fun v1 =>
 (at? s2 x1).bind fun v2 =>
 if (v1.X == v2.X && (v1.Y == v2.Y && true)) then
 (some (.next (w64 (x1 + 1))))
 else
 some (.ret false))
 else
 some (.brk ())) loopLim 0)
 (fun (_ : Unit) => some true) (fun r => some r))
 else
 some false
/-- loop.example/g01063/impl.SamePose -/
def impl_SamePose (a1 : List GPoint) (b1 : List GPoint) : Option Bool :=
 (slices_Equal_impl_Point_impl_Point_813 a1 b1).bind fun r1 =>
 some r1
/-- loop.example/g01063/laws.f6big -/
def laws_f6big (code1 : List Int) : Option Bool :=
 some (decide ((code1.length : Int) > 4096))
/-- loop.example/g01063/spec.l00From -/
def spec_l00From (code1 : List Int) : Option GL00Src :=
 some (GL00Src.mk code1 0 0)
/-- (*loop.example/g01063/spec.l00Src).next -/
def spec_l00Src_next (s1 : GL00Src) : Option (Int × GL00Src) :=
 ((if s1.at_ < (s1.code.length : Int) then
 ((at? s1.code s1.at_).bind fun v1 =>
 some (w64 (v1)))
 else
 some 0) : Option Int).bind fun (b1 : Int) =>
 if (w64 (s1.at_ + 1)) ≤ (s1.code.length : Int) then
 (some (b1, (GL00Src.mk s1.code (w64 (s1.at_ + 1)) (IntKind.wrap .u64 ((IntKind.wrap .u64 ((IntKind.wrap .u64 (s1.seed * 6364136223846793005)) + (IntKind.wrap .u64 (b1)))) + 1442695040888963407)))))
 else
 (shr? .u64 (IntKind.wrap .u64 ((IntKind.wrap .u64 ((IntKind.wrap .u64 (s1.seed * 6364136223846793005)) + (IntKind.wrap .u64 (b1)))) + 1442695040888963407)) 40).bind fun q1 =>
 some (w64 (bit_and .u64 q1 255), (GL00Src.mk s1.code (w64 (s1.at_ + 1)) (IntKind.wrap .u64 ((IntKind.wrap .u64 ((IntKind.wrap .u64 (s1.seed * 6364136223846793005)) + (IntKind.wrap .u64 (b1)))) + 1442695040888963407))))
/-- (*loop.example/g01063/spec.l00Src).pick -/
def spec_l00Src_pick (s1 : GL00Src) (n1 : Int) : Option (Int × GL00Src) :=
 if n1 ≤ 1 then
 (some (0, s1))
 else
 (spec_l00Src_next s1).bind fun r1 =>
 if n1 > 200 then
 ((spec_l00Src_next r1.2).bind fun r2 =>
 (mod? (w64 ((w64 (r1.1 * 256)) + r2.1)) n1).bind fun q1 =>
 some (q1, r2.2))
 else
 (mod? r1.1 n1).bind fun q2 =>
 some (q2, r1.2)
/-- (*loop.example/g01063/spec.l00Src).one -/
def spec_l00Src_one (s1 : GL00Src) (n1 : Int) : Option (Bool × GL00Src) :=
 (spec_l00Src_pick s1 n1).bind fun r1 =>
 some ((decide (r1.1 = 0)), r1.2)
/-- (*loop.example/g01063/spec.l00Src).among -/
def spec_l00Src_among (s1 : GL00Src) (list1 : List Int) : Option (Int × GL00Src) :=
 (spec_l00Src_pick s1 (list1.length : Int)).bind fun r1 =>
 (at? list1 r1.1).bind fun v1 =>
 some (v1, r1.2)
/-- loop.example/g01063/spec.l04New -/
def spec_l04New (s1 : GL00Src) (n1 : Int) : Option ((List GPoint) × GL00Src) :=
 onL (loop (S := (GL00Src × (List GPoint) × Int)) (B := (GL00Src × (List GPoint))) (R := Empty) (fun ((s2, out1, k1) : GL00Src × (List GPoint) × Int) =>
 if k1 > 0 then
 ((spec_l00Src_pick s2 60).bind fun r1 =>
 (spec_l00Src_pick r1.2 60).bind fun r2 =>
 (app? out1 ([(GPoint.mk r1.1 r2.1)] : List GPoint)).bind fun l1 =>
 some (.next (r2.2, l1, w64 (k1 - 1))))
 else
 some (.brk (s2, out1))) loopLim (s1, [], n1))
 (fun ((s3, out2) : GL00Src × (List GPoint)) => some (out2, s3)) Empty.elim
/-- loop.example/g01063/spec.l04Bent -/
def spec_l04Bent (s1 : GL00Src) : Option ((List GPoint) × GL00Src) :=
 (spec_l00Src_pick s1 4).bind fun r1 =>
 (spec_l00Src_one r1.2 16).bind fun r2 =>
 ((if r2.1 then
 ((spec_l00Src_among r2.2 [0, 1, 8, 9]).bind fun r3 =>
 some (r3.2, r3.1))
 else
 some (r2.2, w64 (1 + r1.1))) : Option (GL00Src × Int)).bind fun ((s2, n1) : GL00Src × Int) =>
 (spec_l04New s2 n1).bind fun r4 =>
 ((if n1 > 0 then
 ((spec_l00Src_one r4.2 12).bind fun r5 =>
 some (r5.2, r5.1))
 else
 some (r4.2, false)) : Option (GL00Src × Bool)).bind fun ((s3, x1) : GL00Src × Bool) =>
 if x1 then
 ((spec_l00Src_among s3 [(-1), 0, 1000, 1001, (-9223372036854775808)]).bind fun r6 =>
 (at? r4.1 0).bind fun v1 =>
 some (r4.1.set ((0 : Int).toNat) (GPoint.mk r6.1 v1.Y), r6.2))
 else
 some (r4.1, s3)
/-- loop.example/g01063/spec.l04Pair -/
def spec_l04Pair (s1 : GL00Src) : Option ((List GPoint) × (List GPoint) × GL00Src) :=
 (spec_l04Bent s1).bind fun r1 =>
 (spec_l00Src_one r1.2 6).bind fun r2 =>
 if r2.1 then
 ((spec_l04Bent r2.2).bind fun r3 =>
 some (r1.1, r3.1, r3.2))
 else
 (spec_l04New r2.2 (r1.1.length : Int)).bind fun r4 =>
 some (r1.1, r4.1, r4.2)
/-- loop.example/g01063/spec.DrawGreatestMove -/
def spec_DrawGreatestMove (code1 : List Int) : Option ((List GPoint) × (List GPoint)) :=
 (spec_l00From code1).bind fun r1 =>
 (spec_l04Pair r1).bind fun r2 =>
 some (r2.1, r2.2.1)
/-- loop.example/g01063/spec.DrawMirrorPose -/
def spec_DrawMirrorPose (code1 : List Int) : Option ((List GPoint) × Int) :=
 (spec_l00From code1).bind fun r1 =>
 (spec_l04Bent r1).bind fun r2 =>
 (spec_l00Src_one r2.2 8).bind fun r3 =>
 if r3.1 then
 ((spec_l00Src_among r3.2 [(-1), 0, 1000, 1001]).bind fun r4 =>
 some (r2.1, r4.1))
 else
 (spec_l00Src_pick r3.2 60).bind fun r5 =>
 some (r2.1, w64 (40 + r5.1))
/-- loop.example/g01063/spec.l04Draw -/
def spec_l04Draw (s1 : GL00Src) : Option ((List GKeyPose) × GL00Src) :=
 (spec_l00Src_pick s1 3).bind fun r1 =>
 (spec_l00Src_pick r1.2 30).bind fun r2 =>
 (spec_l00Src_pick r2.2 5).bind fun r3 =>
 (spec_l00Src_one r3.2 16).bind fun r4 =>
 ((if r4.1 then
 ((spec_l00Src_among r4.2 [0, 10, 11]).bind fun r5 =>
 some (r5.2, r5.1))
 else
 some (r4.2, w64 (1 + r3.1))) : Option (GL00Src × Int)).bind fun ((s2, n1) : GL00Src × Int) =>
 onL (loop (S := (GL00Src × (List GKeyPose) × Int × Int)) (B := (GL00Src × (List GKeyPose))) (R := Empty) (fun ((s3, out1, tick1, k1) : GL00Src × (List GKeyPose) × Int × Int) =>
 if k1 > 0 then
 ((spec_l04New s3 (w64 (1 + r1.1))).bind fun r6 =>
 ((if (out1.length : Int) > 0 then
 ((spec_l00Src_one r6.2 3).bind fun r7 =>
 some (r7.2, r7.1))
 else
 some (r6.2, false)) : Option (GL00Src × Bool)).bind fun ((s4, x1) : GL00Src × Bool) =>
 ((if x1 then
 ((at? out1 (w64 ((out1.length : Int) - 1))).bind fun v1 =>
 (app? ([] : List GPoint) v1.Joints).bind fun l1 =>
 some l1)
 else
 some r6.1) : Option (List GPoint)).bind fun (x2 : List GPoint) =>
 (app? out1 ([(GKeyPose.mk tick1 x2)] : List GKeyPose)).bind fun l2 =>
 (spec_l00Src_pick s4 12).bind fun r8 =>
 some (.next (r8.2, l2, w64 (tick1 + (w64 (1 + r8.1))), w64 (k1 - 1))))
 else
 some (.brk (s3, out1))) loopLim (s2, [], r2.1, n1))
 (fun ((s5, out2) : GL00Src × (List GKeyPose)) => if n1 > 0 then
 ((spec_l00Src_pick s5 n1).bind fun r9 =>
 (at? out2 r9.1).bind fun v2 =>
 (spec_l00Src_pick r9.2 20).bind fun r10 =>
 if r10.1 = 0 then
 ((spec_l00Src_among r10.2 [(-1), 0, 10000, 10001]).bind fun r11 =>
 some (out2.set r9.1.toNat (GKeyPose.mk r11.1 v2.Joints), r11.2))
 else
 if r10.1 = 1 then
 ((spec_l04Bent r10.2).bind fun r12 =>
 some (out2.set r9.1.toNat (GKeyPose.mk v2.Tick r12.1), r12.2))
 else
 some (out2, r10.2))
 else
 some (out2, s5)) Empty.elim
/-- loop.example/g01063/spec.DrawPoseAt -/
def spec_DrawPoseAt (code1 : List Int) : Option ((List GKeyPose) × Int) :=
 (spec_l00From code1).bind fun r1 =>
 (spec_l04Draw r1).bind fun r2 =>
 (spec_l00Src_pick r2.2 70).bind fun r3 =>
 (spec_l00Src_pick r3.2 16).bind fun r4 =>
 some (r2.1, w64 (r3.1 - (w64 (r4.1.tdiv 15))))
/-- loop.example/g01063/spec.l00Max -/
def spec_l00Max (a1 : Int) (b1 : Int) : Option Int :=
 if a1 > b1 then
 (some a1)
 else
 some b1
/-- loop.example/g01063/spec.DrawPoseBetween -/
def spec_DrawPoseBetween (code1 : List Int) : Option ((List GPoint) × (List GPoint) × Int × Int) :=
 (spec_l00From code1).bind fun r1 =>
 (spec_l04Pair r1).bind fun r2 =>
 (spec_l00Src_pick r2.2.2 12).bind fun r3 =>
 (spec_l00Src_one r3.2 10).bind fun r4 =>
 ((if r4.1 then
 ((spec_l00Src_among r4.2 [(-1), 0, 1, 10000, 10001]).bind fun r5 =>
 some (r5.2, r5.1))
 else
 some (r4.2, w64 (1 + r3.1))) : Option (GL00Src × Int)).bind fun ((s1, parts1) : GL00Src × Int) =>
 (spec_l00Src_one s1 10).bind fun r6 =>
 if r6.1 then
 ((spec_l00Src_among r6.2 [(-1), 0, parts1, w64 (parts1 + 1)]).bind fun r7 =>
 some (r2.1, r2.2.1, r7.1, parts1))
 else
 (spec_l00Max 1 parts1).bind fun r8 =>
 (spec_l00Src_pick r6.2 (w64 (r8 + 1))).bind fun r9 =>
 some (r2.1, r2.2.1, r9.1, parts1)
/-- loop.example/g01063/spec.DrawSamePose -/
def spec_DrawSamePose (code1 : List Int) : Option ((List GPoint) × (List GPoint)) :=
 (spec_l00From code1).bind fun r1 =>
 (spec_l04Bent r1).bind fun r2 =>
 (app? ([] : List GPoint) r2.1).bind fun l1 =>
 ((if (l1.length : Int) > 0 then
 ((spec_l00Src_one r2.2 2).bind fun r3 =>
 some (r3.2, r3.1))
 else
 some (r2.2, false)) : Option (GL00Src × Bool)).bind fun ((s1, x1) : GL00Src × Bool) =>
 ((if x1 then
 ((at? l1 0).bind fun v1 =>
 (spec_l00Src_pick s1 2).bind fun r4 =>
 (at? l1 0).bind fun v2 =>
 some (r4.2, l1.set ((0 : Int).toNat) (GPoint.mk v2.X (w64 (v1.Y + r4.1)))))
 else
 some (s1, l1)) : Option (GL00Src × (List GPoint))).bind fun ((s2, b1) : GL00Src × (List GPoint)) =>
 (spec_l00Src_one s2 5).bind fun r5 =>
 if r5.1 then
 ((app? b1 ([(GPoint.mk 0 0)] : List GPoint)).bind fun l2 =>
 some (r2.1, l2))
 else
 some (r2.1, b1)
/-- loop.example/g01063/spec.l00In -/
def spec_l00In (n1 : Int) (low1 : Int) (high1 : Int) : Option Bool :=
 if n1 ≥ low1 then
 (some (decide (n1 ≤ high1)))
 else
 some false
/-- loop.example/g01063/spec.l04Ok -/
def spec_l04Ok (joints1 : List GPoint) : Option Bool :=
 onL (loop (S := Int) (B := Unit) (R := Bool) (fun (i1 : Int) =>
 if i1 < (joints1.length : Int) then
 ((((at? joints1 i1).bind fun v1 =>
 (spec_l00In v1.X 0 1000).bind fun r1 =>
 if r1 then
 ((at? joints1 i1).bind fun v2 =>
 (spec_l00In v2.Y 0 1000).bind fun r2 =>
 some (!r2))
 else
 some true) : Option Bool).bind fun (x1 : Bool) =>
 if x1 then
 (some (.ret false))
 else
 some (.next (w64 (i1 + 1))))
 else
 some (.brk ())) loopLim 0)
 (fun (_ : Unit) => (spec_l00In (joints1.length : Int) 1 8).bind fun r3 =>
 some r3) (fun r => some r)
/-- loop.example/g01063/spec.l04Two -/
def spec_l04Two (a1 : List GPoint) (b1 : List GPoint) : Option Int :=
 (((spec_l04Ok a1).bind fun r1 =>
 if r1 then
 ((spec_l04Ok b1).bind fun r2 =>
 some (!r2))
 else
 some true) : Option Bool).bind fun (x1 : Bool) =>
 if x1 then
 (some 1)
 else
 some 0
/-- loop.example/g01063/spec.GreatestMove -/
def spec_GreatestMove (a1 : List GPoint) (b1 : List GPoint) : Option (Int × Int × Int) :=
 (spec_l04Two a1 b1).bind fun r1 =>
 ((if r1 = 0 then
 (some (!(decide ((a1.length : Int) = (b1.length : Int)))))
 else
 some false) : Option Bool).bind fun (x1 : Bool) =>
 ((if x1 then
 (some 8)
 else
 some r1) : Option Int).bind fun (code1 : Int) =>
 if code1 = 0 then
 (onL (loop (S := (Int × Int × Int)) (B := (Int × Int)) (R := Empty) (fun ((best1, most1, i1) : Int × Int × Int) =>
 if i1 < (a1.length : Int) then
 ((at? a1 i1).bind fun v1 =>
 (at? b1 i1).bind fun v2 =>
 (at? a1 i1).bind fun v3 =>
 (at? b1 i1).bind fun v4 =>
 if (w64 ((w64 ((w64 (v1.X - v2.X)) * (w64 (v1.X - v2.X)))) + (w64 ((w64 (v3.Y - v4.Y)) * (w64 (v3.Y - v4.Y)))))) > most1 then
 (some (.next (i1, w64 ((w64 ((w64 (v1.X - v2.X)) * (w64 (v1.X - v2.X)))) + (w64 ((w64 (v3.Y - v4.Y)) * (w64 (v3.Y - v4.Y))))), w64 (i1 + 1))))
 else
 some (.next (best1, most1, w64 (i1 + 1))))
 else
 some (.brk (best1, most1))) loopLim (0, (-1), 0))
 (fun ((best2, most2) : Int × Int) => some (best2, most2, 0)) Empty.elim)
 else
 some (0, 0, code1)
/-- loop.example/g01063/spec.MirrorPose -/
def spec_MirrorPose (joints1 : List GPoint) (width1 : Int) : Option ((List GPoint) × Int) :=
 (spec_l04Ok joints1).bind fun r1 =>
 if r1 then
 ((spec_l00In width1 0 1000).bind fun r2 =>
 if r2 then
 (onL (loop (S := ((List GPoint) × Int)) (B := (List GPoint)) (R := ((List GPoint) × Int)) (fun ((out1, i1) : (List GPoint) × Int) =>
 if i1 < (joints1.length : Int) then
 ((at? joints1 i1).bind fun v1 =>
 if v1.X > width1 then
 (some (.ret ([], 6)))
 else
 (at? joints1 i1).bind fun v2 =>
 (at? joints1 i1).bind fun v3 =>
 (app? out1 ([(GPoint.mk (w64 (width1 - v2.X)) v3.Y)] : List GPoint)).bind fun l1 =>
 some (.next (l1, w64 (i1 + 1))))
 else
 some (.brk out1)) loopLim ([], 0))
 (fun (out2 : List GPoint) => some (out2, 0)) (fun r => some r))
 else
 some ([], 2))
 else
 some ([], 1)
/-- loop.example/g01063/spec.l00Floor -/
def spec_l00Floor (num1 : Int) (den1 : Int) : Option Int :=
 (div? .i64 num1 den1).bind fun q1 =>
 (mod? num1 den1).bind fun q2 =>
 if q2 < 0 then
 (some (w64 (q1 - 1)))
 else
 some q1
/-- loop.example/g01063/spec.l00Round -/
def spec_l00Round (num1 : Int) (den1 : Int) : Option Int :=
 (spec_l00Floor (w64 ((w64 (2 * num1)) + den1)) (w64 (2 * den1))).bind fun r1 =>
 some r1
/-- loop.example/g01063/spec.l04Between -/
def spec_l04Between (a1 : List GPoint) (b1 : List GPoint) (part1 : Int) (parts1 : Int) : Option (List GPoint) :=
 onL (loop (S := ((List GPoint) × Int)) (B := (List GPoint)) (R := Empty) (fun ((out1, i1) : (List GPoint) × Int) =>
 if i1 < (a1.length : Int) then
 ((at? a1 i1).bind fun v1 =>
 (at? b1 i1).bind fun v2 =>
 (spec_l00Round (w64 ((w64 (v1.X * (w64 (parts1 - part1)))) + (w64 (v2.X * part1)))) parts1).bind fun r1 =>
 (at? a1 i1).bind fun v3 =>
 (at? b1 i1).bind fun v4 =>
 (spec_l00Round (w64 ((w64 (v3.Y * (w64 (parts1 - part1)))) + (w64 (v4.Y * part1)))) parts1).bind fun r2 =>
 (app? out1 ([(GPoint.mk r1 r2)] : List GPoint)).bind fun l1 =>
 some (.next (l1, w64 (i1 + 1))))
 else
 some (.brk out1)) loopLim ([], 0))
 (fun (out2 : List GPoint) => some out2) Empty.elim
/-- loop.example/g01063/spec.l04At -/
def spec_l04At (list1 : List GKeyPose) (tick1 : Int) : Option (List GPoint) :=
 onL (loop (S := Int) (B := Unit) (R := (List GPoint)) (fun (i1 : Int) =>
 if i1 < (list1.length : Int) then
 ((at? list1 (w64 (i1 - 1))).bind fun v1 =>
 (at? list1 i1).bind fun v2 =>
 if tick1 ≤ v2.Tick then
 ((spec_l04Between v1.Joints v2.Joints (w64 (tick1 - v1.Tick)) (w64 (v2.Tick - v1.Tick))).bind fun r1 =>
 some (.ret r1))
 else
 some (.next (w64 (i1 + 1))))
 else
 some (.brk ())) loopLim 1)
 (fun (_ : Unit) => (at? list1 0).bind fun v3 =>
 (app? ([] : List GPoint) v3.Joints).bind fun l1 =>
 some l1) (fun r => some r)
/-- loop.example/g01063/spec.l04Keys -/
def spec_l04Keys (list1 : List GKeyPose) : Option Bool :=
 onL (loop (S := Int) (B := Unit) (R := Bool) (fun (i1 : Int) =>
 if i1 < (list1.length : Int) then
 ((at? list1 i1).bind fun v1 =>
 (((spec_l00In v1.Tick 0 10000).bind fun r1 =>
 if r1 then
 ((spec_l04Ok v1.Joints).bind fun r2 =>
 if r2 then
 ((at? list1 0).bind fun v2 =>
 if (v1.Joints.length : Int) = (v2.Joints.length : Int) then
 (if i1 > 0 then
 ((at? list1 (w64 (i1 - 1))).bind fun v3 =>
 some (decide (v3.Tick ≥ v1.Tick)))
 else
 some false)
 else
 some true)
 else
 some true)
 else
 some true) : Option Bool).bind fun (x1 : Bool) =>
 if x1 then
 (some (.ret false))
 else
 some (.next (w64 (i1 + 1))))
 else
 some (.brk ())) loopLim 0)
 (fun (_ : Unit) => (spec_l00In (list1.length : Int) 1 10).bind fun r3 =>
 some r3) (fun r => some r)
/-- loop.example/g01063/spec.PoseAt -/
def spec_PoseAt (list1 : List GKeyPose) (tick1 : Int) : Option ((List GPoint) × Int) :=
 (spec_l04Keys list1).bind fun r1 =>
 if r1 then
 ((at? list1 0).bind fun v1 =>
 (at? list1 (w64 ((list1.length : Int) - 1))).bind fun v2 =>
 (spec_l00In tick1 v1.Tick v2.Tick).bind fun r2 =>
 if r2 then
 ((spec_l04At list1 tick1).bind fun r3 =>
 some (r3, 0))
 else
 some ([], 2))
 else
 some ([], 1)
/-- loop.example/g01063/spec.PoseBetween -/
def spec_PoseBetween (a1 : List GPoint) (b1 : List GPoint) (part1 : Int) (parts1 : Int) : Option ((List GPoint) × Int) :=
 (spec_l04Two a1 b1).bind fun r1 =>
 ((if r1 = 0 then
 ((spec_l00In parts1 1 10000).bind fun r2 =>
 if r2 then
 ((spec_l00In part1 0 parts1).bind fun r3 =>
 some (!r3))
 else
 some true)
 else
 some false) : Option Bool).bind fun (x1 : Bool) =>
 ((if x1 then
 (some 2)
 else
 some r1) : Option Int).bind fun (code1 : Int) =>
 ((if code1 = 0 then
 (some (!(decide ((a1.length : Int) = (b1.length : Int)))))
 else
 some false) : Option Bool).bind fun (x2 : Bool) =>
 ((if x2 then
 (some 8)
 else
 some code1) : Option Int).bind fun (code2 : Int) =>
 if code2 = 0 then
 ((spec_l04Between a1 b1 part1 parts1).bind fun r4 =>
 some (r4, 0))
 else
 some ([], code2)
/-- loop.example/g01063/spec.SamePose -/
def spec_SamePose (a1 : List GPoint) (b1 : List GPoint) : Option Bool :=
 if (a1.length : Int) = (b1.length : Int) then
 (onL (loop (S := Int) (B := Unit) (R := Bool) (fun (i1 : Int) =>
 if i1 < (a1.length : Int) then
 ((at? a1 i1).bind fun v1 =>
 (at? b1 i1).bind fun v2 =>
 if (v1.X == v2.X && (v1.Y == v2.Y && true)) then
 (some (.next (w64 (i1 + 1))))
 else
 some (.ret false))
 else
 some (.brk ())) loopLim 0)
 (fun (_ : Unit) => some true) (fun r => some r))
 else
 some false
/-- loop.example/g01063/spec.ValidKeys -/
def spec_ValidKeys (list1 : List GKeyPose) : Option Bool :=
 (spec_l04Keys list1).bind fun r1 =>
 some r1
/-- loop.example/g01063/spec.ValidPose -/
def spec_ValidPose (joints1 : List GPoint) : Option Bool :=
 (spec_l04Ok joints1).bind fun r1 =>
 some r1
/-- loop.example/g01063/laws.FnPoses -/
def laws_FnPoses (code1 : List Int) : Option Bool :=
 (laws_f6big code1).bind fun r1 =>
 if r1 then
 (some true)
 else
 (spec_DrawPoseBetween code1).bind fun r2 =>
 (impl_PoseBetween r2.1 r2.2.1 r2.2.2.1 r2.2.2.2).bind fun r3 =>
 (spec_PoseBetween r2.1 r2.2.1 r2.2.2.1 r2.2.2.2).bind fun r4 =>
 (spec_DrawPoseAt code1).bind fun r5 =>
 (impl_PoseAt r5.1 r5.2).bind fun r6 =>
 (spec_PoseAt r5.1 r5.2).bind fun r7 =>
 (spec_DrawMirrorPose code1).bind fun r8 =>
 (impl_MirrorPose r8.1 r8.2).bind fun r9 =>
 (spec_MirrorPose r8.1 r8.2).bind fun r10 =>
 (spec_DrawGreatestMove code1).bind fun r11 =>
 (impl_GreatestMove r11.1 r11.2).bind fun r12 =>
 (spec_GreatestMove r11.1 r11.2).bind fun r13 =>
 (spec_DrawSamePose code1).bind fun r14 =>
 ((if r3.2 = r4.2 then
 ((spec_SamePose r3.1 r4.1).bind fun r15 =>
 if r15 then
 (if r6.2 = r7.2 then
 ((spec_SamePose r6.1 r7.1).bind fun r16 =>
 if r16 then
 (if r9.2 = r10.2 then
 ((spec_SamePose r9.1 r10.1).bind fun r17 =>
 if r17 then
 (if r12.2.2 = r13.2.2 then
 (if r12.1 = r13.1 then
 (if r12.2.1 = r13.2.1 then
 ((impl_SamePose r14.1 r14.2).bind fun r18 =>
 (spec_SamePose r14.1 r14.2).bind fun r19 =>
 if (r18 == r19) then
 ((impl_ValidPose r8.1).bind fun r20 =>
 (spec_ValidPose r8.1).bind fun r21 =>
 if (r20 == r21) then
 ((impl_ValidKeys r5.1).bind fun r22 =>
 (spec_ValidKeys r5.1).bind fun r23 =>
 some (!(r22 == r23)))
 else
 some true)
 else
 some true)
 else
 some true)
 else
 some true)
 else
 some true)
 else
 some true)
 else
 some true)
 else
 some true)
 else
 some true)
 else
 some true)
 else
 some true) : Option Bool).bind fun (x1 : Bool) =>
 if x1 then
 (some false)
 else
 onS (S := Unit) (B := Empty) (R := Bool) (if r9.2 = 0 then
 ((impl_MirrorPose r9.1 r8.2).bind fun r24 =>
 if r24.2 = 0 then
 ((spec_SamePose r24.1 r8.1).bind fun r25 =>
 if r25 then
 (some (.next ()))
 else
 some (.ret false))
 else
 some (.ret false))
 else
 some (.next ()))
 (fun (_ : Unit) => onS (S := Unit) (B := Empty) (R := Bool) (if r6.2 = 0 then
 (onL (loop (S := Int) (B := Unit) (R := Bool) (fun (i1 : Int) =>
 if i1 < (r5.1.length : Int) then
 ((at? r5.1 i1).bind fun v1 =>
 (impl_PoseAt r5.1 v1.Tick).bind fun r26 =>
 ((if r26.2 = 0 then
 ((at? r5.1 i1).bind fun v2 =>
 (spec_SamePose r26.1 v2.Joints).bind fun r27 =>
 some (!r27))
 else
 some true) : Option Bool).bind fun (x2 : Bool) =>
 if x2 then
 (some (.ret false))
 else
 some (.next (w64 (i1 + 1))))
 else
 some (.brk ())) loopLim 0)
 (fun (_ : Unit) => some (.next ())) (fun r => some (.ret r)))
 else
 some (.next ()))
 (fun (_ : Unit) => if r3.2 = 0 then
 (onL (loop (S := Int) (B := Unit) (R := Bool) (fun (i2 : Int) =>
 if i2 < (r4.1.length : Int) then
 ((at? r4.1 i2).bind fun v3 =>
 (((at? r2.1 i2).bind fun v4 =>
 (at? r2.2.1 i2).bind fun v5 =>
 if v3.X < (imin v4.X v5.X) then
 (some true)
 else
 (at? r2.1 i2).bind fun v6 =>
 (at? r2.2.1 i2).bind fun v7 =>
 if v3.X > (imax v6.X v7.X) then
 (some true)
 else
 (at? r2.1 i2).bind fun v8 =>
 (at? r2.2.1 i2).bind fun v9 =>
 if v3.Y < (imin v8.Y v9.Y) then
 (some true)
 else
 (at? r2.1 i2).bind fun v10 =>
 (at? r2.2.1 i2).bind fun v11 =>
 some (decide (v3.Y > (imax v10.Y v11.Y)))) : Option Bool).bind fun (x3 : Bool) =>
 if x3 then
 (some (.ret false))
 else
 some (.next (w64 (i2 + 1))))
 else
 some (.brk ())) loopLim 0)
 (fun (_ : Unit) => some true) (fun r => some r))
 else
 some true)
 Empty.elim (fun r => some r))
 Empty.elim (fun r => some r)
end Go.Vs.G
