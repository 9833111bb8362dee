/-
  No cell of these rows narrows 'for every input' (looked for: loops, veiled, ifaces, maps, wideKeys, modest, calm, conditions, laid).
  DERIVED. THE GIVEN ROWS OF THIS SEAT. 5 by the template 'for every input the law returns true; each argument reads behind the call as it read before'; 0 by the template 'total and deterministic' (their statements: YtoeekebkinljpaaTotals.lean).
  GIVEN WITH THE SEED: the statements are not yours to turn. If you find one false, say at which input.
  Laid BY PROGRAM, IN A SANDBOX (cutbox-rows.mjs): the forced cells as the released guide's own fill.sh prints them over the translation 76545cea11811c86… (all of the seat's roots in one cut). By AI agents, Wed Nov 11 2026. No macro, syntax, notation, axiom, sorry.
-/
import Derived.Test.YtoeekebkinljpaaChecked
import GoSem.Claim
import GoSem.ClaimJoined
import GoSem.ClaimMapViews
import Derived.JoinedTies
import Derived.KernelRfl
namespace Go.Proofs.Ytoeekebkinljpaa
/- THE CELL 'sum', in the pinned program and in every row, IS THE sha256 OF THE DUMP (.gsa) THAT YtoeekebkinljpaaProg.lean LOADS. Nothing in Lean hashes anything: it is a label: what it is worth is what the hold of that sum in a sandbox is worth. -/
noncomputable def Try.pinned : Pinned := { name := "ytoeekebkinljpaa", sum := "76545cea11811c864eef0bc26a6ccf77ce3ce31b7d461d37badbd0713ad59bcb", checked := Try.checked }
namespace Rows
def none {H : Type} : Left H := { results := [], args := [] }

/-- 'laws.FnOffsets': WHATEVER THE INPUT: true; the input reads as it did. -/
def fnOffsetsSpec : ChangeSpec := { name := "fnOffsets", fn := fun _ => fun
  | [d] => { results := [.lit (.bool true)], args := [d] }
  | _ => none }
def fnOffsetsRow : OpenClaim := { program := "ytoeekebkinljpaa", sum := "76545cea11811c864eef0bc26a6ccf77ce3ce31b7d461d37badbd0713ad59bcb", func := "loop.example/g01063/laws.FnOffsets", spec := "fnOffsets", apart := false }
def FnOffsetsSaid : Prop := fnOffsetsRow.holds Try.pinned (OpenSpec.ofChange fnOffsetsSpec)

/-- ITS FALSE NEIGHBOUR: 'it returns false'. Refute it at one input. -/
def fnOffsetsWrong : ChangeSpec := { name := "fnOffsets", fn := fun _ => fun
  | [d] => { results := [.lit (.bool false)], args := [d] }
  | _ => none }
def FnOffsetsWrongFalsely : Prop := fnOffsetsRow.holds Try.pinned (OpenSpec.ofChange fnOffsetsWrong)

/-- 'laws.FnWheelsOfLight': WHATEVER THE INPUT: true; the input reads as it did. -/
def fnWheelsOfLightSpec : ChangeSpec := { name := "fnWheelsOfLight", fn := fun _ => fun
  | [d] => { results := [.lit (.bool true)], args := [d] }
  | _ => none }
def fnWheelsOfLightRow : OpenClaim := { program := "ytoeekebkinljpaa", sum := "76545cea11811c864eef0bc26a6ccf77ce3ce31b7d461d37badbd0713ad59bcb", func := "loop.example/g01063/laws.FnWheelsOfLight", spec := "fnWheelsOfLight", apart := false }
def FnWheelsOfLightSaid : Prop := fnWheelsOfLightRow.holds Try.pinned (OpenSpec.ofChange fnWheelsOfLightSpec)

/-- ITS FALSE NEIGHBOUR: 'it returns false'. Refute it at one input. -/
def fnWheelsOfLightWrong : ChangeSpec := { name := "fnWheelsOfLight", fn := fun _ => fun
  | [d] => { results := [.lit (.bool false)], args := [d] }
  | _ => none }
def FnWheelsOfLightWrongFalsely : Prop := fnWheelsOfLightRow.holds Try.pinned (OpenSpec.ofChange fnWheelsOfLightWrong)

/-- 'laws.FnSteady': WHATEVER THE INPUT: true; the input reads as it did. -/
def fnSteadySpec : ChangeSpec := { name := "fnSteady", fn := fun _ => fun
  | [d] => { results := [.lit (.bool true)], args := [d] }
  | _ => none }
def fnSteadyRow : OpenClaim := { program := "ytoeekebkinljpaa", sum := "76545cea11811c864eef0bc26a6ccf77ce3ce31b7d461d37badbd0713ad59bcb", func := "loop.example/g01063/laws.FnSteady", spec := "fnSteady", apart := false }
def FnSteadySaid : Prop := fnSteadyRow.holds Try.pinned (OpenSpec.ofChange fnSteadySpec)

/-- ITS FALSE NEIGHBOUR: 'it returns false'. Refute it at one input. -/
def fnSteadyWrong : ChangeSpec := { name := "fnSteady", fn := fun _ => fun
  | [d] => { results := [.lit (.bool false)], args := [d] }
  | _ => none }
def FnSteadyWrongFalsely : Prop := fnSteadyRow.holds Try.pinned (OpenSpec.ofChange fnSteadyWrong)

/-- 'laws.FnRacks': WHATEVER THE INPUT: true; the input reads as it did. -/
def fnRacksSpec : ChangeSpec := { name := "fnRacks", fn := fun _ => fun
  | [d] => { results := [.lit (.bool true)], args := [d] }
  | _ => none }
def fnRacksRow : OpenClaim := { program := "ytoeekebkinljpaa", sum := "76545cea11811c864eef0bc26a6ccf77ce3ce31b7d461d37badbd0713ad59bcb", func := "loop.example/g01063/laws.FnRacks", spec := "fnRacks", unfollowed := true, recurses := true, apart := false }
def FnRacksSaid : Prop := fnRacksRow.holds Try.pinned (OpenSpec.ofChange fnRacksSpec)

/-- ITS FALSE NEIGHBOUR: 'it returns false'. Refute it at one input. -/
def fnRacksWrong : ChangeSpec := { name := "fnRacks", fn := fun _ => fun
  | [d] => { results := [.lit (.bool false)], args := [d] }
  | _ => none }
def FnRacksWrongFalsely : Prop := fnRacksRow.holds Try.pinned (OpenSpec.ofChange fnRacksWrong)

/-- 'laws.FnWheels': WHATEVER THE INPUT: true; the input reads as it did. -/
def fnWheelsSpec : ChangeSpec := { name := "fnWheels", fn := fun _ => fun
  | [d] => { results := [.lit (.bool true)], args := [d] }
  | _ => none }
def fnWheelsRow : OpenClaim := { program := "ytoeekebkinljpaa", sum := "76545cea11811c864eef0bc26a6ccf77ce3ce31b7d461d37badbd0713ad59bcb", func := "loop.example/g01063/laws.FnWheels", spec := "fnWheels", unfollowed := true, recurses := true, apart := false }
def FnWheelsSaid : Prop := fnWheelsRow.holds Try.pinned (OpenSpec.ofChange fnWheelsSpec)

/-- ITS FALSE NEIGHBOUR: 'it returns false'. Refute it at one input. -/
def fnWheelsWrong : ChangeSpec := { name := "fnWheels", fn := fun _ => fun
  | [d] => { results := [.lit (.bool false)], args := [d] }
  | _ => none }
def FnWheelsWrongFalsely : Prop := fnWheelsRow.holds Try.pinned (OpenSpec.ofChange fnWheelsWrong)

/- THE SECOND FORM. 'bulk': how many values and letters a reading holds, each counted each time it is reached (what is shared counts as often as it is met; a slice's spare places count too). A statement '..UptoSaid' is the law's where the arguments, and the package variables that the reading takes, are together of bulk at most 1048576: NARROWER than '..Said'. Prove '..Said' where nothing that the law and all that it calls make is longer than what came in: it says more and counts as full. Else prove '..UptoSaid'. A law counts once. -/
mutual
def uptoBulk {H : Type} : DataW H → Nat
  | .lit (.string bytes) => bytes.length + 1
  | .lit _ => 1
  | .nil => 1
  | .ptr d => uptoBulk d + 1
  | .slice elems spare => uptoBulkAll elems + uptoBulkAll spare + 1
  | .agg parts => uptoBulkAll parts + 1
  | .iface _ d => uptoBulk d + 1
  | .map entries => uptoBulkEntries entries + 1
  | .held _ => 1
def uptoBulkAll {H : Type} : List (DataW H) → Nat
  | [] => 0
  | d :: r => uptoBulk d + uptoBulkAll r
def uptoBulkEntries {H : Type} : List (Lit × DataW H) → Nat
  | [] => 0
  | x :: r => uptoBulkEntry x + uptoBulkEntries r
def uptoBulkEntry {H : Type} : Lit × DataW H → Nat
  | (.string bytes, d) => bytes.length + uptoBulk d + 1
  | (_, d) => uptoBulk d + 1
 end
def uptoSmall : (H : Type) → List (DataW H) → Bool := fun _ ds => decide (uptoBulkAll ds ≤ 1048576)
def OpenSpec.upto (s : _root_.Go.ChangeSpec) : _root_.Go.OpenSpec := { _root_.Go.OpenSpec.ofChange s with cond := some uptoSmall }

/-- 'laws.FnOffsets', WHERE WHAT IT READS IS OF BULK AT MOST 1048576: true; the input reads as it did. -/
def fnOffsetsUptoRow : OpenClaim := { program := "ytoeekebkinljpaa", sum := "76545cea11811c864eef0bc26a6ccf77ce3ce31b7d461d37badbd0713ad59bcb", func := "loop.example/g01063/laws.FnOffsets", spec := "fnOffsets", apart := false, narrowed := true }
def FnOffsetsUptoSaid : Prop := fnOffsetsUptoRow.holds Try.pinned (OpenSpec.upto fnOffsetsSpec)

/-- 'laws.FnWheelsOfLight', WHERE WHAT IT READS IS OF BULK AT MOST 1048576: true; the input reads as it did. -/
def fnWheelsOfLightUptoRow : OpenClaim := { program := "ytoeekebkinljpaa", sum := "76545cea11811c864eef0bc26a6ccf77ce3ce31b7d461d37badbd0713ad59bcb", func := "loop.example/g01063/laws.FnWheelsOfLight", spec := "fnWheelsOfLight", apart := false, narrowed := true }
def FnWheelsOfLightUptoSaid : Prop := fnWheelsOfLightUptoRow.holds Try.pinned (OpenSpec.upto fnWheelsOfLightSpec)

/-- 'laws.FnSteady', WHERE WHAT IT READS IS OF BULK AT MOST 1048576: true; the input reads as it did. -/
def fnSteadyUptoRow : OpenClaim := { program := "ytoeekebkinljpaa", sum := "76545cea11811c864eef0bc26a6ccf77ce3ce31b7d461d37badbd0713ad59bcb", func := "loop.example/g01063/laws.FnSteady", spec := "fnSteady", apart := false, narrowed := true }
def FnSteadyUptoSaid : Prop := fnSteadyUptoRow.holds Try.pinned (OpenSpec.upto fnSteadySpec)

/-- 'laws.FnRacks', WHERE WHAT IT READS IS OF BULK AT MOST 1048576: true; the input reads as it did. -/
def fnRacksUptoRow : OpenClaim := { program := "ytoeekebkinljpaa", sum := "76545cea11811c864eef0bc26a6ccf77ce3ce31b7d461d37badbd0713ad59bcb", func := "loop.example/g01063/laws.FnRacks", spec := "fnRacks", unfollowed := true, recurses := true, apart := false, narrowed := true }
def FnRacksUptoSaid : Prop := fnRacksUptoRow.holds Try.pinned (OpenSpec.upto fnRacksSpec)

/-- 'laws.FnWheels', WHERE WHAT IT READS IS OF BULK AT MOST 1048576: true; the input reads as it did. -/
def fnWheelsUptoRow : OpenClaim := { program := "ytoeekebkinljpaa", sum := "76545cea11811c864eef0bc26a6ccf77ce3ce31b7d461d37badbd0713ad59bcb", func := "loop.example/g01063/laws.FnWheels", spec := "fnWheels", unfollowed := true, recurses := true, apart := false, narrowed := true }
def FnWheelsUptoSaid : Prop := fnWheelsUptoRow.holds Try.pinned (OpenSpec.upto fnWheelsSpec)

end Rows
end Go.Proofs.Ytoeekebkinljpaa
