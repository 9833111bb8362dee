/-
  No cell of these rows narrows 'for every input' (looked for: loops, veiled, ifaces, maps, wideKeys, modest, calm, conditions, laid).
  DERIVED. THE GIVEN ROWS OF THIS SEAT. 7 by the template 'for every input the law returns true; each argument reads behind the call as it read before'; 0 by the template 'total and deterministic' (their statements: YtnpifcoeioincaaTotals.lean).
  GIVEN WITH THE SEED: the statements are not yours to turn. If you find one false, say at which input.
  Laid BY PROGRAM, IN A SANDBOX (cutbox-rows.mjs): the forced cells as the released guide's own fill.sh prints them over the translation 78b7d318d0ff407e… (all of the seat's roots in one cut). By AI agents, Wed Nov 11 2026. No macro, syntax, notation, axiom, sorry.
-/
import Derived.Test.YtnpifcoeioincaaChecked
import GoSem.Claim
import GoSem.ClaimJoined
import GoSem.ClaimMapViews
import Derived.JoinedTies
import Derived.KernelRfl
namespace Go.Proofs.Ytnpifcoeioincaa
/- THE CELL 'sum', in the pinned program and in every row, IS THE sha256 OF THE DUMP (.gsa) THAT YtnpifcoeioincaaProg.lean LOADS. Nothing in Lean hashes anything: it is a label: what it is worth is what the hold of that sum in a sandbox is worth. -/
noncomputable def Try.pinned : Pinned := { name := "ytnpifcoeioincaa", sum := "78b7d318d0ff407ee42684f13de726532de6a4df6d71eefc22ec01c1790d7055", checked := Try.checked }
namespace Rows
def none {H : Type} : Left H := { results := [], args := [] }

/-- 'laws.FnKeyPoses': WHATEVER THE INPUT: true; the input reads as it did. -/
def fnKeyPosesSpec : ChangeSpec := { name := "fnKeyPoses", fn := fun _ => fun
  | [d] => { results := [.lit (.bool true)], args := [d] }
  | _ => none }
def fnKeyPosesRow : OpenClaim := { program := "ytnpifcoeioincaa", sum := "78b7d318d0ff407ee42684f13de726532de6a4df6d71eefc22ec01c1790d7055", func := "loop.example/g01063/laws.FnKeyPoses", spec := "fnKeyPoses", unfollowed := true, recurses := true, apart := false }
def FnKeyPosesSaid : Prop := fnKeyPosesRow.holds Try.pinned (OpenSpec.ofChange fnKeyPosesSpec)

/-- ITS FALSE NEIGHBOUR: 'it returns false'. Refute it at one input. -/
def fnKeyPosesWrong : ChangeSpec := { name := "fnKeyPoses", fn := fun _ => fun
  | [d] => { results := [.lit (.bool false)], args := [d] }
  | _ => none }
def FnKeyPosesWrongFalsely : Prop := fnKeyPosesRow.holds Try.pinned (OpenSpec.ofChange fnKeyPosesWrong)

/-- 'laws.FnPoses': WHATEVER THE INPUT: true; the input reads as it did. -/
def fnPosesSpec : ChangeSpec := { name := "fnPoses", fn := fun _ => fun
  | [d] => { results := [.lit (.bool true)], args := [d] }
  | _ => none }
def fnPosesRow : OpenClaim := { program := "ytnpifcoeioincaa", sum := "78b7d318d0ff407ee42684f13de726532de6a4df6d71eefc22ec01c1790d7055", func := "loop.example/g01063/laws.FnPoses", spec := "fnPoses", unfollowed := true, recurses := true, apart := false }
def FnPosesSaid : Prop := fnPosesRow.holds Try.pinned (OpenSpec.ofChange fnPosesSpec)

/-- ITS FALSE NEIGHBOUR: 'it returns false'. Refute it at one input. -/
def fnPosesWrong : ChangeSpec := { name := "fnPoses", fn := fun _ => fun
  | [d] => { results := [.lit (.bool false)], args := [d] }
  | _ => none }
def FnPosesWrongFalsely : Prop := fnPosesRow.holds Try.pinned (OpenSpec.ofChange fnPosesWrong)

/-- 'laws.FnLoops': WHATEVER THE INPUT: true; the input reads as it did. -/
def fnLoopsSpec : ChangeSpec := { name := "fnLoops", fn := fun _ => fun
  | [d] => { results := [.lit (.bool true)], args := [d] }
  | _ => none }
def fnLoopsRow : OpenClaim := { program := "ytnpifcoeioincaa", sum := "78b7d318d0ff407ee42684f13de726532de6a4df6d71eefc22ec01c1790d7055", func := "loop.example/g01063/laws.FnLoops", spec := "fnLoops", unfollowed := true, recurses := true, apart := false }
def FnLoopsSaid : Prop := fnLoopsRow.holds Try.pinned (OpenSpec.ofChange fnLoopsSpec)

/-- ITS FALSE NEIGHBOUR: 'it returns false'. Refute it at one input. -/
def fnLoopsWrong : ChangeSpec := { name := "fnLoops", fn := fun _ => fun
  | [d] => { results := [.lit (.bool false)], args := [d] }
  | _ => none }
def FnLoopsWrongFalsely : Prop := fnLoopsRow.holds Try.pinned (OpenSpec.ofChange fnLoopsWrong)

/-- 'laws.FnJoinedLoops': WHATEVER THE INPUT: true; the input reads as it did. -/
def fnJoinedLoopsSpec : ChangeSpec := { name := "fnJoinedLoops", fn := fun _ => fun
  | [d] => { results := [.lit (.bool true)], args := [d] }
  | _ => none }
def fnJoinedLoopsRow : OpenClaim := { program := "ytnpifcoeioincaa", sum := "78b7d318d0ff407ee42684f13de726532de6a4df6d71eefc22ec01c1790d7055", func := "loop.example/g01063/laws.FnJoinedLoops", spec := "fnJoinedLoops", unfollowed := true, recurses := true, apart := false }
def FnJoinedLoopsSaid : Prop := fnJoinedLoopsRow.holds Try.pinned (OpenSpec.ofChange fnJoinedLoopsSpec)

/-- ITS FALSE NEIGHBOUR: 'it returns false'. Refute it at one input. -/
def fnJoinedLoopsWrong : ChangeSpec := { name := "fnJoinedLoops", fn := fun _ => fun
  | [d] => { results := [.lit (.bool false)], args := [d] }
  | _ => none }
def FnJoinedLoopsWrongFalsely : Prop := fnJoinedLoopsRow.holds Try.pinned (OpenSpec.ofChange fnJoinedLoopsWrong)

/-- 'laws.FnBooks': WHATEVER THE INPUT: true; the input reads as it did. -/
def fnBooksSpec : ChangeSpec := { name := "fnBooks", fn := fun _ => fun
  | [d1, d2] => { results := [.lit (.bool true)], args := [d1, d2] }
  | _ => none }
def fnBooksRow : OpenClaim := { program := "ytnpifcoeioincaa", sum := "78b7d318d0ff407ee42684f13de726532de6a4df6d71eefc22ec01c1790d7055", func := "loop.example/g01063/laws.FnBooks", spec := "fnBooks", inPlace := ["internal/abi.NoEscape", "internal/bytealg.MakeNoZero"], unfollowed := true, recurses := true, apart := false }
def FnBooksSaid : Prop := fnBooksRow.holds Try.pinned (OpenSpec.ofChange fnBooksSpec)

/-- ITS FALSE NEIGHBOUR: 'it returns false'. Refute it at one input. -/
def fnBooksWrong : ChangeSpec := { name := "fnBooks", fn := fun _ => fun
  | [d1, d2] => { results := [.lit (.bool false)], args := [d1, d2] }
  | _ => none }
def FnBooksWrongFalsely : Prop := fnBooksRow.holds Try.pinned (OpenSpec.ofChange fnBooksWrong)

/-- 'laws.FnTicks': WHATEVER THE INPUT: true; the input reads as it did. -/
def fnTicksSpec : ChangeSpec := { name := "fnTicks", fn := fun _ => fun
  | [d1, d2] => { results := [.lit (.bool true)], args := [d1, d2] }
  | _ => none }
def fnTicksRow : OpenClaim := { program := "ytnpifcoeioincaa", sum := "78b7d318d0ff407ee42684f13de726532de6a4df6d71eefc22ec01c1790d7055", func := "loop.example/g01063/laws.FnTicks", spec := "fnTicks", inPlace := ["internal/abi.NoEscape", "internal/bytealg.MakeNoZero"], apart := false }
def FnTicksSaid : Prop := fnTicksRow.holds Try.pinned (OpenSpec.ofChange fnTicksSpec)

/-- ITS FALSE NEIGHBOUR: 'it returns false'. Refute it at one input. -/
def fnTicksWrong : ChangeSpec := { name := "fnTicks", fn := fun _ => fun
  | [d1, d2] => { results := [.lit (.bool false)], args := [d1, d2] }
  | _ => none }
def FnTicksWrongFalsely : Prop := fnTicksRow.holds Try.pinned (OpenSpec.ofChange fnTicksWrong)

/-- 'laws.FnStrips': WHATEVER THE INPUT: true; the input reads as it did. -/
def fnStripsSpec : ChangeSpec := { name := "fnStrips", fn := fun _ => fun
  | [d] => { results := [.lit (.bool true)], args := [d] }
  | _ => none }
def fnStripsRow : OpenClaim := { program := "ytnpifcoeioincaa", sum := "78b7d318d0ff407ee42684f13de726532de6a4df6d71eefc22ec01c1790d7055", func := "loop.example/g01063/laws.FnStrips", spec := "fnStrips", apart := false }
def FnStripsSaid : Prop := fnStripsRow.holds Try.pinned (OpenSpec.ofChange fnStripsSpec)

/-- ITS FALSE NEIGHBOUR: 'it returns false'. Refute it at one input. -/
def fnStripsWrong : ChangeSpec := { name := "fnStrips", fn := fun _ => fun
  | [d] => { results := [.lit (.bool false)], args := [d] }
  | _ => none }
def FnStripsWrongFalsely : Prop := fnStripsRow.holds Try.pinned (OpenSpec.ofChange fnStripsWrong)

/- THE SECOND FORM. 'bulk': how many values and letters a reading holds, each counted each time it is reached (what is shared counts as often as it is met; a slice's spare places count too). A statement '..UptoSaid' is the law's where the arguments, and the package variables that the reading takes, are together of bulk at most 1048576: NARROWER than '..Said'. Prove '..Said' where nothing that the law and all that it calls make is longer than what came in: it says more and counts as full. Else prove '..UptoSaid'. A law counts once. -/
mutual
def uptoBulk {H : Type} : DataW H → Nat
  | .lit (.string bytes) => bytes.length + 1
  | .lit _ => 1
  | .nil => 1
  | .ptr d => uptoBulk d + 1
  | .slice elems spare => uptoBulkAll elems + uptoBulkAll spare + 1
  | .agg parts => uptoBulkAll parts + 1
  | .iface _ d => uptoBulk d + 1
  | .map entries => uptoBulkEntries entries + 1
  | .held _ => 1
def uptoBulkAll {H : Type} : List (DataW H) → Nat
  | [] => 0
  | d :: r => uptoBulk d + uptoBulkAll r
def uptoBulkEntries {H : Type} : List (Lit × DataW H) → Nat
  | [] => 0
  | x :: r => uptoBulkEntry x + uptoBulkEntries r
def uptoBulkEntry {H : Type} : Lit × DataW H → Nat
  | (.string bytes, d) => bytes.length + uptoBulk d + 1
  | (_, d) => uptoBulk d + 1
 end
def uptoSmall : (H : Type) → List (DataW H) → Bool := fun _ ds => decide (uptoBulkAll ds ≤ 1048576)
def OpenSpec.upto (s : _root_.Go.ChangeSpec) : _root_.Go.OpenSpec := { _root_.Go.OpenSpec.ofChange s with cond := some uptoSmall }

/-- 'laws.FnKeyPoses', WHERE WHAT IT READS IS OF BULK AT MOST 1048576: true; the input reads as it did. -/
def fnKeyPosesUptoRow : OpenClaim := { program := "ytnpifcoeioincaa", sum := "78b7d318d0ff407ee42684f13de726532de6a4df6d71eefc22ec01c1790d7055", func := "loop.example/g01063/laws.FnKeyPoses", spec := "fnKeyPoses", unfollowed := true, recurses := true, apart := false, narrowed := true }
def FnKeyPosesUptoSaid : Prop := fnKeyPosesUptoRow.holds Try.pinned (OpenSpec.upto fnKeyPosesSpec)

/-- 'laws.FnPoses', WHERE WHAT IT READS IS OF BULK AT MOST 1048576: true; the input reads as it did. -/
def fnPosesUptoRow : OpenClaim := { program := "ytnpifcoeioincaa", sum := "78b7d318d0ff407ee42684f13de726532de6a4df6d71eefc22ec01c1790d7055", func := "loop.example/g01063/laws.FnPoses", spec := "fnPoses", unfollowed := true, recurses := true, apart := false, narrowed := true }
def FnPosesUptoSaid : Prop := fnPosesUptoRow.holds Try.pinned (OpenSpec.upto fnPosesSpec)

/-- 'laws.FnLoops', WHERE WHAT IT READS IS OF BULK AT MOST 1048576: true; the input reads as it did. -/
def fnLoopsUptoRow : OpenClaim := { program := "ytnpifcoeioincaa", sum := "78b7d318d0ff407ee42684f13de726532de6a4df6d71eefc22ec01c1790d7055", func := "loop.example/g01063/laws.FnLoops", spec := "fnLoops", unfollowed := true, recurses := true, apart := false, narrowed := true }
def FnLoopsUptoSaid : Prop := fnLoopsUptoRow.holds Try.pinned (OpenSpec.upto fnLoopsSpec)

/-- 'laws.FnJoinedLoops', WHERE WHAT IT READS IS OF BULK AT MOST 1048576: true; the input reads as it did. -/
def fnJoinedLoopsUptoRow : OpenClaim := { program := "ytnpifcoeioincaa", sum := "78b7d318d0ff407ee42684f13de726532de6a4df6d71eefc22ec01c1790d7055", func := "loop.example/g01063/laws.FnJoinedLoops", spec := "fnJoinedLoops", unfollowed := true, recurses := true, apart := false, narrowed := true }
def FnJoinedLoopsUptoSaid : Prop := fnJoinedLoopsUptoRow.holds Try.pinned (OpenSpec.upto fnJoinedLoopsSpec)

/-- 'laws.FnBooks', WHERE WHAT IT READS IS OF BULK AT MOST 1048576: true; the input reads as it did. -/
def fnBooksUptoRow : OpenClaim := { program := "ytnpifcoeioincaa", sum := "78b7d318d0ff407ee42684f13de726532de6a4df6d71eefc22ec01c1790d7055", func := "loop.example/g01063/laws.FnBooks", spec := "fnBooks", inPlace := ["internal/abi.NoEscape", "internal/bytealg.MakeNoZero"], unfollowed := true, recurses := true, apart := false, narrowed := true }
def FnBooksUptoSaid : Prop := fnBooksUptoRow.holds Try.pinned (OpenSpec.upto fnBooksSpec)

/-- 'laws.FnTicks', WHERE WHAT IT READS IS OF BULK AT MOST 1048576: true; the input reads as it did. -/
def fnTicksUptoRow : OpenClaim := { program := "ytnpifcoeioincaa", sum := "78b7d318d0ff407ee42684f13de726532de6a4df6d71eefc22ec01c1790d7055", func := "loop.example/g01063/laws.FnTicks", spec := "fnTicks", inPlace := ["internal/abi.NoEscape", "internal/bytealg.MakeNoZero"], apart := false, narrowed := true }
def FnTicksUptoSaid : Prop := fnTicksUptoRow.holds Try.pinned (OpenSpec.upto fnTicksSpec)

/-- 'laws.FnStrips', WHERE WHAT IT READS IS OF BULK AT MOST 1048576: true; the input reads as it did. -/
def fnStripsUptoRow : OpenClaim := { program := "ytnpifcoeioincaa", sum := "78b7d318d0ff407ee42684f13de726532de6a4df6d71eefc22ec01c1790d7055", func := "loop.example/g01063/laws.FnStrips", spec := "fnStrips", apart := false, narrowed := true }
def FnStripsUptoSaid : Prop := fnStripsUptoRow.holds Try.pinned (OpenSpec.upto fnStripsSpec)

end Rows
end Go.Proofs.Ytnpifcoeioincaa
