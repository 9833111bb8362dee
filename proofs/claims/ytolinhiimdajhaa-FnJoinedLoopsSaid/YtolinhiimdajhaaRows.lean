/-
  No cell of these rows narrows 'for every input' (looked for: loops, veiled, ifaces, maps, wideKeys, modest, calm, conditions, laid).
  DERIVED. THE GIVEN ROWS OF THIS SEAT. 6 by the template 'for every input the law returns true; each argument reads behind the call as it read before'; 0 by the template 'total and deterministic' (their statements: YtolinhiimdajhaaTotals.lean).
  GIVEN WITH THE SEED: the statements are not yours to turn. If you find one false, say at which input.
  Laid BY PROGRAM, IN A SANDBOX (cutbox-rows.mjs): the forced cells as the released guide's own fill.sh prints them over the translation f5dd4ae086567d25… (all of the seat's roots in one cut). By AI agents, Wed Nov 11 2026. No macro, syntax, notation, axiom, sorry.
-/
import Derived.Test.YtolinhiimdajhaaChecked
import GoSem.Claim
import GoSem.ClaimJoined
import GoSem.ClaimMapViews
import Derived.JoinedTies
import Derived.KernelRfl
namespace Go.Proofs.Ytolinhiimdajhaa
/- THE CELL 'sum', in the pinned program and in every row, IS THE sha256 OF THE DUMP (.gsa) THAT YtolinhiimdajhaaProg.lean LOADS. Nothing in Lean hashes anything: it is a label: what it is worth is what the hold of that sum in a sandbox is worth. -/
noncomputable def Try.pinned : Pinned := { name := "ytolinhiimdajhaa", sum := "f5dd4ae086567d25e12307a897131960c2f1f9fd7b67848f4f81cb18e6d809c7", checked := Try.checked }
namespace Rows
def none {H : Type} : Left H := { results := [], args := [] }

/-- 'laws.FnDissolves': WHATEVER THE INPUT: true; the input reads as it did. -/
def fnDissolvesSpec : ChangeSpec := { name := "fnDissolves", fn := fun _ => fun
  | [d1, d2] => { results := [.lit (.bool true)], args := [d1, d2] }
  | _ => none }
def fnDissolvesRow : OpenClaim := { program := "ytolinhiimdajhaa", sum := "f5dd4ae086567d25e12307a897131960c2f1f9fd7b67848f4f81cb18e6d809c7", func := "loop.example/g01063/laws.FnDissolves", spec := "fnDissolves", unfollowed := true, recurses := true, apart := false }
def FnDissolvesSaid : Prop := fnDissolvesRow.holds Try.pinned (OpenSpec.ofChange fnDissolvesSpec)

/-- ITS FALSE NEIGHBOUR: 'it returns false'. Refute it at one input. -/
def fnDissolvesWrong : ChangeSpec := { name := "fnDissolves", fn := fun _ => fun
  | [d1, d2] => { results := [.lit (.bool false)], args := [d1, d2] }
  | _ => none }
def FnDissolvesWrongFalsely : Prop := fnDissolvesRow.holds Try.pinned (OpenSpec.ofChange fnDissolvesWrong)

/-- 'laws.FnCues': WHATEVER THE INPUT: true; the input reads as it did. -/
def fnCuesSpec : ChangeSpec := { name := "fnCues", fn := fun _ => fun
  | [d1, d2] => { results := [.lit (.bool true)], args := [d1, d2] }
  | _ => none }
def fnCuesRow : OpenClaim := { program := "ytolinhiimdajhaa", sum := "f5dd4ae086567d25e12307a897131960c2f1f9fd7b67848f4f81cb18e6d809c7", func := "loop.example/g01063/laws.FnCues", spec := "fnCues", unfollowed := true, recurses := true, apart := false }
def FnCuesSaid : Prop := fnCuesRow.holds Try.pinned (OpenSpec.ofChange fnCuesSpec)

/-- ITS FALSE NEIGHBOUR: 'it returns false'. Refute it at one input. -/
def fnCuesWrong : ChangeSpec := { name := "fnCues", fn := fun _ => fun
  | [d1, d2] => { results := [.lit (.bool false)], args := [d1, d2] }
  | _ => none }
def FnCuesWrongFalsely : Prop := fnCuesRow.holds Try.pinned (OpenSpec.ofChange fnCuesWrong)

/-- 'laws.FnPoses': WHATEVER THE INPUT: true; the input reads as it did. -/
def fnPosesSpec : ChangeSpec := { name := "fnPoses", fn := fun _ => fun
  | [d] => { results := [.lit (.bool true)], args := [d] }
  | _ => none }
def fnPosesRow : OpenClaim := { program := "ytolinhiimdajhaa", sum := "f5dd4ae086567d25e12307a897131960c2f1f9fd7b67848f4f81cb18e6d809c7", func := "loop.example/g01063/laws.FnPoses", spec := "fnPoses", unfollowed := true, recurses := true, apart := false }
def FnPosesSaid : Prop := fnPosesRow.holds Try.pinned (OpenSpec.ofChange fnPosesSpec)

/-- ITS FALSE NEIGHBOUR: 'it returns false'. Refute it at one input. -/
def fnPosesWrong : ChangeSpec := { name := "fnPoses", fn := fun _ => fun
  | [d] => { results := [.lit (.bool false)], args := [d] }
  | _ => none }
def FnPosesWrongFalsely : Prop := fnPosesRow.holds Try.pinned (OpenSpec.ofChange fnPosesWrong)

/-- 'laws.FnKeyPoses': WHATEVER THE INPUT: true; the input reads as it did. -/
def fnKeyPosesSpec : ChangeSpec := { name := "fnKeyPoses", fn := fun _ => fun
  | [d] => { results := [.lit (.bool true)], args := [d] }
  | _ => none }
def fnKeyPosesRow : OpenClaim := { program := "ytolinhiimdajhaa", sum := "f5dd4ae086567d25e12307a897131960c2f1f9fd7b67848f4f81cb18e6d809c7", func := "loop.example/g01063/laws.FnKeyPoses", spec := "fnKeyPoses", unfollowed := true, recurses := true, apart := false }
def FnKeyPosesSaid : Prop := fnKeyPosesRow.holds Try.pinned (OpenSpec.ofChange fnKeyPosesSpec)

/-- ITS FALSE NEIGHBOUR: 'it returns false'. Refute it at one input. -/
def fnKeyPosesWrong : ChangeSpec := { name := "fnKeyPoses", fn := fun _ => fun
  | [d] => { results := [.lit (.bool false)], args := [d] }
  | _ => none }
def FnKeyPosesWrongFalsely : Prop := fnKeyPosesRow.holds Try.pinned (OpenSpec.ofChange fnKeyPosesWrong)

/-- 'laws.FnJoinedLoops': WHATEVER THE INPUT: true; the input reads as it did. -/
def fnJoinedLoopsSpec : ChangeSpec := { name := "fnJoinedLoops", fn := fun _ => fun
  | [d] => { results := [.lit (.bool true)], args := [d] }
  | _ => none }
def fnJoinedLoopsRow : OpenClaim := { program := "ytolinhiimdajhaa", sum := "f5dd4ae086567d25e12307a897131960c2f1f9fd7b67848f4f81cb18e6d809c7", func := "loop.example/g01063/laws.FnJoinedLoops", spec := "fnJoinedLoops", unfollowed := true, recurses := true, apart := false }
def FnJoinedLoopsSaid : Prop := fnJoinedLoopsRow.holds Try.pinned (OpenSpec.ofChange fnJoinedLoopsSpec)

/-- ITS FALSE NEIGHBOUR: 'it returns false'. Refute it at one input. -/
def fnJoinedLoopsWrong : ChangeSpec := { name := "fnJoinedLoops", fn := fun _ => fun
  | [d] => { results := [.lit (.bool false)], args := [d] }
  | _ => none }
def FnJoinedLoopsWrongFalsely : Prop := fnJoinedLoopsRow.holds Try.pinned (OpenSpec.ofChange fnJoinedLoopsWrong)

/-- 'laws.FnActs': WHATEVER THE INPUT: true; the input reads as it did. -/
def fnActsSpec : ChangeSpec := { name := "fnActs", fn := fun _ => fun
  | [d] => { results := [.lit (.bool true)], args := [d] }
  | _ => none }
def fnActsRow : OpenClaim := { program := "ytolinhiimdajhaa", sum := "f5dd4ae086567d25e12307a897131960c2f1f9fd7b67848f4f81cb18e6d809c7", func := "loop.example/g01063/laws.FnActs", spec := "fnActs", unfollowed := true, recurses := true, apart := false }
def FnActsSaid : Prop := fnActsRow.holds Try.pinned (OpenSpec.ofChange fnActsSpec)

/-- ITS FALSE NEIGHBOUR: 'it returns false'. Refute it at one input. -/
def fnActsWrong : ChangeSpec := { name := "fnActs", fn := fun _ => fun
  | [d] => { results := [.lit (.bool false)], args := [d] }
  | _ => none }
def FnActsWrongFalsely : Prop := fnActsRow.holds Try.pinned (OpenSpec.ofChange fnActsWrong)

/- THE SECOND FORM. 'bulk': how many values and letters a reading holds, each counted each time it is reached (what is shared counts as often as it is met; a slice's spare places count too). A statement '..UptoSaid' is the law's where the arguments, and the package variables that the reading takes, are together of bulk at most 1048576: NARROWER than '..Said'. Prove '..Said' where nothing that the law and all that it calls make is longer than what came in: it says more and counts as full. Else prove '..UptoSaid'. A law counts once. -/
mutual
def uptoBulk {H : Type} : DataW H → Nat
  | .lit (.string bytes) => bytes.length + 1
  | .lit _ => 1
  | .nil => 1
  | .ptr d => uptoBulk d + 1
  | .slice elems spare => uptoBulkAll elems + uptoBulkAll spare + 1
  | .agg parts => uptoBulkAll parts + 1
  | .iface _ d => uptoBulk d + 1
  | .map entries => uptoBulkEntries entries + 1
  | .held _ => 1
def uptoBulkAll {H : Type} : List (DataW H) → Nat
  | [] => 0
  | d :: r => uptoBulk d + uptoBulkAll r
def uptoBulkEntries {H : Type} : List (Lit × DataW H) → Nat
  | [] => 0
  | x :: r => uptoBulkEntry x + uptoBulkEntries r
def uptoBulkEntry {H : Type} : Lit × DataW H → Nat
  | (.string bytes, d) => bytes.length + uptoBulk d + 1
  | (_, d) => uptoBulk d + 1
 end
def uptoSmall : (H : Type) → List (DataW H) → Bool := fun _ ds => decide (uptoBulkAll ds ≤ 1048576)
def OpenSpec.upto (s : _root_.Go.ChangeSpec) : _root_.Go.OpenSpec := { _root_.Go.OpenSpec.ofChange s with cond := some uptoSmall }

/-- 'laws.FnDissolves', WHERE WHAT IT READS IS OF BULK AT MOST 1048576: true; the input reads as it did. -/
def fnDissolvesUptoRow : OpenClaim := { program := "ytolinhiimdajhaa", sum := "f5dd4ae086567d25e12307a897131960c2f1f9fd7b67848f4f81cb18e6d809c7", func := "loop.example/g01063/laws.FnDissolves", spec := "fnDissolves", unfollowed := true, recurses := true, apart := false, narrowed := true }
def FnDissolvesUptoSaid : Prop := fnDissolvesUptoRow.holds Try.pinned (OpenSpec.upto fnDissolvesSpec)

/-- 'laws.FnCues', WHERE WHAT IT READS IS OF BULK AT MOST 1048576: true; the input reads as it did. -/
def fnCuesUptoRow : OpenClaim := { program := "ytolinhiimdajhaa", sum := "f5dd4ae086567d25e12307a897131960c2f1f9fd7b67848f4f81cb18e6d809c7", func := "loop.example/g01063/laws.FnCues", spec := "fnCues", unfollowed := true, recurses := true, apart := false, narrowed := true }
def FnCuesUptoSaid : Prop := fnCuesUptoRow.holds Try.pinned (OpenSpec.upto fnCuesSpec)

/-- 'laws.FnPoses', WHERE WHAT IT READS IS OF BULK AT MOST 1048576: true; the input reads as it did. -/
def fnPosesUptoRow : OpenClaim := { program := "ytolinhiimdajhaa", sum := "f5dd4ae086567d25e12307a897131960c2f1f9fd7b67848f4f81cb18e6d809c7", func := "loop.example/g01063/laws.FnPoses", spec := "fnPoses", unfollowed := true, recurses := true, apart := false, narrowed := true }
def FnPosesUptoSaid : Prop := fnPosesUptoRow.holds Try.pinned (OpenSpec.upto fnPosesSpec)

/-- 'laws.FnKeyPoses', WHERE WHAT IT READS IS OF BULK AT MOST 1048576: true; the input reads as it did. -/
def fnKeyPosesUptoRow : OpenClaim := { program := "ytolinhiimdajhaa", sum := "f5dd4ae086567d25e12307a897131960c2f1f9fd7b67848f4f81cb18e6d809c7", func := "loop.example/g01063/laws.FnKeyPoses", spec := "fnKeyPoses", unfollowed := true, recurses := true, apart := false, narrowed := true }
def FnKeyPosesUptoSaid : Prop := fnKeyPosesUptoRow.holds Try.pinned (OpenSpec.upto fnKeyPosesSpec)

/-- 'laws.FnJoinedLoops', WHERE WHAT IT READS IS OF BULK AT MOST 1048576: true; the input reads as it did. -/
def fnJoinedLoopsUptoRow : OpenClaim := { program := "ytolinhiimdajhaa", sum := "f5dd4ae086567d25e12307a897131960c2f1f9fd7b67848f4f81cb18e6d809c7", func := "loop.example/g01063/laws.FnJoinedLoops", spec := "fnJoinedLoops", unfollowed := true, recurses := true, apart := false, narrowed := true }
def FnJoinedLoopsUptoSaid : Prop := fnJoinedLoopsUptoRow.holds Try.pinned (OpenSpec.upto fnJoinedLoopsSpec)

/-- 'laws.FnActs', WHERE WHAT IT READS IS OF BULK AT MOST 1048576: true; the input reads as it did. -/
def fnActsUptoRow : OpenClaim := { program := "ytolinhiimdajhaa", sum := "f5dd4ae086567d25e12307a897131960c2f1f9fd7b67848f4f81cb18e6d809c7", func := "loop.example/g01063/laws.FnActs", spec := "fnActs", unfollowed := true, recurses := true, apart := false, narrowed := true }
def FnActsUptoSaid : Prop := fnActsUptoRow.holds Try.pinned (OpenSpec.upto fnActsSpec)

end Rows
end Go.Proofs.Ytolinhiimdajhaa
