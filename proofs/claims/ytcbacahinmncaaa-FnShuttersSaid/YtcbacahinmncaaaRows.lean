/-
  No cell of these rows narrows 'for every input' (looked for: loops, veiled, ifaces, maps, wideKeys, modest, calm, conditions, laid).
  DERIVED. THE GIVEN ROWS OF THIS SEAT. 6 by the template 'for every input the law returns true; each argument reads behind the call as it read before'; 0 by the template 'total and deterministic' (their statements: YtcbacahinmncaaaTotals.lean).
  GIVEN WITH THE SEED: the statements are not yours to turn. If you find one false, say at which input.
  Laid BY PROGRAM, IN A SANDBOX (cutbox-rows.mjs): the forced cells as the released guide's own fill.sh prints them over the translation de8575c713d12698… (all of the seat's roots in one cut). By AI agents, Wed Nov 11 2026. No macro, syntax, notation, axiom, sorry.
-/
import Derived.Test.YtcbacahinmncaaaChecked
import GoSem.Claim
import GoSem.ClaimJoined
import GoSem.ClaimMapViews
import Derived.JoinedTies
import Derived.KernelRfl
namespace Go.Proofs.Ytcbacahinmncaaa
/- THE CELL 'sum', in the pinned program and in every row, IS THE sha256 OF THE DUMP (.gsa) THAT YtcbacahinmncaaaProg.lean LOADS. Nothing in Lean hashes anything: it is a label: what it is worth is what the hold of that sum in a sandbox is worth. -/
noncomputable def Try.pinned : Pinned := { name := "ytcbacahinmncaaa", sum := "de8575c713d12698cc2f805371d162b6bb3b60149213f3d592d118712bc232d8", checked := Try.checked }
namespace Rows
def none {H : Type} : Left H := { results := [], args := [] }

/-- 'laws.FnGlassBars': WHATEVER THE INPUT: true; the input reads as it did. -/
def fnGlassBarsSpec : ChangeSpec := { name := "fnGlassBars", fn := fun _ => fun
  | [d] => { results := [.lit (.bool true)], args := [d] }
  | _ => none }
def fnGlassBarsRow : OpenClaim := { program := "ytcbacahinmncaaa", sum := "de8575c713d12698cc2f805371d162b6bb3b60149213f3d592d118712bc232d8", func := "loop.example/g01063/laws.FnGlassBars", spec := "fnGlassBars", unfollowed := true, recurses := true, plainKeys := false, apart := false }
def FnGlassBarsSaid : Prop := fnGlassBarsRow.holds Try.pinned (OpenSpec.ofChange fnGlassBarsSpec)

/-- ITS FALSE NEIGHBOUR: 'it returns false'. Refute it at one input. -/
def fnGlassBarsWrong : ChangeSpec := { name := "fnGlassBars", fn := fun _ => fun
  | [d] => { results := [.lit (.bool false)], args := [d] }
  | _ => none }
def FnGlassBarsWrongFalsely : Prop := fnGlassBarsRow.holds Try.pinned (OpenSpec.ofChange fnGlassBarsWrong)

/-- 'laws.FnGlasses': WHATEVER THE INPUT: true; the input reads as it did. -/
def fnGlassesSpec : ChangeSpec := { name := "fnGlasses", fn := fun _ => fun
  | [d1, d2] => { results := [.lit (.bool true)], args := [d1, d2] }
  | _ => none }
def fnGlassesRow : OpenClaim := { program := "ytcbacahinmncaaa", sum := "de8575c713d12698cc2f805371d162b6bb3b60149213f3d592d118712bc232d8", func := "loop.example/g01063/laws.FnGlasses", spec := "fnGlasses", unfollowed := true, recurses := true, plainKeys := false, apart := false }
def FnGlassesSaid : Prop := fnGlassesRow.holds Try.pinned (OpenSpec.ofChange fnGlassesSpec)

/-- ITS FALSE NEIGHBOUR: 'it returns false'. Refute it at one input. -/
def fnGlassesWrong : ChangeSpec := { name := "fnGlasses", fn := fun _ => fun
  | [d1, d2] => { results := [.lit (.bool false)], args := [d1, d2] }
  | _ => none }
def FnGlassesWrongFalsely : Prop := fnGlassesRow.holds Try.pinned (OpenSpec.ofChange fnGlassesWrong)

/-- 'laws.FnDissolves': WHATEVER THE INPUT: true; the input reads as it did. -/
def fnDissolvesSpec : ChangeSpec := { name := "fnDissolves", fn := fun _ => fun
  | [d1, d2] => { results := [.lit (.bool true)], args := [d1, d2] }
  | _ => none }
def fnDissolvesRow : OpenClaim := { program := "ytcbacahinmncaaa", sum := "de8575c713d12698cc2f805371d162b6bb3b60149213f3d592d118712bc232d8", func := "loop.example/g01063/laws.FnDissolves", spec := "fnDissolves", unfollowed := true, recurses := true, plainKeys := false, apart := false }
def FnDissolvesSaid : Prop := fnDissolvesRow.holds Try.pinned (OpenSpec.ofChange fnDissolvesSpec)

/-- ITS FALSE NEIGHBOUR: 'it returns false'. Refute it at one input. -/
def fnDissolvesWrong : ChangeSpec := { name := "fnDissolves", fn := fun _ => fun
  | [d1, d2] => { results := [.lit (.bool false)], args := [d1, d2] }
  | _ => none }
def FnDissolvesWrongFalsely : Prop := fnDissolvesRow.holds Try.pinned (OpenSpec.ofChange fnDissolvesWrong)

/-- 'laws.FnLanterns': WHATEVER THE INPUT: true; the input reads as it did. -/
def fnLanternsSpec : ChangeSpec := { name := "fnLanterns", fn := fun _ => fun
  | [d1, d2] => { results := [.lit (.bool true)], args := [d1, d2] }
  | _ => none }
def fnLanternsRow : OpenClaim := { program := "ytcbacahinmncaaa", sum := "de8575c713d12698cc2f805371d162b6bb3b60149213f3d592d118712bc232d8", func := "loop.example/g01063/laws.FnLanterns", spec := "fnLanterns", unfollowed := true, recurses := true, plainKeys := false, apart := false }
def FnLanternsSaid : Prop := fnLanternsRow.holds Try.pinned (OpenSpec.ofChange fnLanternsSpec)

/-- ITS FALSE NEIGHBOUR: 'it returns false'. Refute it at one input. -/
def fnLanternsWrong : ChangeSpec := { name := "fnLanterns", fn := fun _ => fun
  | [d1, d2] => { results := [.lit (.bool false)], args := [d1, d2] }
  | _ => none }
def FnLanternsWrongFalsely : Prop := fnLanternsRow.holds Try.pinned (OpenSpec.ofChange fnLanternsWrong)

/-- 'laws.FnSeenAtOnce': WHATEVER THE INPUT: true; the input reads as it did. -/
def fnSeenAtOnceSpec : ChangeSpec := { name := "fnSeenAtOnce", fn := fun _ => fun
  | [d] => { results := [.lit (.bool true)], args := [d] }
  | _ => none }
def fnSeenAtOnceRow : OpenClaim := { program := "ytcbacahinmncaaa", sum := "de8575c713d12698cc2f805371d162b6bb3b60149213f3d592d118712bc232d8", func := "loop.example/g01063/laws.FnSeenAtOnce", spec := "fnSeenAtOnce", unfollowed := true, recurses := true, plainKeys := false, apart := false }
def FnSeenAtOnceSaid : Prop := fnSeenAtOnceRow.holds Try.pinned (OpenSpec.ofChange fnSeenAtOnceSpec)

/-- ITS FALSE NEIGHBOUR: 'it returns false'. Refute it at one input. -/
def fnSeenAtOnceWrong : ChangeSpec := { name := "fnSeenAtOnce", fn := fun _ => fun
  | [d] => { results := [.lit (.bool false)], args := [d] }
  | _ => none }
def FnSeenAtOnceWrongFalsely : Prop := fnSeenAtOnceRow.holds Try.pinned (OpenSpec.ofChange fnSeenAtOnceWrong)

/-- 'laws.FnShutters': WHATEVER THE INPUT: true; the input reads as it did. -/
def fnShuttersSpec : ChangeSpec := { name := "fnShutters", fn := fun _ => fun
  | [d] => { results := [.lit (.bool true)], args := [d] }
  | _ => none }
def fnShuttersRow : OpenClaim := { program := "ytcbacahinmncaaa", sum := "de8575c713d12698cc2f805371d162b6bb3b60149213f3d592d118712bc232d8", func := "loop.example/g01063/laws.FnShutters", spec := "fnShutters", unfollowed := true, recurses := true, plainKeys := false, apart := false }
def FnShuttersSaid : Prop := fnShuttersRow.holds Try.pinned (OpenSpec.ofChange fnShuttersSpec)

/-- ITS FALSE NEIGHBOUR: 'it returns false'. Refute it at one input. -/
def fnShuttersWrong : ChangeSpec := { name := "fnShutters", fn := fun _ => fun
  | [d] => { results := [.lit (.bool false)], args := [d] }
  | _ => none }
def FnShuttersWrongFalsely : Prop := fnShuttersRow.holds Try.pinned (OpenSpec.ofChange fnShuttersWrong)

/- THE SECOND FORM. 'bulk': how many values and letters a reading holds, each counted each time it is reached (what is shared counts as often as it is met; a slice's spare places count too). A statement '..UptoSaid' is the law's where the arguments, and the package variables that the reading takes, are together of bulk at most 1048576: NARROWER than '..Said'. Prove '..Said' where nothing that the law and all that it calls make is longer than what came in: it says more and counts as full. Else prove '..UptoSaid'. A law counts once. -/
mutual
def uptoBulk {H : Type} : DataW H → Nat
  | .lit (.string bytes) => bytes.length + 1
  | .lit _ => 1
  | .nil => 1
  | .ptr d => uptoBulk d + 1
  | .slice elems spare => uptoBulkAll elems + uptoBulkAll spare + 1
  | .agg parts => uptoBulkAll parts + 1
  | .iface _ d => uptoBulk d + 1
  | .map entries => uptoBulkEntries entries + 1
  | .held _ => 1
def uptoBulkAll {H : Type} : List (DataW H) → Nat
  | [] => 0
  | d :: r => uptoBulk d + uptoBulkAll r
def uptoBulkEntries {H : Type} : List (Lit × DataW H) → Nat
  | [] => 0
  | x :: r => uptoBulkEntry x + uptoBulkEntries r
def uptoBulkEntry {H : Type} : Lit × DataW H → Nat
  | (.string bytes, d) => bytes.length + uptoBulk d + 1
  | (_, d) => uptoBulk d + 1
 end
def uptoSmall : (H : Type) → List (DataW H) → Bool := fun _ ds => decide (uptoBulkAll ds ≤ 1048576)
def OpenSpec.upto (s : _root_.Go.ChangeSpec) : _root_.Go.OpenSpec := { _root_.Go.OpenSpec.ofChange s with cond := some uptoSmall }

/-- 'laws.FnGlassBars', WHERE WHAT IT READS IS OF BULK AT MOST 1048576: true; the input reads as it did. -/
def fnGlassBarsUptoRow : OpenClaim := { program := "ytcbacahinmncaaa", sum := "de8575c713d12698cc2f805371d162b6bb3b60149213f3d592d118712bc232d8", func := "loop.example/g01063/laws.FnGlassBars", spec := "fnGlassBars", unfollowed := true, recurses := true, plainKeys := false, apart := false, narrowed := true }
def FnGlassBarsUptoSaid : Prop := fnGlassBarsUptoRow.holds Try.pinned (OpenSpec.upto fnGlassBarsSpec)

/-- 'laws.FnGlasses', WHERE WHAT IT READS IS OF BULK AT MOST 1048576: true; the input reads as it did. -/
def fnGlassesUptoRow : OpenClaim := { program := "ytcbacahinmncaaa", sum := "de8575c713d12698cc2f805371d162b6bb3b60149213f3d592d118712bc232d8", func := "loop.example/g01063/laws.FnGlasses", spec := "fnGlasses", unfollowed := true, recurses := true, plainKeys := false, apart := false, narrowed := true }
def FnGlassesUptoSaid : Prop := fnGlassesUptoRow.holds Try.pinned (OpenSpec.upto fnGlassesSpec)

/-- 'laws.FnDissolves', WHERE WHAT IT READS IS OF BULK AT MOST 1048576: true; the input reads as it did. -/
def fnDissolvesUptoRow : OpenClaim := { program := "ytcbacahinmncaaa", sum := "de8575c713d12698cc2f805371d162b6bb3b60149213f3d592d118712bc232d8", func := "loop.example/g01063/laws.FnDissolves", spec := "fnDissolves", unfollowed := true, recurses := true, plainKeys := false, apart := false, narrowed := true }
def FnDissolvesUptoSaid : Prop := fnDissolvesUptoRow.holds Try.pinned (OpenSpec.upto fnDissolvesSpec)

/-- 'laws.FnLanterns', WHERE WHAT IT READS IS OF BULK AT MOST 1048576: true; the input reads as it did. -/
def fnLanternsUptoRow : OpenClaim := { program := "ytcbacahinmncaaa", sum := "de8575c713d12698cc2f805371d162b6bb3b60149213f3d592d118712bc232d8", func := "loop.example/g01063/laws.FnLanterns", spec := "fnLanterns", unfollowed := true, recurses := true, plainKeys := false, apart := false, narrowed := true }
def FnLanternsUptoSaid : Prop := fnLanternsUptoRow.holds Try.pinned (OpenSpec.upto fnLanternsSpec)

/-- 'laws.FnSeenAtOnce', WHERE WHAT IT READS IS OF BULK AT MOST 1048576: true; the input reads as it did. -/
def fnSeenAtOnceUptoRow : OpenClaim := { program := "ytcbacahinmncaaa", sum := "de8575c713d12698cc2f805371d162b6bb3b60149213f3d592d118712bc232d8", func := "loop.example/g01063/laws.FnSeenAtOnce", spec := "fnSeenAtOnce", unfollowed := true, recurses := true, plainKeys := false, apart := false, narrowed := true }
def FnSeenAtOnceUptoSaid : Prop := fnSeenAtOnceUptoRow.holds Try.pinned (OpenSpec.upto fnSeenAtOnceSpec)

/-- 'laws.FnShutters', WHERE WHAT IT READS IS OF BULK AT MOST 1048576: true; the input reads as it did. -/
def fnShuttersUptoRow : OpenClaim := { program := "ytcbacahinmncaaa", sum := "de8575c713d12698cc2f805371d162b6bb3b60149213f3d592d118712bc232d8", func := "loop.example/g01063/laws.FnShutters", spec := "fnShutters", unfollowed := true, recurses := true, plainKeys := false, apart := false, narrowed := true }
def FnShuttersUptoSaid : Prop := fnShuttersUptoRow.holds Try.pinned (OpenSpec.upto fnShuttersSpec)

end Rows
end Go.Proofs.Ytcbacahinmncaaa
