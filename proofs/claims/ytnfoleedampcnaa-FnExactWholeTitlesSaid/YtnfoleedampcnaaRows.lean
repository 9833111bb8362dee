/-
  No cell of these rows narrows 'for every input' (looked for: loops, veiled, ifaces, maps, wideKeys, modest, calm, conditions, laid).
  DERIVED. THE GIVEN ROWS OF THIS SEAT. 4 by the template 'for every input the law returns true; each argument reads behind the call as it read before'; 0 by the template 'total and deterministic' (their statements: YtnfoleedampcnaaTotals.lean).
  GIVEN WITH THE SEED: the statements are not yours to turn. If you find one false, say at which input.
  Laid BY PROGRAM, IN A SANDBOX (cutbox-rows.mjs): the forced cells as the released guide's own fill.sh prints them over the translation 044ad23c1a2394a0… (all of the seat's roots in one cut). By AI agents, Wed Nov 11 2026. No macro, syntax, notation, axiom, sorry.
-/
import Derived.Test.YtnfoleedampcnaaChecked
import GoSem.Claim
import GoSem.ClaimJoined
import GoSem.ClaimMapViews
import Derived.JoinedTies
import Derived.KernelRfl
namespace Go.Proofs.Ytnfoleedampcnaa
/- THE CELL 'sum', in the pinned program and in every row, IS THE sha256 OF THE DUMP (.gsa) THAT YtnfoleedampcnaaProg.lean LOADS. Nothing in Lean hashes anything: it is a label: what it is worth is what the hold of that sum in a sandbox is worth. -/
noncomputable def Try.pinned : Pinned := { name := "ytnfoleedampcnaa", sum := "044ad23c1a2394a04b37fb0dca996b8b3e229c04d133c3d4f3a1c24356f8be37", checked := Try.checked }
namespace Rows
def none {H : Type} : Left H := { results := [], args := [] }

/-- 'laws.FnExactSameTitles': WHATEVER THE INPUT: true; the input reads as it did. -/
def fnExactSameTitlesSpec : ChangeSpec := { name := "fnExactSameTitles", fn := fun _ => fun
  | [d1, d2] => { results := [.lit (.bool true)], args := [d1, d2] }
  | _ => none }
def fnExactSameTitlesRow : OpenClaim := { program := "ytnfoleedampcnaa", sum := "044ad23c1a2394a04b37fb0dca996b8b3e229c04d133c3d4f3a1c24356f8be37", func := "loop.example/g01063/laws.FnExactSameTitles", spec := "fnExactSameTitles", apart := false }
def FnExactSameTitlesSaid : Prop := fnExactSameTitlesRow.holds Try.pinned (OpenSpec.ofChange fnExactSameTitlesSpec)

/-- ITS FALSE NEIGHBOUR: 'it returns false'. Refute it at one input. -/
def fnExactSameTitlesWrong : ChangeSpec := { name := "fnExactSameTitles", fn := fun _ => fun
  | [d1, d2] => { results := [.lit (.bool false)], args := [d1, d2] }
  | _ => none }
def FnExactSameTitlesWrongFalsely : Prop := fnExactSameTitlesRow.holds Try.pinned (OpenSpec.ofChange fnExactSameTitlesWrong)

/-- 'laws.FnExactValidTitles': WHATEVER THE INPUT: true; the input reads as it did. -/
def fnExactValidTitlesSpec : ChangeSpec := { name := "fnExactValidTitles", fn := fun _ => fun
  | [d] => { results := [.lit (.bool true)], args := [d] }
  | _ => none }
def fnExactValidTitlesRow : OpenClaim := { program := "ytnfoleedampcnaa", sum := "044ad23c1a2394a04b37fb0dca996b8b3e229c04d133c3d4f3a1c24356f8be37", func := "loop.example/g01063/laws.FnExactValidTitles", spec := "fnExactValidTitles", apart := false }
def FnExactValidTitlesSaid : Prop := fnExactValidTitlesRow.holds Try.pinned (OpenSpec.ofChange fnExactValidTitlesSpec)

/-- ITS FALSE NEIGHBOUR: 'it returns false'. Refute it at one input. -/
def fnExactValidTitlesWrong : ChangeSpec := { name := "fnExactValidTitles", fn := fun _ => fun
  | [d] => { results := [.lit (.bool false)], args := [d] }
  | _ => none }
def FnExactValidTitlesWrongFalsely : Prop := fnExactValidTitlesRow.holds Try.pinned (OpenSpec.ofChange fnExactValidTitlesWrong)

/-- 'laws.FnExactFreeNumber': WHATEVER THE INPUT: true; the input reads as it did. -/
def fnExactFreeNumberSpec : ChangeSpec := { name := "fnExactFreeNumber", fn := fun _ => fun
  | [d] => { results := [.lit (.bool true)], args := [d] }
  | _ => none }
def fnExactFreeNumberRow : OpenClaim := { program := "ytnfoleedampcnaa", sum := "044ad23c1a2394a04b37fb0dca996b8b3e229c04d133c3d4f3a1c24356f8be37", func := "loop.example/g01063/laws.FnExactFreeNumber", spec := "fnExactFreeNumber", apart := false }
def FnExactFreeNumberSaid : Prop := fnExactFreeNumberRow.holds Try.pinned (OpenSpec.ofChange fnExactFreeNumberSpec)

/-- ITS FALSE NEIGHBOUR: 'it returns false'. Refute it at one input. -/
def fnExactFreeNumberWrong : ChangeSpec := { name := "fnExactFreeNumber", fn := fun _ => fun
  | [d] => { results := [.lit (.bool false)], args := [d] }
  | _ => none }
def FnExactFreeNumberWrongFalsely : Prop := fnExactFreeNumberRow.holds Try.pinned (OpenSpec.ofChange fnExactFreeNumberWrong)

/-- 'laws.FnExactWholeTitles': WHATEVER THE INPUT: true; the input reads as it did. -/
def fnExactWholeTitlesSpec : ChangeSpec := { name := "fnExactWholeTitles", fn := fun _ => fun
  | [d] => { results := [.lit (.bool true)], args := [d] }
  | _ => none }
def fnExactWholeTitlesRow : OpenClaim := { program := "ytnfoleedampcnaa", sum := "044ad23c1a2394a04b37fb0dca996b8b3e229c04d133c3d4f3a1c24356f8be37", func := "loop.example/g01063/laws.FnExactWholeTitles", spec := "fnExactWholeTitles", apart := false }
def FnExactWholeTitlesSaid : Prop := fnExactWholeTitlesRow.holds Try.pinned (OpenSpec.ofChange fnExactWholeTitlesSpec)

/-- ITS FALSE NEIGHBOUR: 'it returns false'. Refute it at one input. -/
def fnExactWholeTitlesWrong : ChangeSpec := { name := "fnExactWholeTitles", fn := fun _ => fun
  | [d] => { results := [.lit (.bool false)], args := [d] }
  | _ => none }
def FnExactWholeTitlesWrongFalsely : Prop := fnExactWholeTitlesRow.holds Try.pinned (OpenSpec.ofChange fnExactWholeTitlesWrong)

/- THE SECOND FORM. 'bulk': how many values and letters a reading holds, each counted each time it is reached (what is shared counts as often as it is met; a slice's spare places count too). A statement '..UptoSaid' is the law's where the arguments, and the package variables that the reading takes, are together of bulk at most 1048576: NARROWER than '..Said'. Prove '..Said' where nothing that the law and all that it calls make is longer than what came in: it says more and counts as full. Else prove '..UptoSaid'. A law counts once. -/
mutual
def uptoBulk {H : Type} : DataW H → Nat
  | .lit (.string bytes) => bytes.length + 1
  | .lit _ => 1
  | .nil => 1
  | .ptr d => uptoBulk d + 1
  | .slice elems spare => uptoBulkAll elems + uptoBulkAll spare + 1
  | .agg parts => uptoBulkAll parts + 1
  | .iface _ d => uptoBulk d + 1
  | .map entries => uptoBulkEntries entries + 1
  | .held _ => 1
def uptoBulkAll {H : Type} : List (DataW H) → Nat
  | [] => 0
  | d :: r => uptoBulk d + uptoBulkAll r
def uptoBulkEntries {H : Type} : List (Lit × DataW H) → Nat
  | [] => 0
  | x :: r => uptoBulkEntry x + uptoBulkEntries r
def uptoBulkEntry {H : Type} : Lit × DataW H → Nat
  | (.string bytes, d) => bytes.length + uptoBulk d + 1
  | (_, d) => uptoBulk d + 1
 end
def uptoSmall : (H : Type) → List (DataW H) → Bool := fun _ ds => decide (uptoBulkAll ds ≤ 1048576)
def OpenSpec.upto (s : _root_.Go.ChangeSpec) : _root_.Go.OpenSpec := { _root_.Go.OpenSpec.ofChange s with cond := some uptoSmall }

/-- 'laws.FnExactSameTitles', WHERE WHAT IT READS IS OF BULK AT MOST 1048576: true; the input reads as it did. -/
def fnExactSameTitlesUptoRow : OpenClaim := { program := "ytnfoleedampcnaa", sum := "044ad23c1a2394a04b37fb0dca996b8b3e229c04d133c3d4f3a1c24356f8be37", func := "loop.example/g01063/laws.FnExactSameTitles", spec := "fnExactSameTitles", apart := false, narrowed := true }
def FnExactSameTitlesUptoSaid : Prop := fnExactSameTitlesUptoRow.holds Try.pinned (OpenSpec.upto fnExactSameTitlesSpec)

/-- 'laws.FnExactValidTitles', WHERE WHAT IT READS IS OF BULK AT MOST 1048576: true; the input reads as it did. -/
def fnExactValidTitlesUptoRow : OpenClaim := { program := "ytnfoleedampcnaa", sum := "044ad23c1a2394a04b37fb0dca996b8b3e229c04d133c3d4f3a1c24356f8be37", func := "loop.example/g01063/laws.FnExactValidTitles", spec := "fnExactValidTitles", apart := false, narrowed := true }
def FnExactValidTitlesUptoSaid : Prop := fnExactValidTitlesUptoRow.holds Try.pinned (OpenSpec.upto fnExactValidTitlesSpec)

/-- 'laws.FnExactFreeNumber', WHERE WHAT IT READS IS OF BULK AT MOST 1048576: true; the input reads as it did. -/
def fnExactFreeNumberUptoRow : OpenClaim := { program := "ytnfoleedampcnaa", sum := "044ad23c1a2394a04b37fb0dca996b8b3e229c04d133c3d4f3a1c24356f8be37", func := "loop.example/g01063/laws.FnExactFreeNumber", spec := "fnExactFreeNumber", apart := false, narrowed := true }
def FnExactFreeNumberUptoSaid : Prop := fnExactFreeNumberUptoRow.holds Try.pinned (OpenSpec.upto fnExactFreeNumberSpec)

/-- 'laws.FnExactWholeTitles', WHERE WHAT IT READS IS OF BULK AT MOST 1048576: true; the input reads as it did. -/
def fnExactWholeTitlesUptoRow : OpenClaim := { program := "ytnfoleedampcnaa", sum := "044ad23c1a2394a04b37fb0dca996b8b3e229c04d133c3d4f3a1c24356f8be37", func := "loop.example/g01063/laws.FnExactWholeTitles", spec := "fnExactWholeTitles", apart := false, narrowed := true }
def FnExactWholeTitlesUptoSaid : Prop := fnExactWholeTitlesUptoRow.holds Try.pinned (OpenSpec.upto fnExactWholeTitlesSpec)

end Rows
end Go.Proofs.Ytnfoleedampcnaa
