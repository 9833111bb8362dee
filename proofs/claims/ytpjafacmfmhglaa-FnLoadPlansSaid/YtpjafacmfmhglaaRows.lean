/-
  No cell of these rows narrows 'for every input' (looked for: loops, veiled, ifaces, maps, wideKeys, modest, calm, conditions, laid).
  DERIVED. THE GIVEN ROWS OF THIS SEAT. 3 by the template 'for every input the law returns true; each argument reads behind the call as it read before'; 0 by the template 'total and deterministic' (their statements: YtpjafacmfmhglaaTotals.lean).
  GIVEN WITH THE SEED: the statements are not yours to turn. If you find one false, say at which input.
  Laid BY PROGRAM, IN A SANDBOX (cutbox-rows.mjs): the forced cells as the released guide's own fill.sh prints them over the translation 175493b1f7b0a474… (all of the seat's roots in one cut). By AI agents, Wed Nov 11 2026. No macro, syntax, notation, axiom, sorry.
-/
import Derived.Test.YtpjafacmfmhglaaChecked
import GoSem.Claim
import GoSem.ClaimJoined
import GoSem.ClaimMapViews
import Derived.JoinedTies
import Derived.KernelRfl
namespace Go.Proofs.Ytpjafacmfmhglaa
/- THE CELL 'sum', in the pinned program and in every row, IS THE sha256 OF THE DUMP (.gsa) THAT YtpjafacmfmhglaaProg.lean LOADS. Nothing in Lean hashes anything: it is a label: what it is worth is what the hold of that sum in a sandbox is worth. -/
noncomputable def Try.pinned : Pinned := { name := "ytpjafacmfmhglaa", sum := "175493b1f7b0a474ae4b0dfcb60a8203323935dbe19fb14649338b816aeb6462", checked := Try.checked }
namespace Rows
def none {H : Type} : Left H := { results := [], args := [] }

/-- 'laws.FnLoadPlans': WHATEVER THE INPUT: true; the input reads as it did. -/
def fnLoadPlansSpec : ChangeSpec := { name := "fnLoadPlans", fn := fun _ => fun
  | [d1, d2] => { results := [.lit (.bool true)], args := [d1, d2] }
  | _ => none }
def fnLoadPlansRow : OpenClaim := { program := "ytpjafacmfmhglaa", sum := "175493b1f7b0a474ae4b0dfcb60a8203323935dbe19fb14649338b816aeb6462", func := "loop.example/g01063/laws.FnLoadPlans", spec := "fnLoadPlans", inPlace := ["internal/bytealg.IndexByteString"], recurses := true, plainKeys := false, apart := false }
def FnLoadPlansSaid : Prop := fnLoadPlansRow.holds Try.pinned (OpenSpec.ofChange fnLoadPlansSpec)

/-- ITS FALSE NEIGHBOUR: 'it returns false'. Refute it at one input. -/
def fnLoadPlansWrong : ChangeSpec := { name := "fnLoadPlans", fn := fun _ => fun
  | [d1, d2] => { results := [.lit (.bool false)], args := [d1, d2] }
  | _ => none }
def FnLoadPlansWrongFalsely : Prop := fnLoadPlansRow.holds Try.pinned (OpenSpec.ofChange fnLoadPlansWrong)

/-- 'laws.FnGlassBars': WHATEVER THE INPUT: true; the input reads as it did. -/
def fnGlassBarsSpec : ChangeSpec := { name := "fnGlassBars", fn := fun _ => fun
  | [d] => { results := [.lit (.bool true)], args := [d] }
  | _ => none }
def fnGlassBarsRow : OpenClaim := { program := "ytpjafacmfmhglaa", sum := "175493b1f7b0a474ae4b0dfcb60a8203323935dbe19fb14649338b816aeb6462", func := "loop.example/g01063/laws.FnGlassBars", spec := "fnGlassBars", unfollowed := true, recurses := true, plainKeys := false, apart := false }
def FnGlassBarsSaid : Prop := fnGlassBarsRow.holds Try.pinned (OpenSpec.ofChange fnGlassBarsSpec)

/-- ITS FALSE NEIGHBOUR: 'it returns false'. Refute it at one input. -/
def fnGlassBarsWrong : ChangeSpec := { name := "fnGlassBars", fn := fun _ => fun
  | [d] => { results := [.lit (.bool false)], args := [d] }
  | _ => none }
def FnGlassBarsWrongFalsely : Prop := fnGlassBarsRow.holds Try.pinned (OpenSpec.ofChange fnGlassBarsWrong)

/-- 'laws.FnGlasses': WHATEVER THE INPUT: true; the input reads as it did. -/
def fnGlassesSpec : ChangeSpec := { name := "fnGlasses", fn := fun _ => fun
  | [d1, d2] => { results := [.lit (.bool true)], args := [d1, d2] }
  | _ => none }
def fnGlassesRow : OpenClaim := { program := "ytpjafacmfmhglaa", sum := "175493b1f7b0a474ae4b0dfcb60a8203323935dbe19fb14649338b816aeb6462", func := "loop.example/g01063/laws.FnGlasses", spec := "fnGlasses", unfollowed := true, recurses := true, plainKeys := false, apart := false }
def FnGlassesSaid : Prop := fnGlassesRow.holds Try.pinned (OpenSpec.ofChange fnGlassesSpec)

/-- ITS FALSE NEIGHBOUR: 'it returns false'. Refute it at one input. -/
def fnGlassesWrong : ChangeSpec := { name := "fnGlasses", fn := fun _ => fun
  | [d1, d2] => { results := [.lit (.bool false)], args := [d1, d2] }
  | _ => none }
def FnGlassesWrongFalsely : Prop := fnGlassesRow.holds Try.pinned (OpenSpec.ofChange fnGlassesWrong)

/- THE SECOND FORM. 'bulk': how many values and letters a reading holds, each counted each time it is reached (what is shared counts as often as it is met; a slice's spare places count too). A statement '..UptoSaid' is the law's where the arguments, and the package variables that the reading takes, are together of bulk at most 1048576: NARROWER than '..Said'. Prove '..Said' where nothing that the law and all that it calls make is longer than what came in: it says more and counts as full. Else prove '..UptoSaid'. A law counts once. -/
mutual
def uptoBulk {H : Type} : DataW H → Nat
  | .lit (.string bytes) => bytes.length + 1
  | .lit _ => 1
  | .nil => 1
  | .ptr d => uptoBulk d + 1
  | .slice elems spare => uptoBulkAll elems + uptoBulkAll spare + 1
  | .agg parts => uptoBulkAll parts + 1
  | .iface _ d => uptoBulk d + 1
  | .map entries => uptoBulkEntries entries + 1
  | .held _ => 1
def uptoBulkAll {H : Type} : List (DataW H) → Nat
  | [] => 0
  | d :: r => uptoBulk d + uptoBulkAll r
def uptoBulkEntries {H : Type} : List (Lit × DataW H) → Nat
  | [] => 0
  | x :: r => uptoBulkEntry x + uptoBulkEntries r
def uptoBulkEntry {H : Type} : Lit × DataW H → Nat
  | (.string bytes, d) => bytes.length + uptoBulk d + 1
  | (_, d) => uptoBulk d + 1
 end
def uptoSmall : (H : Type) → List (DataW H) → Bool := fun _ ds => decide (uptoBulkAll ds ≤ 1048576)
def OpenSpec.upto (s : _root_.Go.ChangeSpec) : _root_.Go.OpenSpec := { _root_.Go.OpenSpec.ofChange s with cond := some uptoSmall }

/-- 'laws.FnLoadPlans', WHERE WHAT IT READS IS OF BULK AT MOST 1048576: true; the input reads as it did. -/
def fnLoadPlansUptoRow : OpenClaim := { program := "ytpjafacmfmhglaa", sum := "175493b1f7b0a474ae4b0dfcb60a8203323935dbe19fb14649338b816aeb6462", func := "loop.example/g01063/laws.FnLoadPlans", spec := "fnLoadPlans", inPlace := ["internal/bytealg.IndexByteString"], recurses := true, plainKeys := false, apart := false, narrowed := true }
def FnLoadPlansUptoSaid : Prop := fnLoadPlansUptoRow.holds Try.pinned (OpenSpec.upto fnLoadPlansSpec)

/-- 'laws.FnGlassBars', WHERE WHAT IT READS IS OF BULK AT MOST 1048576: true; the input reads as it did. -/
def fnGlassBarsUptoRow : OpenClaim := { program := "ytpjafacmfmhglaa", sum := "175493b1f7b0a474ae4b0dfcb60a8203323935dbe19fb14649338b816aeb6462", func := "loop.example/g01063/laws.FnGlassBars", spec := "fnGlassBars", unfollowed := true, recurses := true, plainKeys := false, apart := false, narrowed := true }
def FnGlassBarsUptoSaid : Prop := fnGlassBarsUptoRow.holds Try.pinned (OpenSpec.upto fnGlassBarsSpec)

/-- 'laws.FnGlasses', WHERE WHAT IT READS IS OF BULK AT MOST 1048576: true; the input reads as it did. -/
def fnGlassesUptoRow : OpenClaim := { program := "ytpjafacmfmhglaa", sum := "175493b1f7b0a474ae4b0dfcb60a8203323935dbe19fb14649338b816aeb6462", func := "loop.example/g01063/laws.FnGlasses", spec := "fnGlasses", unfollowed := true, recurses := true, plainKeys := false, apart := false, narrowed := true }
def FnGlassesUptoSaid : Prop := fnGlassesUptoRow.holds Try.pinned (OpenSpec.upto fnGlassesSpec)

end Rows
end Go.Proofs.Ytpjafacmfmhglaa
