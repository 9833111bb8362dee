/-
  No cell of these rows narrows 'for every input' (looked for: loops, veiled, ifaces, maps, wideKeys, modest, calm, conditions, laid).
  DERIVED. THE GIVEN ROWS OF THIS SEAT. 5 by the template 'for every input the law returns true; each argument reads behind the call as it read before'; 0 by the template 'total and deterministic' (their statements: YtgefboppfddmdaaTotals.lean).
  GIVEN WITH THE SEED: the statements are not yours to turn. If you find one false, say at which input.
  Laid BY PROGRAM, IN A SANDBOX (cutbox-rows.mjs): the forced cells as the released guide's own fill.sh prints them over the translation 0d83d1f9f69715c9… (all of the seat's roots in one cut). By AI agents, Wed Nov 11 2026. No macro, syntax, notation, axiom, sorry.
-/
import Derived.Test.YtgefboppfddmdaaChecked
import GoSem.Claim
import GoSem.ClaimJoined
import GoSem.ClaimMapViews
import Derived.JoinedTies
import Derived.KernelRfl
namespace Go.Proofs.Ytgefboppfddmdaa
/- THE CELL 'sum', in the pinned program and in every row, IS THE sha256 OF THE DUMP (.gsa) THAT YtgefboppfddmdaaProg.lean LOADS. Nothing in Lean hashes anything: it is a label: what it is worth is what the hold of that sum in a sandbox is worth. -/
noncomputable def Try.pinned : Pinned := { name := "ytgefboppfddmdaa", sum := "0d83d1f9f69715c9887f60aa7001453d42485d7a94a62759544cde9f4825edb6", checked := Try.checked }
namespace Rows
def none {H : Type} : Left H := { results := [], args := [] }

/-- 'laws.FnLensPairs': WHATEVER THE INPUT: true; the input reads as it did. -/
def fnLensPairsSpec : ChangeSpec := { name := "fnLensPairs", fn := fun _ => fun
  | [d1, d2] => { results := [.lit (.bool true)], args := [d1, d2] }
  | _ => none }
def fnLensPairsRow : OpenClaim := { program := "ytgefboppfddmdaa", sum := "0d83d1f9f69715c9887f60aa7001453d42485d7a94a62759544cde9f4825edb6", func := "loop.example/g01063/laws.FnLensPairs", spec := "fnLensPairs", unfollowed := true, recurses := true, apart := false }
def FnLensPairsSaid : Prop := fnLensPairsRow.holds Try.pinned (OpenSpec.ofChange fnLensPairsSpec)

/-- ITS FALSE NEIGHBOUR: 'it returns false'. Refute it at one input. -/
def fnLensPairsWrong : ChangeSpec := { name := "fnLensPairs", fn := fun _ => fun
  | [d1, d2] => { results := [.lit (.bool false)], args := [d1, d2] }
  | _ => none }
def FnLensPairsWrongFalsely : Prop := fnLensPairsRow.holds Try.pinned (OpenSpec.ofChange fnLensPairsWrong)

/-- 'laws.FnLensFits': WHATEVER THE INPUT: true; the input reads as it did. -/
def fnLensFitsSpec : ChangeSpec := { name := "fnLensFits", fn := fun _ => fun
  | [d] => { results := [.lit (.bool true)], args := [d] }
  | _ => none }
def fnLensFitsRow : OpenClaim := { program := "ytgefboppfddmdaa", sum := "0d83d1f9f69715c9887f60aa7001453d42485d7a94a62759544cde9f4825edb6", func := "loop.example/g01063/laws.FnLensFits", spec := "fnLensFits", unfollowed := true, recurses := true, apart := false }
def FnLensFitsSaid : Prop := fnLensFitsRow.holds Try.pinned (OpenSpec.ofChange fnLensFitsSpec)

/-- ITS FALSE NEIGHBOUR: 'it returns false'. Refute it at one input. -/
def fnLensFitsWrong : ChangeSpec := { name := "fnLensFits", fn := fun _ => fun
  | [d] => { results := [.lit (.bool false)], args := [d] }
  | _ => none }
def FnLensFitsWrongFalsely : Prop := fnLensFitsRow.holds Try.pinned (OpenSpec.ofChange fnLensFitsWrong)

/-- 'laws.FnLensSets': WHATEVER THE INPUT: true; the input reads as it did. -/
def fnLensSetsSpec : ChangeSpec := { name := "fnLensSets", fn := fun _ => fun
  | [d] => { results := [.lit (.bool true)], args := [d] }
  | _ => none }
def fnLensSetsRow : OpenClaim := { program := "ytgefboppfddmdaa", sum := "0d83d1f9f69715c9887f60aa7001453d42485d7a94a62759544cde9f4825edb6", func := "loop.example/g01063/laws.FnLensSets", spec := "fnLensSets", unfollowed := true, recurses := true, apart := false }
def FnLensSetsSaid : Prop := fnLensSetsRow.holds Try.pinned (OpenSpec.ofChange fnLensSetsSpec)

/-- ITS FALSE NEIGHBOUR: 'it returns false'. Refute it at one input. -/
def fnLensSetsWrong : ChangeSpec := { name := "fnLensSets", fn := fun _ => fun
  | [d] => { results := [.lit (.bool false)], args := [d] }
  | _ => none }
def FnLensSetsWrongFalsely : Prop := fnLensSetsRow.holds Try.pinned (OpenSpec.ofChange fnLensSetsWrong)

/-- 'laws.FnLight': WHATEVER THE INPUT: true; the input reads as it did. -/
def fnLightSpec : ChangeSpec := { name := "fnLight", fn := fun _ => fun
  | [d] => { results := [.lit (.bool true)], args := [d] }
  | _ => none }
def fnLightRow : OpenClaim := { program := "ytgefboppfddmdaa", sum := "0d83d1f9f69715c9887f60aa7001453d42485d7a94a62759544cde9f4825edb6", func := "loop.example/g01063/laws.FnLight", spec := "fnLight", unfollowed := true, recurses := true, apart := false }
def FnLightSaid : Prop := fnLightRow.holds Try.pinned (OpenSpec.ofChange fnLightSpec)

/-- ITS FALSE NEIGHBOUR: 'it returns false'. Refute it at one input. -/
def fnLightWrong : ChangeSpec := { name := "fnLight", fn := fun _ => fun
  | [d] => { results := [.lit (.bool false)], args := [d] }
  | _ => none }
def FnLightWrongFalsely : Prop := fnLightRow.holds Try.pinned (OpenSpec.ofChange fnLightWrong)

/-- 'laws.FnLamps': WHATEVER THE INPUT: true; the input reads as it did. -/
def fnLampsSpec : ChangeSpec := { name := "fnLamps", fn := fun _ => fun
  | [d] => { results := [.lit (.bool true)], args := [d] }
  | _ => none }
def fnLampsRow : OpenClaim := { program := "ytgefboppfddmdaa", sum := "0d83d1f9f69715c9887f60aa7001453d42485d7a94a62759544cde9f4825edb6", func := "loop.example/g01063/laws.FnLamps", spec := "fnLamps", unfollowed := true, recurses := true, apart := false }
def FnLampsSaid : Prop := fnLampsRow.holds Try.pinned (OpenSpec.ofChange fnLampsSpec)

/-- ITS FALSE NEIGHBOUR: 'it returns false'. Refute it at one input. -/
def fnLampsWrong : ChangeSpec := { name := "fnLamps", fn := fun _ => fun
  | [d] => { results := [.lit (.bool false)], args := [d] }
  | _ => none }
def FnLampsWrongFalsely : Prop := fnLampsRow.holds Try.pinned (OpenSpec.ofChange fnLampsWrong)

/- THE SECOND FORM. 'bulk': how many values and letters a reading holds, each counted each time it is reached (what is shared counts as often as it is met; a slice's spare places count too). A statement '..UptoSaid' is the law's where the arguments, and the package variables that the reading takes, are together of bulk at most 1048576: NARROWER than '..Said'. Prove '..Said' where nothing that the law and all that it calls make is longer than what came in: it says more and counts as full. Else prove '..UptoSaid'. A law counts once. -/
mutual
def uptoBulk {H : Type} : DataW H → Nat
  | .lit (.string bytes) => bytes.length + 1
  | .lit _ => 1
  | .nil => 1
  | .ptr d => uptoBulk d + 1
  | .slice elems spare => uptoBulkAll elems + uptoBulkAll spare + 1
  | .agg parts => uptoBulkAll parts + 1
  | .iface _ d => uptoBulk d + 1
  | .map entries => uptoBulkEntries entries + 1
  | .held _ => 1
def uptoBulkAll {H : Type} : List (DataW H) → Nat
  | [] => 0
  | d :: r => uptoBulk d + uptoBulkAll r
def uptoBulkEntries {H : Type} : List (Lit × DataW H) → Nat
  | [] => 0
  | x :: r => uptoBulkEntry x + uptoBulkEntries r
def uptoBulkEntry {H : Type} : Lit × DataW H → Nat
  | (.string bytes, d) => bytes.length + uptoBulk d + 1
  | (_, d) => uptoBulk d + 1
 end
def uptoSmall : (H : Type) → List (DataW H) → Bool := fun _ ds => decide (uptoBulkAll ds ≤ 1048576)
def OpenSpec.upto (s : _root_.Go.ChangeSpec) : _root_.Go.OpenSpec := { _root_.Go.OpenSpec.ofChange s with cond := some uptoSmall }

/-- 'laws.FnLensPairs', WHERE WHAT IT READS IS OF BULK AT MOST 1048576: true; the input reads as it did. -/
def fnLensPairsUptoRow : OpenClaim := { program := "ytgefboppfddmdaa", sum := "0d83d1f9f69715c9887f60aa7001453d42485d7a94a62759544cde9f4825edb6", func := "loop.example/g01063/laws.FnLensPairs", spec := "fnLensPairs", unfollowed := true, recurses := true, apart := false, narrowed := true }
def FnLensPairsUptoSaid : Prop := fnLensPairsUptoRow.holds Try.pinned (OpenSpec.upto fnLensPairsSpec)

/-- 'laws.FnLensFits', WHERE WHAT IT READS IS OF BULK AT MOST 1048576: true; the input reads as it did. -/
def fnLensFitsUptoRow : OpenClaim := { program := "ytgefboppfddmdaa", sum := "0d83d1f9f69715c9887f60aa7001453d42485d7a94a62759544cde9f4825edb6", func := "loop.example/g01063/laws.FnLensFits", spec := "fnLensFits", unfollowed := true, recurses := true, apart := false, narrowed := true }
def FnLensFitsUptoSaid : Prop := fnLensFitsUptoRow.holds Try.pinned (OpenSpec.upto fnLensFitsSpec)

/-- 'laws.FnLensSets', WHERE WHAT IT READS IS OF BULK AT MOST 1048576: true; the input reads as it did. -/
def fnLensSetsUptoRow : OpenClaim := { program := "ytgefboppfddmdaa", sum := "0d83d1f9f69715c9887f60aa7001453d42485d7a94a62759544cde9f4825edb6", func := "loop.example/g01063/laws.FnLensSets", spec := "fnLensSets", unfollowed := true, recurses := true, apart := false, narrowed := true }
def FnLensSetsUptoSaid : Prop := fnLensSetsUptoRow.holds Try.pinned (OpenSpec.upto fnLensSetsSpec)

/-- 'laws.FnLight', WHERE WHAT IT READS IS OF BULK AT MOST 1048576: true; the input reads as it did. -/
def fnLightUptoRow : OpenClaim := { program := "ytgefboppfddmdaa", sum := "0d83d1f9f69715c9887f60aa7001453d42485d7a94a62759544cde9f4825edb6", func := "loop.example/g01063/laws.FnLight", spec := "fnLight", unfollowed := true, recurses := true, apart := false, narrowed := true }
def FnLightUptoSaid : Prop := fnLightUptoRow.holds Try.pinned (OpenSpec.upto fnLightSpec)

/-- 'laws.FnLamps', WHERE WHAT IT READS IS OF BULK AT MOST 1048576: true; the input reads as it did. -/
def fnLampsUptoRow : OpenClaim := { program := "ytgefboppfddmdaa", sum := "0d83d1f9f69715c9887f60aa7001453d42485d7a94a62759544cde9f4825edb6", func := "loop.example/g01063/laws.FnLamps", spec := "fnLamps", unfollowed := true, recurses := true, apart := false, narrowed := true }
def FnLampsUptoSaid : Prop := fnLampsUptoRow.holds Try.pinned (OpenSpec.upto fnLampsSpec)

end Rows
end Go.Proofs.Ytgefboppfddmdaa
