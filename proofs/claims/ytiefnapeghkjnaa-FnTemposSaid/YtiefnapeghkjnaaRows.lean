/-
  No cell of these rows narrows 'for every input' (looked for: loops, veiled, ifaces, maps, wideKeys, modest, calm, conditions, laid).
  DERIVED. THE GIVEN ROWS OF THIS SEAT. 8 by the template 'for every input the law returns true; each argument reads behind the call as it read before'; 0 by the template 'total and deterministic' (their statements: YtiefnapeghkjnaaTotals.lean).
  GIVEN WITH THE SEED: the statements are not yours to turn. If you find one false, say at which input.
  Laid BY PROGRAM, IN A SANDBOX (cutbox-rows.mjs): the forced cells as the released guide's own fill.sh prints them over the translation 933c09f35a796519… (all of the seat's roots in one cut). By AI agents, Wed Nov 11 2026. No macro, syntax, notation, axiom, sorry.
-/
import Derived.Test.YtiefnapeghkjnaaChecked
import GoSem.Claim
import GoSem.ClaimJoined
import GoSem.ClaimMapViews
import Derived.JoinedTies
import Derived.KernelRfl
namespace Go.Proofs.Ytiefnapeghkjnaa
/- THE CELL 'sum', in the pinned program and in every row, IS THE sha256 OF THE DUMP (.gsa) THAT YtiefnapeghkjnaaProg.lean LOADS. Nothing in Lean hashes anything: it is a label: what it is worth is what the hold of that sum in a sandbox is worth. -/
noncomputable def Try.pinned : Pinned := { name := "ytiefnapeghkjnaa", sum := "933c09f35a796519c9dec409b37b40b56abe2c3e80e4ee7391dcea67cc90cdc8", checked := Try.checked }
namespace Rows
def none {H : Type} : Left H := { results := [], args := [] }

/-- 'laws.FnLoops': WHATEVER THE INPUT: true; the input reads as it did. -/
def fnLoopsSpec : ChangeSpec := { name := "fnLoops", fn := fun _ => fun
  | [d] => { results := [.lit (.bool true)], args := [d] }
  | _ => none }
def fnLoopsRow : OpenClaim := { program := "ytiefnapeghkjnaa", sum := "933c09f35a796519c9dec409b37b40b56abe2c3e80e4ee7391dcea67cc90cdc8", func := "loop.example/g01063/laws.FnLoops", spec := "fnLoops", unfollowed := true, recurses := true, apart := false }
def FnLoopsSaid : Prop := fnLoopsRow.holds Try.pinned (OpenSpec.ofChange fnLoopsSpec)

/-- ITS FALSE NEIGHBOUR: 'it returns false'. Refute it at one input. -/
def fnLoopsWrong : ChangeSpec := { name := "fnLoops", fn := fun _ => fun
  | [d] => { results := [.lit (.bool false)], args := [d] }
  | _ => none }
def FnLoopsWrongFalsely : Prop := fnLoopsRow.holds Try.pinned (OpenSpec.ofChange fnLoopsWrong)

/-- 'laws.FnBooks': WHATEVER THE INPUT: true; the input reads as it did. -/
def fnBooksSpec : ChangeSpec := { name := "fnBooks", fn := fun _ => fun
  | [d1, d2] => { results := [.lit (.bool true)], args := [d1, d2] }
  | _ => none }
def fnBooksRow : OpenClaim := { program := "ytiefnapeghkjnaa", sum := "933c09f35a796519c9dec409b37b40b56abe2c3e80e4ee7391dcea67cc90cdc8", func := "loop.example/g01063/laws.FnBooks", spec := "fnBooks", inPlace := ["internal/abi.NoEscape", "internal/bytealg.MakeNoZero"], unfollowed := true, recurses := true, apart := false }
def FnBooksSaid : Prop := fnBooksRow.holds Try.pinned (OpenSpec.ofChange fnBooksSpec)

/-- ITS FALSE NEIGHBOUR: 'it returns false'. Refute it at one input. -/
def fnBooksWrong : ChangeSpec := { name := "fnBooks", fn := fun _ => fun
  | [d1, d2] => { results := [.lit (.bool false)], args := [d1, d2] }
  | _ => none }
def FnBooksWrongFalsely : Prop := fnBooksRow.holds Try.pinned (OpenSpec.ofChange fnBooksWrong)

/-- 'laws.FnTicks': WHATEVER THE INPUT: true; the input reads as it did. -/
def fnTicksSpec : ChangeSpec := { name := "fnTicks", fn := fun _ => fun
  | [d1, d2] => { results := [.lit (.bool true)], args := [d1, d2] }
  | _ => none }
def fnTicksRow : OpenClaim := { program := "ytiefnapeghkjnaa", sum := "933c09f35a796519c9dec409b37b40b56abe2c3e80e4ee7391dcea67cc90cdc8", func := "loop.example/g01063/laws.FnTicks", spec := "fnTicks", inPlace := ["internal/abi.NoEscape", "internal/bytealg.MakeNoZero"], apart := false }
def FnTicksSaid : Prop := fnTicksRow.holds Try.pinned (OpenSpec.ofChange fnTicksSpec)

/-- ITS FALSE NEIGHBOUR: 'it returns false'. Refute it at one input. -/
def fnTicksWrong : ChangeSpec := { name := "fnTicks", fn := fun _ => fun
  | [d1, d2] => { results := [.lit (.bool false)], args := [d1, d2] }
  | _ => none }
def FnTicksWrongFalsely : Prop := fnTicksRow.holds Try.pinned (OpenSpec.ofChange fnTicksWrong)

/-- 'laws.FnMotions': WHATEVER THE INPUT: true; the input reads as it did. -/
def fnMotionsSpec : ChangeSpec := { name := "fnMotions", fn := fun _ => fun
  | [d1, d2] => { results := [.lit (.bool true)], args := [d1, d2] }
  | _ => none }
def fnMotionsRow : OpenClaim := { program := "ytiefnapeghkjnaa", sum := "933c09f35a796519c9dec409b37b40b56abe2c3e80e4ee7391dcea67cc90cdc8", func := "loop.example/g01063/laws.FnMotions", spec := "fnMotions", apart := false }
def FnMotionsSaid : Prop := fnMotionsRow.holds Try.pinned (OpenSpec.ofChange fnMotionsSpec)

/-- ITS FALSE NEIGHBOUR: 'it returns false'. Refute it at one input. -/
def fnMotionsWrong : ChangeSpec := { name := "fnMotions", fn := fun _ => fun
  | [d1, d2] => { results := [.lit (.bool false)], args := [d1, d2] }
  | _ => none }
def FnMotionsWrongFalsely : Prop := fnMotionsRow.holds Try.pinned (OpenSpec.ofChange fnMotionsWrong)

/-- 'laws.FnLanterns': WHATEVER THE INPUT: true; the input reads as it did. -/
def fnLanternsSpec : ChangeSpec := { name := "fnLanterns", fn := fun _ => fun
  | [d1, d2] => { results := [.lit (.bool true)], args := [d1, d2] }
  | _ => none }
def fnLanternsRow : OpenClaim := { program := "ytiefnapeghkjnaa", sum := "933c09f35a796519c9dec409b37b40b56abe2c3e80e4ee7391dcea67cc90cdc8", func := "loop.example/g01063/laws.FnLanterns", spec := "fnLanterns", unfollowed := true, recurses := true, apart := false }
def FnLanternsSaid : Prop := fnLanternsRow.holds Try.pinned (OpenSpec.ofChange fnLanternsSpec)

/-- ITS FALSE NEIGHBOUR: 'it returns false'. Refute it at one input. -/
def fnLanternsWrong : ChangeSpec := { name := "fnLanterns", fn := fun _ => fun
  | [d1, d2] => { results := [.lit (.bool false)], args := [d1, d2] }
  | _ => none }
def FnLanternsWrongFalsely : Prop := fnLanternsRow.holds Try.pinned (OpenSpec.ofChange fnLanternsWrong)

/-- 'laws.FnLensFits': WHATEVER THE INPUT: true; the input reads as it did. -/
def fnLensFitsSpec : ChangeSpec := { name := "fnLensFits", fn := fun _ => fun
  | [d] => { results := [.lit (.bool true)], args := [d] }
  | _ => none }
def fnLensFitsRow : OpenClaim := { program := "ytiefnapeghkjnaa", sum := "933c09f35a796519c9dec409b37b40b56abe2c3e80e4ee7391dcea67cc90cdc8", func := "loop.example/g01063/laws.FnLensFits", spec := "fnLensFits", unfollowed := true, recurses := true, apart := false }
def FnLensFitsSaid : Prop := fnLensFitsRow.holds Try.pinned (OpenSpec.ofChange fnLensFitsSpec)

/-- ITS FALSE NEIGHBOUR: 'it returns false'. Refute it at one input. -/
def fnLensFitsWrong : ChangeSpec := { name := "fnLensFits", fn := fun _ => fun
  | [d] => { results := [.lit (.bool false)], args := [d] }
  | _ => none }
def FnLensFitsWrongFalsely : Prop := fnLensFitsRow.holds Try.pinned (OpenSpec.ofChange fnLensFitsWrong)

/-- 'laws.FnLensSets': WHATEVER THE INPUT: true; the input reads as it did. -/
def fnLensSetsSpec : ChangeSpec := { name := "fnLensSets", fn := fun _ => fun
  | [d] => { results := [.lit (.bool true)], args := [d] }
  | _ => none }
def fnLensSetsRow : OpenClaim := { program := "ytiefnapeghkjnaa", sum := "933c09f35a796519c9dec409b37b40b56abe2c3e80e4ee7391dcea67cc90cdc8", func := "loop.example/g01063/laws.FnLensSets", spec := "fnLensSets", unfollowed := true, recurses := true, apart := false }
def FnLensSetsSaid : Prop := fnLensSetsRow.holds Try.pinned (OpenSpec.ofChange fnLensSetsSpec)

/-- ITS FALSE NEIGHBOUR: 'it returns false'. Refute it at one input. -/
def fnLensSetsWrong : ChangeSpec := { name := "fnLensSets", fn := fun _ => fun
  | [d] => { results := [.lit (.bool false)], args := [d] }
  | _ => none }
def FnLensSetsWrongFalsely : Prop := fnLensSetsRow.holds Try.pinned (OpenSpec.ofChange fnLensSetsWrong)

/-- 'laws.FnTempos': WHATEVER THE INPUT: true; the input reads as it did. -/
def fnTemposSpec : ChangeSpec := { name := "fnTempos", fn := fun _ => fun
  | [d] => { results := [.lit (.bool true)], args := [d] }
  | _ => none }
def fnTemposRow : OpenClaim := { program := "ytiefnapeghkjnaa", sum := "933c09f35a796519c9dec409b37b40b56abe2c3e80e4ee7391dcea67cc90cdc8", func := "loop.example/g01063/laws.FnTempos", spec := "fnTempos", unfollowed := true, recurses := true, apart := false }
def FnTemposSaid : Prop := fnTemposRow.holds Try.pinned (OpenSpec.ofChange fnTemposSpec)

/-- ITS FALSE NEIGHBOUR: 'it returns false'. Refute it at one input. -/
def fnTemposWrong : ChangeSpec := { name := "fnTempos", fn := fun _ => fun
  | [d] => { results := [.lit (.bool false)], args := [d] }
  | _ => none }
def FnTemposWrongFalsely : Prop := fnTemposRow.holds Try.pinned (OpenSpec.ofChange fnTemposWrong)

/- THE SECOND FORM. 'bulk': how many values and letters a reading holds, each counted each time it is reached (what is shared counts as often as it is met; a slice's spare places count too). A statement '..UptoSaid' is the law's where the arguments, and the package variables that the reading takes, are together of bulk at most 1048576: NARROWER than '..Said'. Prove '..Said' where nothing that the law and all that it calls make is longer than what came in: it says more and counts as full. Else prove '..UptoSaid'. A law counts once. -/
mutual
def uptoBulk {H : Type} : DataW H → Nat
  | .lit (.string bytes) => bytes.length + 1
  | .lit _ => 1
  | .nil => 1
  | .ptr d => uptoBulk d + 1
  | .slice elems spare => uptoBulkAll elems + uptoBulkAll spare + 1
  | .agg parts => uptoBulkAll parts + 1
  | .iface _ d => uptoBulk d + 1
  | .map entries => uptoBulkEntries entries + 1
  | .held _ => 1
def uptoBulkAll {H : Type} : List (DataW H) → Nat
  | [] => 0
  | d :: r => uptoBulk d + uptoBulkAll r
def uptoBulkEntries {H : Type} : List (Lit × DataW H) → Nat
  | [] => 0
  | x :: r => uptoBulkEntry x + uptoBulkEntries r
def uptoBulkEntry {H : Type} : Lit × DataW H → Nat
  | (.string bytes, d) => bytes.length + uptoBulk d + 1
  | (_, d) => uptoBulk d + 1
 end
def uptoSmall : (H : Type) → List (DataW H) → Bool := fun _ ds => decide (uptoBulkAll ds ≤ 1048576)
def OpenSpec.upto (s : _root_.Go.ChangeSpec) : _root_.Go.OpenSpec := { _root_.Go.OpenSpec.ofChange s with cond := some uptoSmall }

/-- 'laws.FnLoops', WHERE WHAT IT READS IS OF BULK AT MOST 1048576: true; the input reads as it did. -/
def fnLoopsUptoRow : OpenClaim := { program := "ytiefnapeghkjnaa", sum := "933c09f35a796519c9dec409b37b40b56abe2c3e80e4ee7391dcea67cc90cdc8", func := "loop.example/g01063/laws.FnLoops", spec := "fnLoops", unfollowed := true, recurses := true, apart := false, narrowed := true }
def FnLoopsUptoSaid : Prop := fnLoopsUptoRow.holds Try.pinned (OpenSpec.upto fnLoopsSpec)

/-- 'laws.FnBooks', WHERE WHAT IT READS IS OF BULK AT MOST 1048576: true; the input reads as it did. -/
def fnBooksUptoRow : OpenClaim := { program := "ytiefnapeghkjnaa", sum := "933c09f35a796519c9dec409b37b40b56abe2c3e80e4ee7391dcea67cc90cdc8", func := "loop.example/g01063/laws.FnBooks", spec := "fnBooks", inPlace := ["internal/abi.NoEscape", "internal/bytealg.MakeNoZero"], unfollowed := true, recurses := true, apart := false, narrowed := true }
def FnBooksUptoSaid : Prop := fnBooksUptoRow.holds Try.pinned (OpenSpec.upto fnBooksSpec)

/-- 'laws.FnTicks', WHERE WHAT IT READS IS OF BULK AT MOST 1048576: true; the input reads as it did. -/
def fnTicksUptoRow : OpenClaim := { program := "ytiefnapeghkjnaa", sum := "933c09f35a796519c9dec409b37b40b56abe2c3e80e4ee7391dcea67cc90cdc8", func := "loop.example/g01063/laws.FnTicks", spec := "fnTicks", inPlace := ["internal/abi.NoEscape", "internal/bytealg.MakeNoZero"], apart := false, narrowed := true }
def FnTicksUptoSaid : Prop := fnTicksUptoRow.holds Try.pinned (OpenSpec.upto fnTicksSpec)

/-- 'laws.FnMotions', WHERE WHAT IT READS IS OF BULK AT MOST 1048576: true; the input reads as it did. -/
def fnMotionsUptoRow : OpenClaim := { program := "ytiefnapeghkjnaa", sum := "933c09f35a796519c9dec409b37b40b56abe2c3e80e4ee7391dcea67cc90cdc8", func := "loop.example/g01063/laws.FnMotions", spec := "fnMotions", apart := false, narrowed := true }
def FnMotionsUptoSaid : Prop := fnMotionsUptoRow.holds Try.pinned (OpenSpec.upto fnMotionsSpec)

/-- 'laws.FnLanterns', WHERE WHAT IT READS IS OF BULK AT MOST 1048576: true; the input reads as it did. -/
def fnLanternsUptoRow : OpenClaim := { program := "ytiefnapeghkjnaa", sum := "933c09f35a796519c9dec409b37b40b56abe2c3e80e4ee7391dcea67cc90cdc8", func := "loop.example/g01063/laws.FnLanterns", spec := "fnLanterns", unfollowed := true, recurses := true, apart := false, narrowed := true }
def FnLanternsUptoSaid : Prop := fnLanternsUptoRow.holds Try.pinned (OpenSpec.upto fnLanternsSpec)

/-- 'laws.FnLensFits', WHERE WHAT IT READS IS OF BULK AT MOST 1048576: true; the input reads as it did. -/
def fnLensFitsUptoRow : OpenClaim := { program := "ytiefnapeghkjnaa", sum := "933c09f35a796519c9dec409b37b40b56abe2c3e80e4ee7391dcea67cc90cdc8", func := "loop.example/g01063/laws.FnLensFits", spec := "fnLensFits", unfollowed := true, recurses := true, apart := false, narrowed := true }
def FnLensFitsUptoSaid : Prop := fnLensFitsUptoRow.holds Try.pinned (OpenSpec.upto fnLensFitsSpec)

/-- 'laws.FnLensSets', WHERE WHAT IT READS IS OF BULK AT MOST 1048576: true; the input reads as it did. -/
def fnLensSetsUptoRow : OpenClaim := { program := "ytiefnapeghkjnaa", sum := "933c09f35a796519c9dec409b37b40b56abe2c3e80e4ee7391dcea67cc90cdc8", func := "loop.example/g01063/laws.FnLensSets", spec := "fnLensSets", unfollowed := true, recurses := true, apart := false, narrowed := true }
def FnLensSetsUptoSaid : Prop := fnLensSetsUptoRow.holds Try.pinned (OpenSpec.upto fnLensSetsSpec)

/-- 'laws.FnTempos', WHERE WHAT IT READS IS OF BULK AT MOST 1048576: true; the input reads as it did. -/
def fnTemposUptoRow : OpenClaim := { program := "ytiefnapeghkjnaa", sum := "933c09f35a796519c9dec409b37b40b56abe2c3e80e4ee7391dcea67cc90cdc8", func := "loop.example/g01063/laws.FnTempos", spec := "fnTempos", unfollowed := true, recurses := true, apart := false, narrowed := true }
def FnTemposUptoSaid : Prop := fnTemposUptoRow.holds Try.pinned (OpenSpec.upto fnTemposSpec)

end Rows
end Go.Proofs.Ytiefnapeghkjnaa
