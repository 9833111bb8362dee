/-
  NARROWER THAN 'FOR EVERY INPUT', by the rows' own cells (each row's printed sentence says how): FnBurning: laid · FnExactValidBurning: laid · FnExactFirstTooHot: laid · FnExactBurnsOf: laid · FnExactHeatAfter: laid · FnExactFuelFor: laid · FnLampRests: laid.
  DERIVED. THE GIVEN ROWS OF THIS SEAT. 7 by the template 'for every input the law returns true; each argument reads behind the call as it read before'; 0 by the template 'total and deterministic' (their statements: YtomlgmfkjibijaaDoorTotals.lean).
  GIVEN WITH THE SEED: the statements are not yours to turn. If you find one false, say at which input.
  Laid BY PROGRAM, IN A SANDBOX (cutbox-rows.mjs): the forced cells as the released guide's own fill.sh prints them over the translation 0b6936f9b8df2f24… (all of the seat's roots in one cut). By AI agents, Wed Nov 11 2026. No macro, syntax, notation, axiom, sorry.
-/
import Derived.Test.YtomlgmfkjibijaaDoorChecked
import GoSem.PinnedTables
import GoSem.Claim
import GoSem.ClaimJoined
import GoSem.ClaimMapViews
import Derived.JoinedTies
import Derived.KernelRfl
namespace Go.Proofs.YtomlgmfkjibijaaDoor
/- THE CELL 'sum', in the pinned program and in every row, IS THE sha256 OF THE DUMP (.gsa) THAT YtomlgmfkjibijaaDoorProg.lean LOADS. Nothing in Lean hashes anything: it is a label: what it is worth is what the hold of that sum in a sandbox is worth. -/
noncomputable def Tryd.pinned : Pinned := { name := "ytomlgmfkjibijaadoor", sum := "0b6936f9b8df2f24fa7be62ce6adcc094a64875bd7e59ea7553fa772e363192d", checked := Tryd.checked }
namespace Rows
def none {H : Type} : Left H := { results := [], args := [] }

/- WHAT THE LISTED PACKAGE-LEVEL VARIABLES READ AS WHEN THE CALL BEGINS. Each datum BY PROGRAM (the guide's laid-datum.mjs) off the statement by which the dump's own 'gosem.cut.vars' lays the variable. In a bare row this is a premise. The card (YtomlgmfkjibijaaDoorCards.lean) ties it to the program's text. -/
def laid_unicode_utf8_acceptRanges {H : Type} : DataW H := .agg [.agg [.lit (.int .u8 128), .lit (.int .u8 191)], .agg [.lit (.int .u8 160), .lit (.int .u8 191)], .agg [.lit (.int .u8 128), .lit (.int .u8 159)], .agg [.lit (.int .u8 144), .lit (.int .u8 191)], .agg [.lit (.int .u8 128), .lit (.int .u8 143)], .agg [.lit (.int .u8 0), .lit (.int .u8 0)], .agg [.lit (.int .u8 0), .lit (.int .u8 0)], .agg [.lit (.int .u8 0), .lit (.int .u8 0)], .agg [.lit (.int .u8 0), .lit (.int .u8 0)], .agg [.lit (.int .u8 0), .lit (.int .u8 0)], .agg [.lit (.int .u8 0), .lit (.int .u8 0)], .agg [.lit (.int .u8 0), .lit (.int .u8 0)], .agg [.lit (.int .u8 0), .lit (.int .u8 0)], .agg [.lit (.int .u8 0), .lit (.int .u8 0)], .agg [.lit (.int .u8 0), .lit (.int .u8 0)], .agg [.lit (.int .u8 0), .lit (.int .u8 0)]]
/-- One of Go's own tables, pinned by name: the form's constant. -/
def laid_unicode_utf8_first : DataW Unit := Go.Pinned.utf8First

/-- 'laws.FnBurning': WHATEVER THE INPUT: true; the input reads as it did. -/
def fnBurningSpec : ChangeSpec := { name := "fnBurning", fn := fun _ => fun
  | [d1, d2] => { results := [.lit (.bool true)], args := [d1, d2] }
  | _ => none }
def fnBurningRow : OpenClaim := { program := "ytomlgmfkjibijaadoor", sum := "0b6936f9b8df2f24fa7be62ce6adcc094a64875bd7e59ea7553fa772e363192d", func := "loop.example/g01063/laws.FnBurning", spec := "fnBurning", inPlace := ["internal/bytealg.IndexByteString", "internal/bytealg.IndexString"], named := ["unicode/utf8.first", "unicode/utf8.acceptRanges", "internal/bytealg.MaxLen"], apart := false, laid := [("unicode/utf8.acceptRanges", laid_unicode_utf8_acceptRanges), ("unicode/utf8.first", laid_unicode_utf8_first)] }
def FnBurningSaid : Prop := fnBurningRow.holds Tryd.pinned (OpenSpec.ofChange fnBurningSpec)

/-- ITS FALSE NEIGHBOUR: 'it returns false'. Refute it at one input. -/
def fnBurningWrong : ChangeSpec := { name := "fnBurning", fn := fun _ => fun
  | [d1, d2] => { results := [.lit (.bool false)], args := [d1, d2] }
  | _ => none }
def FnBurningWrongFalsely : Prop := fnBurningRow.holds Tryd.pinned (OpenSpec.ofChange fnBurningWrong)

/-- 'laws.FnExactValidBurning': WHATEVER THE INPUT: true; the input reads as it did. -/
def fnExactValidBurningSpec : ChangeSpec := { name := "fnExactValidBurning", fn := fun _ => fun
  | [d] => { results := [.lit (.bool true)], args := [d] }
  | _ => none }
def fnExactValidBurningRow : OpenClaim := { program := "ytomlgmfkjibijaadoor", sum := "0b6936f9b8df2f24fa7be62ce6adcc094a64875bd7e59ea7553fa772e363192d", func := "loop.example/g01063/laws.FnExactValidBurning", spec := "fnExactValidBurning", inPlace := ["internal/bytealg.IndexByteString", "internal/bytealg.IndexString"], named := ["unicode/utf8.first", "unicode/utf8.acceptRanges", "internal/bytealg.MaxLen"], apart := false, laid := [("unicode/utf8.acceptRanges", laid_unicode_utf8_acceptRanges), ("unicode/utf8.first", laid_unicode_utf8_first)] }
def FnExactValidBurningSaid : Prop := fnExactValidBurningRow.holds Tryd.pinned (OpenSpec.ofChange fnExactValidBurningSpec)

/-- ITS FALSE NEIGHBOUR: 'it returns false'. Refute it at one input. -/
def fnExactValidBurningWrong : ChangeSpec := { name := "fnExactValidBurning", fn := fun _ => fun
  | [d] => { results := [.lit (.bool false)], args := [d] }
  | _ => none }
def FnExactValidBurningWrongFalsely : Prop := fnExactValidBurningRow.holds Tryd.pinned (OpenSpec.ofChange fnExactValidBurningWrong)

/-- 'laws.FnExactFirstTooHot': WHATEVER THE INPUT: true; the input reads as it did. -/
def fnExactFirstTooHotSpec : ChangeSpec := { name := "fnExactFirstTooHot", fn := fun _ => fun
  | [d1, d2] => { results := [.lit (.bool true)], args := [d1, d2] }
  | _ => none }
def fnExactFirstTooHotRow : OpenClaim := { program := "ytomlgmfkjibijaadoor", sum := "0b6936f9b8df2f24fa7be62ce6adcc094a64875bd7e59ea7553fa772e363192d", func := "loop.example/g01063/laws.FnExactFirstTooHot", spec := "fnExactFirstTooHot", inPlace := ["internal/bytealg.IndexByteString", "internal/bytealg.IndexString"], named := ["unicode/utf8.first", "unicode/utf8.acceptRanges", "internal/bytealg.MaxLen"], apart := false, laid := [("unicode/utf8.acceptRanges", laid_unicode_utf8_acceptRanges), ("unicode/utf8.first", laid_unicode_utf8_first)] }
def FnExactFirstTooHotSaid : Prop := fnExactFirstTooHotRow.holds Tryd.pinned (OpenSpec.ofChange fnExactFirstTooHotSpec)

/-- ITS FALSE NEIGHBOUR: 'it returns false'. Refute it at one input. -/
def fnExactFirstTooHotWrong : ChangeSpec := { name := "fnExactFirstTooHot", fn := fun _ => fun
  | [d1, d2] => { results := [.lit (.bool false)], args := [d1, d2] }
  | _ => none }
def FnExactFirstTooHotWrongFalsely : Prop := fnExactFirstTooHotRow.holds Tryd.pinned (OpenSpec.ofChange fnExactFirstTooHotWrong)

/-- 'laws.FnExactBurnsOf': WHATEVER THE INPUT: true; the input reads as it did. -/
def fnExactBurnsOfSpec : ChangeSpec := { name := "fnExactBurnsOf", fn := fun _ => fun
  | [d] => { results := [.lit (.bool true)], args := [d] }
  | _ => none }
def fnExactBurnsOfRow : OpenClaim := { program := "ytomlgmfkjibijaadoor", sum := "0b6936f9b8df2f24fa7be62ce6adcc094a64875bd7e59ea7553fa772e363192d", func := "loop.example/g01063/laws.FnExactBurnsOf", spec := "fnExactBurnsOf", inPlace := ["internal/bytealg.IndexByteString", "internal/bytealg.IndexString"], named := ["unicode/utf8.first", "unicode/utf8.acceptRanges", "internal/bytealg.MaxLen"], apart := false, laid := [("unicode/utf8.acceptRanges", laid_unicode_utf8_acceptRanges), ("unicode/utf8.first", laid_unicode_utf8_first)] }
def FnExactBurnsOfSaid : Prop := fnExactBurnsOfRow.holds Tryd.pinned (OpenSpec.ofChange fnExactBurnsOfSpec)

/-- ITS FALSE NEIGHBOUR: 'it returns false'. Refute it at one input. -/
def fnExactBurnsOfWrong : ChangeSpec := { name := "fnExactBurnsOf", fn := fun _ => fun
  | [d] => { results := [.lit (.bool false)], args := [d] }
  | _ => none }
def FnExactBurnsOfWrongFalsely : Prop := fnExactBurnsOfRow.holds Tryd.pinned (OpenSpec.ofChange fnExactBurnsOfWrong)

/-- 'laws.FnExactHeatAfter': WHATEVER THE INPUT: true; the input reads as it did. -/
def fnExactHeatAfterSpec : ChangeSpec := { name := "fnExactHeatAfter", fn := fun _ => fun
  | [d1, d2] => { results := [.lit (.bool true)], args := [d1, d2] }
  | _ => none }
def fnExactHeatAfterRow : OpenClaim := { program := "ytomlgmfkjibijaadoor", sum := "0b6936f9b8df2f24fa7be62ce6adcc094a64875bd7e59ea7553fa772e363192d", func := "loop.example/g01063/laws.FnExactHeatAfter", spec := "fnExactHeatAfter", inPlace := ["internal/bytealg.IndexByteString", "internal/bytealg.IndexString"], named := ["unicode/utf8.first", "unicode/utf8.acceptRanges", "internal/bytealg.MaxLen"], apart := false, laid := [("unicode/utf8.acceptRanges", laid_unicode_utf8_acceptRanges), ("unicode/utf8.first", laid_unicode_utf8_first)] }
def FnExactHeatAfterSaid : Prop := fnExactHeatAfterRow.holds Tryd.pinned (OpenSpec.ofChange fnExactHeatAfterSpec)

/-- ITS FALSE NEIGHBOUR: 'it returns false'. Refute it at one input. -/
def fnExactHeatAfterWrong : ChangeSpec := { name := "fnExactHeatAfter", fn := fun _ => fun
  | [d1, d2] => { results := [.lit (.bool false)], args := [d1, d2] }
  | _ => none }
def FnExactHeatAfterWrongFalsely : Prop := fnExactHeatAfterRow.holds Tryd.pinned (OpenSpec.ofChange fnExactHeatAfterWrong)

/-- 'laws.FnExactFuelFor': WHATEVER THE INPUT: true; the input reads as it did. -/
def fnExactFuelForSpec : ChangeSpec := { name := "fnExactFuelFor", fn := fun _ => fun
  | [d1, d2, d3] => { results := [.lit (.bool true)], args := [d1, d2, d3] }
  | _ => none }
def fnExactFuelForRow : OpenClaim := { program := "ytomlgmfkjibijaadoor", sum := "0b6936f9b8df2f24fa7be62ce6adcc094a64875bd7e59ea7553fa772e363192d", func := "loop.example/g01063/laws.FnExactFuelFor", spec := "fnExactFuelFor", inPlace := ["internal/bytealg.IndexByteString", "internal/bytealg.IndexString", "internal/bytealg.CountString"], named := ["unicode/utf8.first", "unicode/utf8.acceptRanges", "internal/bytealg.MaxLen"], apart := false, laid := [("unicode/utf8.acceptRanges", laid_unicode_utf8_acceptRanges), ("unicode/utf8.first", laid_unicode_utf8_first)] }
def FnExactFuelForSaid : Prop := fnExactFuelForRow.holds Tryd.pinned (OpenSpec.ofChange fnExactFuelForSpec)

/-- ITS FALSE NEIGHBOUR: 'it returns false'. Refute it at one input. -/
def fnExactFuelForWrong : ChangeSpec := { name := "fnExactFuelFor", fn := fun _ => fun
  | [d1, d2, d3] => { results := [.lit (.bool false)], args := [d1, d2, d3] }
  | _ => none }
def FnExactFuelForWrongFalsely : Prop := fnExactFuelForRow.holds Tryd.pinned (OpenSpec.ofChange fnExactFuelForWrong)

/-- 'laws.FnLampRests': WHATEVER THE INPUT: true; the input reads as it did. -/
def fnLampRestsSpec : ChangeSpec := { name := "fnLampRests", fn := fun _ => fun
  | [d1, d2] => { results := [.lit (.bool true)], args := [d1, d2] }
  | _ => none }
def fnLampRestsRow : OpenClaim := { program := "ytomlgmfkjibijaadoor", sum := "0b6936f9b8df2f24fa7be62ce6adcc094a64875bd7e59ea7553fa772e363192d", func := "loop.example/g01063/laws.FnLampRests", spec := "fnLampRests", inPlace := ["internal/bytealg.IndexByteString", "internal/bytealg.IndexString", "internal/bytealg.CountString"], named := ["unicode/utf8.first", "unicode/utf8.acceptRanges", "internal/bytealg.MaxLen"], apart := false, laid := [("unicode/utf8.acceptRanges", laid_unicode_utf8_acceptRanges), ("unicode/utf8.first", laid_unicode_utf8_first)] }
def FnLampRestsSaid : Prop := fnLampRestsRow.holds Tryd.pinned (OpenSpec.ofChange fnLampRestsSpec)

/-- ITS FALSE NEIGHBOUR: 'it returns false'. Refute it at one input. -/
def fnLampRestsWrong : ChangeSpec := { name := "fnLampRests", fn := fun _ => fun
  | [d1, d2] => { results := [.lit (.bool false)], args := [d1, d2] }
  | _ => none }
def FnLampRestsWrongFalsely : Prop := fnLampRestsRow.holds Tryd.pinned (OpenSpec.ofChange fnLampRestsWrong)

/- THE SECOND FORM. 'bulk': how many values and letters a reading holds, each counted each time it is reached (what is shared counts as often as it is met; a slice's spare places count too). A statement '..UptoSaid' is the law's where the arguments, and the package variables that the reading takes, are together of bulk at most 1048576: NARROWER than '..Said'. Prove '..Said' where nothing that the law and all that it calls make is longer than what came in: it says more and counts as full. Else prove '..UptoSaid'. A law counts once. -/
mutual
def uptoBulk {H : Type} : DataW H → Nat
  | .lit (.string bytes) => bytes.length + 1
  | .lit _ => 1
  | .nil => 1
  | .ptr d => uptoBulk d + 1
  | .slice elems spare => uptoBulkAll elems + uptoBulkAll spare + 1
  | .agg parts => uptoBulkAll parts + 1
  | .iface _ d => uptoBulk d + 1
  | .map entries => uptoBulkEntries entries + 1
  | .held _ => 1
def uptoBulkAll {H : Type} : List (DataW H) → Nat
  | [] => 0
  | d :: r => uptoBulk d + uptoBulkAll r
def uptoBulkEntries {H : Type} : List (Lit × DataW H) → Nat
  | [] => 0
  | x :: r => uptoBulkEntry x + uptoBulkEntries r
def uptoBulkEntry {H : Type} : Lit × DataW H → Nat
  | (.string bytes, d) => bytes.length + uptoBulk d + 1
  | (_, d) => uptoBulk d + 1
 end
def uptoSmall : (H : Type) → List (DataW H) → Bool := fun _ ds => decide (uptoBulkAll ds ≤ 1048576)
def OpenSpec.upto (s : _root_.Go.ChangeSpec) : _root_.Go.OpenSpec := { _root_.Go.OpenSpec.ofChange s with cond := some uptoSmall }

/-- 'laws.FnBurning', WHERE WHAT IT READS IS OF BULK AT MOST 1048576: true; the input reads as it did. -/
def fnBurningUptoRow : OpenClaim := { program := "ytomlgmfkjibijaadoor", sum := "0b6936f9b8df2f24fa7be62ce6adcc094a64875bd7e59ea7553fa772e363192d", func := "loop.example/g01063/laws.FnBurning", spec := "fnBurning", inPlace := ["internal/bytealg.IndexByteString", "internal/bytealg.IndexString"], named := ["unicode/utf8.first", "unicode/utf8.acceptRanges", "internal/bytealg.MaxLen"], apart := false, laid := [("unicode/utf8.acceptRanges", laid_unicode_utf8_acceptRanges), ("unicode/utf8.first", laid_unicode_utf8_first)], narrowed := true }
def FnBurningUptoSaid : Prop := fnBurningUptoRow.holds Tryd.pinned (OpenSpec.upto fnBurningSpec)

/-- 'laws.FnExactValidBurning', WHERE WHAT IT READS IS OF BULK AT MOST 1048576: true; the input reads as it did. -/
def fnExactValidBurningUptoRow : OpenClaim := { program := "ytomlgmfkjibijaadoor", sum := "0b6936f9b8df2f24fa7be62ce6adcc094a64875bd7e59ea7553fa772e363192d", func := "loop.example/g01063/laws.FnExactValidBurning", spec := "fnExactValidBurning", inPlace := ["internal/bytealg.IndexByteString", "internal/bytealg.IndexString"], named := ["unicode/utf8.first", "unicode/utf8.acceptRanges", "internal/bytealg.MaxLen"], apart := false, laid := [("unicode/utf8.acceptRanges", laid_unicode_utf8_acceptRanges), ("unicode/utf8.first", laid_unicode_utf8_first)], narrowed := true }
def FnExactValidBurningUptoSaid : Prop := fnExactValidBurningUptoRow.holds Tryd.pinned (OpenSpec.upto fnExactValidBurningSpec)

/-- 'laws.FnExactFirstTooHot', WHERE WHAT IT READS IS OF BULK AT MOST 1048576: true; the input reads as it did. -/
def fnExactFirstTooHotUptoRow : OpenClaim := { program := "ytomlgmfkjibijaadoor", sum := "0b6936f9b8df2f24fa7be62ce6adcc094a64875bd7e59ea7553fa772e363192d", func := "loop.example/g01063/laws.FnExactFirstTooHot", spec := "fnExactFirstTooHot", inPlace := ["internal/bytealg.IndexByteString", "internal/bytealg.IndexString"], named := ["unicode/utf8.first", "unicode/utf8.acceptRanges", "internal/bytealg.MaxLen"], apart := false, laid := [("unicode/utf8.acceptRanges", laid_unicode_utf8_acceptRanges), ("unicode/utf8.first", laid_unicode_utf8_first)], narrowed := true }
def FnExactFirstTooHotUptoSaid : Prop := fnExactFirstTooHotUptoRow.holds Tryd.pinned (OpenSpec.upto fnExactFirstTooHotSpec)

/-- 'laws.FnExactBurnsOf', WHERE WHAT IT READS IS OF BULK AT MOST 1048576: true; the input reads as it did. -/
def fnExactBurnsOfUptoRow : OpenClaim := { program := "ytomlgmfkjibijaadoor", sum := "0b6936f9b8df2f24fa7be62ce6adcc094a64875bd7e59ea7553fa772e363192d", func := "loop.example/g01063/laws.FnExactBurnsOf", spec := "fnExactBurnsOf", inPlace := ["internal/bytealg.IndexByteString", "internal/bytealg.IndexString"], named := ["unicode/utf8.first", "unicode/utf8.acceptRanges", "internal/bytealg.MaxLen"], apart := false, laid := [("unicode/utf8.acceptRanges", laid_unicode_utf8_acceptRanges), ("unicode/utf8.first", laid_unicode_utf8_first)], narrowed := true }
def FnExactBurnsOfUptoSaid : Prop := fnExactBurnsOfUptoRow.holds Tryd.pinned (OpenSpec.upto fnExactBurnsOfSpec)

/-- 'laws.FnExactHeatAfter', WHERE WHAT IT READS IS OF BULK AT MOST 1048576: true; the input reads as it did. -/
def fnExactHeatAfterUptoRow : OpenClaim := { program := "ytomlgmfkjibijaadoor", sum := "0b6936f9b8df2f24fa7be62ce6adcc094a64875bd7e59ea7553fa772e363192d", func := "loop.example/g01063/laws.FnExactHeatAfter", spec := "fnExactHeatAfter", inPlace := ["internal/bytealg.IndexByteString", "internal/bytealg.IndexString"], named := ["unicode/utf8.first", "unicode/utf8.acceptRanges", "internal/bytealg.MaxLen"], apart := false, laid := [("unicode/utf8.acceptRanges", laid_unicode_utf8_acceptRanges), ("unicode/utf8.first", laid_unicode_utf8_first)], narrowed := true }
def FnExactHeatAfterUptoSaid : Prop := fnExactHeatAfterUptoRow.holds Tryd.pinned (OpenSpec.upto fnExactHeatAfterSpec)

/-- 'laws.FnExactFuelFor', WHERE WHAT IT READS IS OF BULK AT MOST 1048576: true; the input reads as it did. -/
def fnExactFuelForUptoRow : OpenClaim := { program := "ytomlgmfkjibijaadoor", sum := "0b6936f9b8df2f24fa7be62ce6adcc094a64875bd7e59ea7553fa772e363192d", func := "loop.example/g01063/laws.FnExactFuelFor", spec := "fnExactFuelFor", inPlace := ["internal/bytealg.IndexByteString", "internal/bytealg.IndexString", "internal/bytealg.CountString"], named := ["unicode/utf8.first", "unicode/utf8.acceptRanges", "internal/bytealg.MaxLen"], apart := false, laid := [("unicode/utf8.acceptRanges", laid_unicode_utf8_acceptRanges), ("unicode/utf8.first", laid_unicode_utf8_first)], narrowed := true }
def FnExactFuelForUptoSaid : Prop := fnExactFuelForUptoRow.holds Tryd.pinned (OpenSpec.upto fnExactFuelForSpec)

/-- 'laws.FnLampRests', WHERE WHAT IT READS IS OF BULK AT MOST 1048576: true; the input reads as it did. -/
def fnLampRestsUptoRow : OpenClaim := { program := "ytomlgmfkjibijaadoor", sum := "0b6936f9b8df2f24fa7be62ce6adcc094a64875bd7e59ea7553fa772e363192d", func := "loop.example/g01063/laws.FnLampRests", spec := "fnLampRests", inPlace := ["internal/bytealg.IndexByteString", "internal/bytealg.IndexString", "internal/bytealg.CountString"], named := ["unicode/utf8.first", "unicode/utf8.acceptRanges", "internal/bytealg.MaxLen"], apart := false, laid := [("unicode/utf8.acceptRanges", laid_unicode_utf8_acceptRanges), ("unicode/utf8.first", laid_unicode_utf8_first)], narrowed := true }
def FnLampRestsUptoSaid : Prop := fnLampRestsUptoRow.holds Tryd.pinned (OpenSpec.upto fnLampRestsSpec)

end Rows
end Go.Proofs.YtomlgmfkjibijaaDoor
