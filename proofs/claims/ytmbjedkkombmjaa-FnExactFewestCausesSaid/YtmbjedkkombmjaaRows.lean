/-
  No cell of these rows narrows 'for every input' (looked for: loops, veiled, ifaces, maps, wideKeys, modest, calm, conditions, laid).
  DERIVED. THE GIVEN ROWS OF THIS SEAT. 11 by the template 'for every input the law returns true; each argument reads behind the call as it read before'; 0 by the template 'total and deterministic' (their statements: YtmbjedkkombmjaaTotals.lean).
  GIVEN WITH THE SEED: the statements are not yours to turn. If you find one false, say at which input.
  Laid BY PROGRAM, IN A SANDBOX (cutbox-rows.mjs): the forced cells as the released guide's own fill.sh prints them over the translation 3ca7f48c634cb82a… (all of the seat's roots in one cut). By AI agents, Wed Nov 11 2026. No macro, syntax, notation, axiom, sorry.
-/
import Derived.Test.YtmbjedkkombmjaaChecked
import GoSem.Claim
import GoSem.ClaimJoined
import GoSem.ClaimMapViews
import Derived.JoinedTies
import Derived.KernelRfl
namespace Go.Proofs.Ytmbjedkkombmjaa
/- THE CELL 'sum', in the pinned program and in every row, IS THE sha256 OF THE DUMP (.gsa) THAT YtmbjedkkombmjaaProg.lean LOADS. Nothing in Lean hashes anything: it is a label: what it is worth is what the hold of that sum in a sandbox is worth. -/
noncomputable def Try.pinned : Pinned := { name := "ytmbjedkkombmjaa", sum := "3ca7f48c634cb82a8e207eb5fc1cf22c6b52c36d1a091f0c144d21d9f4495691", checked := Try.checked }
namespace Rows
def none {H : Type} : Left H := { results := [], args := [] }

/-- 'laws.FnExactValidCauses': WHATEVER THE INPUT: true; the input reads as it did. -/
def fnExactValidCausesSpec : ChangeSpec := { name := "fnExactValidCauses", fn := fun _ => fun
  | [d1, d2] => { results := [.lit (.bool true)], args := [d1, d2] }
  | _ => none }
def fnExactValidCausesRow : OpenClaim := { program := "ytmbjedkkombmjaa", sum := "3ca7f48c634cb82a8e207eb5fc1cf22c6b52c36d1a091f0c144d21d9f4495691", func := "loop.example/g01063/laws.FnExactValidCauses", spec := "fnExactValidCauses", unfollowed := true, recurses := true, apart := false }
def FnExactValidCausesSaid : Prop := fnExactValidCausesRow.holds Try.pinned (OpenSpec.ofChange fnExactValidCausesSpec)

/-- ITS FALSE NEIGHBOUR: 'it returns false'. Refute it at one input. -/
def fnExactValidCausesWrong : ChangeSpec := { name := "fnExactValidCauses", fn := fun _ => fun
  | [d1, d2] => { results := [.lit (.bool false)], args := [d1, d2] }
  | _ => none }
def FnExactValidCausesWrongFalsely : Prop := fnExactValidCausesRow.holds Try.pinned (OpenSpec.ofChange fnExactValidCausesWrong)

/-- 'laws.FnExactPossibleCauses': WHATEVER THE INPUT: true; the input reads as it did. -/
def fnExactPossibleCausesSpec : ChangeSpec := { name := "fnExactPossibleCauses", fn := fun _ => fun
  | [d1, d2, d3] => { results := [.lit (.bool true)], args := [d1, d2, d3] }
  | _ => none }
def fnExactPossibleCausesRow : OpenClaim := { program := "ytmbjedkkombmjaa", sum := "3ca7f48c634cb82a8e207eb5fc1cf22c6b52c36d1a091f0c144d21d9f4495691", func := "loop.example/g01063/laws.FnExactPossibleCauses", spec := "fnExactPossibleCauses", unfollowed := true, recurses := true, apart := false }
def FnExactPossibleCausesSaid : Prop := fnExactPossibleCausesRow.holds Try.pinned (OpenSpec.ofChange fnExactPossibleCausesSpec)

/-- ITS FALSE NEIGHBOUR: 'it returns false'. Refute it at one input. -/
def fnExactPossibleCausesWrong : ChangeSpec := { name := "fnExactPossibleCauses", fn := fun _ => fun
  | [d1, d2, d3] => { results := [.lit (.bool false)], args := [d1, d2, d3] }
  | _ => none }
def FnExactPossibleCausesWrongFalsely : Prop := fnExactPossibleCausesRow.holds Try.pinned (OpenSpec.ofChange fnExactPossibleCausesWrong)

/-- 'laws.FnExactAlikeCauses': WHATEVER THE INPUT: true; the input reads as it did. -/
def fnExactAlikeCausesSpec : ChangeSpec := { name := "fnExactAlikeCauses", fn := fun _ => fun
  | [d1, d2] => { results := [.lit (.bool true)], args := [d1, d2] }
  | _ => none }
def fnExactAlikeCausesRow : OpenClaim := { program := "ytmbjedkkombmjaa", sum := "3ca7f48c634cb82a8e207eb5fc1cf22c6b52c36d1a091f0c144d21d9f4495691", func := "loop.example/g01063/laws.FnExactAlikeCauses", spec := "fnExactAlikeCauses", unfollowed := true, recurses := true, apart := false }
def FnExactAlikeCausesSaid : Prop := fnExactAlikeCausesRow.holds Try.pinned (OpenSpec.ofChange fnExactAlikeCausesSpec)

/-- ITS FALSE NEIGHBOUR: 'it returns false'. Refute it at one input. -/
def fnExactAlikeCausesWrong : ChangeSpec := { name := "fnExactAlikeCauses", fn := fun _ => fun
  | [d1, d2] => { results := [.lit (.bool false)], args := [d1, d2] }
  | _ => none }
def FnExactAlikeCausesWrongFalsely : Prop := fnExactAlikeCausesRow.holds Try.pinned (OpenSpec.ofChange fnExactAlikeCausesWrong)

/-- 'laws.FnExactExplainsSigns': WHATEVER THE INPUT: true; the input reads as it did. -/
def fnExactExplainsSignsSpec : ChangeSpec := { name := "fnExactExplainsSigns", fn := fun _ => fun
  | [d1, d2, d3, d4] => { results := [.lit (.bool true)], args := [d1, d2, d3, d4] }
  | _ => none }
def fnExactExplainsSignsRow : OpenClaim := { program := "ytmbjedkkombmjaa", sum := "3ca7f48c634cb82a8e207eb5fc1cf22c6b52c36d1a091f0c144d21d9f4495691", func := "loop.example/g01063/laws.FnExactExplainsSigns", spec := "fnExactExplainsSigns", unfollowed := true, recurses := true, apart := false }
def FnExactExplainsSignsSaid : Prop := fnExactExplainsSignsRow.holds Try.pinned (OpenSpec.ofChange fnExactExplainsSignsSpec)

/-- ITS FALSE NEIGHBOUR: 'it returns false'. Refute it at one input. -/
def fnExactExplainsSignsWrong : ChangeSpec := { name := "fnExactExplainsSigns", fn := fun _ => fun
  | [d1, d2, d3, d4] => { results := [.lit (.bool false)], args := [d1, d2, d3, d4] }
  | _ => none }
def FnExactExplainsSignsWrongFalsely : Prop := fnExactExplainsSignsRow.holds Try.pinned (OpenSpec.ofChange fnExactExplainsSignsWrong)

/-- 'laws.FnExactSignsOf': WHATEVER THE INPUT: true; the input reads as it did. -/
def fnExactSignsOfSpec : ChangeSpec := { name := "fnExactSignsOf", fn := fun _ => fun
  | [d1, d2, d3] => { results := [.lit (.bool true)], args := [d1, d2, d3] }
  | _ => none }
def fnExactSignsOfRow : OpenClaim := { program := "ytmbjedkkombmjaa", sum := "3ca7f48c634cb82a8e207eb5fc1cf22c6b52c36d1a091f0c144d21d9f4495691", func := "loop.example/g01063/laws.FnExactSignsOf", spec := "fnExactSignsOf", unfollowed := true, recurses := true, apart := false }
def FnExactSignsOfSaid : Prop := fnExactSignsOfRow.holds Try.pinned (OpenSpec.ofChange fnExactSignsOfSpec)

/-- ITS FALSE NEIGHBOUR: 'it returns false'. Refute it at one input. -/
def fnExactSignsOfWrong : ChangeSpec := { name := "fnExactSignsOf", fn := fun _ => fun
  | [d1, d2, d3] => { results := [.lit (.bool false)], args := [d1, d2, d3] }
  | _ => none }
def FnExactSignsOfWrongFalsely : Prop := fnExactSignsOfRow.holds Try.pinned (OpenSpec.ofChange fnExactSignsOfWrong)

/-- 'laws.FnExactCountExplanations': WHATEVER THE INPUT: true; the input reads as it did. -/
def fnExactCountExplanationsSpec : ChangeSpec := { name := "fnExactCountExplanations", fn := fun _ => fun
  | [d1, d2, d3] => { results := [.lit (.bool true)], args := [d1, d2, d3] }
  | _ => none }
def fnExactCountExplanationsRow : OpenClaim := { program := "ytmbjedkkombmjaa", sum := "3ca7f48c634cb82a8e207eb5fc1cf22c6b52c36d1a091f0c144d21d9f4495691", func := "loop.example/g01063/laws.FnExactCountExplanations", spec := "fnExactCountExplanations", unfollowed := true, recurses := true, apart := false }
def FnExactCountExplanationsSaid : Prop := fnExactCountExplanationsRow.holds Try.pinned (OpenSpec.ofChange fnExactCountExplanationsSpec)

/-- ITS FALSE NEIGHBOUR: 'it returns false'. Refute it at one input. -/
def fnExactCountExplanationsWrong : ChangeSpec := { name := "fnExactCountExplanations", fn := fun _ => fun
  | [d1, d2, d3] => { results := [.lit (.bool false)], args := [d1, d2, d3] }
  | _ => none }
def FnExactCountExplanationsWrongFalsely : Prop := fnExactCountExplanationsRow.holds Try.pinned (OpenSpec.ofChange fnExactCountExplanationsWrong)

/-- 'laws.FnExactBestQuestion': WHATEVER THE INPUT: true; the input reads as it did. -/
def fnExactBestQuestionSpec : ChangeSpec := { name := "fnExactBestQuestion", fn := fun _ => fun
  | [d1, d2, d3] => { results := [.lit (.bool true)], args := [d1, d2, d3] }
  | _ => none }
def fnExactBestQuestionRow : OpenClaim := { program := "ytmbjedkkombmjaa", sum := "3ca7f48c634cb82a8e207eb5fc1cf22c6b52c36d1a091f0c144d21d9f4495691", func := "loop.example/g01063/laws.FnExactBestQuestion", spec := "fnExactBestQuestion", unfollowed := true, recurses := true, apart := false }
def FnExactBestQuestionSaid : Prop := fnExactBestQuestionRow.holds Try.pinned (OpenSpec.ofChange fnExactBestQuestionSpec)

/-- ITS FALSE NEIGHBOUR: 'it returns false'. Refute it at one input. -/
def fnExactBestQuestionWrong : ChangeSpec := { name := "fnExactBestQuestion", fn := fun _ => fun
  | [d1, d2, d3] => { results := [.lit (.bool false)], args := [d1, d2, d3] }
  | _ => none }
def FnExactBestQuestionWrongFalsely : Prop := fnExactBestQuestionRow.holds Try.pinned (OpenSpec.ofChange fnExactBestQuestionWrong)

/-- 'laws.FnExactSureCauses': WHATEVER THE INPUT: true; the input reads as it did. -/
def fnExactSureCausesSpec : ChangeSpec := { name := "fnExactSureCauses", fn := fun _ => fun
  | [d1, d2, d3] => { results := [.lit (.bool true)], args := [d1, d2, d3] }
  | _ => none }
def fnExactSureCausesRow : OpenClaim := { program := "ytmbjedkkombmjaa", sum := "3ca7f48c634cb82a8e207eb5fc1cf22c6b52c36d1a091f0c144d21d9f4495691", func := "loop.example/g01063/laws.FnExactSureCauses", spec := "fnExactSureCauses", unfollowed := true, recurses := true, apart := false }
def FnExactSureCausesSaid : Prop := fnExactSureCausesRow.holds Try.pinned (OpenSpec.ofChange fnExactSureCausesSpec)

/-- ITS FALSE NEIGHBOUR: 'it returns false'. Refute it at one input. -/
def fnExactSureCausesWrong : ChangeSpec := { name := "fnExactSureCauses", fn := fun _ => fun
  | [d1, d2, d3] => { results := [.lit (.bool false)], args := [d1, d2, d3] }
  | _ => none }
def FnExactSureCausesWrongFalsely : Prop := fnExactSureCausesRow.holds Try.pinned (OpenSpec.ofChange fnExactSureCausesWrong)

/-- 'laws.FnExactFewestCauses': WHATEVER THE INPUT: true; the input reads as it did. -/
def fnExactFewestCausesSpec : ChangeSpec := { name := "fnExactFewestCauses", fn := fun _ => fun
  | [d1, d2, d3] => { results := [.lit (.bool true)], args := [d1, d2, d3] }
  | _ => none }
def fnExactFewestCausesRow : OpenClaim := { program := "ytmbjedkkombmjaa", sum := "3ca7f48c634cb82a8e207eb5fc1cf22c6b52c36d1a091f0c144d21d9f4495691", func := "loop.example/g01063/laws.FnExactFewestCauses", spec := "fnExactFewestCauses", unfollowed := true, recurses := true, apart := false }
def FnExactFewestCausesSaid : Prop := fnExactFewestCausesRow.holds Try.pinned (OpenSpec.ofChange fnExactFewestCausesSpec)

/-- ITS FALSE NEIGHBOUR: 'it returns false'. Refute it at one input. -/
def fnExactFewestCausesWrong : ChangeSpec := { name := "fnExactFewestCauses", fn := fun _ => fun
  | [d1, d2, d3] => { results := [.lit (.bool false)], args := [d1, d2, d3] }
  | _ => none }
def FnExactFewestCausesWrongFalsely : Prop := fnExactFewestCausesRow.holds Try.pinned (OpenSpec.ofChange fnExactFewestCausesWrong)

/-- 'laws.FnQuestions': WHATEVER THE INPUT: true; the input reads as it did. -/
def fnQuestionsSpec : ChangeSpec := { name := "fnQuestions", fn := fun _ => fun
  | [d] => { results := [.lit (.bool true)], args := [d] }
  | _ => none }
def fnQuestionsRow : OpenClaim := { program := "ytmbjedkkombmjaa", sum := "3ca7f48c634cb82a8e207eb5fc1cf22c6b52c36d1a091f0c144d21d9f4495691", func := "loop.example/g01063/laws.FnQuestions", spec := "fnQuestions", unfollowed := true, recurses := true, apart := false }
def FnQuestionsSaid : Prop := fnQuestionsRow.holds Try.pinned (OpenSpec.ofChange fnQuestionsSpec)

/-- ITS FALSE NEIGHBOUR: 'it returns false'. Refute it at one input. -/
def fnQuestionsWrong : ChangeSpec := { name := "fnQuestions", fn := fun _ => fun
  | [d] => { results := [.lit (.bool false)], args := [d] }
  | _ => none }
def FnQuestionsWrongFalsely : Prop := fnQuestionsRow.holds Try.pinned (OpenSpec.ofChange fnQuestionsWrong)

/-- 'laws.FnCauses': WHATEVER THE INPUT: true; the input reads as it did. -/
def fnCausesSpec : ChangeSpec := { name := "fnCauses", fn := fun _ => fun
  | [d] => { results := [.lit (.bool true)], args := [d] }
  | _ => none }
def fnCausesRow : OpenClaim := { program := "ytmbjedkkombmjaa", sum := "3ca7f48c634cb82a8e207eb5fc1cf22c6b52c36d1a091f0c144d21d9f4495691", func := "loop.example/g01063/laws.FnCauses", spec := "fnCauses", unfollowed := true, recurses := true, apart := false }
def FnCausesSaid : Prop := fnCausesRow.holds Try.pinned (OpenSpec.ofChange fnCausesSpec)

/-- ITS FALSE NEIGHBOUR: 'it returns false'. Refute it at one input. -/
def fnCausesWrong : ChangeSpec := { name := "fnCauses", fn := fun _ => fun
  | [d] => { results := [.lit (.bool false)], args := [d] }
  | _ => none }
def FnCausesWrongFalsely : Prop := fnCausesRow.holds Try.pinned (OpenSpec.ofChange fnCausesWrong)

/- THE SECOND FORM. 'bulk': how many values and letters a reading holds, each counted each time it is reached (what is shared counts as often as it is met; a slice's spare places count too). A statement '..UptoSaid' is the law's where the arguments, and the package variables that the reading takes, are together of bulk at most 1048576: NARROWER than '..Said'. Prove '..Said' where nothing that the law and all that it calls make is longer than what came in: it says more and counts as full. Else prove '..UptoSaid'. A law counts once. -/
mutual
def uptoBulk {H : Type} : DataW H → Nat
  | .lit (.string bytes) => bytes.length + 1
  | .lit _ => 1
  | .nil => 1
  | .ptr d => uptoBulk d + 1
  | .slice elems spare => uptoBulkAll elems + uptoBulkAll spare + 1
  | .agg parts => uptoBulkAll parts + 1
  | .iface _ d => uptoBulk d + 1
  | .map entries => uptoBulkEntries entries + 1
  | .held _ => 1
def uptoBulkAll {H : Type} : List (DataW H) → Nat
  | [] => 0
  | d :: r => uptoBulk d + uptoBulkAll r
def uptoBulkEntries {H : Type} : List (Lit × DataW H) → Nat
  | [] => 0
  | x :: r => uptoBulkEntry x + uptoBulkEntries r
def uptoBulkEntry {H : Type} : Lit × DataW H → Nat
  | (.string bytes, d) => bytes.length + uptoBulk d + 1
  | (_, d) => uptoBulk d + 1
 end
def uptoSmall : (H : Type) → List (DataW H) → Bool := fun _ ds => decide (uptoBulkAll ds ≤ 1048576)
def OpenSpec.upto (s : _root_.Go.ChangeSpec) : _root_.Go.OpenSpec := { _root_.Go.OpenSpec.ofChange s with cond := some uptoSmall }

/-- 'laws.FnExactValidCauses', WHERE WHAT IT READS IS OF BULK AT MOST 1048576: true; the input reads as it did. -/
def fnExactValidCausesUptoRow : OpenClaim := { program := "ytmbjedkkombmjaa", sum := "3ca7f48c634cb82a8e207eb5fc1cf22c6b52c36d1a091f0c144d21d9f4495691", func := "loop.example/g01063/laws.FnExactValidCauses", spec := "fnExactValidCauses", unfollowed := true, recurses := true, apart := false, narrowed := true }
def FnExactValidCausesUptoSaid : Prop := fnExactValidCausesUptoRow.holds Try.pinned (OpenSpec.upto fnExactValidCausesSpec)

/-- 'laws.FnExactPossibleCauses', WHERE WHAT IT READS IS OF BULK AT MOST 1048576: true; the input reads as it did. -/
def fnExactPossibleCausesUptoRow : OpenClaim := { program := "ytmbjedkkombmjaa", sum := "3ca7f48c634cb82a8e207eb5fc1cf22c6b52c36d1a091f0c144d21d9f4495691", func := "loop.example/g01063/laws.FnExactPossibleCauses", spec := "fnExactPossibleCauses", unfollowed := true, recurses := true, apart := false, narrowed := true }
def FnExactPossibleCausesUptoSaid : Prop := fnExactPossibleCausesUptoRow.holds Try.pinned (OpenSpec.upto fnExactPossibleCausesSpec)

/-- 'laws.FnExactAlikeCauses', WHERE WHAT IT READS IS OF BULK AT MOST 1048576: true; the input reads as it did. -/
def fnExactAlikeCausesUptoRow : OpenClaim := { program := "ytmbjedkkombmjaa", sum := "3ca7f48c634cb82a8e207eb5fc1cf22c6b52c36d1a091f0c144d21d9f4495691", func := "loop.example/g01063/laws.FnExactAlikeCauses", spec := "fnExactAlikeCauses", unfollowed := true, recurses := true, apart := false, narrowed := true }
def FnExactAlikeCausesUptoSaid : Prop := fnExactAlikeCausesUptoRow.holds Try.pinned (OpenSpec.upto fnExactAlikeCausesSpec)

/-- 'laws.FnExactExplainsSigns', WHERE WHAT IT READS IS OF BULK AT MOST 1048576: true; the input reads as it did. -/
def fnExactExplainsSignsUptoRow : OpenClaim := { program := "ytmbjedkkombmjaa", sum := "3ca7f48c634cb82a8e207eb5fc1cf22c6b52c36d1a091f0c144d21d9f4495691", func := "loop.example/g01063/laws.FnExactExplainsSigns", spec := "fnExactExplainsSigns", unfollowed := true, recurses := true, apart := false, narrowed := true }
def FnExactExplainsSignsUptoSaid : Prop := fnExactExplainsSignsUptoRow.holds Try.pinned (OpenSpec.upto fnExactExplainsSignsSpec)

/-- 'laws.FnExactSignsOf', WHERE WHAT IT READS IS OF BULK AT MOST 1048576: true; the input reads as it did. -/
def fnExactSignsOfUptoRow : OpenClaim := { program := "ytmbjedkkombmjaa", sum := "3ca7f48c634cb82a8e207eb5fc1cf22c6b52c36d1a091f0c144d21d9f4495691", func := "loop.example/g01063/laws.FnExactSignsOf", spec := "fnExactSignsOf", unfollowed := true, recurses := true, apart := false, narrowed := true }
def FnExactSignsOfUptoSaid : Prop := fnExactSignsOfUptoRow.holds Try.pinned (OpenSpec.upto fnExactSignsOfSpec)

/-- 'laws.FnExactCountExplanations', WHERE WHAT IT READS IS OF BULK AT MOST 1048576: true; the input reads as it did. -/
def fnExactCountExplanationsUptoRow : OpenClaim := { program := "ytmbjedkkombmjaa", sum := "3ca7f48c634cb82a8e207eb5fc1cf22c6b52c36d1a091f0c144d21d9f4495691", func := "loop.example/g01063/laws.FnExactCountExplanations", spec := "fnExactCountExplanations", unfollowed := true, recurses := true, apart := false, narrowed := true }
def FnExactCountExplanationsUptoSaid : Prop := fnExactCountExplanationsUptoRow.holds Try.pinned (OpenSpec.upto fnExactCountExplanationsSpec)

/-- 'laws.FnExactBestQuestion', WHERE WHAT IT READS IS OF BULK AT MOST 1048576: true; the input reads as it did. -/
def fnExactBestQuestionUptoRow : OpenClaim := { program := "ytmbjedkkombmjaa", sum := "3ca7f48c634cb82a8e207eb5fc1cf22c6b52c36d1a091f0c144d21d9f4495691", func := "loop.example/g01063/laws.FnExactBestQuestion", spec := "fnExactBestQuestion", unfollowed := true, recurses := true, apart := false, narrowed := true }
def FnExactBestQuestionUptoSaid : Prop := fnExactBestQuestionUptoRow.holds Try.pinned (OpenSpec.upto fnExactBestQuestionSpec)

/-- 'laws.FnExactSureCauses', WHERE WHAT IT READS IS OF BULK AT MOST 1048576: true; the input reads as it did. -/
def fnExactSureCausesUptoRow : OpenClaim := { program := "ytmbjedkkombmjaa", sum := "3ca7f48c634cb82a8e207eb5fc1cf22c6b52c36d1a091f0c144d21d9f4495691", func := "loop.example/g01063/laws.FnExactSureCauses", spec := "fnExactSureCauses", unfollowed := true, recurses := true, apart := false, narrowed := true }
def FnExactSureCausesUptoSaid : Prop := fnExactSureCausesUptoRow.holds Try.pinned (OpenSpec.upto fnExactSureCausesSpec)

/-- 'laws.FnExactFewestCauses', WHERE WHAT IT READS IS OF BULK AT MOST 1048576: true; the input reads as it did. -/
def fnExactFewestCausesUptoRow : OpenClaim := { program := "ytmbjedkkombmjaa", sum := "3ca7f48c634cb82a8e207eb5fc1cf22c6b52c36d1a091f0c144d21d9f4495691", func := "loop.example/g01063/laws.FnExactFewestCauses", spec := "fnExactFewestCauses", unfollowed := true, recurses := true, apart := false, narrowed := true }
def FnExactFewestCausesUptoSaid : Prop := fnExactFewestCausesUptoRow.holds Try.pinned (OpenSpec.upto fnExactFewestCausesSpec)

/-- 'laws.FnQuestions', WHERE WHAT IT READS IS OF BULK AT MOST 1048576: true; the input reads as it did. -/
def fnQuestionsUptoRow : OpenClaim := { program := "ytmbjedkkombmjaa", sum := "3ca7f48c634cb82a8e207eb5fc1cf22c6b52c36d1a091f0c144d21d9f4495691", func := "loop.example/g01063/laws.FnQuestions", spec := "fnQuestions", unfollowed := true, recurses := true, apart := false, narrowed := true }
def FnQuestionsUptoSaid : Prop := fnQuestionsUptoRow.holds Try.pinned (OpenSpec.upto fnQuestionsSpec)

/-- 'laws.FnCauses', WHERE WHAT IT READS IS OF BULK AT MOST 1048576: true; the input reads as it did. -/
def fnCausesUptoRow : OpenClaim := { program := "ytmbjedkkombmjaa", sum := "3ca7f48c634cb82a8e207eb5fc1cf22c6b52c36d1a091f0c144d21d9f4495691", func := "loop.example/g01063/laws.FnCauses", spec := "fnCauses", unfollowed := true, recurses := true, apart := false, narrowed := true }
def FnCausesUptoSaid : Prop := fnCausesUptoRow.holds Try.pinned (OpenSpec.upto fnCausesSpec)

end Rows
end Go.Proofs.Ytmbjedkkombmjaa
