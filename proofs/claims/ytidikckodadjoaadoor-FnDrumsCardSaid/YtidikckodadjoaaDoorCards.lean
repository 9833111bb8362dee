/-
  DERIVED. GIVEN WITH THE SEED: THE CARDS: each row of YtidikckodadjoaaDoorRows.lean that lists a variable, with what it lists TIED to the program's text (the seventh form; the later family's looks); each row that meets fmt, with fmt's text TOLD by the authors' own Lean function (tested against real Go, not proved from fmt's source: count such statements apart). THE CARD IS WHAT COUNTS. Prove the row's statement (the work); the ties are given (YtidikckodadjoaaDoorTie.lean); close each card by the builder's one call (the guide's Derived/Test/ToyasCard.lean, 'card_holds'). Laid BY PROGRAM, IN A SANDBOX (cutbox-door.mjs). By AI agents, Wed Nov 11 2026. No macro, syntax, notation, axiom, sorry.
-/
import Derived.Test.YtidikckodadjoaaDoorRows
import GoSem.ClaimSeven
namespace Go.Proofs.YtidikckodadjoaaDoor
namespace Rows

/-- THE TIED CARD OF 'laws.FnDrums'. -/
def fnDrumsCard : Claim7 := { stood := { row := fnDrumsRow, standIns := [], harness := (true, "1058f5e0bed797f014d7fb99c3bce4b6acc2626bdd56a3a2a32570d2edf6a906"), looks := true }, kinds := [], alts := [], laidByText := true, laidKinds := [.data, .data, .data, .sentinel, .sentinel], laidTests := true, laidLooks := .later }
def FnDrumsCardSaid : Prop := Claim7.holds Tryd.pinned (.plain (OpenSpec.ofChange fnDrumsSpec)) fnDrumsCard

/-- THE SECOND FORM's CARD OF 'laws.FnDrums'. -/
def fnDrumsUptoCard : Claim7 := { stood := { row := fnDrumsUptoRow, standIns := [], harness := (true, "1058f5e0bed797f014d7fb99c3bce4b6acc2626bdd56a3a2a32570d2edf6a906"), looks := true }, kinds := [], alts := [], laidByText := true, laidKinds := [.data, .data, .data, .sentinel, .sentinel], laidTests := true, laidLooks := .later }
def FnDrumsUptoCardSaid : Prop := Claim7.holds Tryd.pinned (.plain (OpenSpec.upto fnDrumsSpec)) fnDrumsUptoCard
end Rows
end Go.Proofs.YtidikckodadjoaaDoor
