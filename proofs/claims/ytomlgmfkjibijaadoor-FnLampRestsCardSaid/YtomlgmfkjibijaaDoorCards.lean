/-
  DERIVED. GIVEN WITH THE SEED: THE CARDS: each row of YtomlgmfkjibijaaDoorRows.lean that lists a variable, with what it lists TIED to the program's text (the seventh form; the later family's looks); each row that meets fmt, with fmt's text TOLD by the authors' own Lean function (tested against real Go, not proved from fmt's source: count such statements apart). THE CARD IS WHAT COUNTS. Prove the row's statement (the work); the ties are given (YtomlgmfkjibijaaDoorTie.lean); close each card by the builder's one call (the guide's Derived/Test/ToyasCard.lean, 'card_holds'). Laid BY PROGRAM, IN A SANDBOX (cutbox-door.mjs). By AI agents, Wed Nov 11 2026. No macro, syntax, notation, axiom, sorry.
-/
import Derived.Test.YtomlgmfkjibijaaDoorRows
import GoSem.ClaimSeven
namespace Go.Proofs.YtomlgmfkjibijaaDoor
namespace Rows

/-- THE TIED CARD OF 'laws.FnBurning'. -/
def fnBurningCard : Claim7 := { stood := { row := fnBurningRow, standIns := [], harness := (true, "6a7a4538170c0059f9789602adab37e9eaa1949ff0d96211368043b6e368c945"), looks := false }, kinds := [], alts := [], laidByText := true, laidKinds := [.data, .pinned], laidTests := true, laidLooks := .later }
def FnBurningCardSaid : Prop := Claim7.holds Tryd.pinned (.plain (OpenSpec.ofChange fnBurningSpec)) fnBurningCard

/-- THE TIED CARD OF 'laws.FnExactValidBurning'. -/
def fnExactValidBurningCard : Claim7 := { stood := { row := fnExactValidBurningRow, standIns := [], harness := (true, "6a7a4538170c0059f9789602adab37e9eaa1949ff0d96211368043b6e368c945"), looks := false }, kinds := [], alts := [], laidByText := true, laidKinds := [.data, .pinned], laidTests := true, laidLooks := .later }
def FnExactValidBurningCardSaid : Prop := Claim7.holds Tryd.pinned (.plain (OpenSpec.ofChange fnExactValidBurningSpec)) fnExactValidBurningCard

/-- THE TIED CARD OF 'laws.FnExactFirstTooHot'. -/
def fnExactFirstTooHotCard : Claim7 := { stood := { row := fnExactFirstTooHotRow, standIns := [], harness := (true, "6a7a4538170c0059f9789602adab37e9eaa1949ff0d96211368043b6e368c945"), looks := false }, kinds := [], alts := [], laidByText := true, laidKinds := [.data, .pinned], laidTests := true, laidLooks := .later }
def FnExactFirstTooHotCardSaid : Prop := Claim7.holds Tryd.pinned (.plain (OpenSpec.ofChange fnExactFirstTooHotSpec)) fnExactFirstTooHotCard

/-- THE TIED CARD OF 'laws.FnExactBurnsOf'. -/
def fnExactBurnsOfCard : Claim7 := { stood := { row := fnExactBurnsOfRow, standIns := [], harness := (true, "6a7a4538170c0059f9789602adab37e9eaa1949ff0d96211368043b6e368c945"), looks := false }, kinds := [], alts := [], laidByText := true, laidKinds := [.data, .pinned], laidTests := true, laidLooks := .later }
def FnExactBurnsOfCardSaid : Prop := Claim7.holds Tryd.pinned (.plain (OpenSpec.ofChange fnExactBurnsOfSpec)) fnExactBurnsOfCard

/-- THE TIED CARD OF 'laws.FnExactHeatAfter'. -/
def fnExactHeatAfterCard : Claim7 := { stood := { row := fnExactHeatAfterRow, standIns := [], harness := (true, "6a7a4538170c0059f9789602adab37e9eaa1949ff0d96211368043b6e368c945"), looks := false }, kinds := [], alts := [], laidByText := true, laidKinds := [.data, .pinned], laidTests := true, laidLooks := .later }
def FnExactHeatAfterCardSaid : Prop := Claim7.holds Tryd.pinned (.plain (OpenSpec.ofChange fnExactHeatAfterSpec)) fnExactHeatAfterCard

/-- THE TIED CARD OF 'laws.FnExactFuelFor'. -/
def fnExactFuelForCard : Claim7 := { stood := { row := fnExactFuelForRow, standIns := [], harness := (true, "6a7a4538170c0059f9789602adab37e9eaa1949ff0d96211368043b6e368c945"), looks := false }, kinds := [], alts := [], laidByText := true, laidKinds := [.data, .pinned], laidTests := true, laidLooks := .later }
def FnExactFuelForCardSaid : Prop := Claim7.holds Tryd.pinned (.plain (OpenSpec.ofChange fnExactFuelForSpec)) fnExactFuelForCard

/-- THE TIED CARD OF 'laws.FnLampRests'. -/
def fnLampRestsCard : Claim7 := { stood := { row := fnLampRestsRow, standIns := [], harness := (true, "6a7a4538170c0059f9789602adab37e9eaa1949ff0d96211368043b6e368c945"), looks := false }, kinds := [], alts := [], laidByText := true, laidKinds := [.data, .pinned], laidTests := true, laidLooks := .later }
def FnLampRestsCardSaid : Prop := Claim7.holds Tryd.pinned (.plain (OpenSpec.ofChange fnLampRestsSpec)) fnLampRestsCard

/-- THE SECOND FORM's CARD OF 'laws.FnBurning'. -/
def fnBurningUptoCard : Claim7 := { stood := { row := fnBurningUptoRow, standIns := [], harness := (true, "6a7a4538170c0059f9789602adab37e9eaa1949ff0d96211368043b6e368c945"), looks := false }, kinds := [], alts := [], laidByText := true, laidKinds := [.data, .pinned], laidTests := true, laidLooks := .later }
def FnBurningUptoCardSaid : Prop := Claim7.holds Tryd.pinned (.plain (OpenSpec.upto fnBurningSpec)) fnBurningUptoCard

/-- THE SECOND FORM's CARD OF 'laws.FnExactValidBurning'. -/
def fnExactValidBurningUptoCard : Claim7 := { stood := { row := fnExactValidBurningUptoRow, standIns := [], harness := (true, "6a7a4538170c0059f9789602adab37e9eaa1949ff0d96211368043b6e368c945"), looks := false }, kinds := [], alts := [], laidByText := true, laidKinds := [.data, .pinned], laidTests := true, laidLooks := .later }
def FnExactValidBurningUptoCardSaid : Prop := Claim7.holds Tryd.pinned (.plain (OpenSpec.upto fnExactValidBurningSpec)) fnExactValidBurningUptoCard

/-- THE SECOND FORM's CARD OF 'laws.FnExactFirstTooHot'. -/
def fnExactFirstTooHotUptoCard : Claim7 := { stood := { row := fnExactFirstTooHotUptoRow, standIns := [], harness := (true, "6a7a4538170c0059f9789602adab37e9eaa1949ff0d96211368043b6e368c945"), looks := false }, kinds := [], alts := [], laidByText := true, laidKinds := [.data, .pinned], laidTests := true, laidLooks := .later }
def FnExactFirstTooHotUptoCardSaid : Prop := Claim7.holds Tryd.pinned (.plain (OpenSpec.upto fnExactFirstTooHotSpec)) fnExactFirstTooHotUptoCard

/-- THE SECOND FORM's CARD OF 'laws.FnExactBurnsOf'. -/
def fnExactBurnsOfUptoCard : Claim7 := { stood := { row := fnExactBurnsOfUptoRow, standIns := [], harness := (true, "6a7a4538170c0059f9789602adab37e9eaa1949ff0d96211368043b6e368c945"), looks := false }, kinds := [], alts := [], laidByText := true, laidKinds := [.data, .pinned], laidTests := true, laidLooks := .later }
def FnExactBurnsOfUptoCardSaid : Prop := Claim7.holds Tryd.pinned (.plain (OpenSpec.upto fnExactBurnsOfSpec)) fnExactBurnsOfUptoCard

/-- THE SECOND FORM's CARD OF 'laws.FnExactHeatAfter'. -/
def fnExactHeatAfterUptoCard : Claim7 := { stood := { row := fnExactHeatAfterUptoRow, standIns := [], harness := (true, "6a7a4538170c0059f9789602adab37e9eaa1949ff0d96211368043b6e368c945"), looks := false }, kinds := [], alts := [], laidByText := true, laidKinds := [.data, .pinned], laidTests := true, laidLooks := .later }
def FnExactHeatAfterUptoCardSaid : Prop := Claim7.holds Tryd.pinned (.plain (OpenSpec.upto fnExactHeatAfterSpec)) fnExactHeatAfterUptoCard

/-- THE SECOND FORM's CARD OF 'laws.FnExactFuelFor'. -/
def fnExactFuelForUptoCard : Claim7 := { stood := { row := fnExactFuelForUptoRow, standIns := [], harness := (true, "6a7a4538170c0059f9789602adab37e9eaa1949ff0d96211368043b6e368c945"), looks := false }, kinds := [], alts := [], laidByText := true, laidKinds := [.data, .pinned], laidTests := true, laidLooks := .later }
def FnExactFuelForUptoCardSaid : Prop := Claim7.holds Tryd.pinned (.plain (OpenSpec.upto fnExactFuelForSpec)) fnExactFuelForUptoCard

/-- THE SECOND FORM's CARD OF 'laws.FnLampRests'. -/
def fnLampRestsUptoCard : Claim7 := { stood := { row := fnLampRestsUptoRow, standIns := [], harness := (true, "6a7a4538170c0059f9789602adab37e9eaa1949ff0d96211368043b6e368c945"), looks := false }, kinds := [], alts := [], laidByText := true, laidKinds := [.data, .pinned], laidTests := true, laidLooks := .later }
def FnLampRestsUptoCardSaid : Prop := Claim7.holds Tryd.pinned (.plain (OpenSpec.upto fnLampRestsSpec)) fnLampRestsUptoCard
end Rows
end Go.Proofs.YtomlgmfkjibijaaDoor
