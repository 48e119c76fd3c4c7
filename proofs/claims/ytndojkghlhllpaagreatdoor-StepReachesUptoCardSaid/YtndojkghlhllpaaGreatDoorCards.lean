/-
  DERIVED. GIVEN WITH THE SEED: THE CARDS: each row of YtndojkghlhllpaaGreatDoorRows.lean that lists a variable, with what it lists TIED to the program's text (the seventh form; the later family's looks); each row that meets fmt, with fmt's text TOLD by the authors' own Lean function (tested against real Go, not proved from fmt's source: count such statements apart). THE CARD IS WHAT COUNTS. Prove the row's statement (the work); the ties are given (YtndojkghlhllpaaGreatDoorTie.lean); close each card by the builder's one call (the guide's Derived/Test/ToyasCard.lean, 'card_holds'). Laid BY PROGRAM, IN A SANDBOX (cutbox-door.mjs). By AI agents, Wed Nov 11 2026. No macro, syntax, notation, axiom, sorry.
-/
import Derived.Test.YtndojkghlhllpaaGreatDoorRows
import GoSem.ClaimSeven
namespace Go.Proofs.YtndojkghlhllpaaGreatDoor
namespace Rows

/-- THE TIED CARD OF 'lariatlaw17.StepValues'. -/
def stepValuesCard : Claim7 := { stood := { row := stepValuesRow, standIns := [], harness := (true, "156f4326ce09aae12619c535ec64098211f311876b2f6526c2f2a22f092e382a"), looks := true }, kinds := [], alts := [], laidByText := true, laidKinds := [.data, .data, .data, .sentinel, .sentinel], laidTests := true, laidLooks := .later }
def StepValuesCardSaid : Prop := Claim7.holds Tryz.pinned (.plain (OpenSpec.ofChange stepValuesSpec)) stepValuesCard

/-- THE TIED CARD OF 'lariatlaw17.StepReaches'. -/
def stepReachesCard : Claim7 := { stood := { row := stepReachesRow, standIns := [], harness := (true, "156f4326ce09aae12619c535ec64098211f311876b2f6526c2f2a22f092e382a"), looks := true }, kinds := [], alts := [], laidByText := true, laidKinds := [.data, .data, .data, .sentinel, .sentinel], laidTests := true, laidLooks := .later }
def StepReachesCardSaid : Prop := Claim7.holds Tryz.pinned (.plain (OpenSpec.ofChange stepReachesSpec)) stepReachesCard

/-- THE TIED CARD OF 'lariatlaw17.StepTurns'. -/
def stepTurnsCard : Claim7 := { stood := { row := stepTurnsRow, standIns := [], harness := (true, "156f4326ce09aae12619c535ec64098211f311876b2f6526c2f2a22f092e382a"), looks := true }, kinds := [], alts := [], laidByText := true, laidKinds := [.data, .data, .data, .sentinel, .sentinel], laidTests := true, laidLooks := .later }
def StepTurnsCardSaid : Prop := Claim7.holds Tryz.pinned (.plain (OpenSpec.ofChange stepTurnsSpec)) stepTurnsCard

/-- THE TIED CARD OF 'lariatlaw17.StepRuns'. -/
def stepRunsCard : Claim7 := { stood := { row := stepRunsRow, standIns := [], harness := (true, "156f4326ce09aae12619c535ec64098211f311876b2f6526c2f2a22f092e382a"), looks := true }, kinds := [], alts := [], laidByText := true, laidKinds := [.data, .data, .data, .sentinel, .sentinel], laidTests := true, laidLooks := .later }
def StepRunsCardSaid : Prop := Claim7.holds Tryz.pinned (.plain (OpenSpec.ofChange stepRunsSpec)) stepRunsCard

/-- THE TIED CARD OF 'lariatlaw17.StepGoesOn'. -/
def stepGoesOnCard : Claim7 := { stood := { row := stepGoesOnRow, standIns := [], harness := (true, "156f4326ce09aae12619c535ec64098211f311876b2f6526c2f2a22f092e382a"), looks := true }, kinds := [], alts := [], laidByText := true, laidKinds := [.data, .data, .data, .sentinel, .sentinel], laidTests := true, laidLooks := .later }
def StepGoesOnCardSaid : Prop := Claim7.holds Tryz.pinned (.plain (OpenSpec.ofChange stepGoesOnSpec)) stepGoesOnCard

/-- THE TIED CARD OF 'lariatlaw17.StepBegins'. -/
def stepBeginsCard : Claim7 := { stood := { row := stepBeginsRow, standIns := [], harness := (true, "156f4326ce09aae12619c535ec64098211f311876b2f6526c2f2a22f092e382a"), looks := true }, kinds := [], alts := [], laidByText := true, laidKinds := [.data, .data, .data, .sentinel, .sentinel], laidTests := true, laidLooks := .later }
def StepBeginsCardSaid : Prop := Claim7.holds Tryz.pinned (.plain (OpenSpec.ofChange stepBeginsSpec)) stepBeginsCard

/-- THE SECOND FORM's CARD OF 'lariatlaw17.StepValues'. -/
def stepValuesUptoCard : Claim7 := { stood := { row := stepValuesUptoRow, standIns := [], harness := (true, "156f4326ce09aae12619c535ec64098211f311876b2f6526c2f2a22f092e382a"), looks := true }, kinds := [], alts := [], laidByText := true, laidKinds := [.data, .data, .data, .sentinel, .sentinel], laidTests := true, laidLooks := .later }
def StepValuesUptoCardSaid : Prop := Claim7.holds Tryz.pinned (.plain (OpenSpec.upto stepValuesSpec)) stepValuesUptoCard

/-- THE SECOND FORM's CARD OF 'lariatlaw17.StepReaches'. -/
def stepReachesUptoCard : Claim7 := { stood := { row := stepReachesUptoRow, standIns := [], harness := (true, "156f4326ce09aae12619c535ec64098211f311876b2f6526c2f2a22f092e382a"), looks := true }, kinds := [], alts := [], laidByText := true, laidKinds := [.data, .data, .data, .sentinel, .sentinel], laidTests := true, laidLooks := .later }
def StepReachesUptoCardSaid : Prop := Claim7.holds Tryz.pinned (.plain (OpenSpec.upto stepReachesSpec)) stepReachesUptoCard

/-- THE SECOND FORM's CARD OF 'lariatlaw17.StepTurns'. -/
def stepTurnsUptoCard : Claim7 := { stood := { row := stepTurnsUptoRow, standIns := [], harness := (true, "156f4326ce09aae12619c535ec64098211f311876b2f6526c2f2a22f092e382a"), looks := true }, kinds := [], alts := [], laidByText := true, laidKinds := [.data, .data, .data, .sentinel, .sentinel], laidTests := true, laidLooks := .later }
def StepTurnsUptoCardSaid : Prop := Claim7.holds Tryz.pinned (.plain (OpenSpec.upto stepTurnsSpec)) stepTurnsUptoCard

/-- THE SECOND FORM's CARD OF 'lariatlaw17.StepRuns'. -/
def stepRunsUptoCard : Claim7 := { stood := { row := stepRunsUptoRow, standIns := [], harness := (true, "156f4326ce09aae12619c535ec64098211f311876b2f6526c2f2a22f092e382a"), looks := true }, kinds := [], alts := [], laidByText := true, laidKinds := [.data, .data, .data, .sentinel, .sentinel], laidTests := true, laidLooks := .later }
def StepRunsUptoCardSaid : Prop := Claim7.holds Tryz.pinned (.plain (OpenSpec.upto stepRunsSpec)) stepRunsUptoCard

/-- THE SECOND FORM's CARD OF 'lariatlaw17.StepGoesOn'. -/
def stepGoesOnUptoCard : Claim7 := { stood := { row := stepGoesOnUptoRow, standIns := [], harness := (true, "156f4326ce09aae12619c535ec64098211f311876b2f6526c2f2a22f092e382a"), looks := true }, kinds := [], alts := [], laidByText := true, laidKinds := [.data, .data, .data, .sentinel, .sentinel], laidTests := true, laidLooks := .later }
def StepGoesOnUptoCardSaid : Prop := Claim7.holds Tryz.pinned (.plain (OpenSpec.upto stepGoesOnSpec)) stepGoesOnUptoCard

/-- THE SECOND FORM's CARD OF 'lariatlaw17.StepBegins'. -/
def stepBeginsUptoCard : Claim7 := { stood := { row := stepBeginsUptoRow, standIns := [], harness := (true, "156f4326ce09aae12619c535ec64098211f311876b2f6526c2f2a22f092e382a"), looks := true }, kinds := [], alts := [], laidByText := true, laidKinds := [.data, .data, .data, .sentinel, .sentinel], laidTests := true, laidLooks := .later }
def StepBeginsUptoCardSaid : Prop := Claim7.holds Tryz.pinned (.plain (OpenSpec.upto stepBeginsSpec)) stepBeginsUptoCard
end Rows
end Go.Proofs.YtndojkghlhllpaaGreatDoor
