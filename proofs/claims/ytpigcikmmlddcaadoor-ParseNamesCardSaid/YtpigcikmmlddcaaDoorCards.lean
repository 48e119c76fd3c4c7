/-
  DERIVED. GIVEN WITH THE SEED: THE CARDS: each row of YtpigcikmmlddcaaDoorRows.lean that lists a variable, with what it lists TIED to the program's text (the seventh form; the later family's looks); each row that meets fmt, with fmt's text TOLD by the authors' own Lean function (tested against real Go, not proved from fmt's source: count such statements apart). THE CARD IS WHAT COUNTS. Prove the row's statement (the work); the ties are given (YtpigcikmmlddcaaDoorTie.lean); close each card by the builder's one call (the guide's Derived/Test/ToyasCard.lean, 'card_holds'). Laid BY PROGRAM, IN A SANDBOX (cutbox-door.mjs). By AI agents, Wed Nov 11 2026. No macro, syntax, notation, axiom, sorry.
-/
import Derived.Test.YtpigcikmmlddcaaDoorRows
import GoSem.ClaimSeven
namespace Go.Proofs.YtpigcikmmlddcaaDoor
namespace Rows

/-- THE TIED CARD OF 'lariatlaw15.ParseNames'. -/
def parseNamesCard : Claim7 := { stood := { row := parseNamesRow, standIns := [], harness := (true, "5533cdaa211b9e3ce772a99f37dddb8f9975bcf2f43d0adf079d5e607ed6ad93"), looks := true }, kinds := [], alts := [], laidByText := true, laidKinds := [.data, .data, .data, .sentinel, .sentinel], laidTests := true, laidLooks := .later }
def ParseNamesCardSaid : Prop := Claim7.holds Tryd.pinned (.plain (OpenSpec.ofChange parseNamesSpec)) parseNamesCard

/-- THE TIED CARD OF 'lariatlaw02.CnfNames'. -/
def cnfNamesCard : Claim7 := { stood := { row := cnfNamesRow, standIns := [], harness := (true, "5533cdaa211b9e3ce772a99f37dddb8f9975bcf2f43d0adf079d5e607ed6ad93"), looks := true }, kinds := [], alts := [], laidByText := true, laidKinds := [.data, .data, .data, .data, .sentinel, .sentinel, .pinned], laidTests := true, laidLooks := .later }
def CnfNamesCardSaid : Prop := Claim7.holds Tryd.pinned (.plain (OpenSpec.ofChange cnfNamesSpec)) cnfNamesCard

/-- THE SECOND FORM's CARD OF 'lariatlaw15.ParseNames'. -/
def parseNamesUptoCard : Claim7 := { stood := { row := parseNamesUptoRow, standIns := [], harness := (true, "5533cdaa211b9e3ce772a99f37dddb8f9975bcf2f43d0adf079d5e607ed6ad93"), looks := true }, kinds := [], alts := [], laidByText := true, laidKinds := [.data, .data, .data, .sentinel, .sentinel], laidTests := true, laidLooks := .later }
def ParseNamesUptoCardSaid : Prop := Claim7.holds Tryd.pinned (.plain (OpenSpec.upto parseNamesSpec)) parseNamesUptoCard

/-- THE SECOND FORM's CARD OF 'lariatlaw02.CnfNames'. -/
def cnfNamesUptoCard : Claim7 := { stood := { row := cnfNamesUptoRow, standIns := [], harness := (true, "5533cdaa211b9e3ce772a99f37dddb8f9975bcf2f43d0adf079d5e607ed6ad93"), looks := true }, kinds := [], alts := [], laidByText := true, laidKinds := [.data, .data, .data, .data, .sentinel, .sentinel, .pinned], laidTests := true, laidLooks := .later }
def CnfNamesUptoCardSaid : Prop := Claim7.holds Tryd.pinned (.plain (OpenSpec.upto cnfNamesSpec)) cnfNamesUptoCard
end Rows
end Go.Proofs.YtpigcikmmlddcaaDoor
