/-
  DERIVED. GIVEN WITH THE SEED: THE CARDS: each row of YtbpohnnpklbmeaaGreatDoorRows.lean that lists a variable, with what it lists TIED to the program's text (the seventh form; the later family's looks); each row that meets fmt, with fmt's text TOLD by the authors' own Lean function (tested against real Go, not proved from fmt's source: count such statements apart). THE CARD IS WHAT COUNTS. Prove the row's statement (the work); the ties are given (YtbpohnnpklbmeaaGreatDoorTie.lean); close each card by the builder's one call (the guide's Derived/Test/ToyasCard.lean, 'card_holds'). Laid BY PROGRAM, IN A SANDBOX (cutbox-door.mjs). By AI agents, Wed Nov 11 2026. No macro, syntax, notation, axiom, sorry.
-/
import Derived.Test.YtbpohnnpklbmeaaGreatDoorRows
import GoSem.ClaimSeven
namespace Go.Proofs.YtbpohnnpklbmeaaGreatDoor
namespace Rows

/-- THE TIED CARD OF 'lariatlaw15.ParseSources'. -/
def parseSourcesCard : Claim7 := { stood := { row := parseSourcesRow, standIns := [], harness := (true, "f2283c229ff83c6f214bf483fa50bf50b3c0842c3caa48a3a237e3f1da2b7f2a"), looks := true }, kinds := [], alts := [], laidByText := true, laidKinds := [.data, .data, .data, .sentinel, .sentinel], laidTests := true, laidLooks := .later }
def ParseSourcesCardSaid : Prop := Claim7.holds Tryz.pinned (.plain (OpenSpec.ofChange parseSourcesSpec)) parseSourcesCard

/-- THE TIED CARD OF 'lariatlaw15.ParseBack'. -/
def parseBackCard : Claim7 := { stood := { row := parseBackRow, standIns := [], harness := (true, "f2283c229ff83c6f214bf483fa50bf50b3c0842c3caa48a3a237e3f1da2b7f2a"), looks := true }, kinds := [], alts := [], laidByText := true, laidKinds := [.data, .data, .data, .sentinel, .sentinel], laidTests := true, laidLooks := .later }
def ParseBackCardSaid : Prop := Claim7.holds Tryz.pinned (.plain (OpenSpec.ofChange parseBackSpec)) parseBackCard

/-- THE TIED CARD OF 'lariatlaw16.KindKeeps'. -/
def kindKeepsCard : Claim7 := { stood := { row := kindKeepsRow, standIns := [], harness := (true, "f2283c229ff83c6f214bf483fa50bf50b3c0842c3caa48a3a237e3f1da2b7f2a"), looks := true }, kinds := [], alts := [], laidByText := true, laidKinds := [.data, .data, .data, .sentinel, .sentinel], laidTests := true, laidLooks := .later }
def KindKeepsCardSaid : Prop := Claim7.holds Tryz.pinned (.plain (OpenSpec.ofChange kindKeepsSpec)) kindKeepsCard

/-- THE TIED CARD OF 'lariatlaw16.KindWhole'. -/
def kindWholeCard : Claim7 := { stood := { row := kindWholeRow, standIns := [], harness := (true, "f2283c229ff83c6f214bf483fa50bf50b3c0842c3caa48a3a237e3f1da2b7f2a"), looks := true }, kinds := [], alts := [], laidByText := true, laidKinds := [.data, .data, .data, .sentinel, .sentinel], laidTests := true, laidLooks := .later }
def KindWholeCardSaid : Prop := Claim7.holds Tryz.pinned (.plain (OpenSpec.ofChange kindWholeSpec)) kindWholeCard

/-- THE TIED CARD OF 'lariatlaw16.KindReads'. -/
def kindReadsCard : Claim7 := { stood := { row := kindReadsRow, standIns := [], harness := (true, "f2283c229ff83c6f214bf483fa50bf50b3c0842c3caa48a3a237e3f1da2b7f2a"), looks := true }, kinds := [], alts := [], laidByText := true, laidKinds := [.data, .data, .data, .sentinel, .sentinel], laidTests := true, laidLooks := .later }
def KindReadsCardSaid : Prop := Claim7.holds Tryz.pinned (.plain (OpenSpec.ofChange kindReadsSpec)) kindReadsCard

/-- THE SECOND FORM's CARD OF 'lariatlaw15.ParseSources'. -/
def parseSourcesUptoCard : Claim7 := { stood := { row := parseSourcesUptoRow, standIns := [], harness := (true, "f2283c229ff83c6f214bf483fa50bf50b3c0842c3caa48a3a237e3f1da2b7f2a"), looks := true }, kinds := [], alts := [], laidByText := true, laidKinds := [.data, .data, .data, .sentinel, .sentinel], laidTests := true, laidLooks := .later }
def ParseSourcesUptoCardSaid : Prop := Claim7.holds Tryz.pinned (.plain (OpenSpec.upto parseSourcesSpec)) parseSourcesUptoCard

/-- THE SECOND FORM's CARD OF 'lariatlaw15.ParseBack'. -/
def parseBackUptoCard : Claim7 := { stood := { row := parseBackUptoRow, standIns := [], harness := (true, "f2283c229ff83c6f214bf483fa50bf50b3c0842c3caa48a3a237e3f1da2b7f2a"), looks := true }, kinds := [], alts := [], laidByText := true, laidKinds := [.data, .data, .data, .sentinel, .sentinel], laidTests := true, laidLooks := .later }
def ParseBackUptoCardSaid : Prop := Claim7.holds Tryz.pinned (.plain (OpenSpec.upto parseBackSpec)) parseBackUptoCard

/-- THE SECOND FORM's CARD OF 'lariatlaw16.KindKeeps'. -/
def kindKeepsUptoCard : Claim7 := { stood := { row := kindKeepsUptoRow, standIns := [], harness := (true, "f2283c229ff83c6f214bf483fa50bf50b3c0842c3caa48a3a237e3f1da2b7f2a"), looks := true }, kinds := [], alts := [], laidByText := true, laidKinds := [.data, .data, .data, .sentinel, .sentinel], laidTests := true, laidLooks := .later }
def KindKeepsUptoCardSaid : Prop := Claim7.holds Tryz.pinned (.plain (OpenSpec.upto kindKeepsSpec)) kindKeepsUptoCard

/-- THE SECOND FORM's CARD OF 'lariatlaw16.KindWhole'. -/
def kindWholeUptoCard : Claim7 := { stood := { row := kindWholeUptoRow, standIns := [], harness := (true, "f2283c229ff83c6f214bf483fa50bf50b3c0842c3caa48a3a237e3f1da2b7f2a"), looks := true }, kinds := [], alts := [], laidByText := true, laidKinds := [.data, .data, .data, .sentinel, .sentinel], laidTests := true, laidLooks := .later }
def KindWholeUptoCardSaid : Prop := Claim7.holds Tryz.pinned (.plain (OpenSpec.upto kindWholeSpec)) kindWholeUptoCard

/-- THE SECOND FORM's CARD OF 'lariatlaw16.KindReads'. -/
def kindReadsUptoCard : Claim7 := { stood := { row := kindReadsUptoRow, standIns := [], harness := (true, "f2283c229ff83c6f214bf483fa50bf50b3c0842c3caa48a3a237e3f1da2b7f2a"), looks := true }, kinds := [], alts := [], laidByText := true, laidKinds := [.data, .data, .data, .sentinel, .sentinel], laidTests := true, laidLooks := .later }
def KindReadsUptoCardSaid : Prop := Claim7.holds Tryz.pinned (.plain (OpenSpec.upto kindReadsSpec)) kindReadsUptoCard
end Rows
end Go.Proofs.YtbpohnnpklbmeaaGreatDoor
