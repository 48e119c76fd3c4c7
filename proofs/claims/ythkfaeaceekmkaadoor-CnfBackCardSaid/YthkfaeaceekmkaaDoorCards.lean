/-
  DERIVED. GIVEN WITH THE SEED: THE CARDS: each row of YthkfaeaceekmkaaDoorRows.lean that lists a variable, with what it lists TIED to the program's text (the seventh form; the later family's looks); each row that meets fmt, with fmt's text TOLD by the authors' own Lean function (tested against real Go, not proved from fmt's source: count such statements apart). THE CARD IS WHAT COUNTS. Prove the row's statement (the work); the ties are given (YthkfaeaceekmkaaDoorTie.lean); close each card by the builder's one call (the guide's Derived/Test/ToyasCard.lean, 'card_holds'). Laid BY PROGRAM, IN A SANDBOX (cutbox-door.mjs). By AI agents, Wed Nov 11 2026. No macro, syntax, notation, axiom, sorry.
-/
import Derived.Test.YthkfaeaceekmkaaDoorRows
import GoSem.ClaimSeven
namespace Go.Proofs.YthkfaeaceekmkaaDoor
namespace Rows

/-- THE TIED CARD OF 'lariatlaw02.CnfBack'. -/
def cnfBackCard : Claim7 := { stood := { row := cnfBackRow, standIns := [], harness := (true, "ace0d63f4da89b428db39f7519e7720f40dad4a66cac1ac73be94844f233afb4"), looks := true }, kinds := [], alts := [], laidByText := true, laidKinds := [.data, .data, .data, .data, .sentinel, .sentinel, .pinned], laidTests := true, laidLooks := .later }
def CnfBackCardSaid : Prop := Claim7.holds Tryd.pinned (.plain (OpenSpec.ofChange cnfBackSpec)) cnfBackCard

/-- THE TIED CARD OF 'lariatlaw02.CnfGrows'. -/
def cnfGrowsCard : Claim7 := { stood := { row := cnfGrowsRow, standIns := [], harness := (true, "ace0d63f4da89b428db39f7519e7720f40dad4a66cac1ac73be94844f233afb4"), looks := true }, kinds := [], alts := [], laidByText := true, laidKinds := [.data, .data, .data, .data, .sentinel, .sentinel, .pinned], laidTests := true, laidLooks := .later }
def CnfGrowsCardSaid : Prop := Claim7.holds Tryd.pinned (.plain (OpenSpec.ofChange cnfGrowsSpec)) cnfGrowsCard

/-- THE TIED CARD OF 'lariatlaw02.CnfNames'. -/
def cnfNamesCard : Claim7 := { stood := { row := cnfNamesRow, standIns := [], harness := (true, "ace0d63f4da89b428db39f7519e7720f40dad4a66cac1ac73be94844f233afb4"), looks := true }, kinds := [], alts := [], laidByText := true, laidKinds := [.data, .data, .data, .data, .sentinel, .sentinel, .pinned], laidTests := true, laidLooks := .later }
def CnfNamesCardSaid : Prop := Claim7.holds Tryd.pinned (.plain (OpenSpec.ofChange cnfNamesSpec)) cnfNamesCard

/-- THE TIED CARD OF 'lariatlaw02.CnfOnce'. -/
def cnfOnceCard : Claim7 := { stood := { row := cnfOnceRow, standIns := [], harness := (true, "ace0d63f4da89b428db39f7519e7720f40dad4a66cac1ac73be94844f233afb4"), looks := true }, kinds := [], alts := [], laidByText := true, laidKinds := [.data, .data, .data, .data, .sentinel, .sentinel, .pinned], laidTests := true, laidLooks := .later }
def CnfOnceCardSaid : Prop := Claim7.holds Tryd.pinned (.plain (OpenSpec.ofChange cnfOnceSpec)) cnfOnceCard

/-- THE TIED CARD OF 'lariatlaw02.CnfReads'. -/
def cnfReadsCard : Claim7 := { stood := { row := cnfReadsRow, standIns := [], harness := (true, "ace0d63f4da89b428db39f7519e7720f40dad4a66cac1ac73be94844f233afb4"), looks := true }, kinds := [], alts := [], laidByText := true, laidKinds := [.data, .data, .data, .data, .sentinel, .sentinel, .pinned], laidTests := true, laidLooks := .later }
def CnfReadsCardSaid : Prop := Claim7.holds Tryd.pinned (.plain (OpenSpec.ofChange cnfReadsSpec)) cnfReadsCard

/-- THE TIED CARD OF 'lariatlaw02.CnfTells'. -/
def cnfTellsCard : Claim7 := { stood := { row := cnfTellsRow, standIns := [], harness := (true, "ace0d63f4da89b428db39f7519e7720f40dad4a66cac1ac73be94844f233afb4"), looks := true }, kinds := [], alts := [], laidByText := true, laidKinds := [.data, .data, .data, .data, .sentinel, .sentinel, .pinned], laidTests := true, laidLooks := .later }
def CnfTellsCardSaid : Prop := Claim7.holds Tryd.pinned (.plain (OpenSpec.ofChange cnfTellsSpec)) cnfTellsCard

/-- THE SECOND FORM's CARD OF 'lariatlaw02.CnfBack'. -/
def cnfBackUptoCard : Claim7 := { stood := { row := cnfBackUptoRow, standIns := [], harness := (true, "ace0d63f4da89b428db39f7519e7720f40dad4a66cac1ac73be94844f233afb4"), looks := true }, kinds := [], alts := [], laidByText := true, laidKinds := [.data, .data, .data, .data, .sentinel, .sentinel, .pinned], laidTests := true, laidLooks := .later }
def CnfBackUptoCardSaid : Prop := Claim7.holds Tryd.pinned (.plain (OpenSpec.upto cnfBackSpec)) cnfBackUptoCard

/-- THE SECOND FORM's CARD OF 'lariatlaw02.CnfGrows'. -/
def cnfGrowsUptoCard : Claim7 := { stood := { row := cnfGrowsUptoRow, standIns := [], harness := (true, "ace0d63f4da89b428db39f7519e7720f40dad4a66cac1ac73be94844f233afb4"), looks := true }, kinds := [], alts := [], laidByText := true, laidKinds := [.data, .data, .data, .data, .sentinel, .sentinel, .pinned], laidTests := true, laidLooks := .later }
def CnfGrowsUptoCardSaid : Prop := Claim7.holds Tryd.pinned (.plain (OpenSpec.upto cnfGrowsSpec)) cnfGrowsUptoCard

/-- THE SECOND FORM's CARD OF 'lariatlaw02.CnfNames'. -/
def cnfNamesUptoCard : Claim7 := { stood := { row := cnfNamesUptoRow, standIns := [], harness := (true, "ace0d63f4da89b428db39f7519e7720f40dad4a66cac1ac73be94844f233afb4"), looks := true }, kinds := [], alts := [], laidByText := true, laidKinds := [.data, .data, .data, .data, .sentinel, .sentinel, .pinned], laidTests := true, laidLooks := .later }
def CnfNamesUptoCardSaid : Prop := Claim7.holds Tryd.pinned (.plain (OpenSpec.upto cnfNamesSpec)) cnfNamesUptoCard

/-- THE SECOND FORM's CARD OF 'lariatlaw02.CnfOnce'. -/
def cnfOnceUptoCard : Claim7 := { stood := { row := cnfOnceUptoRow, standIns := [], harness := (true, "ace0d63f4da89b428db39f7519e7720f40dad4a66cac1ac73be94844f233afb4"), looks := true }, kinds := [], alts := [], laidByText := true, laidKinds := [.data, .data, .data, .data, .sentinel, .sentinel, .pinned], laidTests := true, laidLooks := .later }
def CnfOnceUptoCardSaid : Prop := Claim7.holds Tryd.pinned (.plain (OpenSpec.upto cnfOnceSpec)) cnfOnceUptoCard

/-- THE SECOND FORM's CARD OF 'lariatlaw02.CnfReads'. -/
def cnfReadsUptoCard : Claim7 := { stood := { row := cnfReadsUptoRow, standIns := [], harness := (true, "ace0d63f4da89b428db39f7519e7720f40dad4a66cac1ac73be94844f233afb4"), looks := true }, kinds := [], alts := [], laidByText := true, laidKinds := [.data, .data, .data, .data, .sentinel, .sentinel, .pinned], laidTests := true, laidLooks := .later }
def CnfReadsUptoCardSaid : Prop := Claim7.holds Tryd.pinned (.plain (OpenSpec.upto cnfReadsSpec)) cnfReadsUptoCard

/-- THE SECOND FORM's CARD OF 'lariatlaw02.CnfTells'. -/
def cnfTellsUptoCard : Claim7 := { stood := { row := cnfTellsUptoRow, standIns := [], harness := (true, "ace0d63f4da89b428db39f7519e7720f40dad4a66cac1ac73be94844f233afb4"), looks := true }, kinds := [], alts := [], laidByText := true, laidKinds := [.data, .data, .data, .data, .sentinel, .sentinel, .pinned], laidTests := true, laidLooks := .later }
def CnfTellsUptoCardSaid : Prop := Claim7.holds Tryd.pinned (.plain (OpenSpec.upto cnfTellsSpec)) cnfTellsUptoCard
end Rows
end Go.Proofs.YthkfaeaceekmkaaDoor
