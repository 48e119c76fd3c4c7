/-
  DERIVED. GIVEN WITH THE SEED: THE CARDS: each row of YtpigcikmmlddcaaGreatDoorRows.lean that lists a variable, with what it lists TIED to the program's text (the seventh form; the later family's looks); each row that meets fmt, with fmt's text TOLD by the authors' own Lean function (tested against real Go, not proved from fmt's source: count such statements apart). THE CARD IS WHAT COUNTS. Prove the row's statement (the work); the ties are given (YtpigcikmmlddcaaGreatDoorTie.lean); close each card by the builder's one call (the guide's Derived/Test/ToyasCard.lean, 'card_holds'). Laid BY PROGRAM, IN A SANDBOX (cutbox-door.mjs). By AI agents, Wed Nov 11 2026. No macro, syntax, notation, axiom, sorry.
-/
import Derived.Test.YtpigcikmmlddcaaGreatDoorRows
import GoSem.ClaimSeven
namespace Go.Proofs.YtpigcikmmlddcaaGreatDoor
namespace Rows

/-- THE TIED CARD OF 'lariatlaw16.KindNames'. -/
def kindNamesCard : Claim7 := { stood := { row := kindNamesRow, standIns := [], harness := (true, "12f61c55bfbff30c66bdab794ba01a3387eaef9ad1baf9260886f7caad982146"), looks := true }, kinds := [], alts := [], laidByText := true, laidKinds := [.data, .data, .data, .sentinel, .sentinel], laidTests := true, laidLooks := .later }
def KindNamesCardSaid : Prop := Claim7.holds Tryz.pinned (.plain (OpenSpec.ofChange kindNamesSpec)) kindNamesCard

/-- THE TIED CARD OF 'lariatlaw17.StepNames'. -/
def stepNamesCard : Claim7 := { stood := { row := stepNamesRow, standIns := [], harness := (true, "12f61c55bfbff30c66bdab794ba01a3387eaef9ad1baf9260886f7caad982146"), looks := true }, kinds := [], alts := [], laidByText := true, laidKinds := [.data, .data, .data, .sentinel, .sentinel], laidTests := true, laidLooks := .later }
def StepNamesCardSaid : Prop := Claim7.holds Tryz.pinned (.plain (OpenSpec.ofChange stepNamesSpec)) stepNamesCard

/-- THE TIED CARD OF 'lariatlaw19.BlastNames'. -/
def blastNamesCard : Claim7 := { stood := { row := blastNamesRow, standIns := [], harness := (true, "12f61c55bfbff30c66bdab794ba01a3387eaef9ad1baf9260886f7caad982146"), looks := true }, kinds := [], alts := [], laidByText := true, laidKinds := [.data, .data, .data, .sentinel, .sentinel], laidTests := true, laidLooks := .later }
def BlastNamesCardSaid : Prop := Claim7.holds Tryz.pinned (.plain (OpenSpec.ofChange blastNamesSpec)) blastNamesCard

/-- THE SECOND FORM's CARD OF 'lariatlaw16.KindNames'. -/
def kindNamesUptoCard : Claim7 := { stood := { row := kindNamesUptoRow, standIns := [], harness := (true, "12f61c55bfbff30c66bdab794ba01a3387eaef9ad1baf9260886f7caad982146"), looks := true }, kinds := [], alts := [], laidByText := true, laidKinds := [.data, .data, .data, .sentinel, .sentinel], laidTests := true, laidLooks := .later }
def KindNamesUptoCardSaid : Prop := Claim7.holds Tryz.pinned (.plain (OpenSpec.upto kindNamesSpec)) kindNamesUptoCard

/-- THE SECOND FORM's CARD OF 'lariatlaw17.StepNames'. -/
def stepNamesUptoCard : Claim7 := { stood := { row := stepNamesUptoRow, standIns := [], harness := (true, "12f61c55bfbff30c66bdab794ba01a3387eaef9ad1baf9260886f7caad982146"), looks := true }, kinds := [], alts := [], laidByText := true, laidKinds := [.data, .data, .data, .sentinel, .sentinel], laidTests := true, laidLooks := .later }
def StepNamesUptoCardSaid : Prop := Claim7.holds Tryz.pinned (.plain (OpenSpec.upto stepNamesSpec)) stepNamesUptoCard

/-- THE SECOND FORM's CARD OF 'lariatlaw19.BlastNames'. -/
def blastNamesUptoCard : Claim7 := { stood := { row := blastNamesUptoRow, standIns := [], harness := (true, "12f61c55bfbff30c66bdab794ba01a3387eaef9ad1baf9260886f7caad982146"), looks := true }, kinds := [], alts := [], laidByText := true, laidKinds := [.data, .data, .data, .sentinel, .sentinel], laidTests := true, laidLooks := .later }
def BlastNamesUptoCardSaid : Prop := Claim7.holds Tryz.pinned (.plain (OpenSpec.upto blastNamesSpec)) blastNamesUptoCard
end Rows
end Go.Proofs.YtpigcikmmlddcaaGreatDoor
