/-
  DERIVED. GIVEN WITH THE SEED: THE CARDS: each row of YtndomfbgcaiijaaGreatDoorRows.lean that lists a variable, with what it lists TIED to the program's text (the seventh form; the later family's looks); each row that meets fmt, with fmt's text TOLD by the authors' own Lean function (tested against real Go, not proved from fmt's source: count such statements apart). THE CARD IS WHAT COUNTS. Prove the row's statement (the work); the ties are given (YtndomfbgcaiijaaGreatDoorTie.lean); close each card by the builder's one call (the guide's Derived/Test/ToyasCard.lean, 'card_holds'). Laid BY PROGRAM, IN A SANDBOX (cutbox-door.mjs). By AI agents, Wed Nov 11 2026. No macro, syntax, notation, axiom, sorry.
-/
import Derived.Test.YtndomfbgcaiijaaGreatDoorRows
import GoSem.ClaimSeven
namespace Go.Proofs.YtndomfbgcaiijaaGreatDoor
namespace Rows

/-- THE TIED CARD OF 'lariatlaw19.BlastRounds'. -/
def blastRoundsCard : Claim7 := { stood := { row := blastRoundsRow, standIns := [], harness := (true, "9ef3747d00248e79f2ed84ec5017c955d66c1e78e4831c5f251cc9854feeb6e4"), looks := true }, kinds := [], alts := [], laidByText := true, laidKinds := [.data, .data, .data, .sentinel, .sentinel], laidTests := true, laidLooks := .later }
def BlastRoundsCardSaid : Prop := Claim7.holds Tryz.pinned (.plain (OpenSpec.ofChange blastRoundsSpec)) blastRoundsCard

/-- THE TIED CARD OF 'lariatlaw19.BlastFrames'. -/
def blastFramesCard : Claim7 := { stood := { row := blastFramesRow, standIns := [], harness := (true, "9ef3747d00248e79f2ed84ec5017c955d66c1e78e4831c5f251cc9854feeb6e4"), looks := true }, kinds := [], alts := [], laidByText := true, laidKinds := [.data, .data, .data, .sentinel, .sentinel], laidTests := true, laidLooks := .later }
def BlastFramesCardSaid : Prop := Claim7.holds Tryz.pinned (.plain (OpenSpec.ofChange blastFramesSpec)) blastFramesCard

/-- THE TIED CARD OF 'lariatlaw19.BlastHolds'. -/
def blastHoldsCard : Claim7 := { stood := { row := blastHoldsRow, standIns := [], harness := (true, "9ef3747d00248e79f2ed84ec5017c955d66c1e78e4831c5f251cc9854feeb6e4"), looks := true }, kinds := [], alts := [], laidByText := true, laidKinds := [.data, .data, .data, .sentinel, .sentinel], laidTests := true, laidLooks := .later }
def BlastHoldsCardSaid : Prop := Claim7.holds Tryz.pinned (.plain (OpenSpec.ofChange blastHoldsSpec)) blastHoldsCard

/-- THE TIED CARD OF 'lariatlaw19.BlastSteps'. -/
def blastStepsCard : Claim7 := { stood := { row := blastStepsRow, standIns := [], harness := (true, "9ef3747d00248e79f2ed84ec5017c955d66c1e78e4831c5f251cc9854feeb6e4"), looks := true }, kinds := [], alts := [], laidByText := true, laidKinds := [.data, .data, .data, .sentinel, .sentinel], laidTests := true, laidLooks := .later }
def BlastStepsCardSaid : Prop := Claim7.holds Tryz.pinned (.plain (OpenSpec.ofChange blastStepsSpec)) blastStepsCard

/-- THE TIED CARD OF 'lariatlaw19.BlastOne'. -/
def blastOneCard : Claim7 := { stood := { row := blastOneRow, standIns := [], harness := (true, "9ef3747d00248e79f2ed84ec5017c955d66c1e78e4831c5f251cc9854feeb6e4"), looks := true }, kinds := [], alts := [], laidByText := true, laidKinds := [.data, .data, .data, .sentinel, .sentinel], laidTests := true, laidLooks := .later }
def BlastOneCardSaid : Prop := Claim7.holds Tryz.pinned (.plain (OpenSpec.ofChange blastOneSpec)) blastOneCard

/-- THE SECOND FORM's CARD OF 'lariatlaw19.BlastRounds'. -/
def blastRoundsUptoCard : Claim7 := { stood := { row := blastRoundsUptoRow, standIns := [], harness := (true, "9ef3747d00248e79f2ed84ec5017c955d66c1e78e4831c5f251cc9854feeb6e4"), looks := true }, kinds := [], alts := [], laidByText := true, laidKinds := [.data, .data, .data, .sentinel, .sentinel], laidTests := true, laidLooks := .later }
def BlastRoundsUptoCardSaid : Prop := Claim7.holds Tryz.pinned (.plain (OpenSpec.upto blastRoundsSpec)) blastRoundsUptoCard

/-- THE SECOND FORM's CARD OF 'lariatlaw19.BlastFrames'. -/
def blastFramesUptoCard : Claim7 := { stood := { row := blastFramesUptoRow, standIns := [], harness := (true, "9ef3747d00248e79f2ed84ec5017c955d66c1e78e4831c5f251cc9854feeb6e4"), looks := true }, kinds := [], alts := [], laidByText := true, laidKinds := [.data, .data, .data, .sentinel, .sentinel], laidTests := true, laidLooks := .later }
def BlastFramesUptoCardSaid : Prop := Claim7.holds Tryz.pinned (.plain (OpenSpec.upto blastFramesSpec)) blastFramesUptoCard

/-- THE SECOND FORM's CARD OF 'lariatlaw19.BlastHolds'. -/
def blastHoldsUptoCard : Claim7 := { stood := { row := blastHoldsUptoRow, standIns := [], harness := (true, "9ef3747d00248e79f2ed84ec5017c955d66c1e78e4831c5f251cc9854feeb6e4"), looks := true }, kinds := [], alts := [], laidByText := true, laidKinds := [.data, .data, .data, .sentinel, .sentinel], laidTests := true, laidLooks := .later }
def BlastHoldsUptoCardSaid : Prop := Claim7.holds Tryz.pinned (.plain (OpenSpec.upto blastHoldsSpec)) blastHoldsUptoCard

/-- THE SECOND FORM's CARD OF 'lariatlaw19.BlastSteps'. -/
def blastStepsUptoCard : Claim7 := { stood := { row := blastStepsUptoRow, standIns := [], harness := (true, "9ef3747d00248e79f2ed84ec5017c955d66c1e78e4831c5f251cc9854feeb6e4"), looks := true }, kinds := [], alts := [], laidByText := true, laidKinds := [.data, .data, .data, .sentinel, .sentinel], laidTests := true, laidLooks := .later }
def BlastStepsUptoCardSaid : Prop := Claim7.holds Tryz.pinned (.plain (OpenSpec.upto blastStepsSpec)) blastStepsUptoCard

/-- THE SECOND FORM's CARD OF 'lariatlaw19.BlastOne'. -/
def blastOneUptoCard : Claim7 := { stood := { row := blastOneUptoRow, standIns := [], harness := (true, "9ef3747d00248e79f2ed84ec5017c955d66c1e78e4831c5f251cc9854feeb6e4"), looks := true }, kinds := [], alts := [], laidByText := true, laidKinds := [.data, .data, .data, .sentinel, .sentinel], laidTests := true, laidLooks := .later }
def BlastOneUptoCardSaid : Prop := Claim7.holds Tryz.pinned (.plain (OpenSpec.upto blastOneSpec)) blastOneUptoCard
end Rows
end Go.Proofs.YtndomfbgcaiijaaGreatDoor
