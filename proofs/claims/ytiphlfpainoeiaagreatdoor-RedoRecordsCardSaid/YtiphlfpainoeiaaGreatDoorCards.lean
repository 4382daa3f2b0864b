/-
  DERIVED. GIVEN WITH THE SEED: THE CARDS: each row of YtiphlfpainoeiaaGreatDoorRows.lean that lists a variable, with what it lists TIED to the program's text (the seventh form; the later family's looks); each row that meets fmt, with fmt's text TOLD by the authors' own Lean function (tested against real Go, not proved from fmt's source: count such statements apart). THE CARD IS WHAT COUNTS. Prove the row's statement (the work); the ties are given (YtiphlfpainoeiaaGreatDoorTie.lean); close each card by the builder's one call (the guide's Derived/Test/ToyasCard.lean, 'card_holds'). Laid BY PROGRAM, IN A SANDBOX (cutbox-door.mjs). By AI agents, Wed Nov 11 2026. No macro, syntax, notation, axiom, sorry.
-/
import Derived.Test.YtiphlfpainoeiaaGreatDoorRows
import GoSem.ClaimSeven
namespace Go.Proofs.YtiphlfpainoeiaaGreatDoor
namespace Rows

/-- THE TIED CARD OF 'vellumlaw23.RedoRecords'. -/
def redoRecordsCard : Claim7 := { stood := { row := redoRecordsRow, standIns := [], harness := (true, "c273f3c0a96c66e2d70acc6d047c57872291965177917a505abd199bbadbf9a1"), looks := false }, kinds := [], alts := [], laidByText := true, laidKinds := [.data, .pinned], laidTests := true, laidLooks := .later }
def RedoRecordsCardSaid : Prop := Claim7.holds Tryz.pinned (.plain (OpenSpec.ofChange redoRecordsSpec)) redoRecordsCard

/-- THE TIED CARD OF 'vellumlaw23.RedoHeads'. -/
def redoHeadsCard : Claim7 := { stood := { row := redoHeadsRow, standIns := [], harness := (true, "c273f3c0a96c66e2d70acc6d047c57872291965177917a505abd199bbadbf9a1"), looks := false }, kinds := [], alts := [], laidByText := true, laidKinds := [.data, .data, .data, .data, .data, .widerDeep, .pinned, .pinned, .pinned], laidTests := true, laidLooks := .later }
def RedoHeadsCardSaid : Prop := Claim7.holds Tryz.pinned (.plain (OpenSpec.ofChange redoHeadsSpec)) redoHeadsCard

/-- THE SECOND FORM's CARD OF 'vellumlaw23.RedoRecords'. -/
def redoRecordsUptoCard : Claim7 := { stood := { row := redoRecordsUptoRow, standIns := [], harness := (true, "c273f3c0a96c66e2d70acc6d047c57872291965177917a505abd199bbadbf9a1"), looks := false }, kinds := [], alts := [], laidByText := true, laidKinds := [.data, .pinned], laidTests := true, laidLooks := .later }
def RedoRecordsUptoCardSaid : Prop := Claim7.holds Tryz.pinned (.plain (OpenSpec.upto redoRecordsSpec)) redoRecordsUptoCard

/-- THE SECOND FORM's CARD OF 'vellumlaw23.RedoHeads'. -/
def redoHeadsUptoCard : Claim7 := { stood := { row := redoHeadsUptoRow, standIns := [], harness := (true, "c273f3c0a96c66e2d70acc6d047c57872291965177917a505abd199bbadbf9a1"), looks := false }, kinds := [], alts := [], laidByText := true, laidKinds := [.data, .data, .data, .data, .data, .widerDeep, .pinned, .pinned, .pinned], laidTests := true, laidLooks := .later }
def RedoHeadsUptoCardSaid : Prop := Claim7.holds Tryz.pinned (.plain (OpenSpec.upto redoHeadsSpec)) redoHeadsUptoCard
end Rows
end Go.Proofs.YtiphlfpainoeiaaGreatDoor
