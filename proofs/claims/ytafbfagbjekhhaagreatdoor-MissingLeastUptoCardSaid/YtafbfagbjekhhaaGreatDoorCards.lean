/-
  DERIVED. GIVEN WITH THE SEED: THE CARDS: each row of YtafbfagbjekhhaaGreatDoorRows.lean that lists a variable, with what it lists TIED to the program's text (the seventh form; the later family's looks); each row that meets fmt, with fmt's text TOLD by the authors' own Lean function (tested against real Go, not proved from fmt's source: count such statements apart). THE CARD IS WHAT COUNTS. Prove the row's statement (the work); the ties are given (YtafbfagbjekhhaaGreatDoorTie.lean); close each card by the builder's one call (the guide's Derived/Test/ToyasCard.lean, 'card_holds'). Laid BY PROGRAM, IN A SANDBOX (cutbox-door.mjs). By AI agents, Wed Nov 11 2026. No macro, syntax, notation, axiom, sorry.
-/
import Derived.Test.YtafbfagbjekhhaaGreatDoorRows
import GoSem.ClaimSeven
namespace Go.Proofs.YtafbfagbjekhhaaGreatDoor
namespace Rows

/-- THE TIED CARD OF 'signatorylaw32.MissingNothing'. -/
def missingNothingCard : Claim7 := { stood := { row := missingNothingRow, standIns := [], harness := (true, "894b9abc4bc616f45d112adad88e368666219f40dc2e150f5f0b57351506de18"), looks := true }, kinds := [], alts := [], laidByText := true, laidKinds := [.funcs], laidTests := true, laidLooks := .later }
def MissingNothingCardSaid : Prop := Claim7.holds Tryz.pinned (.plain (OpenSpec.ofChange missingNothingSpec)) missingNothingCard

/-- THE TIED CARD OF 'signatorylaw32.MissingLeast'. -/
def missingLeastCard : Claim7 := { stood := { row := missingLeastRow, standIns := [], harness := (true, "894b9abc4bc616f45d112adad88e368666219f40dc2e150f5f0b57351506de18"), looks := true }, kinds := [], alts := [], laidByText := true, laidKinds := [.funcs], laidTests := true, laidLooks := .later }
def MissingLeastCardSaid : Prop := Claim7.holds Tryz.pinned (.plain (OpenSpec.ofChange missingLeastSpec)) missingLeastCard

/-- THE TIED CARD OF 'signatorylaw32.MissingCame'. -/
def missingCameCard : Claim7 := { stood := { row := missingCameRow, standIns := [], harness := (true, "894b9abc4bc616f45d112adad88e368666219f40dc2e150f5f0b57351506de18"), looks := true }, kinds := [], alts := [], laidByText := true, laidKinds := [.funcs], laidTests := true, laidLooks := .later }
def MissingCameCardSaid : Prop := Claim7.holds Tryz.pinned (.plain (OpenSpec.ofChange missingCameSpec)) missingCameCard

/-- THE SECOND FORM's CARD OF 'signatorylaw32.MissingNothing'. -/
def missingNothingUptoCard : Claim7 := { stood := { row := missingNothingUptoRow, standIns := [], harness := (true, "894b9abc4bc616f45d112adad88e368666219f40dc2e150f5f0b57351506de18"), looks := true }, kinds := [], alts := [], laidByText := true, laidKinds := [.funcs], laidTests := true, laidLooks := .later }
def MissingNothingUptoCardSaid : Prop := Claim7.holds Tryz.pinned (.plain (OpenSpec.upto missingNothingSpec)) missingNothingUptoCard

/-- THE SECOND FORM's CARD OF 'signatorylaw32.MissingLeast'. -/
def missingLeastUptoCard : Claim7 := { stood := { row := missingLeastUptoRow, standIns := [], harness := (true, "894b9abc4bc616f45d112adad88e368666219f40dc2e150f5f0b57351506de18"), looks := true }, kinds := [], alts := [], laidByText := true, laidKinds := [.funcs], laidTests := true, laidLooks := .later }
def MissingLeastUptoCardSaid : Prop := Claim7.holds Tryz.pinned (.plain (OpenSpec.upto missingLeastSpec)) missingLeastUptoCard

/-- THE SECOND FORM's CARD OF 'signatorylaw32.MissingCame'. -/
def missingCameUptoCard : Claim7 := { stood := { row := missingCameUptoRow, standIns := [], harness := (true, "894b9abc4bc616f45d112adad88e368666219f40dc2e150f5f0b57351506de18"), looks := true }, kinds := [], alts := [], laidByText := true, laidKinds := [.funcs], laidTests := true, laidLooks := .later }
def MissingCameUptoCardSaid : Prop := Claim7.holds Tryz.pinned (.plain (OpenSpec.upto missingCameSpec)) missingCameUptoCard
end Rows
end Go.Proofs.YtafbfagbjekhhaaGreatDoor
