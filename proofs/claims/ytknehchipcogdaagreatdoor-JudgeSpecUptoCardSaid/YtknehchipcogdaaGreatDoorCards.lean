/-
  DERIVED. GIVEN WITH THE SEED: THE CARDS: each row of YtknehchipcogdaaGreatDoorRows.lean that lists a variable, with what it lists TIED to the program's text (the seventh form; the later family's looks); each row that meets fmt, with fmt's text TOLD by the authors' own Lean function (tested against real Go, not proved from fmt's source: count such statements apart). THE CARD IS WHAT COUNTS. Prove the row's statement (the work); the ties are given (YtknehchipcogdaaGreatDoorTie.lean); close each card by the builder's one call (the guide's Derived/Test/ToyasCard.lean, 'card_holds'). Laid BY PROGRAM, IN A SANDBOX (cutbox-door.mjs). By AI agents, Wed Nov 11 2026. No macro, syntax, notation, axiom, sorry.
-/
import Derived.Test.YtknehchipcogdaaGreatDoorRows
import GoSem.ClaimSeven
namespace Go.Proofs.YtknehchipcogdaaGreatDoor
namespace Rows

/-- THE TIED CARD OF 'signatorylaw30.JudgeSpec'. -/
def judgeSpecCard : Claim7 := { stood := { row := judgeSpecRow, standIns := [], harness := (true, "3ce46800a2263c7865924bf41656929e64b98c4d9ff7a161d484f320abcc1c56"), looks := true }, kinds := [], alts := [], laidByText := true, laidKinds := [.funcs], laidTests := true, laidLooks := .later }
def JudgeSpecCardSaid : Prop := Claim7.holds Tryz.pinned (.plain (OpenSpec.ofChange judgeSpecSpec)) judgeSpecCard

/-- THE TIED CARD OF 'signatorylaw32.MissingSpec'. -/
def missingSpecCard : Claim7 := { stood := { row := missingSpecRow, standIns := [], harness := (true, "3ce46800a2263c7865924bf41656929e64b98c4d9ff7a161d484f320abcc1c56"), looks := true }, kinds := [], alts := [], laidByText := true, laidKinds := [.funcs], laidTests := true, laidLooks := .later }
def MissingSpecCardSaid : Prop := Claim7.holds Tryz.pinned (.plain (OpenSpec.ofChange missingSpecSpec)) missingSpecCard

/-- THE TIED CARD OF 'signatorylaw32.MissingEnoughSpec'. -/
def missingEnoughSpecCard : Claim7 := { stood := { row := missingEnoughSpecRow, standIns := [], harness := (true, "3ce46800a2263c7865924bf41656929e64b98c4d9ff7a161d484f320abcc1c56"), looks := true }, kinds := [], alts := [], laidByText := true, laidKinds := [.funcs], laidTests := true, laidLooks := .later }
def MissingEnoughSpecCardSaid : Prop := Claim7.holds Tryz.pinned (.plain (OpenSpec.ofChange missingEnoughSpecSpec)) missingEnoughSpecCard

/-- THE TIED CARD OF 'signatorylaw32.MissingCame'. -/
def missingCameCard : Claim7 := { stood := { row := missingCameRow, standIns := [], harness := (true, "3ce46800a2263c7865924bf41656929e64b98c4d9ff7a161d484f320abcc1c56"), looks := true }, kinds := [], alts := [], laidByText := true, laidKinds := [.funcs], laidTests := true, laidLooks := .later }
def MissingCameCardSaid : Prop := Claim7.holds Tryz.pinned (.plain (OpenSpec.ofChange missingCameSpec)) missingCameCard

/-- THE SECOND FORM's CARD OF 'signatorylaw30.JudgeSpec'. -/
def judgeSpecUptoCard : Claim7 := { stood := { row := judgeSpecUptoRow, standIns := [], harness := (true, "3ce46800a2263c7865924bf41656929e64b98c4d9ff7a161d484f320abcc1c56"), looks := true }, kinds := [], alts := [], laidByText := true, laidKinds := [.funcs], laidTests := true, laidLooks := .later }
def JudgeSpecUptoCardSaid : Prop := Claim7.holds Tryz.pinned (.plain (OpenSpec.upto judgeSpecSpec)) judgeSpecUptoCard

/-- THE SECOND FORM's CARD OF 'signatorylaw32.MissingSpec'. -/
def missingSpecUptoCard : Claim7 := { stood := { row := missingSpecUptoRow, standIns := [], harness := (true, "3ce46800a2263c7865924bf41656929e64b98c4d9ff7a161d484f320abcc1c56"), looks := true }, kinds := [], alts := [], laidByText := true, laidKinds := [.funcs], laidTests := true, laidLooks := .later }
def MissingSpecUptoCardSaid : Prop := Claim7.holds Tryz.pinned (.plain (OpenSpec.upto missingSpecSpec)) missingSpecUptoCard

/-- THE SECOND FORM's CARD OF 'signatorylaw32.MissingEnoughSpec'. -/
def missingEnoughSpecUptoCard : Claim7 := { stood := { row := missingEnoughSpecUptoRow, standIns := [], harness := (true, "3ce46800a2263c7865924bf41656929e64b98c4d9ff7a161d484f320abcc1c56"), looks := true }, kinds := [], alts := [], laidByText := true, laidKinds := [.funcs], laidTests := true, laidLooks := .later }
def MissingEnoughSpecUptoCardSaid : Prop := Claim7.holds Tryz.pinned (.plain (OpenSpec.upto missingEnoughSpecSpec)) missingEnoughSpecUptoCard

/-- THE SECOND FORM's CARD OF 'signatorylaw32.MissingCame'. -/
def missingCameUptoCard : Claim7 := { stood := { row := missingCameUptoRow, standIns := [], harness := (true, "3ce46800a2263c7865924bf41656929e64b98c4d9ff7a161d484f320abcc1c56"), looks := true }, kinds := [], alts := [], laidByText := true, laidKinds := [.funcs], laidTests := true, laidLooks := .later }
def MissingCameUptoCardSaid : Prop := Claim7.holds Tryz.pinned (.plain (OpenSpec.upto missingCameSpec)) missingCameUptoCard
end Rows
end Go.Proofs.YtknehchipcogdaaGreatDoor
