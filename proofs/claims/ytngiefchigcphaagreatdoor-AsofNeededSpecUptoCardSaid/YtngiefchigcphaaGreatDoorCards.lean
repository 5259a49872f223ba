/-
  DERIVED. GIVEN WITH THE SEED: THE CARDS: each row of YtngiefchigcphaaGreatDoorRows.lean that lists a variable, with what it lists TIED to the program's text (the seventh form; the later family's looks); each row that meets fmt, with fmt's text TOLD by the authors' own Lean function (tested against real Go, not proved from fmt's source: count such statements apart). THE CARD IS WHAT COUNTS. Prove the row's statement (the work); the ties are given (YtngiefchigcphaaGreatDoorTie.lean); close each card by the builder's one call (the guide's Derived/Test/ToyasCard.lean, 'card_holds'). Laid BY PROGRAM, IN A SANDBOX (cutbox-door.mjs). By AI agents, Wed Nov 11 2026. No macro, syntax, notation, axiom, sorry.
-/
import Derived.Test.YtngiefchigcphaaGreatDoorRows
import GoSem.ClaimSeven
namespace Go.Proofs.YtngiefchigcphaaGreatDoor
namespace Rows

/-- THE TIED CARD OF 'signatorylaw33.AsofSpec'. -/
def asofSpecCard : Claim7 := { stood := { row := asofSpecRow, standIns := [], harness := (true, "5a13abf74cb2e9ae44343f3cd41647b5f36b855cbd363dddc8368527f9f382b6"), looks := true }, kinds := [], alts := [], laidByText := true, laidKinds := [.funcs], laidTests := true, laidLooks := .later }
def AsofSpecCardSaid : Prop := Claim7.holds Tryz.pinned (.plain (OpenSpec.ofChange asofSpecSpec)) asofSpecCard

/-- THE TIED CARD OF 'signatorylaw33.AsofNeededSpec'. -/
def asofNeededSpecCard : Claim7 := { stood := { row := asofNeededSpecRow, standIns := [], harness := (true, "5a13abf74cb2e9ae44343f3cd41647b5f36b855cbd363dddc8368527f9f382b6"), looks := true }, kinds := [], alts := [], laidByText := true, laidKinds := [.funcs], laidTests := true, laidLooks := .later }
def AsofNeededSpecCardSaid : Prop := Claim7.holds Tryz.pinned (.plain (OpenSpec.ofChange asofNeededSpecSpec)) asofNeededSpecCard

/-- THE TIED CARD OF 'signatorylaw33.AsofEvery'. -/
def asofEveryCard : Claim7 := { stood := { row := asofEveryRow, standIns := [], harness := (true, "5a13abf74cb2e9ae44343f3cd41647b5f36b855cbd363dddc8368527f9f382b6"), looks := true }, kinds := [], alts := [], laidByText := true, laidKinds := [.funcs], laidTests := true, laidLooks := .later }
def AsofEveryCardSaid : Prop := Claim7.holds Tryz.pinned (.plain (OpenSpec.ofChange asofEverySpec)) asofEveryCard

/-- THE TIED CARD OF 'signatorylaw33.AsofSmallest'. -/
def asofSmallestCard : Claim7 := { stood := { row := asofSmallestRow, standIns := [], harness := (true, "5a13abf74cb2e9ae44343f3cd41647b5f36b855cbd363dddc8368527f9f382b6"), looks := true }, kinds := [], alts := [], laidByText := true, laidKinds := [.funcs], laidTests := true, laidLooks := .later }
def AsofSmallestCardSaid : Prop := Claim7.holds Tryz.pinned (.plain (OpenSpec.ofChange asofSmallestSpec)) asofSmallestCard

/-- THE TIED CARD OF 'signatorylaw33.AsofMore'. -/
def asofMoreCard : Claim7 := { stood := { row := asofMoreRow, standIns := [], harness := (true, "5a13abf74cb2e9ae44343f3cd41647b5f36b855cbd363dddc8368527f9f382b6"), looks := true }, kinds := [], alts := [], laidByText := true, laidKinds := [.funcs], laidTests := true, laidLooks := .later }
def AsofMoreCardSaid : Prop := Claim7.holds Tryz.pinned (.plain (OpenSpec.ofChange asofMoreSpec)) asofMoreCard

/-- THE SECOND FORM's CARD OF 'signatorylaw33.AsofSpec'. -/
def asofSpecUptoCard : Claim7 := { stood := { row := asofSpecUptoRow, standIns := [], harness := (true, "5a13abf74cb2e9ae44343f3cd41647b5f36b855cbd363dddc8368527f9f382b6"), looks := true }, kinds := [], alts := [], laidByText := true, laidKinds := [.funcs], laidTests := true, laidLooks := .later }
def AsofSpecUptoCardSaid : Prop := Claim7.holds Tryz.pinned (.plain (OpenSpec.upto asofSpecSpec)) asofSpecUptoCard

/-- THE SECOND FORM's CARD OF 'signatorylaw33.AsofNeededSpec'. -/
def asofNeededSpecUptoCard : Claim7 := { stood := { row := asofNeededSpecUptoRow, standIns := [], harness := (true, "5a13abf74cb2e9ae44343f3cd41647b5f36b855cbd363dddc8368527f9f382b6"), looks := true }, kinds := [], alts := [], laidByText := true, laidKinds := [.funcs], laidTests := true, laidLooks := .later }
def AsofNeededSpecUptoCardSaid : Prop := Claim7.holds Tryz.pinned (.plain (OpenSpec.upto asofNeededSpecSpec)) asofNeededSpecUptoCard

/-- THE SECOND FORM's CARD OF 'signatorylaw33.AsofEvery'. -/
def asofEveryUptoCard : Claim7 := { stood := { row := asofEveryUptoRow, standIns := [], harness := (true, "5a13abf74cb2e9ae44343f3cd41647b5f36b855cbd363dddc8368527f9f382b6"), looks := true }, kinds := [], alts := [], laidByText := true, laidKinds := [.funcs], laidTests := true, laidLooks := .later }
def AsofEveryUptoCardSaid : Prop := Claim7.holds Tryz.pinned (.plain (OpenSpec.upto asofEverySpec)) asofEveryUptoCard

/-- THE SECOND FORM's CARD OF 'signatorylaw33.AsofSmallest'. -/
def asofSmallestUptoCard : Claim7 := { stood := { row := asofSmallestUptoRow, standIns := [], harness := (true, "5a13abf74cb2e9ae44343f3cd41647b5f36b855cbd363dddc8368527f9f382b6"), looks := true }, kinds := [], alts := [], laidByText := true, laidKinds := [.funcs], laidTests := true, laidLooks := .later }
def AsofSmallestUptoCardSaid : Prop := Claim7.holds Tryz.pinned (.plain (OpenSpec.upto asofSmallestSpec)) asofSmallestUptoCard

/-- THE SECOND FORM's CARD OF 'signatorylaw33.AsofMore'. -/
def asofMoreUptoCard : Claim7 := { stood := { row := asofMoreUptoRow, standIns := [], harness := (true, "5a13abf74cb2e9ae44343f3cd41647b5f36b855cbd363dddc8368527f9f382b6"), looks := true }, kinds := [], alts := [], laidByText := true, laidKinds := [.funcs], laidTests := true, laidLooks := .later }
def AsofMoreUptoCardSaid : Prop := Claim7.holds Tryz.pinned (.plain (OpenSpec.upto asofMoreSpec)) asofMoreUptoCard
end Rows
end Go.Proofs.YtngiefchigcphaaGreatDoor
