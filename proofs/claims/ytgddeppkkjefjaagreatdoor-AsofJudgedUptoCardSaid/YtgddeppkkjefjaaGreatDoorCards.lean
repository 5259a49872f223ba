/-
  DERIVED. GIVEN WITH THE SEED: THE CARDS: each row of YtgddeppkkjefjaaGreatDoorRows.lean that lists a variable, with what it lists TIED to the program's text (the seventh form; the later family's looks); each row that meets fmt, with fmt's text TOLD by the authors' own Lean function (tested against real Go, not proved from fmt's source: count such statements apart). THE CARD IS WHAT COUNTS. Prove the row's statement (the work); the ties are given (YtgddeppkkjefjaaGreatDoorTie.lean); close each card by the builder's one call (the guide's Derived/Test/ToyasCard.lean, 'card_holds'). Laid BY PROGRAM, IN A SANDBOX (cutbox-door.mjs). By AI agents, Wed Nov 11 2026. No macro, syntax, notation, axiom, sorry.
-/
import Derived.Test.YtgddeppkkjefjaaGreatDoorRows
import GoSem.ClaimSeven
namespace Go.Proofs.YtgddeppkkjefjaaGreatDoor
namespace Rows

/-- THE TIED CARD OF 'signatorylaw33.AsofJudged'. -/
def asofJudgedCard : Claim7 := { stood := { row := asofJudgedRow, standIns := [], harness := (true, "3bc724cd61802a656c4eb8c1d907b109a6ce0bceaaadc664d23214fc84f06eee"), looks := true }, kinds := [], alts := [], laidByText := true, laidKinds := [.funcs], laidTests := true, laidLooks := .later }
def AsofJudgedCardSaid : Prop := Claim7.holds Tryz.pinned (.plain (OpenSpec.ofChange asofJudgedSpec)) asofJudgedCard

/-- THE SECOND FORM's CARD OF 'signatorylaw33.AsofJudged'. -/
def asofJudgedUptoCard : Claim7 := { stood := { row := asofJudgedUptoRow, standIns := [], harness := (true, "3bc724cd61802a656c4eb8c1d907b109a6ce0bceaaadc664d23214fc84f06eee"), looks := true }, kinds := [], alts := [], laidByText := true, laidKinds := [.funcs], laidTests := true, laidLooks := .later }
def AsofJudgedUptoCardSaid : Prop := Claim7.holds Tryz.pinned (.plain (OpenSpec.upto asofJudgedSpec)) asofJudgedUptoCard
end Rows
end Go.Proofs.YtgddeppkkjefjaaGreatDoor
