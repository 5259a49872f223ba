/-
  DERIVED. GIVEN WITH THE SEED: THE CARDS: each row of YtpplkjhgggjaoaaGreatDoorRows.lean that lists a variable, with what it lists TIED to the program's text (the seventh form; the later family's looks); each row that meets fmt, with fmt's text TOLD by the authors' own Lean function (tested against real Go, not proved from fmt's source: count such statements apart). THE CARD IS WHAT COUNTS. Prove the row's statement (the work); the ties are given (YtpplkjhgggjaoaaGreatDoorTie.lean); close each card by the builder's one call (the guide's Derived/Test/ToyasCard.lean, 'card_holds'). Laid BY PROGRAM, IN A SANDBOX (cutbox-door.mjs). By AI agents, Wed Nov 11 2026. No macro, syntax, notation, axiom, sorry.
-/
import Derived.Test.YtpplkjhgggjaoaaGreatDoorRows
import GoSem.ClaimSeven
namespace Go.Proofs.YtpplkjhgggjaoaaGreatDoor
namespace Rows

/-- THE TIED CARD OF 'signatorylaw30.JudgeSpec'. -/
def judgeSpecCard : Claim7 := { stood := { row := judgeSpecRow, standIns := [], harness := (true, "3056d7fc175ab7ac398a5e9ae79651da1bb3c106d273521c093647f0f8409081"), looks := true }, kinds := [], alts := [], laidByText := true, laidKinds := [.funcs], laidTests := true, laidLooks := .later }
def JudgeSpecCardSaid : Prop := Claim7.holds Tryz.pinned (.plain (OpenSpec.ofChange judgeSpecSpec)) judgeSpecCard

/-- THE TIED CARD OF 'signatorylaw30.JudgePeopleSpec'. -/
def judgePeopleSpecCard : Claim7 := { stood := { row := judgePeopleSpecRow, standIns := [], harness := (true, "3056d7fc175ab7ac398a5e9ae79651da1bb3c106d273521c093647f0f8409081"), looks := true }, kinds := [], alts := [], laidByText := true, laidKinds := [.funcs], laidTests := true, laidLooks := .later }
def JudgePeopleSpecCardSaid : Prop := Claim7.holds Tryz.pinned (.plain (OpenSpec.ofChange judgePeopleSpecSpec)) judgePeopleSpecCard

/-- THE TIED CARD OF 'signatorylaw30.JudgeExactly'. -/
def judgeExactlyCard : Claim7 := { stood := { row := judgeExactlyRow, standIns := [], harness := (true, "3056d7fc175ab7ac398a5e9ae79651da1bb3c106d273521c093647f0f8409081"), looks := true }, kinds := [], alts := [], laidByText := true, laidKinds := [.funcs], laidTests := true, laidLooks := .later }
def JudgeExactlyCardSaid : Prop := Claim7.holds Tryz.pinned (.plain (OpenSpec.ofChange judgeExactlySpec)) judgeExactlyCard

/-- THE TIED CARD OF 'signatorylaw30.JudgeReason'. -/
def judgeReasonCard : Claim7 := { stood := { row := judgeReasonRow, standIns := [], harness := (true, "3056d7fc175ab7ac398a5e9ae79651da1bb3c106d273521c093647f0f8409081"), looks := true }, kinds := [], alts := [], laidByText := true, laidKinds := [.funcs], laidTests := true, laidLooks := .later }
def JudgeReasonCardSaid : Prop := Claim7.holds Tryz.pinned (.plain (OpenSpec.ofChange judgeReasonSpec)) judgeReasonCard

/-- THE TIED CARD OF 'signatorylaw30.JudgeKnown'. -/
def judgeKnownCard : Claim7 := { stood := { row := judgeKnownRow, standIns := [], harness := (true, "3056d7fc175ab7ac398a5e9ae79651da1bb3c106d273521c093647f0f8409081"), looks := true }, kinds := [], alts := [], laidByText := true, laidKinds := [.funcs], laidTests := true, laidLooks := .later }
def JudgeKnownCardSaid : Prop := Claim7.holds Tryz.pinned (.plain (OpenSpec.ofChange judgeKnownSpec)) judgeKnownCard

/-- THE TIED CARD OF 'signatorylaw30.JudgeMore'. -/
def judgeMoreCard : Claim7 := { stood := { row := judgeMoreRow, standIns := [], harness := (true, "3056d7fc175ab7ac398a5e9ae79651da1bb3c106d273521c093647f0f8409081"), looks := true }, kinds := [], alts := [], laidByText := true, laidKinds := [.funcs], laidTests := true, laidLooks := .later }
def JudgeMoreCardSaid : Prop := Claim7.holds Tryz.pinned (.plain (OpenSpec.ofChange judgeMoreSpec)) judgeMoreCard

/-- THE SECOND FORM's CARD OF 'signatorylaw30.JudgeSpec'. -/
def judgeSpecUptoCard : Claim7 := { stood := { row := judgeSpecUptoRow, standIns := [], harness := (true, "3056d7fc175ab7ac398a5e9ae79651da1bb3c106d273521c093647f0f8409081"), looks := true }, kinds := [], alts := [], laidByText := true, laidKinds := [.funcs], laidTests := true, laidLooks := .later }
def JudgeSpecUptoCardSaid : Prop := Claim7.holds Tryz.pinned (.plain (OpenSpec.upto judgeSpecSpec)) judgeSpecUptoCard

/-- THE SECOND FORM's CARD OF 'signatorylaw30.JudgePeopleSpec'. -/
def judgePeopleSpecUptoCard : Claim7 := { stood := { row := judgePeopleSpecUptoRow, standIns := [], harness := (true, "3056d7fc175ab7ac398a5e9ae79651da1bb3c106d273521c093647f0f8409081"), looks := true }, kinds := [], alts := [], laidByText := true, laidKinds := [.funcs], laidTests := true, laidLooks := .later }
def JudgePeopleSpecUptoCardSaid : Prop := Claim7.holds Tryz.pinned (.plain (OpenSpec.upto judgePeopleSpecSpec)) judgePeopleSpecUptoCard

/-- THE SECOND FORM's CARD OF 'signatorylaw30.JudgeExactly'. -/
def judgeExactlyUptoCard : Claim7 := { stood := { row := judgeExactlyUptoRow, standIns := [], harness := (true, "3056d7fc175ab7ac398a5e9ae79651da1bb3c106d273521c093647f0f8409081"), looks := true }, kinds := [], alts := [], laidByText := true, laidKinds := [.funcs], laidTests := true, laidLooks := .later }
def JudgeExactlyUptoCardSaid : Prop := Claim7.holds Tryz.pinned (.plain (OpenSpec.upto judgeExactlySpec)) judgeExactlyUptoCard

/-- THE SECOND FORM's CARD OF 'signatorylaw30.JudgeReason'. -/
def judgeReasonUptoCard : Claim7 := { stood := { row := judgeReasonUptoRow, standIns := [], harness := (true, "3056d7fc175ab7ac398a5e9ae79651da1bb3c106d273521c093647f0f8409081"), looks := true }, kinds := [], alts := [], laidByText := true, laidKinds := [.funcs], laidTests := true, laidLooks := .later }
def JudgeReasonUptoCardSaid : Prop := Claim7.holds Tryz.pinned (.plain (OpenSpec.upto judgeReasonSpec)) judgeReasonUptoCard

/-- THE SECOND FORM's CARD OF 'signatorylaw30.JudgeKnown'. -/
def judgeKnownUptoCard : Claim7 := { stood := { row := judgeKnownUptoRow, standIns := [], harness := (true, "3056d7fc175ab7ac398a5e9ae79651da1bb3c106d273521c093647f0f8409081"), looks := true }, kinds := [], alts := [], laidByText := true, laidKinds := [.funcs], laidTests := true, laidLooks := .later }
def JudgeKnownUptoCardSaid : Prop := Claim7.holds Tryz.pinned (.plain (OpenSpec.upto judgeKnownSpec)) judgeKnownUptoCard

/-- THE SECOND FORM's CARD OF 'signatorylaw30.JudgeMore'. -/
def judgeMoreUptoCard : Claim7 := { stood := { row := judgeMoreUptoRow, standIns := [], harness := (true, "3056d7fc175ab7ac398a5e9ae79651da1bb3c106d273521c093647f0f8409081"), looks := true }, kinds := [], alts := [], laidByText := true, laidKinds := [.funcs], laidTests := true, laidLooks := .later }
def JudgeMoreUptoCardSaid : Prop := Claim7.holds Tryz.pinned (.plain (OpenSpec.upto judgeMoreSpec)) judgeMoreUptoCard
end Rows
end Go.Proofs.YtpplkjhgggjaoaaGreatDoor
