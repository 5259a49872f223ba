/-
  NARROWER THAN 'FOR EVERY INPUT', by the rows' own cells (each row's printed sentence says how): JudgeSpec: loops, laid · MissingSpec: loops, laid · MissingEnoughSpec: loops, laid · MissingCame: loops, laid.
  DERIVED. THE GIVEN ROWS OF THIS SEAT. 4 by the template 'for every input the law returns true; each argument reads behind the call as it read before'; 0 by the template 'total and deterministic' (their statements: YtknehchipcogdaaGreatDoorTotals.lean).
  GIVEN WITH THE SEED: the statements are not yours to turn. If you find one false, say at which input.
  Laid BY PROGRAM, IN A SANDBOX (cutbox-rows.mjs): the forced cells as the released guide's own fill.sh prints them over the translation d774030488e727bd… (all of the seat's roots in one cut). By AI agents, Wed Nov 11 2026. No macro, syntax, notation, axiom, sorry.
-/
import Derived.Test.YtknehchipcogdaaGreatDoorChecked
import GoSem.Claim
import GoSem.ClaimJoined
import GoSem.ClaimMapViews
import Derived.JoinedTies
import Derived.KernelRfl
namespace Go.Proofs.YtknehchipcogdaaGreatDoor
/- THE CELL 'sum', in the pinned program and in every row, IS THE sha256 OF THE DUMP (.gsa) THAT YtknehchipcogdaaGreatDoorProg.lean LOADS. Nothing in Lean hashes anything: it is a label: what it is worth is what the hold of that sum in a sandbox is worth. -/
noncomputable def Tryz.pinned : Pinned := { name := "ytknehchipcogdaagreatdoor", sum := "d774030488e727bdb3dfce2448fb096aff1a645ce7a2307ccae35b959500167c", checked := Tryz.checked }
namespace Rows
def none {H : Type} : Left H := { results := [], args := [] }

/- WHAT THE LISTED PACKAGE-LEVEL VARIABLES READ AS WHEN THE CALL BEGINS. Each datum BY PROGRAM (the guide's laid-datum.mjs) off the statement by which the dump's own 'gosem.cut.vars' lays the variable. In a bare row this is a premise. The card (YtknehchipcogdaaGreatDoorCards.lean) ties it to the program's text. -/
def laid_signatory_policies_kinds {H : Type} : DataW H := .iface "func table" (.agg [.iface "func" (.lit (.string [115, 105, 103, 110, 97, 116, 111, 114, 121, 47, 112, 111, 108, 105, 99, 105, 101, 115, 46, 107, 105, 110, 100, 115, 36, 49])), .iface "func" (.lit (.string [115, 105, 103, 110, 97, 116, 111, 114, 121, 47, 112, 111, 108, 105, 99, 105, 101, 115, 46, 107, 105, 110, 100, 115, 36, 50])), .iface "func" (.lit (.string [115, 105, 103, 110, 97, 116, 111, 114, 121, 47, 112, 111, 108, 105, 99, 105, 101, 115, 46, 107, 105, 110, 100, 115, 36, 51])), .iface "func" (.lit (.string [115, 105, 103, 110, 97, 116, 111, 114, 121, 47, 112, 111, 108, 105, 99, 105, 101, 115, 46, 107, 105, 110, 100, 115, 36, 52])), .iface "func" (.lit (.string [115, 105, 103, 110, 97, 116, 111, 114, 121, 47, 112, 111, 108, 105, 99, 105, 101, 115, 46, 107, 105, 110, 100, 115, 36, 53]))])

/-- 'signatorylaw30.JudgeSpec': WHATEVER THE INPUT: true; the input reads as it did. -/
def judgeSpecSpec : ChangeSpec := { name := "judgeSpec", fn := fun _ => fun
  | [d1, d2, d3, d4, d5, d6] => { results := [.lit (.bool true)], args := [d1, d2, d3, d4, d5, d6] }
  | _ => none }
def judgeSpecRow : OpenClaim := { program := "ytknehchipcogdaagreatdoor", sum := "d774030488e727bdb3dfce2448fb096aff1a645ce7a2307ccae35b959500167c", func := "signatory/signatorylaw30.JudgeSpec", spec := "judgeSpec", inPlace := ["internal/bytealg.IndexByteString"], unfollowed := true, recurses := true, named := ["signatory/policies.kinds"], loops := true, plainKeys := false, apart := false, laid := [("signatory/policies.kinds", laid_signatory_policies_kinds)] }
def JudgeSpecSaid : Prop := judgeSpecRow.holds Tryz.pinned (OpenSpec.ofChange judgeSpecSpec)

/-- ITS FALSE NEIGHBOUR: 'it returns false'. Refute it at one input. -/
def judgeSpecWrong : ChangeSpec := { name := "judgeSpec", fn := fun _ => fun
  | [d1, d2, d3, d4, d5, d6] => { results := [.lit (.bool false)], args := [d1, d2, d3, d4, d5, d6] }
  | _ => none }
def JudgeSpecWrongFalsely : Prop := judgeSpecRow.holds Tryz.pinned (OpenSpec.ofChange judgeSpecWrong)

/-- 'signatorylaw32.MissingSpec': WHATEVER THE INPUT: true; the input reads as it did. -/
def missingSpecSpec : ChangeSpec := { name := "missingSpec", fn := fun _ => fun
  | [d1, d2, d3, d4, d5, d6] => { results := [.lit (.bool true)], args := [d1, d2, d3, d4, d5, d6] }
  | _ => none }
def missingSpecRow : OpenClaim := { program := "ytknehchipcogdaagreatdoor", sum := "d774030488e727bdb3dfce2448fb096aff1a645ce7a2307ccae35b959500167c", func := "signatory/signatorylaw32.MissingSpec", spec := "missingSpec", inPlace := ["internal/bytealg.IndexByteString"], unfollowed := true, recurses := true, named := ["signatory/policies.kinds"], loops := true, plainKeys := false, apart := false, laid := [("signatory/policies.kinds", laid_signatory_policies_kinds)] }
def MissingSpecSaid : Prop := missingSpecRow.holds Tryz.pinned (OpenSpec.ofChange missingSpecSpec)

/-- ITS FALSE NEIGHBOUR: 'it returns false'. Refute it at one input. -/
def missingSpecWrong : ChangeSpec := { name := "missingSpec", fn := fun _ => fun
  | [d1, d2, d3, d4, d5, d6] => { results := [.lit (.bool false)], args := [d1, d2, d3, d4, d5, d6] }
  | _ => none }
def MissingSpecWrongFalsely : Prop := missingSpecRow.holds Tryz.pinned (OpenSpec.ofChange missingSpecWrong)

/-- 'signatorylaw32.MissingEnoughSpec': WHATEVER THE INPUT: true; the input reads as it did. -/
def missingEnoughSpecSpec : ChangeSpec := { name := "missingEnoughSpec", fn := fun _ => fun
  | [d1, d2, d3, d4, d5, d6, d7] => { results := [.lit (.bool true)], args := [d1, d2, d3, d4, d5, d6, d7] }
  | _ => none }
def missingEnoughSpecRow : OpenClaim := { program := "ytknehchipcogdaagreatdoor", sum := "d774030488e727bdb3dfce2448fb096aff1a645ce7a2307ccae35b959500167c", func := "signatory/signatorylaw32.MissingEnoughSpec", spec := "missingEnoughSpec", inPlace := ["internal/bytealg.IndexByteString"], unfollowed := true, recurses := true, named := ["signatory/policies.kinds"], loops := true, plainKeys := false, apart := false, laid := [("signatory/policies.kinds", laid_signatory_policies_kinds)] }
def MissingEnoughSpecSaid : Prop := missingEnoughSpecRow.holds Tryz.pinned (OpenSpec.ofChange missingEnoughSpecSpec)

/-- ITS FALSE NEIGHBOUR: 'it returns false'. Refute it at one input. -/
def missingEnoughSpecWrong : ChangeSpec := { name := "missingEnoughSpec", fn := fun _ => fun
  | [d1, d2, d3, d4, d5, d6, d7] => { results := [.lit (.bool false)], args := [d1, d2, d3, d4, d5, d6, d7] }
  | _ => none }
def MissingEnoughSpecWrongFalsely : Prop := missingEnoughSpecRow.holds Tryz.pinned (OpenSpec.ofChange missingEnoughSpecWrong)

/-- 'signatorylaw32.MissingCame': WHATEVER THE INPUT: true; the input reads as it did. -/
def missingCameSpec : ChangeSpec := { name := "missingCame", fn := fun _ => fun
  | [d1, d2, d3, d4, d5, d6] => { results := [.lit (.bool true)], args := [d1, d2, d3, d4, d5, d6] }
  | _ => none }
def missingCameRow : OpenClaim := { program := "ytknehchipcogdaagreatdoor", sum := "d774030488e727bdb3dfce2448fb096aff1a645ce7a2307ccae35b959500167c", func := "signatory/signatorylaw32.MissingCame", spec := "missingCame", inPlace := ["internal/bytealg.IndexByteString", "slices.overlaps[signatory/api.Approval]"], unfollowed := true, recurses := true, named := ["signatory/policies.kinds"], loops := true, plainKeys := false, apart := false, laid := [("signatory/policies.kinds", laid_signatory_policies_kinds)] }
def MissingCameSaid : Prop := missingCameRow.holds Tryz.pinned (OpenSpec.ofChange missingCameSpec)

/-- ITS FALSE NEIGHBOUR: 'it returns false'. Refute it at one input. -/
def missingCameWrong : ChangeSpec := { name := "missingCame", fn := fun _ => fun
  | [d1, d2, d3, d4, d5, d6] => { results := [.lit (.bool false)], args := [d1, d2, d3, d4, d5, d6] }
  | _ => none }
def MissingCameWrongFalsely : Prop := missingCameRow.holds Tryz.pinned (OpenSpec.ofChange missingCameWrong)

/- THE SECOND FORM. 'bulk': how many values and letters a reading holds, each counted each time it is reached (what is shared counts as often as it is met; a slice's spare places count too). A statement '..UptoSaid' is the law's where the arguments, and the package variables that the reading takes, are together of bulk at most 1048576: NARROWER than '..Said'. Prove '..Said' where nothing that the law and all that it calls make is longer than what came in: it says more and counts as full. Else prove '..UptoSaid'. A law counts once. -/
mutual
def uptoBulk {H : Type} : DataW H → Nat
  | .lit (.string bytes) => bytes.length + 1
  | .lit _ => 1
  | .nil => 1
  | .ptr d => uptoBulk d + 1
  | .slice elems spare => uptoBulkAll elems + uptoBulkAll spare + 1
  | .agg parts => uptoBulkAll parts + 1
  | .iface _ d => uptoBulk d + 1
  | .map entries => uptoBulkEntries entries + 1
  | .held _ => 1
def uptoBulkAll {H : Type} : List (DataW H) → Nat
  | [] => 0
  | d :: r => uptoBulk d + uptoBulkAll r
def uptoBulkEntries {H : Type} : List (Lit × DataW H) → Nat
  | [] => 0
  | x :: r => uptoBulkEntry x + uptoBulkEntries r
def uptoBulkEntry {H : Type} : Lit × DataW H → Nat
  | (.string bytes, d) => bytes.length + uptoBulk d + 1
  | (_, d) => uptoBulk d + 1
 end
def uptoSmall : (H : Type) → List (DataW H) → Bool := fun _ ds => decide (uptoBulkAll ds ≤ 1048576)
def OpenSpec.upto (s : _root_.Go.ChangeSpec) : _root_.Go.OpenSpec := { _root_.Go.OpenSpec.ofChange s with cond := some uptoSmall }

/-- 'signatorylaw30.JudgeSpec', WHERE WHAT IT READS IS OF BULK AT MOST 1048576: true; the input reads as it did. -/
def judgeSpecUptoRow : OpenClaim := { program := "ytknehchipcogdaagreatdoor", sum := "d774030488e727bdb3dfce2448fb096aff1a645ce7a2307ccae35b959500167c", func := "signatory/signatorylaw30.JudgeSpec", spec := "judgeSpec", inPlace := ["internal/bytealg.IndexByteString"], unfollowed := true, recurses := true, named := ["signatory/policies.kinds"], loops := true, plainKeys := false, apart := false, laid := [("signatory/policies.kinds", laid_signatory_policies_kinds)], narrowed := true }
def JudgeSpecUptoSaid : Prop := judgeSpecUptoRow.holds Tryz.pinned (OpenSpec.upto judgeSpecSpec)

/-- 'signatorylaw32.MissingSpec', WHERE WHAT IT READS IS OF BULK AT MOST 1048576: true; the input reads as it did. -/
def missingSpecUptoRow : OpenClaim := { program := "ytknehchipcogdaagreatdoor", sum := "d774030488e727bdb3dfce2448fb096aff1a645ce7a2307ccae35b959500167c", func := "signatory/signatorylaw32.MissingSpec", spec := "missingSpec", inPlace := ["internal/bytealg.IndexByteString"], unfollowed := true, recurses := true, named := ["signatory/policies.kinds"], loops := true, plainKeys := false, apart := false, laid := [("signatory/policies.kinds", laid_signatory_policies_kinds)], narrowed := true }
def MissingSpecUptoSaid : Prop := missingSpecUptoRow.holds Tryz.pinned (OpenSpec.upto missingSpecSpec)

/-- 'signatorylaw32.MissingEnoughSpec', WHERE WHAT IT READS IS OF BULK AT MOST 1048576: true; the input reads as it did. -/
def missingEnoughSpecUptoRow : OpenClaim := { program := "ytknehchipcogdaagreatdoor", sum := "d774030488e727bdb3dfce2448fb096aff1a645ce7a2307ccae35b959500167c", func := "signatory/signatorylaw32.MissingEnoughSpec", spec := "missingEnoughSpec", inPlace := ["internal/bytealg.IndexByteString"], unfollowed := true, recurses := true, named := ["signatory/policies.kinds"], loops := true, plainKeys := false, apart := false, laid := [("signatory/policies.kinds", laid_signatory_policies_kinds)], narrowed := true }
def MissingEnoughSpecUptoSaid : Prop := missingEnoughSpecUptoRow.holds Tryz.pinned (OpenSpec.upto missingEnoughSpecSpec)

/-- 'signatorylaw32.MissingCame', WHERE WHAT IT READS IS OF BULK AT MOST 1048576: true; the input reads as it did. -/
def missingCameUptoRow : OpenClaim := { program := "ytknehchipcogdaagreatdoor", sum := "d774030488e727bdb3dfce2448fb096aff1a645ce7a2307ccae35b959500167c", func := "signatory/signatorylaw32.MissingCame", spec := "missingCame", inPlace := ["internal/bytealg.IndexByteString", "slices.overlaps[signatory/api.Approval]"], unfollowed := true, recurses := true, named := ["signatory/policies.kinds"], loops := true, plainKeys := false, apart := false, laid := [("signatory/policies.kinds", laid_signatory_policies_kinds)], narrowed := true }
def MissingCameUptoSaid : Prop := missingCameUptoRow.holds Tryz.pinned (OpenSpec.upto missingCameSpec)

end Rows
end Go.Proofs.YtknehchipcogdaaGreatDoor
