/-
  NARROWER THAN 'FOR EVERY INPUT', by the rows' own cells (each row's printed sentence says how): AsofJudged: loops, laid.
  DERIVED. THE GIVEN ROWS OF THIS SEAT. 1 by the template 'for every input the law returns true; each argument reads behind the call as it read before'; 0 by the template 'total and deterministic' (their statements: YtgddeppkkjefjaaGreatDoorTotals.lean).
  GIVEN WITH THE SEED: the statements are not yours to turn. If you find one false, say at which input.
  Laid BY PROGRAM, IN A SANDBOX (cutbox-rows.mjs): the forced cells as the released guide's own fill.sh prints them over the translation d6ea4e6e475ca308… (all of the seat's roots in one cut). By AI agents, Wed Nov 11 2026. No macro, syntax, notation, axiom, sorry.
-/
import Derived.Test.YtgddeppkkjefjaaGreatDoorChecked
import GoSem.Claim
import GoSem.ClaimJoined
import GoSem.ClaimMapViews
import Derived.JoinedTies
import Derived.KernelRfl
namespace Go.Proofs.YtgddeppkkjefjaaGreatDoor
/- THE CELL 'sum', in the pinned program and in every row, IS THE sha256 OF THE DUMP (.gsa) THAT YtgddeppkkjefjaaGreatDoorProg.lean LOADS. Nothing in Lean hashes anything: it is a label: what it is worth is what the hold of that sum in a sandbox is worth. -/
noncomputable def Tryz.pinned : Pinned := { name := "ytgddeppkkjefjaagreatdoor", sum := "d6ea4e6e475ca30858ab42da23b4016d5a97f258f673ba84f61df5407c9ddd37", checked := Tryz.checked }
namespace Rows
def none {H : Type} : Left H := { results := [], args := [] }

/- WHAT THE LISTED PACKAGE-LEVEL VARIABLES READ AS WHEN THE CALL BEGINS. Each datum BY PROGRAM (the guide's laid-datum.mjs) off the statement by which the dump's own 'gosem.cut.vars' lays the variable. In a bare row this is a premise. The card (YtgddeppkkjefjaaGreatDoorCards.lean) ties it to the program's text. -/
def laid_signatory_policies_kinds {H : Type} : DataW H := .iface "func table" (.agg [.iface "func" (.lit (.string [115, 105, 103, 110, 97, 116, 111, 114, 121, 47, 112, 111, 108, 105, 99, 105, 101, 115, 46, 107, 105, 110, 100, 115, 36, 49])), .iface "func" (.lit (.string [115, 105, 103, 110, 97, 116, 111, 114, 121, 47, 112, 111, 108, 105, 99, 105, 101, 115, 46, 107, 105, 110, 100, 115, 36, 50])), .iface "func" (.lit (.string [115, 105, 103, 110, 97, 116, 111, 114, 121, 47, 112, 111, 108, 105, 99, 105, 101, 115, 46, 107, 105, 110, 100, 115, 36, 51])), .iface "func" (.lit (.string [115, 105, 103, 110, 97, 116, 111, 114, 121, 47, 112, 111, 108, 105, 99, 105, 101, 115, 46, 107, 105, 110, 100, 115, 36, 52])), .iface "func" (.lit (.string [115, 105, 103, 110, 97, 116, 111, 114, 121, 47, 112, 111, 108, 105, 99, 105, 101, 115, 46, 107, 105, 110, 100, 115, 36, 53]))])

/-- 'signatorylaw33.AsofJudged': WHATEVER THE INPUT: true; the input reads as it did. -/
def asofJudgedSpec : ChangeSpec := { name := "asofJudged", fn := fun _ => fun
  | [d1, d2, d3, d4, d5, d6] => { results := [.lit (.bool true)], args := [d1, d2, d3, d4, d5, d6] }
  | _ => none }
def asofJudgedRow : OpenClaim := { program := "ytgddeppkkjefjaagreatdoor", sum := "d6ea4e6e475ca30858ab42da23b4016d5a97f258f673ba84f61df5407c9ddd37", func := "signatory/signatorylaw33.AsofJudged", spec := "asofJudged", inPlace := ["internal/bytealg.IndexByteString"], unfollowed := true, recurses := true, named := ["signatory/policies.kinds"], loops := true, plainKeys := false, apart := false, laid := [("signatory/policies.kinds", laid_signatory_policies_kinds)] }
def AsofJudgedSaid : Prop := asofJudgedRow.holds Tryz.pinned (OpenSpec.ofChange asofJudgedSpec)

/-- ITS FALSE NEIGHBOUR: 'it returns false'. Refute it at one input. -/
def asofJudgedWrong : ChangeSpec := { name := "asofJudged", fn := fun _ => fun
  | [d1, d2, d3, d4, d5, d6] => { results := [.lit (.bool false)], args := [d1, d2, d3, d4, d5, d6] }
  | _ => none }
def AsofJudgedWrongFalsely : Prop := asofJudgedRow.holds Tryz.pinned (OpenSpec.ofChange asofJudgedWrong)

/- THE SECOND FORM. 'bulk': how many values and letters a reading holds, each counted each time it is reached (what is shared counts as often as it is met; a slice's spare places count too). A statement '..UptoSaid' is the law's where the arguments, and the package variables that the reading takes, are together of bulk at most 1048576: NARROWER than '..Said'. Prove '..Said' where nothing that the law and all that it calls make is longer than what came in: it says more and counts as full. Else prove '..UptoSaid'. A law counts once. -/
mutual
def uptoBulk {H : Type} : DataW H → Nat
  | .lit (.string bytes) => bytes.length + 1
  | .lit _ => 1
  | .nil => 1
  | .ptr d => uptoBulk d + 1
  | .slice elems spare => uptoBulkAll elems + uptoBulkAll spare + 1
  | .agg parts => uptoBulkAll parts + 1
  | .iface _ d => uptoBulk d + 1
  | .map entries => uptoBulkEntries entries + 1
  | .held _ => 1
def uptoBulkAll {H : Type} : List (DataW H) → Nat
  | [] => 0
  | d :: r => uptoBulk d + uptoBulkAll r
def uptoBulkEntries {H : Type} : List (Lit × DataW H) → Nat
  | [] => 0
  | x :: r => uptoBulkEntry x + uptoBulkEntries r
def uptoBulkEntry {H : Type} : Lit × DataW H → Nat
  | (.string bytes, d) => bytes.length + uptoBulk d + 1
  | (_, d) => uptoBulk d + 1
 end
def uptoSmall : (H : Type) → List (DataW H) → Bool := fun _ ds => decide (uptoBulkAll ds ≤ 1048576)
def OpenSpec.upto (s : _root_.Go.ChangeSpec) : _root_.Go.OpenSpec := { _root_.Go.OpenSpec.ofChange s with cond := some uptoSmall }

/-- 'signatorylaw33.AsofJudged', WHERE WHAT IT READS IS OF BULK AT MOST 1048576: true; the input reads as it did. -/
def asofJudgedUptoRow : OpenClaim := { program := "ytgddeppkkjefjaagreatdoor", sum := "d6ea4e6e475ca30858ab42da23b4016d5a97f258f673ba84f61df5407c9ddd37", func := "signatory/signatorylaw33.AsofJudged", spec := "asofJudged", inPlace := ["internal/bytealg.IndexByteString"], unfollowed := true, recurses := true, named := ["signatory/policies.kinds"], loops := true, plainKeys := false, apart := false, laid := [("signatory/policies.kinds", laid_signatory_policies_kinds)], narrowed := true }
def AsofJudgedUptoSaid : Prop := asofJudgedUptoRow.holds Tryz.pinned (OpenSpec.upto asofJudgedSpec)

end Rows
end Go.Proofs.YtgddeppkkjefjaaGreatDoor
