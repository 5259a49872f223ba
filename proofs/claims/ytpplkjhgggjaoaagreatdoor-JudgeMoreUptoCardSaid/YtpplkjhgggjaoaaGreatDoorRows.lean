/-
  NARROWER THAN 'FOR EVERY INPUT', by the rows' own cells (each row's printed sentence says how): JudgeSpec: loops, laid · JudgePeopleSpec: loops, laid · JudgeExactly: loops, laid · JudgeReason: loops, laid · JudgeKnown: loops, laid · JudgeMore: loops, laid.
  DERIVED. THE GIVEN ROWS OF THIS SEAT. 6 by the template 'for every input the law returns true; each argument reads behind the call as it read before'; 0 by the template 'total and deterministic' (their statements: YtpplkjhgggjaoaaGreatDoorTotals.lean).
  GIVEN WITH THE SEED: the statements are not yours to turn. If you find one false, say at which input.
  Laid BY PROGRAM, IN A SANDBOX (cutbox-rows.mjs): the forced cells as the released guide's own fill.sh prints them over the translation 67202b37ac47e934… (all of the seat's roots in one cut). By AI agents, Wed Nov 11 2026. No macro, syntax, notation, axiom, sorry.
-/
import Derived.Test.YtpplkjhgggjaoaaGreatDoorChecked
import GoSem.Claim
import GoSem.ClaimJoined
import GoSem.ClaimMapViews
import Derived.JoinedTies
import Derived.KernelRfl
namespace Go.Proofs.YtpplkjhgggjaoaaGreatDoor
/- THE CELL 'sum', in the pinned program and in every row, IS THE sha256 OF THE DUMP (.gsa) THAT YtpplkjhgggjaoaaGreatDoorProg.lean LOADS. Nothing in Lean hashes anything: it is a label: what it is worth is what the hold of that sum in a sandbox is worth. -/
noncomputable def Tryz.pinned : Pinned := { name := "ytpplkjhgggjaoaagreatdoor", sum := "67202b37ac47e93479ae2575d8ea01d41618a2d849c5ef6b9281cb637f2fdf0f", checked := Tryz.checked }
namespace Rows
def none {H : Type} : Left H := { results := [], args := [] }

/- WHAT THE LISTED PACKAGE-LEVEL VARIABLES READ AS WHEN THE CALL BEGINS. Each datum BY PROGRAM (the guide's laid-datum.mjs) off the statement by which the dump's own 'gosem.cut.vars' lays the variable. In a bare row this is a premise. The card (YtpplkjhgggjaoaaGreatDoorCards.lean) ties it to the program's text. -/
def laid_signatory_policies_kinds {H : Type} : DataW H := .iface "func table" (.agg [.iface "func" (.lit (.string [115, 105, 103, 110, 97, 116, 111, 114, 121, 47, 112, 111, 108, 105, 99, 105, 101, 115, 46, 107, 105, 110, 100, 115, 36, 49])), .iface "func" (.lit (.string [115, 105, 103, 110, 97, 116, 111, 114, 121, 47, 112, 111, 108, 105, 99, 105, 101, 115, 46, 107, 105, 110, 100, 115, 36, 50])), .iface "func" (.lit (.string [115, 105, 103, 110, 97, 116, 111, 114, 121, 47, 112, 111, 108, 105, 99, 105, 101, 115, 46, 107, 105, 110, 100, 115, 36, 51])), .iface "func" (.lit (.string [115, 105, 103, 110, 97, 116, 111, 114, 121, 47, 112, 111, 108, 105, 99, 105, 101, 115, 46, 107, 105, 110, 100, 115, 36, 52])), .iface "func" (.lit (.string [115, 105, 103, 110, 97, 116, 111, 114, 121, 47, 112, 111, 108, 105, 99, 105, 101, 115, 46, 107, 105, 110, 100, 115, 36, 53]))])

/-- 'signatorylaw30.JudgeSpec': WHATEVER THE INPUT: true; the input reads as it did. -/
def judgeSpecSpec : ChangeSpec := { name := "judgeSpec", fn := fun _ => fun
  | [d1, d2, d3, d4, d5, d6] => { results := [.lit (.bool true)], args := [d1, d2, d3, d4, d5, d6] }
  | _ => none }
def judgeSpecRow : OpenClaim := { program := "ytpplkjhgggjaoaagreatdoor", sum := "67202b37ac47e93479ae2575d8ea01d41618a2d849c5ef6b9281cb637f2fdf0f", func := "signatory/signatorylaw30.JudgeSpec", spec := "judgeSpec", inPlace := ["internal/bytealg.IndexByteString"], unfollowed := true, recurses := true, named := ["signatory/policies.kinds"], loops := true, plainKeys := false, apart := false, laid := [("signatory/policies.kinds", laid_signatory_policies_kinds)] }
def JudgeSpecSaid : Prop := judgeSpecRow.holds Tryz.pinned (OpenSpec.ofChange judgeSpecSpec)

/-- ITS FALSE NEIGHBOUR: 'it returns false'. Refute it at one input. -/
def judgeSpecWrong : ChangeSpec := { name := "judgeSpec", fn := fun _ => fun
  | [d1, d2, d3, d4, d5, d6] => { results := [.lit (.bool false)], args := [d1, d2, d3, d4, d5, d6] }
  | _ => none }
def JudgeSpecWrongFalsely : Prop := judgeSpecRow.holds Tryz.pinned (OpenSpec.ofChange judgeSpecWrong)

/-- 'signatorylaw30.JudgePeopleSpec': WHATEVER THE INPUT: true; the input reads as it did. -/
def judgePeopleSpecSpec : ChangeSpec := { name := "judgePeopleSpec", fn := fun _ => fun
  | [d1, d2, d3, d4, d5] => { results := [.lit (.bool true)], args := [d1, d2, d3, d4, d5] }
  | _ => none }
def judgePeopleSpecRow : OpenClaim := { program := "ytpplkjhgggjaoaagreatdoor", sum := "67202b37ac47e93479ae2575d8ea01d41618a2d849c5ef6b9281cb637f2fdf0f", func := "signatory/signatorylaw30.JudgePeopleSpec", spec := "judgePeopleSpec", inPlace := ["internal/bytealg.IndexByteString"], unfollowed := true, recurses := true, named := ["signatory/policies.kinds"], loops := true, plainKeys := false, apart := false, laid := [("signatory/policies.kinds", laid_signatory_policies_kinds)] }
def JudgePeopleSpecSaid : Prop := judgePeopleSpecRow.holds Tryz.pinned (OpenSpec.ofChange judgePeopleSpecSpec)

/-- ITS FALSE NEIGHBOUR: 'it returns false'. Refute it at one input. -/
def judgePeopleSpecWrong : ChangeSpec := { name := "judgePeopleSpec", fn := fun _ => fun
  | [d1, d2, d3, d4, d5] => { results := [.lit (.bool false)], args := [d1, d2, d3, d4, d5] }
  | _ => none }
def JudgePeopleSpecWrongFalsely : Prop := judgePeopleSpecRow.holds Tryz.pinned (OpenSpec.ofChange judgePeopleSpecWrong)

/-- 'signatorylaw30.JudgeExactly': WHATEVER THE INPUT: true; the input reads as it did. -/
def judgeExactlySpec : ChangeSpec := { name := "judgeExactly", fn := fun _ => fun
  | [d1, d2, d3, d4, d5, d6] => { results := [.lit (.bool true)], args := [d1, d2, d3, d4, d5, d6] }
  | _ => none }
def judgeExactlyRow : OpenClaim := { program := "ytpplkjhgggjaoaagreatdoor", sum := "67202b37ac47e93479ae2575d8ea01d41618a2d849c5ef6b9281cb637f2fdf0f", func := "signatory/signatorylaw30.JudgeExactly", spec := "judgeExactly", inPlace := ["internal/bytealg.IndexByteString"], unfollowed := true, recurses := true, named := ["signatory/policies.kinds"], loops := true, plainKeys := false, apart := false, laid := [("signatory/policies.kinds", laid_signatory_policies_kinds)] }
def JudgeExactlySaid : Prop := judgeExactlyRow.holds Tryz.pinned (OpenSpec.ofChange judgeExactlySpec)

/-- ITS FALSE NEIGHBOUR: 'it returns false'. Refute it at one input. -/
def judgeExactlyWrong : ChangeSpec := { name := "judgeExactly", fn := fun _ => fun
  | [d1, d2, d3, d4, d5, d6] => { results := [.lit (.bool false)], args := [d1, d2, d3, d4, d5, d6] }
  | _ => none }
def JudgeExactlyWrongFalsely : Prop := judgeExactlyRow.holds Tryz.pinned (OpenSpec.ofChange judgeExactlyWrong)

/-- 'signatorylaw30.JudgeReason': WHATEVER THE INPUT: true; the input reads as it did. -/
def judgeReasonSpec : ChangeSpec := { name := "judgeReason", fn := fun _ => fun
  | [d1, d2, d3, d4, d5] => { results := [.lit (.bool true)], args := [d1, d2, d3, d4, d5] }
  | _ => none }
def judgeReasonRow : OpenClaim := { program := "ytpplkjhgggjaoaagreatdoor", sum := "67202b37ac47e93479ae2575d8ea01d41618a2d849c5ef6b9281cb637f2fdf0f", func := "signatory/signatorylaw30.JudgeReason", spec := "judgeReason", inPlace := ["internal/bytealg.IndexByteString"], unfollowed := true, recurses := true, named := ["signatory/policies.kinds"], loops := true, plainKeys := false, apart := false, laid := [("signatory/policies.kinds", laid_signatory_policies_kinds)] }
def JudgeReasonSaid : Prop := judgeReasonRow.holds Tryz.pinned (OpenSpec.ofChange judgeReasonSpec)

/-- ITS FALSE NEIGHBOUR: 'it returns false'. Refute it at one input. -/
def judgeReasonWrong : ChangeSpec := { name := "judgeReason", fn := fun _ => fun
  | [d1, d2, d3, d4, d5] => { results := [.lit (.bool false)], args := [d1, d2, d3, d4, d5] }
  | _ => none }
def JudgeReasonWrongFalsely : Prop := judgeReasonRow.holds Tryz.pinned (OpenSpec.ofChange judgeReasonWrong)

/-- 'signatorylaw30.JudgeKnown': WHATEVER THE INPUT: true; the input reads as it did. -/
def judgeKnownSpec : ChangeSpec := { name := "judgeKnown", fn := fun _ => fun
  | [d1, d2, d3, d4, d5, d6] => { results := [.lit (.bool true)], args := [d1, d2, d3, d4, d5, d6] }
  | _ => none }
def judgeKnownRow : OpenClaim := { program := "ytpplkjhgggjaoaagreatdoor", sum := "67202b37ac47e93479ae2575d8ea01d41618a2d849c5ef6b9281cb637f2fdf0f", func := "signatory/signatorylaw30.JudgeKnown", spec := "judgeKnown", inPlace := ["internal/bytealg.IndexByteString"], unfollowed := true, recurses := true, named := ["signatory/policies.kinds"], loops := true, plainKeys := false, apart := false, laid := [("signatory/policies.kinds", laid_signatory_policies_kinds)] }
def JudgeKnownSaid : Prop := judgeKnownRow.holds Tryz.pinned (OpenSpec.ofChange judgeKnownSpec)

/-- ITS FALSE NEIGHBOUR: 'it returns false'. Refute it at one input. -/
def judgeKnownWrong : ChangeSpec := { name := "judgeKnown", fn := fun _ => fun
  | [d1, d2, d3, d4, d5, d6] => { results := [.lit (.bool false)], args := [d1, d2, d3, d4, d5, d6] }
  | _ => none }
def JudgeKnownWrongFalsely : Prop := judgeKnownRow.holds Tryz.pinned (OpenSpec.ofChange judgeKnownWrong)

/-- 'signatorylaw30.JudgeMore': WHATEVER THE INPUT: true; the input reads as it did. -/
def judgeMoreSpec : ChangeSpec := { name := "judgeMore", fn := fun _ => fun
  | [d1, d2, d3, d4, d5, d6, d7] => { results := [.lit (.bool true)], args := [d1, d2, d3, d4, d5, d6, d7] }
  | _ => none }
def judgeMoreRow : OpenClaim := { program := "ytpplkjhgggjaoaagreatdoor", sum := "67202b37ac47e93479ae2575d8ea01d41618a2d849c5ef6b9281cb637f2fdf0f", func := "signatory/signatorylaw30.JudgeMore", spec := "judgeMore", inPlace := ["internal/bytealg.IndexByteString", "slices.overlaps[signatory/api.Approval]"], unfollowed := true, recurses := true, named := ["signatory/policies.kinds"], loops := true, plainKeys := false, apart := false, laid := [("signatory/policies.kinds", laid_signatory_policies_kinds)] }
def JudgeMoreSaid : Prop := judgeMoreRow.holds Tryz.pinned (OpenSpec.ofChange judgeMoreSpec)

/-- ITS FALSE NEIGHBOUR: 'it returns false'. Refute it at one input. -/
def judgeMoreWrong : ChangeSpec := { name := "judgeMore", fn := fun _ => fun
  | [d1, d2, d3, d4, d5, d6, d7] => { results := [.lit (.bool false)], args := [d1, d2, d3, d4, d5, d6, d7] }
  | _ => none }
def JudgeMoreWrongFalsely : Prop := judgeMoreRow.holds Tryz.pinned (OpenSpec.ofChange judgeMoreWrong)

/- THE SECOND FORM. 'bulk': how many values and letters a reading holds, each counted each time it is reached (what is shared counts as often as it is met; a slice's spare places count too). A statement '..UptoSaid' is the law's where the arguments, and the package variables that the reading takes, are together of bulk at most 1048576: NARROWER than '..Said'. Prove '..Said' where nothing that the law and all that it calls make is longer than what came in: it says more and counts as full. Else prove '..UptoSaid'. A law counts once. -/
mutual
def uptoBulk {H : Type} : DataW H → Nat
  | .lit (.string bytes) => bytes.length + 1
  | .lit _ => 1
  | .nil => 1
  | .ptr d => uptoBulk d + 1
  | .slice elems spare => uptoBulkAll elems + uptoBulkAll spare + 1
  | .agg parts => uptoBulkAll parts + 1
  | .iface _ d => uptoBulk d + 1
  | .map entries => uptoBulkEntries entries + 1
  | .held _ => 1
def uptoBulkAll {H : Type} : List (DataW H) → Nat
  | [] => 0
  | d :: r => uptoBulk d + uptoBulkAll r
def uptoBulkEntries {H : Type} : List (Lit × DataW H) → Nat
  | [] => 0
  | x :: r => uptoBulkEntry x + uptoBulkEntries r
def uptoBulkEntry {H : Type} : Lit × DataW H → Nat
  | (.string bytes, d) => bytes.length + uptoBulk d + 1
  | (_, d) => uptoBulk d + 1
 end
def uptoSmall : (H : Type) → List (DataW H) → Bool := fun _ ds => decide (uptoBulkAll ds ≤ 1048576)
def OpenSpec.upto (s : _root_.Go.ChangeSpec) : _root_.Go.OpenSpec := { _root_.Go.OpenSpec.ofChange s with cond := some uptoSmall }

/-- 'signatorylaw30.JudgeSpec', WHERE WHAT IT READS IS OF BULK AT MOST 1048576: true; the input reads as it did. -/
def judgeSpecUptoRow : OpenClaim := { program := "ytpplkjhgggjaoaagreatdoor", sum := "67202b37ac47e93479ae2575d8ea01d41618a2d849c5ef6b9281cb637f2fdf0f", func := "signatory/signatorylaw30.JudgeSpec", spec := "judgeSpec", inPlace := ["internal/bytealg.IndexByteString"], unfollowed := true, recurses := true, named := ["signatory/policies.kinds"], loops := true, plainKeys := false, apart := false, laid := [("signatory/policies.kinds", laid_signatory_policies_kinds)], narrowed := true }
def JudgeSpecUptoSaid : Prop := judgeSpecUptoRow.holds Tryz.pinned (OpenSpec.upto judgeSpecSpec)

/-- 'signatorylaw30.JudgePeopleSpec', WHERE WHAT IT READS IS OF BULK AT MOST 1048576: true; the input reads as it did. -/
def judgePeopleSpecUptoRow : OpenClaim := { program := "ytpplkjhgggjaoaagreatdoor", sum := "67202b37ac47e93479ae2575d8ea01d41618a2d849c5ef6b9281cb637f2fdf0f", func := "signatory/signatorylaw30.JudgePeopleSpec", spec := "judgePeopleSpec", inPlace := ["internal/bytealg.IndexByteString"], unfollowed := true, recurses := true, named := ["signatory/policies.kinds"], loops := true, plainKeys := false, apart := false, laid := [("signatory/policies.kinds", laid_signatory_policies_kinds)], narrowed := true }
def JudgePeopleSpecUptoSaid : Prop := judgePeopleSpecUptoRow.holds Tryz.pinned (OpenSpec.upto judgePeopleSpecSpec)

/-- 'signatorylaw30.JudgeExactly', WHERE WHAT IT READS IS OF BULK AT MOST 1048576: true; the input reads as it did. -/
def judgeExactlyUptoRow : OpenClaim := { program := "ytpplkjhgggjaoaagreatdoor", sum := "67202b37ac47e93479ae2575d8ea01d41618a2d849c5ef6b9281cb637f2fdf0f", func := "signatory/signatorylaw30.JudgeExactly", spec := "judgeExactly", inPlace := ["internal/bytealg.IndexByteString"], unfollowed := true, recurses := true, named := ["signatory/policies.kinds"], loops := true, plainKeys := false, apart := false, laid := [("signatory/policies.kinds", laid_signatory_policies_kinds)], narrowed := true }
def JudgeExactlyUptoSaid : Prop := judgeExactlyUptoRow.holds Tryz.pinned (OpenSpec.upto judgeExactlySpec)

/-- 'signatorylaw30.JudgeReason', WHERE WHAT IT READS IS OF BULK AT MOST 1048576: true; the input reads as it did. -/
def judgeReasonUptoRow : OpenClaim := { program := "ytpplkjhgggjaoaagreatdoor", sum := "67202b37ac47e93479ae2575d8ea01d41618a2d849c5ef6b9281cb637f2fdf0f", func := "signatory/signatorylaw30.JudgeReason", spec := "judgeReason", inPlace := ["internal/bytealg.IndexByteString"], unfollowed := true, recurses := true, named := ["signatory/policies.kinds"], loops := true, plainKeys := false, apart := false, laid := [("signatory/policies.kinds", laid_signatory_policies_kinds)], narrowed := true }
def JudgeReasonUptoSaid : Prop := judgeReasonUptoRow.holds Tryz.pinned (OpenSpec.upto judgeReasonSpec)

/-- 'signatorylaw30.JudgeKnown', WHERE WHAT IT READS IS OF BULK AT MOST 1048576: true; the input reads as it did. -/
def judgeKnownUptoRow : OpenClaim := { program := "ytpplkjhgggjaoaagreatdoor", sum := "67202b37ac47e93479ae2575d8ea01d41618a2d849c5ef6b9281cb637f2fdf0f", func := "signatory/signatorylaw30.JudgeKnown", spec := "judgeKnown", inPlace := ["internal/bytealg.IndexByteString"], unfollowed := true, recurses := true, named := ["signatory/policies.kinds"], loops := true, plainKeys := false, apart := false, laid := [("signatory/policies.kinds", laid_signatory_policies_kinds)], narrowed := true }
def JudgeKnownUptoSaid : Prop := judgeKnownUptoRow.holds Tryz.pinned (OpenSpec.upto judgeKnownSpec)

/-- 'signatorylaw30.JudgeMore', WHERE WHAT IT READS IS OF BULK AT MOST 1048576: true; the input reads as it did. -/
def judgeMoreUptoRow : OpenClaim := { program := "ytpplkjhgggjaoaagreatdoor", sum := "67202b37ac47e93479ae2575d8ea01d41618a2d849c5ef6b9281cb637f2fdf0f", func := "signatory/signatorylaw30.JudgeMore", spec := "judgeMore", inPlace := ["internal/bytealg.IndexByteString", "slices.overlaps[signatory/api.Approval]"], unfollowed := true, recurses := true, named := ["signatory/policies.kinds"], loops := true, plainKeys := false, apart := false, laid := [("signatory/policies.kinds", laid_signatory_policies_kinds)], narrowed := true }
def JudgeMoreUptoSaid : Prop := judgeMoreUptoRow.holds Tryz.pinned (OpenSpec.upto judgeMoreSpec)

end Rows
end Go.Proofs.YtpplkjhgggjaoaaGreatDoor
