import Derived.Test.YtngiefchigcphaaGreatDoorRows
import Derived.JoinedCond
import Derived.KernelRfl
/- A part of the proof of the law AsofMore: where what it reads holds at most 1048576 values and letters, the call returns true and its arguments read as they did. Conditions: that bound, and that the listed table starts as the program lays it. -/
set_option linter.unusedVariables false
set_option linter.unusedSimpArgs false
namespace Go.Proofs.YtngiefchigcphaaGreatDoor.asofMore
set_option maxRecDepth 100000
theorem closed:joinedFacts Tryz.prog 7 Tryz.f7 (Rows.OpenSpec.upto Rows.asofMoreSpec).bare Rows.asofMoreUptoRow=true:=by kernel_rfl
end Go.Proofs.YtngiefchigcphaaGreatDoor.asofMore
