import Derived.Test.YtngiefchigcphaaGreatDoorRows
import Derived.JoinedCond
import Derived.KernelRfl
/- A part of the proof of AsofNeededSpec. -/
set_option linter.unusedVariables false
set_option linter.unusedSimpArgs false
set_option maxRecDepth 100000
namespace Go.Proofs.YtngiefchigcphaaGreatDoor.asofNeededSpec
theorem closed:joinedFacts Tryz.prog 4 Tryz.f4 (Rows.OpenSpec.upto Rows.asofNeededSpecSpec).bare Rows.asofNeededSpecUptoRow=true:=by kernel_rfl
end Go.Proofs.YtngiefchigcphaaGreatDoor.asofNeededSpec
