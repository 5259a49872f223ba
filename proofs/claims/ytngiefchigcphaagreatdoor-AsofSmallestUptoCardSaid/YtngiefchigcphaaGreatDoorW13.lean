import Derived.Test.YtngiefchigcphaaGreatDoorRows
import Derived.JoinedCond
import Derived.KernelRfl
/- A part of the proof of AsofSmallest. -/
set_option linter.unusedVariables false
set_option linter.unusedSimpArgs false
set_option maxRecDepth 100000
namespace Go.Proofs.YtngiefchigcphaaGreatDoor.asofSmallest
theorem closed:joinedFacts Tryz.prog 6 Tryz.f6 (Rows.OpenSpec.upto Rows.asofSmallestSpec).bare Rows.asofSmallestUptoRow=true:=by kernel_rfl
end Go.Proofs.YtngiefchigcphaaGreatDoor.asofSmallest
