import Derived.Test.YtngiefchigcphaaGreatDoorRows
import Derived.JoinedCond
import Derived.KernelRfl
/- A part of the proof of AsofSpec. -/
set_option linter.unusedVariables false
set_option linter.unusedSimpArgs false
set_option maxRecDepth 100000
namespace Go.Proofs.YtngiefchigcphaaGreatDoor.asofSpec
theorem closed:joinedFacts Tryz.prog 3 Tryz.f3 (Rows.OpenSpec.upto Rows.asofSpecSpec).bare Rows.asofSpecUptoRow=true:=by kernel_rfl
end Go.Proofs.YtngiefchigcphaaGreatDoor.asofSpec
