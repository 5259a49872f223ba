import Derived.ProofKit
import Derived.OpenShut
import Derived.Deep.DeepHandedRow
import Derived.LaidHandle
import Derived.Test.YtngiefchigcphaaGreatDoorW1
import Derived.Test.YtngiefchigcphaaGreatDoorW2
import Derived.Test.YtngiefchigcphaaGreatDoorW3
import Derived.Test.YtngiefchigcphaaGreatDoorW4
import Derived.Test.YtngiefchigcphaaGreatDoorW5
import Derived.Test.YtngiefchigcphaaGreatDoorW6
import Derived.Test.YtngiefchigcphaaGreatDoorW7
import Derived.Test.YtngiefchigcphaaGreatDoorW8
import Derived.Test.YtngiefchigcphaaGreatDoorW9
import Derived.Test.YtngiefchigcphaaGreatDoorW10
import Derived.Test.YtngiefchigcphaaGreatDoorW11
import Derived.Test.YtngiefchigcphaaGreatDoorW12
import Derived.Test.YtngiefchigcphaaGreatDoorW13
import Derived.Test.YtngiefchigcphaaGreatDoorW14
import Derived.Test.YtngiefchigcphaaGreatDoorW15
/- A part of the proof of the law AsofMore: where what it reads holds at most 1048576 values and letters, the call returns true and its arguments read as they did. Conditions: that bound, and that the listed table starts as the program lays it. -/
set_option linter.unusedVariables false
set_option linter.unusedSimpArgs false
namespace Go.Proofs.YtngiefchigcphaaGreatDoor.asofMore
open Go.ChangeShapes Go.WideShapes Go.ChangeAt Go.RowKit
set_option maxRecDepth 100000
set_option linter.unusedVariables false
noncomputable def laidWorld (os:Os):World:=
  { World.holding Tryz.prog os ⟨#[],#[],[]⟩ with heap:=(World.holding Tryz.prog os ⟨#[],#[],[]⟩).heap.modify 0 fun
      | .cells _ t frozen=>.cells Sg.kindsC.toArray t frozen
      | o=>o }
def wargs:Array Value:=#[.agg #[.slice .none 0 0,.slice .none 0 0,.slice .none 0 0,.slice .none 0 0,.slice .none 0 0,.slice .none 0 0,.slice .none 0 0],.int .i64 0,.slice .none 0 0,.int .u8 0,.int .i64 0,.int .i64 0]
theorem laid_met (os:Os):laidMetH Tryz.prog Rows.asofMoreUptoRow.laid ((laidWorld os).forCall (fun _ _=>0) ⟨#[],wargs,[]⟩).memory:=
  laidMetH_of_parts3 (fuel:=8) (laidMet_of_run' 8 (by kernel_rfl) (by kernel_rfl)) (by kernel_rfl) (by kernel_rfl)
theorem reads (os:Os) {H:Type} (enc:TypeId×Value→H):∃ places,DataW.whole enc Tryz.prog ((laidWorld os).forCall (fun _ _=>0) ⟨#[],wargs,[]⟩).memory Tryz.f7.params.toList Rows.asofMoreSpec.vars false wargs.toList 8=some ([.agg [.nil,.nil,.nil,.nil,.nil,.nil,.nil],.lit (.int .i64 0),.nil,.lit (.int .u8 0),.lit (.int .i64 0),.lit (.int .i64 0)],[],places):=
  ⟨[],by kernel_rfl⟩
theorem liftedUpto (os:Os) (started:os.Started) (H:Type) (enc:TypeId×Value→H) (F:Stop.Interp):
    ReturnsInHanded {} Tryz.checked os 7 .any ((Rows.OpenSpec.upto Rows.asofMoreSpec).preRow enc Tryz.prog Tryz.f7 Rows.asofMoreUptoRow.domain false Rows.asofMoreUptoRow.laid) (((Rows.OpenSpec.upto Rows.asofMoreSpec).at F).post enc Tryz.prog Tryz.f7 false true false false):=by
  obtain ⟨places,hx⟩:=reads os enc
  refine returnsInHanded_of_row (C:=Tryz.checked) (s:=Rows.OpenSpec.upto Rows.asofMoreSpec) own started (by kernel_rfl) Tryz.func7
    (witness_row_at (enc:=enc) (C:=Tryz.checked) false (laidWorld os) wargs rfl (by kernel_rfl) (by kernel_rfl) (by kernel_rfl)
      (OpenSpec.preRow_of_cond 8 hx (by kernel_rfl) (fun k hk=>by cases hk;kernel_rfl) (by kernel_rfl) (laid_met os))) ?_
  intro W base args ds gs before hval hW _ hcond _ hL _ _
  exact contract H enc W base args ds gs before hval hW (hcond _ rfl) hL
end Go.Proofs.YtngiefchigcphaaGreatDoor.asofMore
