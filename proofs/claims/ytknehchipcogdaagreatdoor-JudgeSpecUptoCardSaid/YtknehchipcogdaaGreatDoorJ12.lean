import Derived.Test.YtknehchipcogdaaGreatDoorJ64
/- Part of JudgeSpec. -/
set_option linter.unusedVariables false
set_option linter.unusedSimpArgs false
set_option maxRecDepth 100000
namespace Go.Proofs.YtknehchipcogdaaGreatDoor.judgeSpec
open Go.ChangeShapes Go.WideShapes Go.ChangeAt Go.RowKit
noncomputable def laidWorld(os:Os):World:=
  { World.holding Tryz.prog os ⟨#[],#[],[]⟩with heap:=(World.holding Tryz.prog os ⟨#[],#[],[]⟩).heap.modify 0 λ
      |.cells _ t frozen=>.cells Sg.kindsC.toArray t frozen
      |o=>o }
def wargs:Array Value:=#[.agg #[.slice .none 0 0,.slice .none 0 0,.slice .none 0 0,.slice .none 0 0,.slice .none 0 0,.slice .none 0 0,.slice .none 0 0],.slice .none 0 0,.slice .none 0 0,.int .i64 0,.int .i64 0,.int .i64 0]
theorem laid_met(os:Os):laidMetH Tryz.prog Rows.judgeSpecUptoRow.laid ((laidWorld os).forCall (λ_ _=>0) ⟨#[],wargs,[]⟩).memory:=
  laidMetH_of_parts3 (fuel:=8) (laidMet_of_run' 8 (by kernel_rfl) (by kernel_rfl)) (by kernel_rfl) (by kernel_rfl)
theorem reads(os:Os){H:Type}(enc:TypeId×Value->H):∃places,DataW.whole enc Tryz.prog ((laidWorld os).forCall (λ_ _=>0) ⟨#[],wargs,[]⟩).memory Tryz.f3.params.toList Rows.judgeSpecSpec.vars false wargs.toList 8=some ([.agg [.nil,.nil,.nil,.nil,.nil,.nil,.nil],.nil,.nil,.lit (.int .i64 0),.lit (.int .i64 0),.lit (.int .i64 0)],[],places):=
  ⟨[],by kernel_rfl⟩
theorem liftedUpto(os:Os)(started:os.Started)(H:Type)(enc:TypeId×Value->H)(F:Stop.Interp):
    ReturnsInHanded {} Tryz.checked os 3 .any ((Rows.OpenSpec.upto Rows.judgeSpecSpec).preRow enc Tryz.prog Tryz.f3 Rows.judgeSpecUptoRow.domain false Rows.judgeSpecUptoRow.laid) (((Rows.OpenSpec.upto Rows.judgeSpecSpec).at F).post enc Tryz.prog Tryz.f3 false true false false):=by
  obtain⟨places,hx⟩:=reads os enc
  refine returnsInHanded_of_row (C:=Tryz.checked) (s:=Rows.OpenSpec.upto Rows.judgeSpecSpec) own started (by kernel_rfl) Tryz.func3
    (witness_row_at (enc:=enc) (C:=Tryz.checked) false (laidWorld os) wargs rfl (by kernel_rfl) (by kernel_rfl) (by kernel_rfl)
      (OpenSpec.preRow_of_cond 8 hx (by kernel_rfl) (λk hk=>by cases hk;kernel_rfl) (by kernel_rfl) (laid_met os))) ?_
  intro W base args ds gs before hval hW _ hcond _ hL _ _
  exact contract H enc W base args ds gs before hval hW (hcond _ rfl) hL
end Go.Proofs.YtknehchipcogdaaGreatDoor.judgeSpec
