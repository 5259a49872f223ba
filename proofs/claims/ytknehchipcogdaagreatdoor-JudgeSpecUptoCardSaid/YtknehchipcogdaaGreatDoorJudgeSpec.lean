import Derived.Test.YtknehchipcogdaaGreatDoorJ12
import Derived.Test.YtknehchipcogdaaGreatDoorJ13
/- The law JudgeSpec: where what it reads holds at most 1048576 values and letters, the call returns true and leaves its arguments. Conditions: that bound; the listed table starts as the program lays it. -/
set_option linter.unusedVariables false
set_option linter.unusedSimpArgs false
set_option maxRecDepth 100000
namespace Go.Proofs.YtknehchipcogdaaGreatDoor.judgeSpec
open Go.ChangeShapes Go.WideShapes Go.ChangeAt Go.RowKit
theorem saidUpto:Rows.JudgeSpecUptoSaid:=
  OpenClaim.holds_of_cond 3 Tryz.f3 rfl rfl rfl rfl rfl rfl rfl ⟨rfl,rfl,rfl,rfl,rfl⟩ rfl rfl rfl rfl rfl (by kernel_rfl) Tryz.func3 closed
    (of_decide_eq_true (by kernel_rfl)) (by unfold Func.isWrapper;first|(rw[if_pos (by decide +kernel)];kernel_rfl)|(rw[if_neg (by decide +kernel)];exact⟨rfl,rfl⟩))
    (λos started H enc _ F=>by rw[OpenClaim.pre_eq_preRow];exact liftedUpto os started H enc F)
theorem plain(f:FuncId)(fn:Func)(hf:Tryz.pinned.checked.prog.funcNamed Rows.judgeSpecUptoRow.func=some f)(hfn:Tryz.pinned.checked.prog.funcs[f]? = some fn):
    true=Tryz.pinned.checked.prog.looks []/\∀(j:Nat)t,fn.params[j]? = some t->Tryz.pinned.checked.prog.wantsStandIn t=false:=by
  obtain rfl:f=3:=Option.some.inj ((show Tryz.prog.funcNamed Rows.judgeSpecUptoRow.func=some 3 by kernel_rfl).symm.trans hf) |>.symm
  obtain rfl:fn=Tryz.f3:=(Option.some.inj (Tryz.func3.symm.trans hfn)).symm
  refine⟨by kernel_rfl,λj t ht=>?_⟩
  rw[Tryz.params3]at ht
  have:=Array.mem_of_getElem? ht
  simp only[List.mem_toArray,List.mem_cons,List.not_mem_nil,or_false]at this
  rcases this with rfl|rfl|rfl|rfl|rfl|rfl
  . exact(show Tryz.prog.wantsStandIn 30=false by kernel_rfl)
  . exact(show Tryz.prog.wantsStandIn 31=false by kernel_rfl)
  . exact(show Tryz.prog.wantsStandIn 32=false by kernel_rfl)
  . exact(show Tryz.prog.wantsStandIn 3=false by kernel_rfl)
  . exact(show Tryz.prog.wantsStandIn 3=false by kernel_rfl)
  . exact(show Tryz.prog.wantsStandIn 3=false by kernel_rfl)
theorem cardWf:Rows.judgeSpecUptoRow.wfByText (Rows.OpenSpec.upto Rows.judgeSpecSpec)=true:=by kernel_rfl
theorem cardMain : Tryz.pinned.checked.prog.mainIs = some (true, "3ce46800a2263c7865924bf41656929e64b98c4d9ff7a161d484f320abcc1c56".toList) := by kernel_rfl
theorem SU{c:OpenClaim}{P:Program}(hs:c.start=.entering)(h:P.funcs.toList.any Func.goes=false):false=c.goesBy P:=by
  have ha:∀fn∈P.funcs.toList,fn.goes=false:=by
    intro fn hm;cases hg:fn.goes with
    |false=>rfl
    |true=>rw[List.any_eq_true.2 ⟨fn,hm,hg⟩]at h;cases h
  have hx:∀f,P.goes f=false:=by
    intro f
    unfold Program.goes
    rw[←Array.any_toList,h,Bool.and_false,Bool.or_false]
    rw[List.any_eq_false]
    intro g _
    cases e:P.funcs[g]? with
    |none=>simp
    |some fn=>
      have hm:fn∈P.funcs.toList:=by
        rw[Array.mem_toList_iff];exact Array.mem_of_getElem? e
      simp[ha fn hm]
  unfold OpenClaim.goesBy Program.goesAt Program.goesFrom
  rw[hs]
  cases P.funcNamed c.func with
  |none=>rfl
  |some f=>simp[hx f]
theorem cardGoes:false=Rows.judgeSpecUptoRow.goesBy Tryz.pinned.checked.prog:=SU rfl (by kernel_rfl)
theorem cardUpto:Rows.JudgeSpecUptoCardSaid:=
  Claim7.holds_tied_plain_at .later [] _ _ _ _ saidUpto (λ_ h=>by cases h) cardWf (λ_ h=>by cases h) judgeSpecUpto_row_tie rfl ⟨rfl,rfl⟩ cardMain rfl plain cardGoes
end Go.Proofs.YtknehchipcogdaaGreatDoor.judgeSpec
