import Derived.Test.YtknehchipcogdaaGreatDoorRows
import Derived.JoinedCond
import Derived.KernelRfl
/- A part of the proof of JudgeSpec. -/
set_option linter.unusedVariables false
set_option linter.unusedSimpArgs false
set_option maxRecDepth 100000
namespace Go.Proofs.YtknehchipcogdaaGreatDoor.judgeSpec
def Cj0(P:Program)(f:FuncId)(fn:Func)(s:ChangeSpec)(c:OpenClaim):Bool:=(c.inPlace==P.inPlace f)&&(c.unfollowed==P.unfollowed f)&&(c.recurses==P.recurses f)&&(c.named==P.varsNamed f)
def Cj1(P:Program)(f:FuncId)(fn:Func)(s:ChangeSpec)(c:OpenClaim):Bool:=laidOutB P&&mapsRowed P
def Cj2(P:Program)(f:FuncId)(fn:Func)(s:ChangeSpec)(c:OpenClaim):Bool:=P.mayEnter&&(c.lifted==P.liftsFinal)&&P.stopsHeard
def Cj3(P:Program)(f:FuncId)(fn:Func)(s:ChangeSpec)(c:OpenClaim):Bool:=(P.make==some c.make)&&(c.loops==(fn.params.toList++s.plain.varTypes P).any (P.loopsFrom ·))
def Cj4(P:Program)(f:FuncId)(fn:Func)(s:ChangeSpec)(c:OpenClaim):Bool:=c.wf (OpenSpec.ofChange s)&&fn.params.all (P.readableRec ·)&&namedTie P c.named s.vars&&(c.stops==[])&&(P.stops==[])&&(c.knobs==[])&&(P.stopKnobs==[])&&(c.maps==(fn.params.toList++s.plain.varTypes P).any (P.mapsRec ·))&&(c.ifaces==(fn.params.toList++s.plain.varTypes P).any (P.ifacesRec ·))&&(c.mapsOut==P.mapsAmong fn.resultTypes.toList)&&(c.wideKeys==(fn.params.toList++s.plain.varTypes P++fn.resultTypes.toList).any (P.wideKeysFrom ·))&&s.vars.all (P.varReadable ·)&&fn.resultTypes.all (λt=>P.readableRec t&&decide (t<P.types.size))&&(c.ifacesOut==fn.resultTypes.toList.any (P.ifacesRec ·))&&(c.loopsOut==fn.resultTypes.toList.any (P.loopsFrom ·))&&(c.plainKeys==P.plainKeys)&&c.shortTexts.isNone&&(c.kinds==(if c.domain.isEmpty then[]else fn.params.toList.map λt=>match P.underlying t with|some (.int k)=>some k|_=>none))&&(c.pinned==c.pinnedBy)&&(c.veiled==(fn.params.toList++s.plain.varTypes P++fn.resultTypes.toList).any (P.veiledRec ·))&&c.veiledFits P fn.params.toList (fn.params.toList++s.plain.varTypes P++fn.resultTypes.toList)
theorem SQ(P:Program)(f:FuncId)(fn:Func)(s:ChangeSpec)(c:OpenClaim)(h0:Cj0 P f fn s c=true)(h1:Cj1 P f fn s c=true)(h2:Cj2 P f fn s c=true)(h3:Cj3 P f fn s c=true)(h4:Cj4 P f fn s c=true):joinedFacts P f fn s c=true:=by
  unfold joinedFacts
  unfold Cj0 Cj1 Cj2 Cj3 Cj4 at *
  simp only[Bool.and_eq_true]at *
  obtain⟨⟨⟨k9,k10⟩,k11⟩,k12⟩:=h0
  obtain⟨k1,k2⟩:=h1
  obtain⟨⟨k25,k26⟩,k24⟩:=h2
  obtain⟨k27,k16⟩:=h3
  obtain⟨⟨⟨⟨⟨⟨⟨⟨⟨⟨⟨⟨⟨⟨⟨⟨⟨⟨⟨⟨k0,k3⟩,k4⟩,k5⟩,k6⟩,k7⟩,k8⟩,k13⟩,k14⟩,k15⟩,k17⟩,k18⟩,k19⟩,k20⟩,k21⟩,k22⟩,k23⟩,k28⟩,k29⟩,k30⟩,k31⟩:=h4
  exact⟨⟨⟨⟨⟨⟨⟨⟨⟨⟨⟨⟨⟨⟨⟨⟨⟨⟨⟨⟨⟨⟨⟨⟨⟨⟨⟨⟨⟨⟨⟨k0,k1⟩,k2⟩,k3⟩,k4⟩,k5⟩,k6⟩,k7⟩,k8⟩,k9⟩,k10⟩,k11⟩,k12⟩,k13⟩,k14⟩,k15⟩,k16⟩,k17⟩,k18⟩,k19⟩,k20⟩,k21⟩,k22⟩,k23⟩,k24⟩,k25⟩,k26⟩,k27⟩,k28⟩,k29⟩,k30⟩,k31⟩
theorem cj0:Cj0 Tryz.prog 3 Tryz.f3 (Rows.OpenSpec.upto Rows.judgeSpecSpec).bare Rows.judgeSpecUptoRow=true:=by kernel_rfl
theorem cj1:Cj1 Tryz.prog 3 Tryz.f3 (Rows.OpenSpec.upto Rows.judgeSpecSpec).bare Rows.judgeSpecUptoRow=true:=by kernel_rfl
theorem cj2:Cj2 Tryz.prog 3 Tryz.f3 (Rows.OpenSpec.upto Rows.judgeSpecSpec).bare Rows.judgeSpecUptoRow=true:=by kernel_rfl
theorem cj3:Cj3 Tryz.prog 3 Tryz.f3 (Rows.OpenSpec.upto Rows.judgeSpecSpec).bare Rows.judgeSpecUptoRow=true:=by kernel_rfl
theorem cj4:Cj4 Tryz.prog 3 Tryz.f3 (Rows.OpenSpec.upto Rows.judgeSpecSpec).bare Rows.judgeSpecUptoRow=true:=by kernel_rfl
theorem closed:joinedFacts Tryz.prog 3 Tryz.f3 (Rows.OpenSpec.upto Rows.judgeSpecSpec).bare Rows.judgeSpecUptoRow=true:=
  SQ _ _ _ _ _ cj0 cj1 cj2 cj3 cj4
end Go.Proofs.YtknehchipcogdaaGreatDoor.judgeSpec
