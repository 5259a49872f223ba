import Derived.Recover
import Derived.Maps.RangeRun
import Derived.Conc.LoneCalls
import Derived.RangeFuncNested
import Derived.Laws.MakeOwn
import Derived.Test.YtgddeppkkjefjaaGreatDoorW1
/- A part of the proof of AsofJudged. -/
set_option linter.unusedVariables false
set_option linter.unusedSimpArgs false
set_option maxRecDepth 100000
open List renaming length_cons→zA,not_mem_nil→jA,mem_cons_of_mem→vA,length_append→kA,mem_cons_self→zB,mem_cons→qC,append_assoc→qE,mem_of_getElem?→vE,getElem?_eq_getElem→vF,map_cons→kG,getElem?_eq_none→xJ,mem_map→kJ,perm_append_comm→xL,nodup_cons→xN,nodup_nil→kQ,all_eq_true→Si
open Go.Value renaming int→xB
open Bool renaming and_eq_true→jB,false_eq_true→R0
open Go.Sg.Rp renaming int→zC,aO→zH
open Go.Sg.HF renaming le_trans→qF,le_refl→jH,le→kK
open Nat renaming le_refl→xG,lt_or_ge→vK,zero_le→vM,le_trans→jP,le_of_ble_eq_true→kP,blt→zR,lt_of_lt_of_le→SY,ble→T9
open Go.Deferred renaming ofValue→kH
open Go.Obj renaming cells→qJ
open Go.Result renaming andThen_ok→zL
open Go.Sem renaming run_bind→qN,run_pure→S9,run→T7
open Go.Addr renaming add→zT
open Go.Frame renaming enter→RX,atR→SU
open Array renaming ext'→Sd,replicate→Sy,foldl_toList→TW
open Go.Sg.St renaming start→SW,after→S4
open Go.Instr renaming getLoop→Td
open Go.Sg.Env renaming ev→Tz

namespace Go.Sg
variable {A L':LH}{P:Program}{X:Cx}{af:Array Edge}{args cap vs:List Go.Value}{as:Array Operand}{assign body c:Code}{ats:Array TypeId}{b:Frame}{bk:Nat}{ch:List PanicEntry}{ds:List Deferred}{e:Env}{f:FuncId}{fn:Func}{fv it p v:Go.Value}{g x:Operand}{k todo:List Item}{o:Obj}{ops:Array Oper}{pos:String}{ps:List Tmp}{rs:List ResultVar}{ty:TypeId}{α ι κ:Type}{done:List α}{m:List (κ×α)}{xs:List α}
section
def Itr{α : Type}(P:Program)(it:Value)(val:α->HF->List Value->Prop)(xs:List α)(h:HF):Prop:=
 ∃(f0:FuncId)(cap:List Value),it=.func (.func f0) #[] cap.toArray/\(∀args w,(callFunc f0 args).run P w=.ok (.enter f0 args) w)/\MS P it val xs h
theorem Itr.mono{val:α->HF->List Value->Prop}{h h':HF}(i:Itr P it val xs h)(hl:h.le h'):Itr P it val xs h':=
 let ⟨f0,cap,a,b,c⟩:=i;⟨f0,cap,a,b,c.mono hl⟩
theorem rl{val:α->HF->List Value->Prop}{h:HF}(hc:∀args w,(callFunc f args).run P w=.ok (.enter f args) w)(hr:∀(yf:Fn)(ya yb:Array Value)(C:List α->HF->LH->Prop)(Sp:HF->LH->Prop)(Pn:List PanicEntry->HF->LH->Prop)(h':HF)(A:LH),h.le h'->(∀done h1 h2 B,kK h1 h2->C done h1 B->C done h2 B)->(∀h1 h2 B,kK h1 h2->Sp h1 B->Sp h2 B)->(∀ch h1 h2 B,kK h1 h2->Pn ch h1 B->Pn ch h2 B)->C [] h' A ->
   (∀done x rest vs h'' B,xs=done++x::rest->h'.le h''->C done h'' B->val x h'' vs->mN P (.func yf ya yb) vs.toArray h'' B (YR C Sp Pn done x))->nL P f (.func yf ya yb::cap).toArray h' A (ItR C Sp Pn xs)):
  Itr P (.func (.func f) #[] cap.toArray) val xs h:=⟨f,cap,rfl,hc,Px hc hr⟩
theorem yc(r:Nat)(o:Obj)(L M:LH):((r,o)::(L++M)).Perm (L++(r,o)::M):=List.perm_middle.symm
abbrev rdH(l r:Nat)(lp:Loop)(L:LH):LH:=(l,.loop { lp with state:=.busy })::(r,.deferred (some []))::L
theorem jw{n:Nat}{F:List Frame->(Machine->Prop)->Prop}{h:HF}{L:LH}{val:α->HF->List Value->Prop}(rs:List Nat)(hh:ι->HF)(LL:ι->LH)(I:List α->ι->Prop)(JR JX:ι->Prop)(xid:Nat)(Q:List PanicEntry->HF->LH->Prop)(i₀ : ι)(hf:P.funcs[f]? = some fn)(hgv:e.ev g=it)(hit:Itr P it val xs h)(hps:ps.all (λp=>zR p n)=true)(hval:∀x h vs,val x h vs->vs.length=ps.length)(hQm:∀ch h1 h2 B,kK h1 h2->Q ch h1 B->Q ch h2 B)(hh0:hh i₀=h)(hL0:L=LL i₀)(h0:I xs i₀)(round:∀(l r:Nat)(lp:Loop)(x:α)(rest:List α)(vs:List Value)(i:ι)(h':HF)(X':Cx)(FR:List Frame->(Machine->Prop)->Prop),I (x::rest) i->h.le h'->(hh i).le h'->val x h' vs->X'.h0=h'->(∀b∈X'.M,b<X'.w0.heap.size)->lp.state=.ready ->
   (∀i' e' h2,I rest i'->(hh i').le h2->TT P (roundFrame l f) n [] FR e' [] X' h2 (rdH l r lp (LL i'++markB rs))) ->
   (∀i' e' h2 k',JR i'->(hh i').le h2->TT P (roundFrame l f) n (.code .ret::k') FR e' [] X' h2 (rdH l r lp (LL i'++markB rs))) ->
   (∀i' e' h2 k',JX i'->(hh i').le h2->exitTo xid k'=none->TT P (roundFrame l f) n (.code (.exit xid)::k') FR e' [] X' h2 (rdH l r lp (LL i'++markB rs))) ->
   (∀ch e' h' L',Q ch h' L'->TP P (roundFrame l f) n ch FR e' [] X' h' (rdH l r lp (L'++markB rs))) ->
   TT P (roundFrame l f) n [.code assign,.beginRound,.code body] FR (setParams e ps vs) [] X' h' ((l,.loop lp)::(r,.deferred (some []))::(LL i++markB rs)))(next:∀r i h',I [] i->(hh i).le h'->h.le h'->TT P (bodyFrame f) n k F e (marks (r::rs)) X h' (LL i++markB (r::rs)))(jret:∀r i h',JR i->(hh i).le h'->h.le h'->TT P (bodyFrame f) n (.code .ret::k) F e (marks (r::rs)) X h' (LL i++markB (r::rs)))(jexit:∀r i h',JX i->(hh i).le h'->h.le h'->TT P (bodyFrame f) n (.code (.exit xid)::k) F e (marks (r::rs)) X h' (LL i++markB (r::rs)))(pan:∀r ch h' L',Q ch h' L'->h.le h'->TP P (bodyFrame f) n ch F e (marks (r::rs)) X h' (L'++markB (r::rs))):
  TT P (bodyFrame f) n (.code (.rangeFunc g ps.toArray assign body)::k) F e (marks rs) X h (L++markB rs):=by
 obtain⟨f0,cap,rfl,hc0,hit⟩:=hit
 refine Nm (val:=val) (xs:=xs)
  (λdone h' B=>∃rest i,xs=done++rest/\(hh i).le h'/\B=LL i++markB rs/\I rest i)
  (λc h' B=>∃i,(hh i).le h'/\B=LL i++markB rs/\((c=.ret/\JR i)\/(c=.exit xid/\JX i)))
  (λch h' B=>∃L',B=L'++markB rs/\Q ch h' L') hgv hc0 hit hps hval ?_ ?_ ?_ ⟨xs,i₀,rfl,hh0▸jH _,by rw[hL0],h0⟩ ?_ ?_ ?_ ?_
 .rintro done h1 h2 B hl ⟨rest,i,a,b,c⟩;exact⟨rest,i,a,qF b hl,c⟩
 .rintro c h1 h2 B hl ⟨i,a,b⟩;exact⟨i,qF a hl,b⟩
 .rintro ch h1 h2 B hl ⟨L',e1,a⟩;exact⟨L',e1,hQm _ _ _ _ hl a⟩
 .rintro l r lp done x rest vs h' L' X' hxs hle ⟨rest',i,hxs',hhi,rfl,hI⟩ hv hlp hX' hXM
  have hrest:rest'=x::rest:=List.append_cancel_left (hxs'.symm.trans hxs)
  subst hrest
  refine round l r lp x rest vs i h' X' _ hI hle hhi hv hX' hXM hlp ?_ ?_ ?_ ?_
  .intro i' e' h2 hI' hl
   exact Hr rfl ⟨rest,i',by rw[hxs];simp,hl,rfl,hI'⟩
  .intro i' e' h2 k' hJ hl
   exact Qn rfl ⟨i',hl,rfl,.inl ⟨rfl,hJ⟩⟩
  .intro i' e' h2 k' hJ hl hx
   exact Pj hx rfl ⟨i',hl,rfl,.inr ⟨rfl,hJ⟩⟩
  .intro ch e' h' L' hQ
   exact Qo hf ⟨L',rfl,hQ⟩
 .rintro r h' L' hle ⟨rest,i,hxs,hl,rfl,hI⟩
  have hrest:rest=[]:=by
   have h2:=congrArg List.length hxs
   rw[kA]at h2
   exact List.length_eq_zero_iff.1 (by omega)
  subst hrest
  exact oo (yc r _ _ _) (next r i h' hI hl hle)
 .rintro r c h' L' hle ⟨i,hl,rfl,⟨rfl,hJ⟩|⟨rfl,hJ⟩⟩
  .exact oo (yc r _ _ _) (jret r i h' hJ hl hle)
  .exact oo (yc r _ _ _) (jexit r i h' hJ hl hle)
 .rintro r ch h' L' hle ⟨L',rfl,hQ⟩
  exact Li (yc r _ _ _) (pan r ch h' L' hQ hle)
section yield
variable {P:Program} {b:Frame} {n:Nat} {ops:Array Oper} {F:List Frame->(Machine->Prop)->Prop} {e:Env} {ds:List Deferred} {X:Cx} {h:HF} {L:LH} {K:Env->HF->LH->Prop}
variable {d:Option Nat} {ty:TypeId} {pos:String} {af:Array Edge} {g:Option (Nat×Bool)}
theorem j2(Fr A:LH){C:List α->HF->LH->Prop}{Sp:HF->LH->Prop}{Pn:List PanicEntry->HF->LH->Prop}{x:α}{t:Nat}(hL:L=Fr++A)(hs:mN P fv vs.toArray h A (YR C Sp Pn done x))(hf:e t=fv)(hvs:as.toList.map e.ev=vs)(yes:∀h' B,h.le h'->C (done++[x]) h' B->K (pute e d (.bool true)) h' (Fr++B))(no:∀h' B,h.le h'->Sp h' B->K (pute e d (.bool false)) h' (Fr++B))(pan:∀ch h' B,h.le h'->Pn ch h' B->∀e',TP P b n ch F e' ds X h' (Fr++B))(hg:guardB ops e ⟨d,.call ⟨.value (.tmp t),as,ats⟩,ty,pos,af,g⟩=true:=by rfl):
  Stp P b n ops F ds X ⟨d,.call ⟨.value (.tmp t),as,ats⟩,ty,pos,af,g⟩ e h L K:=by
 refine uo Fr A hL hs hf hvs ?_ ?_ hg
 .rintro v h' B hle (⟨e1,hC⟩|⟨e1,hS⟩|⟨ch,e1,_⟩)
  .cases e1;exact yes h' B hle hC
  .cases e1;exact no h' B hle hS
  .cases e1
 .rintro ch h' B hle (⟨e1,_⟩|⟨e1,_⟩|⟨ch',e1,hP⟩)
  .cases e1
  .cases e1
  .cases e1;exact pan ch h' B hle hP
theorem NC(Fr A M:LH){C:List α->HF->LH->Prop}{Sp:HF->LH->Prop}{Pn:List PanicEntry->HF->LH->Prop}{x:α}{t:Nat}(hL:L=Fr++(A++M))(hs:mN P fv vs.toArray h A (YR C Sp Pn done x))(hf:e t=fv)(hvs:as.toList.map e.ev=vs)(yes:∀h' B,h.le h'->C (done++[x]) h' B->K (pute e d (.bool true)) h' (Fr++(B++M)))(no:∀h' B,h.le h'->Sp h' B->K (pute e d (.bool false)) h' (Fr++(B++M)))(pan:∀ch h' B,h.le h'->Pn ch h' B->∀e',TP P b n ch F e' ds X h' (Fr++(B++M)))(hg:guardB ops e ⟨d,.call ⟨.value (.tmp t),as,ats⟩,ty,pos,af,g⟩=true:=by rfl):
  Stp P b n ops F ds X ⟨d,.call ⟨.value (.tmp t),as,ats⟩,ty,pos,af,g⟩ e h L K:=by
 have hp:∀B:LH,((Fr++M)++B).Perm (Fr++(B++M)):=λB=>by
  rw[qE];exact List.Perm.append_left Fr xL
 have key:=j2 (K:=λe' h' L'=>∃L'',L'.Perm L''/\K e' h' L'') (L:=(Fr++M)++A) (P:=P) (b:=b) (n:=n) (ops:=ops) (F:=F) (ds:=ds) (X:=X) (d:=d) (ty:=ty) (pos:=pos) (af:=af) (g:=g) (Fr++M) A rfl hs hf hvs
  (λh' B hl hc=>⟨_,hp B,yes h' B hl hc⟩) (λh' B hl hc=>⟨_,hp B,no h' B hl hc⟩) (λch h' B hl hc e'=>Li (hp B) (pan ch h' B hl hc e')) hg
 unfold Stp at key ⊢
 rw[if_pos hg]at key ⊢
 intro w hw
 subst hL
 have h1:=key w (hw.perm (hp A).symm)
 revert h1
 have up:∀e',∀w'':World,(∃h' L',St X h' L' w''/\∃L'',L'.Perm L''/\K e' h' L'')->∃h' L',St X h' L' w''/\K e' h' L':=by
  rintro e' w'' ⟨h',L',hst,L'',hpm,hk⟩;exact⟨h',L'',hst.perm hpm,hk⟩
 intro h1
 cases hr:(execOp e.ev ⟨d,.call ⟨.value (.tmp t),as,ats⟩,ty,pos,af,g⟩).run P w with
 |ok nx w'=>
  rw[hr]at h1
  cases nx with
  |skip=>exact up _ _ h1
  |value v=>exact up _ _ h1
  |enter f args=>
   unfold uJ at h1 ⊢
   refine uL.mono (nx:=.enter f args) h1 ?_
   intro x w'' hx
   cases x with
   |returned v=>exact up _ _ hx
   |panicked ch=>exact hx
   |outgrown=>trivial
  |round l f tmps assign body=>
   unfold uJ at h1 ⊢
   refine uL.mono (nx:=.round l f tmps assign body) h1 ?_
   intro x w'' hx
   cases x with
   |returned v=>exact up _ _ hx
   |panicked ch=>exact hx
   |outgrown=>trivial
  |_=>exact h1
 |halt hlt w'=>
  rw[hr]at h1
  cases hlt<;>first|exact h1|exact h1.elim
end yield
theorem iN{n:Nat}{h:HF}{R:Ending->HF->LH->Prop}(hf:P.funcs[f]? = some fn)(hb:fn.body=some c)(hn:fn.ntmps=n)(hle:T9 args.length n=true)(t:∀X:Cx,(∀b∈X.M,b<X.w0.heap.size)->X.h0=h->TT P (bodyFrame f) n [.code c] (mm P X R) (envArgs args) [] X h A):nL P f args.toArray h A R:=by
 intro w p caller cs Φ h1 h2
 have hle:=kP hle
 have henter:RX P f args.toArray .normal=(bodyFrame f).atR { tmps:=args.toArray++Sy (n-args.length) undef,defers:=[] } [.code c]:=by
  simp[RX,SU,hf,hb,hn,bodyFrame]
 rw[henter]
 exact t ⟨w,h,A.map (·.1)⟩ (λb hb=>by obtain⟨p',hp',rfl⟩:=kJ.1 hb;exact fD (p.own p' hp')) rfl w (SW p) _ (caller::cs) Φ (by simp;omega) (oG _ _) rfl ⟨caller,cs,rfl,h1,h2⟩
theorem NF{n:Nat}{F:List Frame->(Machine->Prop)->Prop}{h:HF}{L:LH}{K:Env->HF->LH->Prop}{d:Option Nat}{g:Option (Nat×Bool)}{t:TypeId}(hXM:∀b∈X.M,b<X.w0.heap.size)(t':∀bk,bk∉X.M->K (pute e d (.map (some bk))) h ((bk,.map #[] 0)::L))(hg:guardB ops e ⟨d,.makeMap t none,ty,pos,af,g⟩=true:=by rfl):Stp P b n ops F ds X ⟨d,.makeMap t none,ty,pos,af,g⟩ e h L K:=
 iM hg λw hw=>⟨_,_,h,_,by simp[execOp,Instr.makeMap],hw.alloc _,t' _ (λhm=>by have:=hXM _ hm;have:=hw.size;omega)⟩
section freezeN
variable {P:Program} {b:Frame} {n:Nat} {k:List Item} {F:List Frame->(Machine->Prop)->Prop} {e:Env} {ds:List Deferred} {X:Cx} {h:HF} {L:LH} {ops:Array Oper} {l:List Oper}
theorem DO(i:Nat)(hi:nth L i=some (bk,o))(hM:bk∉X.M)(t:∀h2,h.le h2->h2 bk=some o->TO P b n ops l k F e ds X h2 (dropNth L i)):TO P b n ops l k F e ds X h L:=by
 intro w hw
 have h1:=hw.perm (px L i _ hi)
 exact t _ (HF.zt (h1.free (bk,o) (by simp))) (HF.uH _ _ _) w (h1.freeze hM)
end freezeN
def re{κ α : Type}(enc:κ->Value)(V:HF->Value->α->Prop)(h:HF)(bk:Nat)(m:List (κ×α)):Prop:=∃o,h bk=some o/\ia enc V h o m
theorem re.mono{enc:κ->Value}{V:HF->Value->α->Prop}{h h':HF}(c:re enc V h bk m)(hV:yW V)(hl:h.le h'):re enc V h' bk m:=
 let ⟨o,a,b⟩:=c;⟨o,hl _ _ a,b.mono hV hl⟩
section ends
variable {α : Type} {P:Program} {f:FuncId} {n:Nat} {k:List Item} {e:Env} {X:Cx} {h:HF} {L:LH} {fn:Func} {C:List α->HF->LH->Prop} {Sp:HF->LH->Prop} {Pn:List PanicEntry->HF->LH->Prop} {xs:List α}
theorem mi(rs:List Nat)(hf:P.funcs[f]? = some fn)(hr:fn.results=#[])(hA:A.Sublist L)(hR:C xs h A\/Sp h A):TT P (bodyFrame f) n (.code .ret::k) (mm P X (ItR C Sp Pn xs)) e (marks rs) X h (L++markB rs):=
 uM rs hf (λa _ w _=>lK hr a w) (λw hw=>hw.sub hA) (.inl ⟨rfl,hR⟩)
theorem rm(rs:List Nat)(hf:P.funcs[f]? = some fn)(hr:fn.results=#[])(hA:A.Sublist L)(hR:C xs h A\/Sp h A):TT P (bodyFrame f) n [] (mm P X (ItR C Sp Pn xs)) e (marks rs) X h (L++markB rs):=
 Lh rs hf (λa _ w _=>lK hr a w) (λw hw=>hw.sub hA) (.inl ⟨rfl,hR⟩)
theorem mC(rs:List Nat)(hf:P.funcs[f]? = some fn)(hA:A.Sublist L)(hR:Pn ch h A):TP P (bodyFrame f) n ch (mm P X (ItR C Sp Pn xs)) e (marks rs) X h (L++markB rs):=
 Hf rs hf (λw hw=>hw.sub hA) (.inr ⟨ch,rfl,hR⟩)
end ends
section ends2
variable {P:Program} {f:FuncId} {n:Nat} {k:List Item} {e:Env} {X:Cx} {h:HF} {L:LH} {fn:Func} {φ : Value->HF->Prop}
theorem dQ{F:List Frame->(Machine->Prop)->Prop}(t:TT P b n todo F e (marks []) X h (L++markB [])):TT P b n todo F e [] X h L:=by
 have:L++markB []=L:=by simp[markB]
 rw[this]at t;exact t
theorem cu{F:List Frame->(Machine->Prop)->Prop}(hL:L=L')(t:TT P b n todo F e ds X h L'):TT P b n todo F e ds X h L:=hL▸t
theorem oX(ms:List Nat)(vs:List Value)(hf:P.funcs[f]? = some fn)(hr:fn.results=rs.toArray)(hv:tM P e L rs vs)(hφ : φ (retVal vs) h):
  TT P (bodyFrame f) n (.code .ret::k) (mm P X (λx h' B=>B=[]/\∃v,x=.returned v/\φ v h')) e (marks ms) X h (L++markB ms):=
 uM ms (v:=retVal vs) hf (λa he w hw=>nO hr hv a he w hw) (λ_ hw=>hw.sub (List.nil_sublist _)) ⟨rfl,_,rfl,hφ⟩
theorem rY(ms:List Nat){hh:HF}(vs:List Value)(hf:P.funcs[f]? = some fn)(hr:fn.results=rs.toArray)(hX:X.h0=hh)(hv:tM P e L rs vs)(hvv:retVal vs=v):
  TT P (bodyFrame f) n (.code .ret::k) (mm P X (λx h' B=>x=.returned v/\h'=hh/\B=[])) e (marks ms) X h (L++markB ms):=
 uM ms (v:=v) hf (λa he w hw=>hvv▸nO hr hv a he w hw) (λ_ hw=>hw.forget) ⟨rfl,hX,rfl⟩
def XR(v:Except Value Value)(hh:HF)(x:Ending)(h':HF)(B:LH):Prop:=
 h'=hh/\B=[]/\match v with
  |.ok u=>x=.returned u
  |.error p=>x=.panicked [{ v:=p,recovered:=false }]
abbrev F5(P:Program)(f:FuncId)(args:List Value)(h:HF)(v:Except Value Value):Prop:=nL P f args.toArray h [] (XR v h)
theorem xO(ms:List Nat){v:Except Value Value}{hh:HF}(vs:List Value)(hf:P.funcs[f]? = some fn)(hr:fn.results=rs.toArray)(hX:X.h0=hh)(hv:tM P e L rs vs)(hvv:v=.ok (retVal vs)):
  TT P (bodyFrame f) n [] (mm P X (XR v hh)) e (marks ms) X h (L++markB ms):=
 Lh ms (v:=retVal vs) hf (λa he w hw=>nO hr hv a he w hw) (λ_ hw=>hw.forget) (by subst hvv;exact⟨hX,rfl,rfl⟩)
theorem nM(ms:List Nat){v:Except Value Value}{hh:HF}(hf:P.funcs[f]? = some fn)(hX:X.h0=hh)(hvv:v=.error p):
  TP P (bodyFrame f) n [{ v:=p,recovered:=false }] (mm P X (XR v hh)) e (marks ms) X h (L++markB ms):=
 Hf ms hf (λ_ hw=>hw.forget) (by subst hvv;exact⟨hX,rfl,rfl⟩)
theorem gk{F:List Frame->(Machine->Prop)->Prop}(t:TP P b n ch F e (marks []) X h (L++markB [])):TP P b n ch F e [] X h L:=by
 have:L++markB []=L:=by simp[markB]
 rw[this]at t;exact t
end ends2
section stepsX
variable {P:Program} {b:Frame} {n:Nat} {ops:Array Oper} {F:List Frame->(Machine->Prop)->Prop} {e:Env} {ds:List Deferred} {X:Cx} {h:HF} {L:LH} {K:Env->HF->LH->Prop}
variable {d:Option Nat} {ty:TypeId} {pos:String} {af:Array Edge} {g:Option (Nat×Bool)}
theorem mS{v:Except Value Value}(hc:∀args w,(callFunc f args).run P w=.ok (.enter f args) w)(hs:F5 P f vs h v)(hvs:as.toList.map e.ev=vs)(t':∀u,v=.ok u->K (pute e d u) h L)(tp:∀p,v=.error p->∀e',TP P b n [{ v:=p,recovered:=false }] F e' ds X h L)(hg:guardB ops e ⟨d,.call ⟨.value (.func f),as,ats⟩,ty,pos,af,g⟩=true:=by rfl):
  Stp P b n ops F ds X ⟨d,.call ⟨.value (.func f),as,ats⟩,ty,pos,af,g⟩ e h L K:=
 D1 (A:=[]) (Fr:=L) hc hvs hs rfl (λv' h' B _ hR=>by
   obtain⟨rfl,rfl,hv⟩:=hR
   cases v with
   |ok u=>cases hv;exact t' _ rfl
   |error p=>cases hv)
  (λch h' B _ hR=>by
   obtain⟨rfl,rfl,hv⟩:=hR
   cases v with
   |ok u=>cases hv
   |error p=>cases hv;exact λe' _=>tp _ rfl e') hg
theorem xX{P:Program}{t:TypeId}(w:World):(Instr.panic (.iface t v)).run P w=.halt (.panic (.iface t v)) w:=by simp[Instr.panic,goPanic]
theorem Dx{t:TypeId}{T:TypeDesc}(hT:P.underlying t=some T)(hi:(match T with|.interface _=>false|_=>true)=true)(hx:e.ev x=v):
  ∀w,St X h L w->(execOp e.ev ⟨d,.makeInterface t x,ty,pos,af,g⟩).run P w=.ok (.value (.iface t v)) w:=λw _=>by
 cases T<;>simp_all [execOp,Instr.makeInterface,run_underlying hT]
theorem Dt(hx:e.ev x=p)(hp:∀w:World,(Instr.panic p).run P w=.halt (.panic p) w)(tp:∀e',TP P b n [{ v:=p,recovered:=false }] F e' ds X h L)(hg:guardB ops e ⟨d,.panic x,ty,pos,af,g⟩=true:=by rfl):Stp P b n ops F ds X ⟨d,.panic x,ty,pos,af,g⟩ e h L K:=by
 unfold Stp
 rw[if_pos hg]
 intro w hw
 have:(execOp e.ev ⟨d,.panic x,ty,pos,af,g⟩).run P w=.halt (.panic p) w:=by
  simp[execOp,hx,hp]
 rw[this]
 exact⟨h,L,hw,λe' _=>tp e'⟩
end stepsX
end
variable {a r:Bool}{cl:List Go.Value}{fs:List Field}{ix y:Operand}{l:List Oper}{off:Nat}{s:ByteArray}{u:TypeId}
section
def eqv:Option Value->Option Value->Bool
 |some (.int _ a),some (.int _ b)=>a==b
 |some (.bool a),some (.bool b)=>a==b
 |_,_=>false
def okF(P:Program)(xs ys:List Value)(f:Field):Bool:=
 !(f.name == "_") && (match tySz P f.type with|some (1, false) => true|_ => false) && (match P.underlying f.type, nth xs f.offset, nth ys f.offset with
  |some (.int _),some (.int j _),some (.int k _)=>decide (j=k)
  |some .bool,some (.bool _),some (.bool _)=>true
  |_,_,_=>false)
theorem rP{t:TypeId}{xs:List Value}(hT:tySz P t=some (1,false))(hv:nth xs off=some v)(w:World):(part t xs.toArray off).run P w=.ok v w:=by
 rw[hZ]at hv
 simp[part,DJ hT,iz hT,hv]
theorem GF{xs ys:List Value}{f:Field}(h : okF P xs ys f = true) : f.name ≠ "_" /\ tySz P f.type = some (1, false) /\
  ((∃k j a b,P.underlying f.type=some (.int k)/\nth xs f.offset=some (.int j a)/\nth ys f.offset=some (.int j b))\/∃a b,P.underlying f.type=some .bool/\nth xs f.offset=some (.bool a)/\nth ys f.offset=some (.bool b)):=by
 unfold okF at h
 rw[jB,jB]at h
 obtain⟨⟨hn,ht⟩,hv⟩:=h
 refine⟨by simpa using hn,?_,?_⟩
 .split at ht
  .assumption
  .cases ht
 .split at hv
  .rename_i h1 h2 h3
   have:=of_decide_eq_true hv
   subst this
   exact .inl ⟨_,_,_,_,h1,h2,h3⟩
  .rename_i h1 h2 h3
   exact .inr ⟨_,_,h1,h2,h3⟩
  .cases hv
theorem AE{P:Program}{d:Nat}{xs ys:List Value}(w:World):∀(fs:List Field),fs.all (okF P xs ys)=true ->
  (Op.eqFields (d+1) xs.toArray ys.toArray fs).run P w=.ok (fs.all λf=>eqv (nth xs f.offset) (nth ys f.offset)) w
 |[],_=>by simp[Op.eqFields]
 |f::fs,h=>by
  rw[List.all_cons,jB]at h
  obtain⟨h1,h2⟩:=h
  have ih:=AE (d:=d) w fs h2
  obtain⟨hn,hT,⟨k,j,a,b,hu,hx,hy⟩|⟨a,b,hu,hx,hy⟩⟩:=GF h1
  .rw[Op.eqFields,if_pos hn,List.all_cons,hx,hy]
   simp only[qN,rP hT hx,rP hT hy,zL,run_equalIn_int w d _ _ _ _ _ hu,eqv]
   cases hab:(a==b)
   .simp
   .simp only[Bool.not_true,R0,if_false,Bool.true_and];exact ih
  .rw[Op.eqFields,if_pos hn,List.all_cons,hx,hy]
   simp only[qN,rP hT hx,rP hT hy,zL,run_equalIn_bool' w d _ _ _ hu,eqv]
   cases hab:(a==b)
   .simp
   .simp only[Bool.not_true,R0,if_false,Bool.true_and];exact ih
theorem qe{t:TypeId}{xs ys:List Value}(hT:P.underlying t=some (.struct fs.toArray))(hp:P.stoodInHeld t=false)(hok:fs.all (okF P xs ys)=true)(hr:(fs.all λf=>eqv (nth xs f.offset) (nth ys f.offset))=r)(w:World):(Op.equal t (.agg xs.toArray) (.agg ys.toArray)).run P w=.ok r w:=by
 have hf:P.fieldsOf t=fs.toArray:=by simp[Program.fieldsOf,hT]
 have:=run_equalIn_struct (P:=P) w 9999 t xs.toArray ys.toArray (by rw[hf];exact hT) hp
 rw[hf]at this
 rw[Op.equal,Op.maxDepth,this,←hr]
 exact AE w fs hok
theorem sf{t:TypeId}{xs:List Value}(e:Bool)(hT:P.underlying t=some (.struct fs.toArray))(hok:fs.all (okF P xs xs)=true)(w:World):
  (Instr.checkKey e 10000 t (.agg xs.toArray)).run P w=.ok () w:=by
 rw[show(10000:Nat)=9999+1 from rfl,Instr.checkKey]
 simp only[qN,run_underlying hT,zL]
 rw[←Array.forIn_toList]
 simp only
 clear hT
 induction fs with
 |nil=>simp
 |cons f fs ih=>
  rw[List.all_cons,jB]at hok
  have ih:=ih hok.2
  obtain⟨hn,hT,⟨k,j,a,b,hu,hx,hy⟩|⟨a,b,hu,hx,hy⟩⟩:=GF hok.1
  .have hc:(Instr.checkKey e 9999 f.type (.int j a)).run P w=.ok () w:=by
    rw[show(9999:Nat)=9998+1 from rfl,Instr.checkKey]
    simp[run_underlying hu]
   simp only[List.forIn_cons,if_pos hn,qN,rP hT hx,zL,hc,S9]
   simpa using ih
  .have hc:(Instr.checkKey e 9999 f.type (.bool a)).run P w=.ok () w:=by
    rw[show(9999:Nat)=9998+1 from rfl,Instr.checkKey]
    simp[run_underlying hu]
   simp only[List.forIn_cons,if_pos hn,qN,rP hT hx,zL,hc,S9]
   simpa using ih
theorem DT(vs:List Value):∀(cl:List Value),vs.length=cl.length->splice cl 0 vs=vs:=by
 intro cl hl
 have:=um vs [] cl (by omega)
 simp at this
 rw[this,hl]
 simp
theorem aR{n:Nat}{F:List Frame->(Machine->Prop)->Prop}{h:HF}{L:LH}{g:Option (Nat×Bool)}(i:Nat){t:TypeId}{m T:Nat}(hT:tySz P t=some (m,a))(hx:e.ev x=.pointer (some ⟨bk,0,none⟩))(hL:nth L i=some (bk,.cells cl.toArray T (0,0)))(hv:e.ev y=.agg vs.toArray)(hm:vs.length=m)(hc:cl.length=m)(h1:vs.all one=true)(t':TO P b n ops l k F e ds X h (setNth L i (bk,.cells vs.toArray T (0,0))))(hg:guardB ops e ⟨none,.store t x y,ty,pos,af,g⟩=true:=by rfl):TO P b n ops (⟨none,.store t x y,ty,pos,af,g⟩::l) k F e ds X h L:=by
 refine cB i hT hx hL (vs:=vs) (by rw[hv];simp[vcells]) hm (by rw[Nat.zero_add,hm,hc];simp) h1 ?_ hg
 rw[DT vs cl (by rw[hm,hc])]
 exact t'
section runs
variable {P:Program} {e:Env} {X:Cx} {h:HF} {L:LH} {d:Option Nat} {ty:TypeId} {pos:String} {af:Array Edge} {g:Option (Nat×Bool)}
theorem Ls{t:TypeId}{xs ys:Array Value}(hq:∀w,(Op.equal t (.agg xs) (.agg ys)).run P w=.ok r w)(hm:P.eqGuardType P.depth t=false)(hx:e.ev x=.agg xs)(hy:e.ev y=.agg ys):
  ∀w,St X h L w->(execOp e.ev ⟨d,.binOp .eql t x y u,ty,pos,af,g⟩).run P w=.ok (.value (.bool r)) w:=
 λw _=>by
  have h1:=run_eqGuard_agg (P:=P) w .eql t x y xs ys hm
  have h2:=hq w
  simp[execOp,hx,hy,h1,binOp,h2]
theorem Q2{t:TypeId}{xs ys:Array Value}(hq:∀w,(Op.equal t (.agg xs) (.agg ys)).run P w=.ok r w)(hm:P.eqGuardType P.depth t=false)(hx:e.ev x=.agg xs)(hy:e.ev y=.agg ys):
  ∀w,St X h L w->(execOp e.ev ⟨d,.binOp .neq t x y u,ty,pos,af,g⟩).run P w=.ok (.value (.bool (!r))) w:=
 λw _=>by
  have h1:=run_eqGuard_agg (P:=P) w .neq t x y xs ys hm
  have h2:=hq w
  simp[execOp,hx,hy,h1,binOp,h2]
theorem Hs{t:TypeId}{i:Int}(hT:P.underlying t=some .string)(hx:e.ev x=.string s)(hix:e.ev ix=.int .i64 i)(hi:0<=i/\i<(s.size:Int)):
  ∀w,St X h L w->(execOp e.ev ⟨d,.index t x ix,ty,pos,af,g⟩).run P w=.ok (.value (.int .u8 ((s.data.getD i.toNat 0).toNat:Nat))) w:=
 λw _=>by
  obtain⟨n,rfl⟩:=Int.eq_ofNat_of_zero_le hi.1
  have hn:n<s.size:=by omega
  have hn':n<s.data.size:=hn
  simp[execOp,Instr.index,hix,hx,asIntOf,run_underlying hT,hn]
  rfl
end runs
end
section
structure Span where
 From:Int
 Until:Int
deriving DecidableEq
instance:Inhabited Span:=⟨⟨0,0⟩⟩
def Span.cells(x:Span):List Go.Value:=[.int .i64 x.From,.int .i64 x.Until]
abbrev Span.enc(x:Span):Go.Value:=.agg (Span.cells x).toArray
def Span.rp:Rp Span:=⟨2,λ_ cs x=>cs=Span.cells x⟩
theorem Span.av:Span.rp.Mono:=λ_ _ _ _ _ e=>e
theorem Span.eD:Span.rp.Good:=⟨Span.av,λ_ _ _ e=>by cases e;rfl,by decide⟩
structure Holder where
 Person:Int
 Weight:Int
deriving DecidableEq
instance:Inhabited Holder:=⟨⟨0,0⟩⟩
def Holder.cells(x:Holder):List Go.Value:=[.int .i64 x.Person,.int .i64 x.Weight]
abbrev Holder.enc(x:Holder):Go.Value:=.agg (Holder.cells x).toArray
def Holder.rp:Rp Holder:=⟨2,λ_ cs x=>cs=Holder.cells x⟩
theorem Holder.av:Holder.rp.Mono:=λ_ _ _ _ _ e=>e
theorem Holder.eD:Holder.rp.Good:=⟨Holder.av,λ_ _ _ e=>by cases e;rfl,by decide⟩
structure Use where
 Doc:Int
 Kind:Int
 Value:Int
 At:Int
 Known:Int
deriving DecidableEq
instance:Inhabited Use:=⟨⟨0,0,0,0,0⟩⟩
def Use.cells(x:Use):List Go.Value:=[.int .i64 x.Doc,.int .i64 x.Kind,.int .i64 x.Value,.int .i64 x.At,.int .i64 x.Known]
abbrev Use.enc(x:Use):Go.Value:=.agg (Use.cells x).toArray
def Use.rp:Rp Use:=⟨5,λ_ cs x=>cs=Use.cells x⟩
theorem Use.av:Use.rp.Mono:=λ_ _ _ _ _ e=>e
theorem Use.eD:Use.rp.Good:=⟨Use.av,λ_ _ _ e=>by cases e;rfl,by decide⟩
structure Appoint where
 No:Int
 At:Int
 Known:Int
 Office:Int
 Person:Int
 Weight:Int
 Gone:Bool
deriving DecidableEq
instance:Inhabited Appoint:=⟨⟨0,0,0,0,0,0,false⟩⟩
def Appoint.cells(x:Appoint):List Go.Value:=[.int .i64 x.No,.int .i64 x.At,.int .i64 x.Known,.int .i64 x.Office,.int .i64 x.Person,.int .i64 x.Weight,.bool x.Gone]
abbrev Appoint.enc(x:Appoint):Go.Value:=.agg (Appoint.cells x).toArray
def Appoint.rp:Rp Appoint:=⟨7,λ_ cs x=>cs=Appoint.cells x⟩
theorem Appoint.av:Appoint.rp.Mono:=λ_ _ _ _ _ e=>e
theorem Appoint.eD:Appoint.rp.Good:=⟨Appoint.av,λ_ _ _ e=>by cases e;rfl,by decide⟩
structure Deputy where
 No:Int
 At:Int
 Known:Int
 Until:Int
 From:Int
 To:Int
 Office:Int
 Kind:Int
 Most:Int
 Gone:Bool
deriving DecidableEq
instance:Inhabited Deputy:=⟨⟨0,0,0,0,0,0,0,0,0,false⟩⟩
def Deputy.cells(x:Deputy):List Go.Value:=[.int .i64 x.No,.int .i64 x.At,.int .i64 x.Known,.int .i64 x.Until,.int .i64 x.From,.int .i64 x.To,.int .i64 x.Office,.int .i64 x.Kind,.int .i64 x.Most,.bool x.Gone]
abbrev Deputy.enc(x:Deputy):Go.Value:=.agg (Deputy.cells x).toArray
def Deputy.rp:Rp Deputy:=⟨10,λ_ cs x=>cs=Deputy.cells x⟩
theorem Deputy.av:Deputy.rp.Mono:=λ_ _ _ _ _ e=>e
theorem Deputy.eD:Deputy.rp.Good:=⟨Deputy.av,λ_ _ _ e=>by cases e;rfl,by decide⟩
structure Interest where
 No:Int
 At:Int
 Known:Int
 Person:Int
 Party:Int
 Of:Bool
 Gone:Bool
deriving DecidableEq
instance:Inhabited Interest:=⟨⟨0,0,0,0,0,false,false⟩⟩
def Interest.cells(x:Interest):List Go.Value:=[.int .i64 x.No,.int .i64 x.At,.int .i64 x.Known,.int .i64 x.Person,.int .i64 x.Party,.bool x.Of,.bool x.Gone]
abbrev Interest.enc(x:Interest):Go.Value:=.agg (Interest.cells x).toArray
def Interest.rp:Rp Interest:=⟨7,λ_ cs x=>cs=Interest.cells x⟩
theorem Interest.av:Interest.rp.Mono:=λ_ _ _ _ _ e=>e
theorem Interest.eD:Interest.rp.Good:=⟨Interest.av,λ_ _ _ e=>by cases e;rfl,by decide⟩
structure Budget where
 No:Int
 At:Int
 Known:Int
 Kind:Int
 Period:Int
 Count:Int
 Value:Int
 Gone:Bool
deriving DecidableEq
instance:Inhabited Budget:=⟨⟨0,0,0,0,0,0,0,false⟩⟩
def Budget.cells(x:Budget):List Go.Value:=[.int .i64 x.No,.int .i64 x.At,.int .i64 x.Known,.int .i64 x.Kind,.int .i64 x.Period,.int .i64 x.Count,.int .i64 x.Value,.bool x.Gone]
abbrev Budget.enc(x:Budget):Go.Value:=.agg (Budget.cells x).toArray
def Budget.rp:Rp Budget:=⟨8,λ_ cs x=>cs=Budget.cells x⟩
theorem Budget.av:Budget.rp.Mono:=λ_ _ _ _ _ e=>e
theorem Budget.eD:Budget.rp.Good:=⟨Budget.av,λ_ _ _ e=>by cases e;rfl,by decide⟩
structure Approval where
 No:Int
 At:Int
 Known:Int
 Doc:Int
 By:Int
 For:Int
 Office:Int
 Gone:Bool
deriving DecidableEq
instance:Inhabited Approval:=⟨⟨0,0,0,0,0,0,0,false⟩⟩
def Approval.cells(x:Approval):List Go.Value:=[.int .i64 x.No,.int .i64 x.At,.int .i64 x.Known,.int .i64 x.Doc,.int .i64 x.By,.int .i64 x.For,.int .i64 x.Office,.bool x.Gone]
abbrev Approval.enc(x:Approval):Go.Value:=.agg (Approval.cells x).toArray
def Approval.rp:Rp Approval:=⟨8,λ_ cs x=>cs=Approval.cells x⟩
theorem Approval.av:Approval.rp.Mono:=λ_ _ _ _ _ e=>e
theorem Approval.eD:Approval.rp.Good:=⟨Approval.av,λ_ _ _ e=>by cases e;rfl,by decide⟩
inductive Expr where
 |mk (Kind N No:Int) (Name:ByteArray) (L:List Expr)
def Expr.Kind:Expr->Int
 |.mk Kind _ _ _ _=>Kind
def Expr.N:Expr->Int
 |.mk _ N _ _ _=>N
def Expr.No:Expr->Int
 |.mk _ _ No _ _=>No
def Expr.Name:Expr->ByteArray
 |.mk _ _ _ Name _=>Name
def Expr.L:Expr->List Expr
 |.mk _ _ _ _ L=>L
instance:Inhabited Expr:=⟨.mk 0 0 0 ⟨#[]⟩ []⟩
mutual
def Expr.dep:Expr->Nat
 |.mk _ _ _ _ L=>Expr.depL L+1
def Expr.depL:List Expr->Nat
 |[]=>0
 |y::ys=>Expr.dep y+Expr.depL ys
end
theorem Expr.me(x:Expr):0<x.dep:=by cases x;simp[Expr.dep]
theorem Expr.OI{y:Expr}:∀{l:List Expr},y∈l->y.dep<=Expr.depL l
 |z::l,h=>by
  rcases qC.1 h with rfl|h
  .simp[Expr.depL]
  .have:=Expr.OI h;simp[Expr.depL];omega
theorem Expr.I8:∀(l:List Expr),l.length<=Expr.depL l
 |[]=>xG _
 |z::l=>by have:=Expr.I8 l;have:=Expr.me z;simp[Expr.depL];omega
theorem Expr.HJ(x:Expr):x.L.length<x.dep:=by
 cases x with
 |mk a b c d L=>have:=Expr.I8 L;simp[Expr.dep,Expr.L];omega
theorem Expr.iW{x y:Expr}(h:y∈x.L):y.dep<x.dep:=by
 cases x with
 |mk a b c d L=>have:=Expr.OI (l:=L) h;simp[Expr.dep];omega
structure cY where
 mI:Option Addr
 mJ:Nat
def Expr.cells(x:Expr)(r:cY):List Go.Value:=[.int .i64 x.Kind,.int .i64 x.N,.int .i64 x.No,.string x.Name,.slice r.mI x.L.length r.mJ]
inductive Expr.ok(h:HF):Expr->cY->Prop
 |mk (x:Expr) (r:cY) (rs:Nat->cY) (h0:x.L.length<=9223372036854775807/\x.L.length<=r.mJ) (h1:∀(i:Nat)(y:Expr),x.L[i]? = some y->∃p,r.mI=some p/\At h (p.add (i*5)) (Expr.cells y (rs i))) (h2:∀(i:Nat)(y:Expr),x.L[i]? = some y->Expr.ok h y (rs i)):Expr.ok h x r
def Expr.rp:Rp Expr:=⟨5,λh cs x=>∃r,cs=Expr.cells x r/\Expr.ok h x r⟩
theorem Expr.ok.mono{h h':HF}{x:Expr}{r:cY}(a:Expr.ok h x r)(hl:h.le h'):Expr.ok h' x r:=by
 induction a with
 |mk x r rs h0 h1 h2 ih=>exact .mk x r rs h0 (λi y hy=>let ⟨p,e,q⟩:=h1 i y hy;⟨p,e,q.mono hl⟩) (λi y hy=>ih i y hy)
theorem Expr.ok.list{h:HF}{x:Expr}{r:cY}(a:Expr.ok h x r):SlC Expr.rp h r.mI r.mJ x.L:=by
 cases a with
 |mk x r rs h0 h1 h2=>exact⟨⟨h0.1,λi y hy=>let ⟨p,e,q⟩:=h1 i y hy;⟨p,_,e,q,rfl,_,rfl,h2 i y hy⟩⟩,h0.2⟩
theorem Expr.av:Expr.rp.Mono:=λ_ _ _ _ hl⟨r,e,o⟩=>⟨r,e,o.mono hl⟩
theorem Expr.ok.of{h:HF}{x:Expr}{r:cY}(a:SlC Expr.rp h r.mI r.mJ x.L):Expr.ok h x r:=by
 have h1:∀i,∃q:cY,∀y,x.L[i]? = some y->∃p,r.mI=some p/\At h (p.add (i*5)) (Expr.cells y q)/\Expr.ok h y q:=by
  intro i
  cases hy:x.L[i]? with
  |none=>exact⟨⟨none,0⟩,λy e=>by cases e⟩
  |some y=>
   obtain⟨p,cs,e,q,_,r',rfl,o⟩:=a.1.2 i y hy
   exact⟨r',λz ez=>by cases ez;exact⟨p,e,q,o⟩⟩
 obtain⟨rs,hrs⟩:=Classical.axiomOfChoice h1
 exact .mk x r rs ⟨a.1.1,a.2⟩ (λi y hy=>let ⟨p,e,q,_⟩:=hrs i y hy;⟨p,e,q⟩) (λi y hy=>let ⟨_,_,_,o⟩:=hrs i y hy;o)
theorem Expr.eD:Expr.rp.Good:=⟨Expr.av,λ_ _ _⟨_,e,_⟩=>by cases e;rfl,by decide⟩
structure Rule where
 Kind:ByteArray
 KindNo:Int
 Think:Int
 Expr:Expr
instance:Inhabited Rule:=⟨⟨⟨#[]⟩,0,0,default⟩⟩
structure Bx where
 Expr:cY
def Rule.cells(x:Rule)(r:Bx):List Go.Value:=[.string x.Kind,.int .i64 x.KindNo,.int .i64 x.Think,.int .i64 x.Expr.Kind,.int .i64 x.Expr.N,.int .i64 x.Expr.No,.string x.Expr.Name,.slice r.Expr.mI x.Expr.L.length r.Expr.mJ]
structure Rule.ok(h:HF)(x:Rule)(r:Bx):Prop where
 Expr:Expr.ok h x.Expr r.Expr
theorem Rule.ok.mono{h h':HF}{x:Rule}{r:Bx}(a:Rule.ok h x r)(hl:h.le h'):Rule.ok h' x r:=⟨a.Expr.mono hl⟩
def Rule.rp:Rp Rule:=⟨8,λh cs x=>∃r,cs=Rule.cells x r/\Rule.ok h x r⟩
theorem Rule.av:Rule.rp.Mono:=λ_ _ _ _ hl⟨r,e,o⟩=>⟨r,e,o.mono hl⟩
theorem Rule.eD:Rule.rp.Good:=⟨Rule.av,λ_ _ _⟨_,e,_⟩=>by cases e;rfl,by decide⟩
structure Policy where
 Name:ByteArray
 Kinds:List ByteArray
 Offices:List ByteArray
 Rules:List Rule
 Change:Expr
 Mode:Int
instance:Inhabited Policy:=⟨⟨⟨#[]⟩,[],[],[],default,0⟩⟩
structure eU where
 jX:Option Addr
 jW:Nat
 gM:Option Addr
 gL:Nat
 ou:Option Addr
 ot:Nat
 Change:cY
def Policy.cells(x:Policy)(r:eU):List Go.Value:=[.string x.Name,.slice r.jX x.Kinds.length r.jW,.slice r.gM x.Offices.length r.gL,.slice r.ou x.Rules.length r.ot,.int .i64 x.Change.Kind,.int .i64 x.Change.N,.int .i64 x.Change.No,.string x.Change.Name,.slice r.Change.mI x.Change.L.length r.Change.mJ,.int .i64 x.Mode]
structure Policy.ok(h:HF)(x:Policy)(r:eU):Prop where
 Kinds:SlC Rp.str h r.jX r.jW x.Kinds
 Offices:SlC Rp.str h r.gM r.gL x.Offices
 Rules:SlC Rule.rp h r.ou r.ot x.Rules
 Change:Expr.ok h x.Change r.Change
theorem Policy.ok.mono{h h':HF}{x:Policy}{r:eU}(a:Policy.ok h x r)(hl:h.le h'):Policy.ok h' x r:=⟨a.Kinds.mono Rp.ib hl,a.Offices.mono Rp.ib hl,a.Rules.mono Rule.av hl,a.Change.mono hl⟩
def Policy.rp:Rp Policy:=⟨10,λh cs x=>∃r,cs=Policy.cells x r/\Policy.ok h x r⟩
theorem Policy.av:Policy.rp.Mono:=λ_ _ _ _ hl⟨r,e,o⟩=>⟨r,e,o.mono hl⟩
theorem Policy.eD:Policy.rp.Good:=⟨Policy.av,λ_ _ _⟨_,e,_⟩=>by cases e;rfl,by decide⟩
structure Version where
 No:Int
 At:Int
 Known:Int
 Policy:Policy
instance:Inhabited Version:=⟨⟨0,0,0,default⟩⟩
structure pE where
 Policy:eU
def Version.cells(x:Version)(r:pE):List Go.Value:=[.int .i64 x.No,.int .i64 x.At,.int .i64 x.Known,.string x.Policy.Name,.slice r.Policy.jX x.Policy.Kinds.length r.Policy.jW,.slice r.Policy.gM x.Policy.Offices.length r.Policy.gL,.slice r.Policy.ou x.Policy.Rules.length r.Policy.ot,.int .i64 x.Policy.Change.Kind,.int .i64 x.Policy.Change.N,.int .i64 x.Policy.Change.No,.string x.Policy.Change.Name,.slice r.Policy.Change.mI x.Policy.Change.L.length r.Policy.Change.mJ,.int .i64 x.Policy.Mode]
structure Version.ok(h:HF)(x:Version)(r:pE):Prop where
 Policy:Policy.ok h x.Policy r.Policy
theorem Version.ok.mono{h h':HF}{x:Version}{r:pE}(a:Version.ok h x r)(hl:h.le h'):Version.ok h' x r:=⟨a.Policy.mono hl⟩
def Version.rp:Rp Version:=⟨13,λh cs x=>∃r,cs=Version.cells x r/\Version.ok h x r⟩
theorem Version.av:Version.rp.Mono:=λ_ _ _ _ hl⟨r,e,o⟩=>⟨r,e,o.mono hl⟩
theorem Version.eD:Version.rp.Good:=⟨Version.av,λ_ _ _⟨_,e,_⟩=>by cases e;rfl,by decide⟩
structure Document where
 No:Int
 At:Int
 Kind:Int
 Value:Int
 From:Int
 Until:Int
 Parties:List Int
 Revokes:List Int
 Needs:List Int
 Text:Nat->Int
instance:Inhabited Document:=⟨⟨0,0,0,0,0,0,[],[],[],λ_=>0⟩⟩
structure iC where
 rU:Option Addr
 rT:Nat
 oV:Option Addr
 oU:Nat
 yn:Option Addr
 ym:Nat
def Document.cells(x:Document)(r:iC):List Go.Value:=.int .i64 x.No::.int .i64 x.At::.int .i64 x.Kind::.int .i64 x.Value::.int .i64 x.From::.int .i64 x.Until::.slice r.rU x.Parties.length r.rT::.slice r.oV x.Revokes.length r.oU::.slice r.yn x.Needs.length r.ym::.int .u8 (x.Text 0)::.int .u8 (x.Text 1)::.int .u8 (x.Text 2)::.int .u8 (x.Text 3)::.int .u8 (x.Text 4)::.int .u8 (x.Text 5)::.int .u8 (x.Text 6)::.int .u8 (x.Text 7)::.int .u8 (x.Text 8)::.int .u8 (x.Text 9)::.int .u8 (x.Text 10)::.int .u8 (x.Text 11)::.int .u8 (x.Text 12)::.int .u8 (x.Text 13)::.int .u8 (x.Text 14)::.int .u8 (x.Text 15)::.int .u8 (x.Text 16)::.int .u8 (x.Text 17)::.int .u8 (x.Text 18)::.int .u8 (x.Text 19)::.int .u8 (x.Text 20)::.int .u8 (x.Text 21)::.int .u8 (x.Text 22)::.int .u8 (x.Text 23)::.int .u8 (x.Text 24)::.int .u8 (x.Text 25)::.int .u8 (x.Text 26)::.int .u8 (x.Text 27)::.int .u8 (x.Text 28)::.int .u8 (x.Text 29)::.int .u8 (x.Text 30)::.int .u8 (x.Text 31)::[]
structure Document.ok(h:HF)(x:Document)(r:iC):Prop where
 Parties:SlC zC h r.rU r.rT x.Parties
 Revokes:SlC zC h r.oV r.oU x.Revokes
 Needs:SlC zC h r.yn r.ym x.Needs
theorem Document.ok.mono{h h':HF}{x:Document}{r:iC}(a:Document.ok h x r)(hl:h.le h'):Document.ok h' x r:=⟨a.Parties.mono zH hl,a.Revokes.mono zH hl,a.Needs.mono zH hl⟩
def Document.rp:Rp Document:=⟨41,λh cs x=>∃r,cs=Document.cells x r/\Document.ok h x r⟩
theorem Document.av:Document.rp.Mono:=λ_ _ _ _ hl⟨r,e,o⟩=>⟨r,e,o.mono hl⟩
theorem Document.eD:Document.rp.Good:=⟨Document.av,λ_ _ _⟨_,e,_⟩=>by cases e;rfl,by decide⟩
structure Register where
 Appoints:List Appoint
 Deputies:List Deputy
 Interests:List Interest
 Budgets:List Budget
 Versions:List Version
 Docs:List Document
 Approvals:List Approval
instance:Inhabited Register:=⟨⟨[],[],[],[],[],[],[]⟩⟩
structure eN where
 lO:Option Addr
 lN:Nat
 mp:Option Addr
 mn:Nat
 mg:Option Addr
 mf:Nat
 m8:Option Addr
 m7:Nat
 kc:Option Addr
 kb:Nat
 uk:Option Addr
 uj:Nat
 lA:Option Addr
 ly:Nat
def Register.cells(x:Register)(r:eN):List Go.Value:=[.slice r.lO x.Appoints.length r.lN,.slice r.mp x.Deputies.length r.mn,.slice r.mg x.Interests.length r.mf,.slice r.m8 x.Budgets.length r.m7,.slice r.kc x.Versions.length r.kb,.slice r.uk x.Docs.length r.uj,.slice r.lA x.Approvals.length r.ly]
structure Register.ok(h:HF)(x:Register)(r:eN):Prop where
 Appoints:SlC Appoint.rp h r.lO r.lN x.Appoints
 Deputies:SlC Deputy.rp h r.mp r.mn x.Deputies
 Interests:SlC Interest.rp h r.mg r.mf x.Interests
 Budgets:SlC Budget.rp h r.m8 r.m7 x.Budgets
 Versions:SlC Version.rp h r.kc r.kb x.Versions
 Docs:SlC Document.rp h r.uk r.uj x.Docs
 Approvals:SlC Approval.rp h r.lA r.ly x.Approvals
theorem Register.ok.mono{h h':HF}{x:Register}{r:eN}(a:Register.ok h x r)(hl:h.le h'):Register.ok h' x r:=⟨a.Appoints.mono Appoint.av hl,a.Deputies.mono Deputy.av hl,a.Interests.mono Interest.av hl,a.Budgets.mono Budget.av hl,a.Versions.mono Version.av hl,a.Docs.mono Document.av hl,a.Approvals.mono Approval.av hl⟩
def Register.rp:Rp Register:=⟨7,λh cs x=>∃r,cs=Register.cells x r/\Register.ok h x r⟩
theorem Register.av:Register.rp.Mono:=λ_ _ _ _ hl⟨r,e,o⟩=>⟨r,e,o.mono hl⟩
theorem Register.eD:Register.rp.Good:=⟨Register.av,λ_ _ _⟨_,e,_⟩=>by cases e;rfl,by decide⟩
structure iv where
 State:Int
 Budget:Int
 Versions:List Int
 Who:List Int
instance:Inhabited iv:=⟨⟨0,0,[],[]⟩⟩
structure sS where
 kc:Option Addr
 kb:Nat
 Qa:Option Addr
 P9:Nat
def iv.cells(x:iv)(r:sS):List Go.Value:=[.int .i64 x.State,.int .i64 x.Budget,.slice r.kc x.Versions.length r.kb,.slice r.Qa x.Who.length r.P9]
structure iv.ok(h:HF)(x:iv)(r:sS):Prop where
 Versions:SlC zC h r.kc r.kb x.Versions
 Who:SlC zC h r.Qa r.P9 x.Who
theorem iv.ok.mono{h h':HF}{x:iv}{r:sS}(a:iv.ok h x r)(hl:h.le h'):iv.ok h' x r:=⟨a.Versions.mono zH hl,a.Who.mono zH hl⟩
def iv.rp:Rp iv:=⟨4,λh cs x=>∃r,cs=iv.cells x r/\iv.ok h x r⟩
theorem iv.av:iv.rp.Mono:=λ_ _ _ _ hl⟨r,e,o⟩=>⟨r,e,o.mono hl⟩
theorem iv.eD:iv.rp.Good:=⟨iv.av,λ_ _ _⟨_,e,_⟩=>by cases e;rfl,by decide⟩
structure OSeat where
 office:Int
 person:Int
deriving DecidableEq
instance:Inhabited OSeat:=⟨⟨0,0⟩⟩
def OSeat.cells(x:OSeat):List Go.Value:=[.int .i64 x.office,.int .i64 x.person]
abbrev OSeat.enc(x:OSeat):Go.Value:=.agg (OSeat.cells x).toArray
def OSeat.rp:Rp OSeat:=⟨2,λ_ cs x=>cs=OSeat.cells x⟩
theorem OSeat.av:OSeat.rp.Mono:=λ_ _ _ _ _ e=>e
theorem OSeat.eD:OSeat.rp.Good:=⟨OSeat.av,λ_ _ _ e=>by cases e;rfl,by decide⟩
structure dL where
 person:Int
 party:Int
 of:Bool
deriving DecidableEq
instance:Inhabited dL:=⟨⟨0,0,false⟩⟩
def dL.cells(x:dL):List Go.Value:=[.int .i64 x.person,.int .i64 x.party,.bool x.of]
abbrev dL.enc(x:dL):Go.Value:=.agg (dL.cells x).toArray
def dL.rp:Rp dL:=⟨3,λ_ cs x=>cs=dL.cells x⟩
theorem dL.av:dL.rp.Mono:=λ_ _ _ _ _ e=>e
theorem dL.eD:dL.rp.Good:=⟨dL.av,λ_ _ _ e=>by cases e;rfl,by decide⟩
structure gN where
 path:List Int
 to:Int
instance:Inhabited gN:=⟨⟨[],0⟩⟩
structure LZ where
 wU:Option Addr
 zj:Nat
def gN.cells(x:gN)(r:LZ):List Go.Value:=[.slice r.wU x.path.length r.zj,.int .i64 x.to]
structure gN.ok(h:HF)(x:gN)(r:LZ):Prop where
 path:SlC zC h r.wU r.zj x.path
theorem gN.ok.mono{h h':HF}{x:gN}{r:LZ}(a:gN.ok h x r)(hl:h.le h'):gN.ok h' x r:=⟨a.path.mono zH hl⟩
def gN.rp:Rp gN:=⟨2,λh cs x=>∃r,cs=gN.cells x r/\gN.ok h x r⟩
theorem gN.av:gN.rp.Mono:=λ_ _ _ _ hl⟨r,e,o⟩=>⟨r,e,o.mono hl⟩
theorem gN.eD:gN.rp.Good:=⟨gN.av,λ_ _ _⟨_,e,_⟩=>by cases e;rfl,by decide⟩
structure aY where
 value:Int
 holders:List (List Holder)
 who:List Int
instance:Inhabited aY:=⟨⟨0,[],[]⟩⟩
structure iH where
 li:Option Addr
 lh:Nat
 gF:Option Addr
 gE:Nat
def aY.cells(x:aY)(r:iH):List Go.Value:=[.int .i64 x.value,.slice r.li x.holders.length r.lh,.slice r.gF x.who.length r.gE]
structure aY.ok(h:HF)(x:aY)(r:iH):Prop where
 holders:SlC (Rp.sl Holder.rp) h r.li r.lh x.holders
 who:SlC zC h r.gF r.gE x.who
theorem aY.ok.mono{h h':HF}{x:aY}{r:iH}(a:aY.ok h x r)(hl:h.le h'):aY.ok h' x r:=⟨a.holders.mono (Rp.tb Holder.av) hl,a.who.mono zH hl⟩
def aY.rp:Rp aY:=⟨3,λh cs x=>∃r,cs=aY.cells x r/\aY.ok h x r⟩
theorem aY.av:aY.rp.Mono:=λ_ _ _ _ hl⟨r,e,o⟩=>⟨r,e,o.mono hl⟩
theorem aY.eD:aY.rp.Good:=⟨aY.av,λ_ _ _⟨_,e,_⟩=>by cases e;rfl,by decide⟩
structure gq where
 x:Expr
 depth:Int
instance:Inhabited gq:=⟨⟨default,0⟩⟩
structure Ch where
 x:cY
def gq.cells(x:gq)(r:Ch):List Go.Value:=[.int .i64 x.x.Kind,.int .i64 x.x.N,.int .i64 x.x.No,.string x.x.Name,.slice r.x.mI x.x.L.length r.x.mJ,.int .i64 x.depth]
structure gq.ok(h:HF)(x:gq)(r:Ch):Prop where
 x:Expr.ok h x.x r.x
theorem gq.ok.mono{h h':HF}{x:gq}{r:Ch}(a:gq.ok h x r)(hl:h.le h'):gq.ok h' x r:=⟨a.x.mono hl⟩
def gq.rp:Rp gq:=⟨6,λh cs x=>∃r,cs=gq.cells x r/\gq.ok h x r⟩
theorem gq.av:gq.rp.Mono:=λ_ _ _ _ hl⟨r,e,o⟩=>⟨r,e,o.mono hl⟩
theorem gq.eD:gq.rp.Good:=⟨gq.av,λ_ _ _⟨_,e,_⟩=>by cases e;rfl,by decide⟩
structure sU where
 e:Int
deriving DecidableEq
instance:Inhabited sU:=⟨⟨0⟩⟩
def sU.cells(x:sU):List Go.Value:=[.int .i64 x.e]
abbrev sU.enc(x:sU):Go.Value:=.agg (sU.cells x).toArray
def sU.rp:Rp sU:=⟨1,λ_ cs x=>cs=sU.cells x⟩
theorem sU.av:sU.rp.Mono:=λ_ _ _ _ _ e=>e
theorem sU.eD:sU.rp.Good:=⟨sU.av,λ_ _ _ e=>by cases e;rfl,by decide⟩
structure aD where
 Register:Register
 doc:Document
 known:Int
instance:Inhabited aD:=⟨⟨default,default,0⟩⟩
structure gK where
 Register:eN
 doc:iC
def aD.cells(x:aD)(r:gK):List Go.Value:=.slice r.Register.lO x.Register.Appoints.length r.Register.lN::.slice r.Register.mp x.Register.Deputies.length r.Register.mn::.slice r.Register.mg x.Register.Interests.length r.Register.mf::.slice r.Register.m8 x.Register.Budgets.length r.Register.m7::.slice r.Register.kc x.Register.Versions.length r.Register.kb::.slice r.Register.uk x.Register.Docs.length r.Register.uj::.slice r.Register.lA x.Register.Approvals.length r.Register.ly::.int .i64 x.doc.No::.int .i64 x.doc.At::.int .i64 x.doc.Kind::.int .i64 x.doc.Value::.int .i64 x.doc.From::.int .i64 x.doc.Until::.slice r.doc.rU x.doc.Parties.length r.doc.rT::.slice r.doc.oV x.doc.Revokes.length r.doc.oU::.slice r.doc.yn x.doc.Needs.length r.doc.ym::.int .u8 (x.doc.Text 0)::.int .u8 (x.doc.Text 1)::.int .u8 (x.doc.Text 2)::.int .u8 (x.doc.Text 3)::.int .u8 (x.doc.Text 4)::.int .u8 (x.doc.Text 5)::.int .u8 (x.doc.Text 6)::.int .u8 (x.doc.Text 7)::.int .u8 (x.doc.Text 8)::.int .u8 (x.doc.Text 9)::.int .u8 (x.doc.Text 10)::.int .u8 (x.doc.Text 11)::.int .u8 (x.doc.Text 12)::.int .u8 (x.doc.Text 13)::.int .u8 (x.doc.Text 14)::.int .u8 (x.doc.Text 15)::.int .u8 (x.doc.Text 16)::.int .u8 (x.doc.Text 17)::.int .u8 (x.doc.Text 18)::.int .u8 (x.doc.Text 19)::.int .u8 (x.doc.Text 20)::.int .u8 (x.doc.Text 21)::.int .u8 (x.doc.Text 22)::.int .u8 (x.doc.Text 23)::.int .u8 (x.doc.Text 24)::.int .u8 (x.doc.Text 25)::.int .u8 (x.doc.Text 26)::.int .u8 (x.doc.Text 27)::.int .u8 (x.doc.Text 28)::.int .u8 (x.doc.Text 29)::.int .u8 (x.doc.Text 30)::.int .u8 (x.doc.Text 31)::.int .i64 x.known::[]
structure aD.ok(h:HF)(x:aD)(r:gK):Prop where
 Register:Register.ok h x.Register r.Register
 doc:Document.ok h x.doc r.doc
theorem aD.ok.mono{h h':HF}{x:aD}{r:gK}(a:aD.ok h x r)(hl:h.le h'):aD.ok h' x r:=⟨a.Register.mono hl,a.doc.mono hl⟩
def aD.rp:Rp aD:=⟨49,λh cs x=>∃r,cs=aD.cells x r/\aD.ok h x r⟩
theorem aD.av:aD.rp.Mono:=λ_ _ _ _ hl⟨r,e,o⟩=>⟨r,e,o.mono hl⟩
theorem aD.eD:aD.rp.Good:=⟨aD.av,λ_ _ _⟨_,e,_⟩=>by cases e;rfl,by decide⟩
structure gB where
 docs:List Document
 at_:List (Int×Int)
instance:Inhabited gB:=⟨⟨[],[]⟩⟩
structure nS where
 Ff:Option Addr
 Fe:Nat
 JQ:Nat
def gB.cells(x:gB)(r:nS):List Go.Value:=[.slice r.Ff x.docs.length r.Fe,.map (some r.JQ)]
structure gB.ok(h:HF)(x:gB)(r:nS):Prop where
 docs:SlC Document.rp h r.Ff r.Fe x.docs
 at_:re (xB .i64) vo h r.JQ x.at_
theorem gB.ok.mono{h h':HF}{x:gB}{r:nS}(a:gB.ok h x r)(hl:h.le h'):gB.ok h' x r:=⟨a.docs.mono Document.av hl,a.at_.mono vo.mono hl⟩
def gB.rp:Rp gB:=⟨2,λh cs x=>∃r,cs=gB.cells x r/\gB.ok h x r⟩
theorem gB.av:gB.rp.Mono:=λ_ _ _ _ hl⟨r,e,o⟩=>⟨r,e,o.mono hl⟩
theorem gB.eD:gB.rp.Good:=⟨gB.av,λ_ _ _⟨_,e,_⟩=>by cases e;rfl,by decide⟩
structure fe where
 doc:Int
 C3:Int
 forWhom:Int
 office:Int
deriving DecidableEq
instance:Inhabited fe:=⟨⟨0,0,0,0⟩⟩
def fe.cells(x:fe):List Go.Value:=[.int .i64 x.doc,.int .i64 x.C3,.int .i64 x.forWhom,.int .i64 x.office]
abbrev fe.enc(x:fe):Go.Value:=.agg (fe.cells x).toArray
def fe.rp:Rp fe:=⟨4,λ_ cs x=>cs=fe.cells x⟩
theorem fe.av:fe.rp.Mono:=λ_ _ _ _ _ e=>e
theorem fe.eD:fe.rp.Good:=⟨fe.av,λ_ _ _ e=>by cases e;rfl,by decide⟩
structure em where
 eW:Int
 to:Int
 office:Int
 kind:Int
deriving DecidableEq
instance:Inhabited em:=⟨⟨0,0,0,0⟩⟩
def em.cells(x:em):List Go.Value:=[.int .i64 x.eW,.int .i64 x.to,.int .i64 x.office,.int .i64 x.kind]
abbrev em.enc(x:em):Go.Value:=.agg (em.cells x).toArray
def em.rp:Rp em:=⟨4,λ_ cs x=>cs=em.cells x⟩
theorem em.av:em.rp.Mono:=λ_ _ _ _ _ e=>e
theorem em.eD:em.rp.Good:=⟨em.av,λ_ _ _ e=>by cases e;rfl,by decide⟩
structure cS where
 office:Int
 kind:Int
 value:Int
 at_:Int
 known:Int
deriving DecidableEq
instance:Inhabited cS:=⟨⟨0,0,0,0,0⟩⟩
def cS.cells(x:cS):List Go.Value:=[.int .i64 x.office,.int .i64 x.kind,.int .i64 x.value,.int .i64 x.at_,.int .i64 x.known]
abbrev cS.enc(x:cS):Go.Value:=.agg (cS.cells x).toArray
def cS.rp:Rp cS:=⟨5,λ_ cs x=>cs=cS.cells x⟩
theorem cS.av:cS.rp.Mono:=λ_ _ _ _ _ e=>e
theorem cS.eD:cS.rp.Good:=⟨cS.av,λ_ _ _ e=>by cases e;rfl,by decide⟩
structure gC where
 kind:Int
 period:Int
deriving DecidableEq
instance:Inhabited gC:=⟨⟨0,0⟩⟩
def gC.cells(x:gC):List Go.Value:=[.int .i64 x.kind,.int .i64 x.period]
abbrev gC.enc(x:gC):Go.Value:=.agg (gC.cells x).toArray
def gC.rp:Rp gC:=⟨2,λ_ cs x=>cs=gC.cells x⟩
theorem gC.av:gC.rp.Mono:=λ_ _ _ _ _ e=>e
theorem gC.eD:gC.rp.Good:=⟨gC.av,λ_ _ _ e=>by cases e;rfl,by decide⟩
structure fx where
 shelf:gB
 signed:List Int
 done:List Bool
 lacks:List Int
 revoked:List (Int×(List Int))
instance:Inhabited fx:=⟨⟨default,[],[],[],[]⟩⟩
structure sV where
 shelf:nS
 ef:Option Addr
 dZ:Nat
 OF:Option Addr
 OE:Nat
 LA:Option Addr
 Lz:Nat
 Gp:Nat
def fx.cells(x:fx)(r:sV):List Go.Value:=[.slice r.shelf.Ff x.shelf.docs.length r.shelf.Fe,.map (some r.shelf.JQ),.slice r.ef x.signed.length r.dZ,.slice r.OF x.done.length r.OE,.slice r.LA x.lacks.length r.Lz,.map (some r.Gp)]
structure fx.ok(h:HF)(x:fx)(r:sV):Prop where
 shelf:gB.ok h x.shelf r.shelf
 signed:SlC zC h r.ef r.dZ x.signed
 done:SlC Rp.bool h r.OF r.OE x.done
 lacks:SlC zC h r.LA r.Lz x.lacks
 revoked:re (xB .i64) (VSl zC) h r.Gp x.revoked
theorem fx.ok.mono{h h':HF}{x:fx}{r:sV}(a:fx.ok h x r)(hl:h.le h'):fx.ok h' x r:=⟨a.shelf.mono hl,a.signed.mono zH hl,a.done.mono Rp.rS hl,a.lacks.mono zH hl,a.revoked.mono (VSl.mono zH) hl⟩
def fx.rp:Rp fx:=⟨6,λh cs x=>∃r,cs=fx.cells x r/\fx.ok h x r⟩
theorem fx.av:fx.rp.Mono:=λ_ _ _ _ hl⟨r,e,o⟩=>⟨r,e,o.mono hl⟩
theorem fx.eD:fx.rp.Good:=⟨fx.av,λ_ _ _⟨_,e,_⟩=>by cases e;rfl,by decide⟩
structure bL where
 Register:Register
 doc:Document
 at_:Int
 known:Int
instance:Inhabited bL:=⟨⟨default,default,0,0⟩⟩
structure kd where
 Register:eN
 doc:iC
def bL.cells(x:bL)(r:kd):List Go.Value:=.slice r.Register.lO x.Register.Appoints.length r.Register.lN::.slice r.Register.mp x.Register.Deputies.length r.Register.mn::.slice r.Register.mg x.Register.Interests.length r.Register.mf::.slice r.Register.m8 x.Register.Budgets.length r.Register.m7::.slice r.Register.kc x.Register.Versions.length r.Register.kb::.slice r.Register.uk x.Register.Docs.length r.Register.uj::.slice r.Register.lA x.Register.Approvals.length r.Register.ly::.int .i64 x.doc.No::.int .i64 x.doc.At::.int .i64 x.doc.Kind::.int .i64 x.doc.Value::.int .i64 x.doc.From::.int .i64 x.doc.Until::.slice r.doc.rU x.doc.Parties.length r.doc.rT::.slice r.doc.oV x.doc.Revokes.length r.doc.oU::.slice r.doc.yn x.doc.Needs.length r.doc.ym::.int .u8 (x.doc.Text 0)::.int .u8 (x.doc.Text 1)::.int .u8 (x.doc.Text 2)::.int .u8 (x.doc.Text 3)::.int .u8 (x.doc.Text 4)::.int .u8 (x.doc.Text 5)::.int .u8 (x.doc.Text 6)::.int .u8 (x.doc.Text 7)::.int .u8 (x.doc.Text 8)::.int .u8 (x.doc.Text 9)::.int .u8 (x.doc.Text 10)::.int .u8 (x.doc.Text 11)::.int .u8 (x.doc.Text 12)::.int .u8 (x.doc.Text 13)::.int .u8 (x.doc.Text 14)::.int .u8 (x.doc.Text 15)::.int .u8 (x.doc.Text 16)::.int .u8 (x.doc.Text 17)::.int .u8 (x.doc.Text 18)::.int .u8 (x.doc.Text 19)::.int .u8 (x.doc.Text 20)::.int .u8 (x.doc.Text 21)::.int .u8 (x.doc.Text 22)::.int .u8 (x.doc.Text 23)::.int .u8 (x.doc.Text 24)::.int .u8 (x.doc.Text 25)::.int .u8 (x.doc.Text 26)::.int .u8 (x.doc.Text 27)::.int .u8 (x.doc.Text 28)::.int .u8 (x.doc.Text 29)::.int .u8 (x.doc.Text 30)::.int .u8 (x.doc.Text 31)::.int .i64 x.at_::.int .i64 x.known::[]
structure bL.ok(h:HF)(x:bL)(r:kd):Prop where
 Register:Register.ok h x.Register r.Register
 doc:Document.ok h x.doc r.doc
theorem bL.ok.mono{h h':HF}{x:bL}{r:kd}(a:bL.ok h x r)(hl:h.le h'):bL.ok h' x r:=⟨a.Register.mono hl,a.doc.mono hl⟩
def bL.rp:Rp bL:=⟨50,λh cs x=>∃r,cs=bL.cells x r/\bL.ok h x r⟩
theorem bL.av:bL.rp.Mono:=λ_ _ _ _ hl⟨r,e,o⟩=>⟨r,e,o.mono hl⟩
theorem bL.eD:bL.rp.Good:=⟨bL.av,λ_ _ _⟨_,e,_⟩=>by cases e;rfl,by decide⟩
end
variable {E:TypeId}{ass:Array Operand}{id sz:Nat}{parts:Array (Nat×Operand)}{pe:Int->Go.Value}{q:Addr}{w:World}{zs:List Go.Value}{ρ σ:Type}
section
section
variable {P:Program} {b:Frame} {n:Nat} {k:List Item} {F:List Frame->(Machine->Prop)->Prop} {e:Env} {ds:List Deferred} {X:Cx} {h:HF} {L:LH}
theorem O4(L':LH)(sl:List (Nat×Value))(hk:∀e',TT P b n k F (upds e' sl) ds X h L')(t':(∀e',i9 e' sl->TT P b n k F e' ds X h L')->TT P b n (.code c::k) F e ds X h L):TT P b n (.code c::k) F e ds X h L:=
 t' λe' hr=>by have:=hk e';rw[hr.upds]at this;exact this
theorem uO(hs:L.Perm L')(t:TO P b n ops l k F e ds X h L'):TO P b n ops l k F e ds X h L:=λw hw=>t w (hw.perm hs)
theorem gS(hs:L=L')(t:TO P b n ops l k F e ds X h L'):TO P b n ops l k F e ds X h L:=hs▸t
theorem pX(A G M:LH):(A++(M++G)).Perm (A++(G++M)):=List.Perm.append_left A xL
theorem rZ(sl:ι->List (Nat×Value))(dd:ι->List Deferred)(hh:ι->HF)(LL:ι->LH)(I:ι->Prop)(hk:∀i,I i->∀e',TT P b n k F (upds e' (sl i)) (dd i) X (hh i) (LL i))(hb:(∀i e',I i->i9 e' (sl i)->TT P b n k F e' (dd i) X (hh i) (LL i))->TT P b n (.code c::.inBlock id::k) F e ds X h L):TT P b n (.code (.block id c)::k) F e ds X h L:=
 ll (hb λi e' hI hr=>It (sl i) hr (hk i hI e'))
end
section runs
variable {P:Program} {e:Env} {X:Cx} {h:HF} {L:LH} {d:Option Nat} {ty:TypeId} {pos:String} {af:Array Edge} {g:Option (Nat×Bool)}
theorem NS{t:TypeId}{len:Nat}{p:Addr}{i:Int}(hT:P.underlying t=some (.array len E))(hS:tySz P E=some (sz,a))(hx:e.ev x=.pointer (some p))(hix:e.ev ix=.int .i64 i)(hi:0<=i/\i<(len:Int)):
  ∀w,St X h L w->(execOp e.ev ⟨d,.indexAddr t x ix,ty,pos,af,g⟩).run P w=.ok (.value (.pointer (some (p.add (i.toNat*sz))))) w:=
 λw _=>by simp[execOp,Instr.indexAt,Instr.sureAddr,hix,hx,asIntOf,run_underlying hT,iz hS,hi.1,hi.2]
theorem nQ{c:Operand}{s:Bool}(hc:e.ev c=.bool s)(hv:(bif s then e.ev x else e.ev y)=v):∀w,St X h L w->(execOp e.ev ⟨d,.pick c x y,ty,pos,af,g⟩).run P w=.ok (.value v) w:=
 hv▸Kl hc
end runs
section stepsM
variable {P:Program} {b:Frame} {n:Nat} {ops:Array Oper} {F:List Frame->(Machine->Prop)->Prop} {e:Env} {ds:List Deferred} {X:Cx} {h:HF} {L:LH} {K:Env->HF->LH->Prop}
variable {ty:TypeId} {pos:String} {af:Array Edge} {g:Option (Nat×Bool)} {κ α : Type} {enc:κ->Value} {V:HF->Value->α->Prop} [DecidableEq κ]
theorem jy(i:Nat){t T:TypeId}{mo ko xo:Operand}{m:List (κ×α)}{k:κ}{x:α}(hT:P.underlying t=some (.map T E))(hK:vp P T enc)(hL:nth L i=some (bk,o))(hm:ia enc V h o m)(hmo:e.ev mo=.map (some bk))(hko:e.ev ko=enc k)(hx:V h (e.ev xo) x)(t':∀o',ia enc V h o' (mput m k x)->K e h (setNth L i (bk,o')))(hg:guardB ops e ⟨none,.insert t mo ko xo,ty,pos,af,g⟩=true:=by rfl):Stp P b n ops F ds X ⟨none,.insert t mo ko xo,ty,pos,af,g⟩ e h L K:=by
 unfold Stp
 rw[if_pos hg]
 intro w hw
 have hb:w.heap[bk]? = some o:=by
  have h2:=hL
  rw[hZ]at h2
  exact hw.own _ (vE h2)
 obtain⟨o',hr,hm'⟩:=yH (k:=k) hT hK hb hm hx
 have:(execOp e.ev ⟨none,.insert t mo ko xo,ty,pos,af,g⟩).run P w=.ok .skip { w with heap:=w.heap.setIfInBounds bk o' }:=by
  simp[execOp,hmo,hko,hr]
 rw[this]
 exact⟨h,_,hw.write hL _,t' o' hm'⟩
end stepsM
section stepsA
variable {P:Program} {b:Frame} {n:Nat} {ops:Array Oper} {F:List Frame->(Machine->Prop)->Prop} {e:Env} {ds:List Deferred} {X:Cx} {h:HF} {L:LH} {K:Env->HF->LH->Prop}
variable {d:Option Nat} {ty:TypeId} {pos:String} {af:Array Edge} {g:Option (Nat×Bool)}
theorem qm(i:Nat){t:TypeId}{m T:Nat}(hT:tySz P t=some (m,a))(hx:e.ev x=.pointer (some ⟨bk,0,none⟩))(hL:nth L i=some (bk,.cells cl.toArray T (0,0)))(hv:e.ev y=.agg vs.toArray)(hm:vs.length=m)(hc:cl.length=m)(h1:vs.all one=true)(t':K e h (setNth L i (bk,.cells vs.toArray T (0,0))))(hg:guardB ops e ⟨none,.store t x y,ty,pos,af,g⟩=true:=by rfl):Stp P b n ops F ds X ⟨none,.store t x y,ty,pos,af,g⟩ e h L K:=by
 refine kO i hT hx hL (vs:=vs) (by rw[hv];simp[vcells]) hm (by rw[Nat.zero_add,hm,hc];simp) h1 ?_ hg
 rw[DT vs cl (by rw[hm,hc])]
 exact t'
theorem NN{t:TypeId}{len:Nat}{cells:List Value}(hT:P.underlying t=some (.array len E))(hS:tySz P E=some (sz,a))(hz:zeroC P t=some zs)(hc:Instr.fill (λi=>some (i*sz,sz)) zs.toArray (parts.toList.map λp=>(p.1,e.ev p.2))=some cells.toArray)(t':K (pute e d (.agg cells.toArray)) h L)(hg:guardB ops e ⟨d,.build t parts,ty,pos,af,g⟩=true:=by rfl):Stp P b n ops F ds X ⟨d,.build t parts,ty,pos,af,g⟩ e h L K:=
 iM hg λw hw=>by
  obtain⟨z,h1,h2⟩:=rO hz w
  have hparts:(parts.map λx=>(x.1,e.ev x.2)).toList=parts.toList.map λp=>(p.1,e.ev p.2):=by simp
  refine⟨_,_,h,_,?_,hw,t'⟩
  simp only[execOp,Instr.build,qN,h1,h2,zL,run_underlying hT,iz hS,S9,hparts]
  rw[hc]
  simp
theorem Cq{α : Type}:∀(l:List α)(i:Nat)(x y:α),nth l i=some x->(setNth l i y).Perm (y::dropNth l i)
 |[],_,_,_,h=>by simp[nth]at h
 |z::l,0,x,y,h=>List.Perm.refl _
 |z::l,i+1,x,y,h=>(List.Perm.cons z (Cq l i x y h)).trans (List.Perm.swap y z _)
theorem NM(i:Nat){t:Nat}{o':Obj}(hL:nth L i=some (bk,o))(hs:mN P fv vs.toArray h [(bk,o)] (λx h' B=>x=.returned (.tuple #[])/\h'=h/\B=[(bk,o')]))(hf:e t=fv)(hvs:as.toList.map e.ev=vs)(t':K (pute e d (.tuple #[])) h (setNth L i (bk,o')))(hg:guardB ops e ⟨d,.call ⟨.value (.tmp t),as,ats⟩,ty,pos,af,g⟩=true:=by rfl):Stp P b n ops F ds X ⟨d,.call ⟨.value (.tmp t),as,ats⟩,ty,pos,af,g⟩ e h L K:=by
 unfold Stp
 rw[if_pos hg]
 intro w hw
 have hw':=hw.perm (px L i _ hL)
 have harr:as.map e.ev=vs.toArray:=Sd (by simp[←hvs])
 obtain⟨nx,hrun,hcall⟩:=hs w (Pre.left (A:=[(bk,o)]) hw'.pre)
 have hr:(execOp e.ev ⟨d,.call ⟨.value (.tmp t),as,ats⟩,ty,pos,af,g⟩).run P w=.ok nx w:=by
  rw[←hrun]
  simp[execOp,resolve,Tz,harr,hf]
 rw[hr]
 refine lj (ng hcall) (hcall.mono ?_)
 rintro x w' ⟨h',B,hst,rfl,rfl,rfl⟩
 exact⟨h',_,(S4 (A:=[(bk,o)]) (F:=dropNth L i) hw' hst).perm (Cq L i _ _ hL).symm,t'⟩
theorem NL{t:Nat}{φ:Value->HF->Prop}(hs:Qb P fv vs h φ)(hf:e t=fv)(hvs:ass.toList.map e.ev=vs)(t':∀v h',h.le h'->φ v h'->K (pute e d v) h' L)(hg:guardB ops e ⟨d,.call ⟨.value (.tmp t),ass,ats⟩,ty,pos,af,g⟩=true:=by rfl):
  Stp P b n ops F ds X ⟨d,.call ⟨.value (.tmp t),ass,ats⟩,ty,pos,af,g⟩ e h L K:=by
 refine uo L [] (List.append_nil L).symm hs hf hvs ?_ ?_ hg
 .rintro v h' B hle ⟨rfl,v',hv,hφ⟩
  cases hv
  rw[List.append_nil]
  exact t' _ h' hle hφ
 .rintro ch h' B hle ⟨_,v',hv,_⟩
  cases hv
end stepsA
theorem QS{h:HF}{cs:List Value}(ha:At h q cs){i:Int}(hi:0<=i/\i<(cs.length:Int)):At h (q.add (i.toNat*1)) [cs.getD i.toNat .nilFunc]:=by
 obtain⟨cl,T,fz,hb,hs,hc⟩:=ha
 have hlt:i.toNat<cs.length:=by omega
 have h1:i.toNat*1=i.toNat:=Nat.mul_one _
 obtain⟨g,off,sp⟩:=q
 simp only at hs
 subst hs
 have hq:(⟨g,off,none⟩:Addr).add (i.toNat*1)=⟨g,off+i.toNat,none⟩:=by
  rw[h1]
  by_cases e0:i.toNat=0
  .simp[zT,e0]
  .simp[zT,e0]
 rw[hq]
 refine⟨cl,T,fz,hb,rfl,λj v hj=>?_⟩
 have hj0:j=0:=by
  cases j with
  |zero=>rfl
  |succ j=>simp at hj
 subst hj0
 simp at hj
 subst hj
 have:=hc i.toNat (cs.getD i.toNat .nilFunc) (by simp[List.getD,vF hlt])
 simpa using this
theorem lV{h:HF}{R:Ending->HF->LH->Prop}(hc:∀args w,(callFunc f args).run P w=.ok (.enter f args) w)(hs:nL P f (args++cap).toArray h A R):
  mN P (.func (.func f) #[] cap.toArray) args.toArray h A R:=by
 intro w hp
 refine⟨.enter f (args++cap).toArray,?_,ji (hs w hp)⟩
 simp[kH,invoke,hc]
def exW{ρ : Type}(pe:Int->Value)(f:ρ->Value):Except Int ρ->Except Value Value
 |.ok r=>.ok (f r)
 |.error e=>.error (pe e)
theorem oF{f:ρ->Value}{x:Except Int ρ}{u:Value}(h:exW pe f x=.ok u):∃r,x=.ok r/\f r=u:=by
 cases x with
 |ok r=>exact⟨r,rfl,by simpa[exW]using h⟩
 |error p=>simp[exW]at h
theorem mX{f:ρ->Value}{x:Except Int ρ}(h:exW pe f x=.error p):∃e,x=.error e/\pe e=p:=by
 cases x with
 |ok r=>simp[exW]at h
 |error q=>exact⟨q,rfl,by simpa[exW]using h⟩
def exi{ρ σ : Type}:Except Int ρ->(ρ->Except Int σ)->Except Int σ
 |.ok r,k=>k r
 |.error p,_=>.error p
theorem pw{x:Except Int ρ}{k:ρ->Except Int σ}{r:ρ}(h:x=.ok r):exi x k=k r:=by subst h;rfl
theorem nk{x:Except Int ρ}{k:ρ->Except Int σ}{p:Int}(h:x=.error p):exi x k=.error p:=by subst h;rfl
theorem iT{args:Array Value}{R:Ending->World->Prop}(h:Calls P f args w R)(hno:∀w',¬R .outgrown w'):pT P f args w R:=by
 intro c cs Φ h1 h2
 obtain⟨e,w',fr,hR,hc,hfn,hl⟩:=h (c::cs)
 cases e with
 |returned v=>
  obtain⟨m',s',p'⟩:=h1 v w' hR
  exact⟨m',(show Steps P _ _ from hc).trans (.head (step_leave_returned hl) s'),p'⟩
 |panicked ch=>
  obtain⟨m',s',p'⟩:=h2 ch w' hR
  exact⟨m',(show Steps P _ _ from hc).trans (.head (step_leave_panicked hl) s'),p'⟩
 |outgrown=>exact(hno _ hR).elim
end
section
def smP(p:Policy):Prop:=p.Rules.length<=2000000/\(∀r∈p.Rules,r.Expr.dep<=1500000)/\p.Change.dep<=1500000/\p.Offices.length<=2000000/\p.Kinds.length<=2000000
def smV(l:List Version):Prop:=l.length<=2000000/\∀v∈l,smP v.Policy
def smR(r:Register):Prop:=smV r.Versions/\r.Appoints.length<=2000000/\r.Deputies.length<=2000000/\r.Interests.length<=2000000/\r.Budgets.length<=2000000/\r.Docs.length<=2000000/\r.Approvals.length<=2000000
theorem smP.rules{p:Policy}(h:smP p):p.Rules.length<=2000000:=h.1
theorem smP.change{p:Policy}(h:smP p):p.Change.dep<=1500000:=h.2.2.1
theorem smV.len{l:List Version}(h:smV l):l.length<=2000000:=h.1
theorem smR.vers{r:Register}(h:smR r):smV r.Versions:=h.1
def okV(l:List Version):Prop:=l.length<=256/\∀v∈l,(v.Policy.Rules.length<=16/\v.Policy.Offices.length<=32)/\∀r∈v.Policy.Rules,0<=r.Think/\r.Think<=1099511627775
inductive OkX(n:Int):Expr->Prop
 |mk (x:Expr) (hk:1<=x.Kind/\x.Kind<=4) (hn:x.Kind<=2->0<=x.No/\x.No<n) (hl:x.Kind=4->x.L.length=2) (hs:∀y∈x.L,OkX n y):OkX n x
theorem OkX.kind{n:Int}{x:Expr}(h:OkX n x):1<=x.Kind/\x.Kind<=4:=by cases h with|mk _ a=>exact a
theorem OkX.no{n:Int}{x:Expr}(h:OkX n x):x.Kind<=2->0<=x.No/\x.No<n:=by cases h with|mk _ _ a=>exact a
theorem OkX.two{n:Int}{x:Expr}(h:OkX n x):x.Kind=4->x.L.length=2:=by cases h with|mk _ _ _ a=>exact a
theorem OkX.sub{n:Int}{x:Expr}(h:OkX n x):∀y∈x.L,OkX n y:=by cases h with|mk _ _ _ _ a=>exact a
def stopV(e:Int):Value:=.iface 313 (.agg (sU.cells ⟨e⟩).toArray)
def errV(e:Int):Value:=.iface 37 (.int .i64 e)
def kindsC:List Value:=[.func (.func 322) #[] #[],.func (.func 323) #[] #[],.func (.func 324) #[] #[],.func (.func 325) #[] #[],.func (.func 326) #[] #[]]
def kfun(i:Int):Value:=kindsC.getD i.toNat .nilFunc
def Kinds(h:HF):Prop:=∃T fz,h 0=some (.cells kindsC.toArray T fz)
theorem Kinds.mono{h h':HF}(k:Kinds h)(hl:h.le h'):Kinds h':=let ⟨T,fz,e⟩:=k;⟨T,fz,hl _ _ e⟩
theorem Kinds.at{h:HF}(k:Kinds h){i:Int}(hi:0<=i/\i<5):At h ((⟨0,0,none⟩:Addr).add (i.toNat*1)) [kfun i]:=by
 obtain⟨T,fz,e⟩:=k
 rw[pD]
 refine At.Eu e (λj v hj=>?_)
 have hj0:j=0:=by
  cases j with
  |zero=>rfl
  |succ j=>simp at hj
 subst hj0
 simp at hj
 subst hj
 have:i=0\/i=1\/i=2\/i=3\/i=4:=by omega
 rcases this with rfl|rfl|rfl|rfl|rfl<;>rfl
def VFn(_:HF)(v:Value)(x:Value):Prop:=v=x
theorem VFn.mono:yW VFn:=λ_ _ _ _ _ e=>e
theorem gy{κ α : Type}[DecidableEq κ]:∀(m:List (κ×α))(k:κ)(v:α),(mput m k v).length<=m.length+1
 |[],_,_=>by simp[mput]
 |(k',v')::r,k,v=>by
  have:=gy r k v
  simp only[mput]
  split<;>simp<;>omega
theorem O9(h:(s.toList==(⟨#[]⟩:ByteArray).toList)=false):0<s.size:=by
 rcases Nat.eq_zero_or_pos s.size with h0|h0
 .exfalso
  have:s=⟨#[]⟩:=by
   cases s with
   |mk d=>
    have:d=#[]:=Array.eq_empty_of_size_eq_zero h0
    rw[this]
  rw[this]at h;simp at h
 .exact h0
abbrev pG:=fx
abbrev Ma:=sV
abbrev pG.cells(x:fx)(r:sV):List Go.Value:=fx.cells x r
structure pG.ok(h:HF)(x:fx)(r:sV):Prop where
 signed:SlC zC h r.ef r.dZ x.signed
theorem pG.ok.mono{h h':HF}{x:fx}{r:sV}(a:pG.ok h x r)(hl:h.le h'):pG.ok h' x r:=⟨a.signed.mono zH hl⟩
end
variable {Fr:LH}{gn:Func}{pv:Go.Value}
section
def deferFrame(f:FuncId):Frame:={ fn:=f,tmps:=#[],todo:=[],defers:=[],mode:=.run,kind:=.deferred,roundOf:=none }
section
variable {P:Program} {f:FuncId} {n:Nat} {k:List Item} {e:Env} {X:Cx} {h:HF} {L:LH} {ops:Array Oper} {l:List Oper} {d:Nat} {ty:TypeId} {pos:String} {af:Array Edge} {g:Option (Nat×Bool)} {ats:Array TypeId}
theorem DN{F F':List Frame->(Machine->Prop)->Prop}(v:Value)(hF:∀cs Φ,F cs Φ->∃cs',recoverD cs=some (v,cs')/\F' cs' Φ)(t:TO P (deferFrame f) n ops l k F' (upd e d v) ds X h L)(hd:Nat.blt d n=true:=by rfl)(hg:guardB ops e ⟨some d,.call ⟨.builtin .recover,#[],ats⟩,ty,pos,af,g⟩=true:=by rfl):
  TO P (deferFrame f) n ops (⟨some d,.call ⟨.builtin .recover,#[],ats⟩,ty,pos,af,g⟩::l) k F e ds X h L:=by
 intro w hw is hi a cs Φ hn he hds hF0
 obtain⟨i,js,rfl,ho,hj⟩:=pm hi
 obtain⟨cs',hrec,hF1⟩:=hF cs Φ hF0
 have hwt:=(fL (ops:=ops) he).trans hg
 have hst:=stepGR_op (P:=P) (b:=deferFrame f) (k:=k) (cs:=cs) (w:=w) (rest:=js) ho hwt
 have hr:(execOp a.eval ⟨some d,.call ⟨.builtin .recover,#[],ats⟩,ty,pos,af,g⟩).run P w=.ok .recover w:=by
  simp[execOp,resolve,invoke,builtin]
 have htr:tryRecover ((deferFrame f).atR a (.inRegion ops (i::js)::k)) cs=some (v,cs'):=by
  rw[tryRecover_deferred (by rfl) cs,hrec]
 have hput:envOf (a.put (some d) v)=upd e d v:=by rw[oP a d v (by rw[hn];exact oJ hd),he]
 refine .step (m₁:=lone ((deferFrame f).atR (a.put (some d) v) (.inRegion ops js::k)) cs' w) ?_ (t w hw js hj (a.put (some d) v) cs' Φ (by rw[n1];exact hn) hput (by rw[ml];exact hds) hF1)
 refine step_lone_go ?_
 rw[hst,j1 _ _ rfl,←gI a js k ho v]
 simp[stepG.apply,hr,htr]
 rfl
theorem Co{F:List Frame->(Machine->Prop)->Prop}(hF:∀cs Φ,F cs Φ->recoverD cs=none)(t:TO P (deferFrame f) n ops l k F (upd e d .nilIface) ds X h L)(hd:Nat.blt d n=true:=by rfl)(hg:guardB ops e ⟨some d,.call ⟨.builtin .recover,#[],ats⟩,ty,pos,af,g⟩=true:=by rfl):
  TO P (deferFrame f) n ops (⟨some d,.call ⟨.builtin .recover,#[],ats⟩,ty,pos,af,g⟩::l) k F e ds X h L:=by
 intro w hw is hi a cs Φ hn he hds hF0
 obtain⟨i,js,rfl,ho,hj⟩:=pm hi
 have hrec:=hF cs Φ hF0
 have hwt:=(fL (ops:=ops) he).trans hg
 have hst:=stepGR_op (P:=P) (b:=deferFrame f) (k:=k) (cs:=cs) (w:=w) (rest:=js) ho hwt
 have hr:(execOp a.eval ⟨some d,.call ⟨.builtin .recover,#[],ats⟩,ty,pos,af,g⟩).run P w=.ok .recover w:=by
  simp[execOp,resolve,invoke,builtin]
 have htr:tryRecover ((deferFrame f).atR a (.inRegion ops (i::js)::k)) cs=none:=by
  rw[tryRecover_deferred (by rfl) cs,hrec]
 have hput:envOf (a.put (some d) .nilIface)=upd e d .nilIface:=by rw[oP a d _ (by rw[hn];exact oJ hd),he]
 refine .step (m₁:=lone ((deferFrame f).atR (a.put (some d) .nilIface) (.inRegion ops js::k)) cs w) ?_ (t w hw js hj (a.put (some d) .nilIface) cs Φ (by rw[n1];exact hn) hput (by rw[ml];exact hds) hF0)
 refine step_lone_go ?_
 rw[hst,j1 _ _ rfl,←gI a js k ho .nilIface]
 simp[stepG.apply,hr,htr]
 rfl
def Fw(P:Program)(X:Cx)(u':FrameMode)(R:HF->LH->Prop)(cs:List Frame)(Φ : Machine->Prop):Prop:=
 ∃c rest,cs=c::rest/\c.mode=u'/\∀w',(∃h' B,St X h' B w'/\R h' B)->To P Φ (lone { c with mode:=settle u' } rest w')
theorem Hh{u':FrameMode}{R:HF->LH->Prop}(hf:P.funcs[f]? = some fn)(hr:fn.results=#[])(hR:R h L):TT P (deferFrame f) n [] (Fw P X u' R) e [] X h L:=by
 intro w hw a cs Φ hn he hds hF
 obtain⟨c,rest,rfl,hm,h1⟩:=hF
 refine .step (stepR_end rfl) ?_
 have hgo:Frame.going P { (deferFrame f).atR a []with mode:=.returning } w (.returned (.tuple #[])):=⟨rfl,hds,fn,hf,lK hr a w⟩
 refine .step (step_going_returned (c:=c) (cs:=rest) rfl hgo) ?_
 rw[hm]
 exact h1 w ⟨h,L,hw,hR⟩
end
section
variable {P:Program} {b:Frame} {n:Nat} {k:List Item} {F:List Frame->(Machine->Prop)->Prop} {e:Env} {ds:List Deferred} {X:Cx} {h:HF} {L:LH} {ops:Array Oper} {l:List Oper} {ty:TypeId} {pos:String} {af:Array Edge} {g:Option (Nat×Bool)}
theorem Nr{t:Nat}{fv:Fn}{cap:Array Value}(hro:b.roundOf=none)(hf:e t=.func fv #[] cap)(t':TO P b n ops l k F e ({ target:=.fn fv cap,args:=#[] }::ds) X h L)(hg:guardB ops e ⟨none,.defer ⟨.value (.tmp t),#[],ats⟩,ty,pos,af,g⟩=true:=by rfl):TO P b n ops (⟨none,.defer ⟨.value (.tmp t),#[],ats⟩,ty,pos,af,g⟩::l) k F e ds X h L:=by
 intro w hw is hi a cs Φ hn he hds hF
 obtain⟨i,js,rfl,ho,hj⟩:=pm hi
 have hwt:=(fL (ops:=ops) he).trans hg
 have hst:=stepGR_op (P:=P) (b:=b) (k:=k) (cs:=cs) (w:=w) (rest:=js) ho hwt
 have hr:(execOp a.eval ⟨none,.defer ⟨.value (.tmp t),#[],ats⟩,ty,pos,af,g⟩).run P w=.ok (.defer { target:=.fn fv cap,args:=#[] }) w:=by
  have hev:a.eval (.tmp t)=.func fv #[] cap:=by rw[j9,he];exact hf
  simp[execOp,resolve,hev,kH]
 have hs:Oper.semAt b.roundOf a.eval ⟨none,.defer ⟨.value (.tmp t),#[],ats⟩,ty,pos,af,g⟩=execOp a.eval ⟨none,.defer ⟨.value (.tmp t),#[],ats⟩,ty,pos,af,g⟩:=by rw[hro];rfl
 refine .step (m₁:=lone (b.atR { a with defers:={ target:=.fn fv cap,args:=#[] }::a.defers } (.inRegion ops js::k)) cs w) ?_ (t' w hw js hj { a with defers:={ target:=.fn fv cap,args:=#[] }::a.defers } cs Φ hn he (by rw[hds]) hF)
 refine step_lone_go ?_
 have hfin:=gI (b:=b) { a with defers:={ target:=.fn fv cap,args:=#[] }::a.defers } js k ho undef
 rw[hst,hs]
 simp only[stepG.apply,Sem.runT_eq,hr,GStep.bare_after]
 exact congrArg (λfr=>GStep.go { frame:=fr,callers:=cs,status:=.running,dying:=none } w) hfin
end
theorem O3{g:FuncId}{n m:Nat}{h:HF}{L:LH}{R:Ending->HF->LH->Prop}{R':HF->LH->Prop}(hf:P.funcs[f]? = some fn)(hg:P.funcs[g]? = some gn)(hb:gn.body=some c)(hm:gn.ntmps=m)(hle:T9 cap.length m=true)(hc:∀args w,(callFunc g args).run P w=.ok (.enter g args) w)(t:∀X':Cx,X'.h0=h->TT P (deferFrame g) m [.code c] (Fw P X' .returning R') (envArgs cap) [] X' h A)(hL:L=A++Fr)(fin:∀h' B,h.le h'->R' h' B->∀a:Act,envOf a=e->∀w,St X h' (B++Fr) w->∃v h2 B2,(results fn a.tmps).run P w=.ok v w/\St X h2 B2 w/\R (.returned v) h2 B2):
  TT P (bodyFrame f) n (.code .ret::k) (mm P X R) e [{ target:=.fn (.func g) cap.toArray,args:=#[] }] X h L:=by
 intro w hw a cs Φ hn he hds hF
 obtain⟨cc,cs',rfl,h1,_⟩:=hF
 subst hL
 refine .step (stepR_ret rfl) ?_
 have hinv:(invoke (.fn (.func g) cap.toArray) #[]).run P w=.ok (.enter g cap.toArray) w:=by simp[invoke,hc]
 refine .step (step_defer (fr:={ (bodyFrame f).atR a (.code .ret::k)with mode:=.returning }) (by simp) hds rfl hinv) ?_
 have hle':=kP hle
 have henter:RX P g cap.toArray .deferred=(deferFrame g).atR { tmps:=cap.toArray++Sy (m-cap.length) undef,defers:=[] } [.code c]:=by
  simp[RX,SU,hg,hb,hm,deferFrame]
 rw[henter]
 refine t ⟨w,h,A.map (·.1)⟩ rfl w (SW hw.pre.left) _ _ Φ (by simp;omega) (oG _ _) rfl ⟨_,cc::cs',rfl,rfl,?_⟩
 rintro w' ⟨h',B,hst,hR'⟩
 obtain⟨v,h2,B2,hv,hs2,hR⟩:=fin h' B hst.le hR' a he w' (hw.after hst)
 refine .step (ic (fn:=fn) (v:=v) rfl rfl rfl hf hv) ?_
 exact h1 v w' ⟨h2,B2,hs2,hR⟩
theorem O6{g:FuncId}{n m:Nat}{h:HF}{L:LH}{R:Ending->HF->LH->Prop}{R':HF->LH->Prop}(hf:P.funcs[f]? = some fn)(hg:P.funcs[g]? = some gn)(hb:gn.body=some c)(hm:gn.ntmps=m)(hle:T9 cap.length m=true)(hc:∀args w,(callFunc g args).run P w=.ok (.enter g args) w)(t:∀X':Cx,X'.h0=h->TT P (deferFrame g) m [.code c] (λcs Φ=>∃c rest,cs=c::rest/\c.mode=.panicking [{ v:=pv,recovered:=false }]/\Fw P X' (.panicking [{ v:=pv,recovered:=true }]) R' ({ c with mode:=.panicking [{ v:=pv,recovered:=true }] }::rest) Φ) (envArgs cap) [] X' h A)(hL:L=A++Fr)(fin:∀h' B,h.le h'->R' h' B->∀a:Act,envOf a=e->∀w,St X h' (B++Fr) w->∃v h2 B2,(results fn a.tmps).run P w=.ok v w/\St X h2 B2 w/\R (.returned v) h2 B2):
  TP P (bodyFrame f) n [{ v:=pv,recovered:=false }] (mm P X R) e [{ target:=.fn (.func g) cap.toArray,args:=#[] }] X h L:=by
 intro w hw a cs Φ todo hn he hds hF
 obtain⟨cc,cs',rfl,h1,_⟩:=hF
 subst hL
 have hinv:(invoke (.fn (.func g) cap.toArray) #[]).run P w=.ok (.enter g cap.toArray) w:=by simp[invoke,hc]
 refine .step (step_defer (fr:={ (bodyFrame f).atR a todo with mode:=.panicking [{ v:=pv,recovered:=false }] }) (by simp) hds rfl hinv) ?_
 have hle':=kP hle
 have henter:RX P g cap.toArray .deferred=(deferFrame g).atR { tmps:=cap.toArray++Sy (m-cap.length) undef,defers:=[] } [.code c]:=by
  simp[RX,SU,hg,hb,hm,deferFrame]
 rw[henter]
 refine t ⟨w,h,A.map (·.1)⟩ rfl w (SW hw.pre.left) _ _ Φ (by simp;omega) (oG _ _) rfl ⟨_,cc::cs',rfl,rfl,_,cc::cs',rfl,rfl,?_⟩
 rintro w' ⟨h',B,hst,hR'⟩
 obtain⟨v,h2,B2,hv,hs2,hR⟩:=fin h' B hst.le hR' a he w' (hw.after hst)
 refine .step (ic (fn:=fn) (v:=v) rfl rfl rfl hf hv) ?_
 exact h1 v w' ⟨h2,B2,hs2,hR⟩
end
variable {clock:Nat}{es:Array MapEntry}{seen:Array Nat}
section
section steps
variable {P:Program} {b:Frame} {n:Nat} {ops:Array Oper} {F:List Frame->(Machine->Prop)->Prop} {e:Env} {ds:List Deferred} {X:Cx} {h:HF} {L:LH} {K:Env->HF->LH->Prop}
variable {d:Option Nat} {ty:TypeId} {pos:String} {af:Array Edge} {g:Option (Nat×Bool)}
theorem Hm{t T:TypeId}(hT:P.underlying t=some (.map T E))(hb:h bk=some (.map es clock))(hx:e.ev x=.map (some bk))(t':∀it,K (pute e d (.pointer (some ⟨it,0,none⟩))) h ((it,.mapIter (some bk) clock #[] clock)::L))(hg:guardB ops e ⟨d,.range t x,ty,pos,af,g⟩=true:=by rfl):Stp P b n ops F ds X ⟨d,.range t x,ty,pos,af,g⟩ e h L K:=
 iM hg λw hw=>⟨_,_,h,_,by simp[execOp,Instr.range,hx,run_underlying hT,nt (hw.imm _ _ hb)],hw.alloc _,t' _⟩
theorem Kd(i:Nat){it since c0:Nat}(hL:nth L i=some (it,.mapIter (some bk) since seen c0))(hb:h bk=some (.map es clock))(hold:∀x∈es.toList,x.born<since)(hsc:since<=c0)(hx:e.ev x=.pointer (some ⟨it,0,none⟩))(no:(leftOf es seen).size=0->K (pute e d (.tuple #[.bool false])) h L)(yes:∀en∈(leftOf es seen).toList,K (pute e d (.tuple #[.bool true,en.key,en.val])) h (setNth L i (it,.mapIter (some bk) since (seen.push en.born) clock)))(hg:guardB ops e ⟨d,.next x false,ty,pos,af,g⟩=true:=by rfl):Stp P b n ops F ds X ⟨d,.next x false,ty,pos,af,g⟩ e h L K:=by
 refine iM hg λw hw=>?_
 have hit:w.heap[it]? = some (.mapIter (some bk) since seen c0):=by
  have h2:=hL
  rw[hZ]at h2
  exact hw.own _ (vE h2)
 rcases run_next_at (P:=P) w ty it bk since c0 seen es clock hit (hw.imm _ _ hb) hold hsc with⟨h0,hr⟩|⟨en,hen,w1,hw1,hr⟩
 .exact⟨_,w,h,L,by simp[execOp,hx,hr],hw,no h0⟩
 .have hw1':St X h L w1:=by
   rcases hw1 with rfl|rfl
   .exact hw
   .exact hw.drew _
  exact⟨.tuple #[.bool true,en.key,en.val],{ w1 with heap:=w1.heap.setIfInBounds it (.mapIter (some bk) since (seen.push en.born) clock) },h,_,by simp[execOp,hx,hr];rfl,hw1'.write hL _,yes en hen⟩
theorem Ht(i:Nat){it since:Nat}{en:MapEntry}(hL:nth L i=some (it,.mapIter (some bk) since (seen.push en.born) clock))(hb:h bk=some (.map es clock))(he:en∈es.toList)(hn:(es.toList.map (·.born)).Nodup)(hx:e.ev x=.pointer (some ⟨it,0,none⟩)):
  ∀w,St X h L w->(execOp e.ev ⟨d,.entry x,ty,pos,af,g⟩).run P w=.ok (.value (.tuple #[en.key,en.val])) w:=λw hw=>by
 have hit:w.heap[it]? = some (.mapIter (some bk) since (seen.push en.born) clock):=by
  have h2:=hL
  rw[hZ]at h2
  exact hw.own _ (vE h2)
 have:=run_entry_at (P:=P) w it bk since seen es clock en hit (hw.imm _ _ hb) he hn
 simp[execOp,hx,this]
end steps
def Cj{α : Type}(P:Program)(it:Value)(val:α->HF->List Value->Prop)(S:List α->Prop)(h:HF):Prop:=
 ∃(f0:FuncId)(cap:List Value),it=.func (.func f0) #[] cap.toArray/\(∀args w,(callFunc f0 args).run P w=.ok (.enter f0 args) w) /\
  ∀(yf:Fn)(ya yb:Array Value)(C:List α->HF->LH->Prop)(Sp:HF->LH->Prop)(Pn:List PanicEntry->HF->LH->Prop)(h':HF)(A:LH),h.le h' ->
   (∀done h1 h2 B,kK h1 h2->C done h1 B->C done h2 B)->(∀h1 h2 B,kK h1 h2->Sp h1 B->Sp h2 B)->(∀ch h1 h2 B,kK h1 h2->Pn ch h1 B->Pn ch h2 B)->C [] h' A ->
   (∀done x vs h'' B,(∃rest,S (done++x::rest))->h'.le h''->C done h'' B->val x h'' vs->mN P (.func yf ya yb) vs.toArray h'' B (YR C Sp Pn done x)) ->
   mN P it #[.func yf ya yb] h' A (λr h2 B=>(r=.returned (.tuple #[])/\((∃xs,S xs/\C xs h2 B)\/Sp h2 B))\/∃ch,r=.panicked ch/\Pn ch h2 B)
theorem Gh{n:Nat}{F:List Frame->(Machine->Prop)->Prop}{h:HF}{L:LH}{val:α->HF->List Value->Prop}{S:List α->Prop}(I:List α->HF->LH->Prop)(J:Code->HF->LH->Prop)(Pn:List PanicEntry->HF->LH->Prop)(hgv:e.ev g=it)(hit:Cj P it val S h)(hps:ps.all (λp=>zR p n)=true)(hval:∀x h vs,val x h vs->vs.length=ps.length)(hIm:∀done h1 h2 B,kK h1 h2->I done h1 B->I done h2 B)(hJm:∀c h1 h2 B,kK h1 h2->J c h1 B->J c h2 B)(hPm:∀ch h1 h2 B,kK h1 h2->Pn ch h1 B->Pn ch h2 B)(h0:I [] h L)(round:∀l r lp done x vs h' L' X',(∃rest,S (done++x::rest))->h.le h'->I done h' L'->val x h' vs->lp.state=.ready->X'.h0=h'->(∀b∈X'.M,b<X'.w0.heap.size) ->
   TT P (roundFrame l f) n [.code assign,.beginRound,.code body] (mm P X' (RdR l r lp I J Pn done x)) (setParams e ps vs) [] X' h' ((l,.loop lp)::(r,.deferred (some []))::L'))(next:∀r xs h' L',S xs->h.le h'->I xs h' L'->TT P (bodyFrame f) n k F e ({ target:=.collected r,args:=#[] }::ds) X h' ((r,.deferred (some []))::L'))(jump:∀r c h' L',h.le h'->J c h' L'->TT P (bodyFrame f) n (.code c::k) F e ({ target:=.collected r,args:=#[] }::ds) X h' ((r,.deferred (some []))::L'))(pan:∀r ch h' L',h.le h'->Pn ch h' L'->TP P (bodyFrame f) n ch F e ({ target:=.collected r,args:=#[] }::ds) X h' ((r,.deferred (some []))::L')):
  TT P (bodyFrame f) n (.code (.rangeFunc g ps.toArray assign body)::k) F e ds X h L:=by
 obtain⟨f0,cap,rfl,hc0,hit⟩:=hit
 intro w hw a cs Φ hn he hds hF
 let r:=w.heap.size
 let w1:World:={ w with heap:=w.heap.push (.deferred (some [])) }
 have hw1:St X h ((r,.deferred (some []))::L) w1:=hw.alloc _
 let l:=w1.heap.size
 let lp:Loop:={ state:=.ready,pending:=none,fn:=f,tmps:=a.tmps,params:=ps.toArray,assign,body,defers:=r }
 let w2:World:={ w1 with heap:=w1.heap.push (.loop lp) }
 have hw2:St X h ((l,.loop lp)::(r,.deferred (some []))::L) w2:=hw1.alloc _
 have henter:(Instr.enterLoop (bodyFrame f).fn a.tmps ps.toArray assign body (bodyFrame f).roundOf).run P w=.ok (l,[{ target:=.collected r,args:=#[] }]) w2:=by
  simp[Instr.enterLoop,bodyFrame,r,l,lp,w2,w1]
 let C:List α->HF->LH->Prop:=λdone h' B=>∃L',B=(l,.loop lp)::(r,.deferred (some []))::L'/\I done h' L'
 let Sp:HF->LH->Prop:=λh' B=>∃c L',B=(l,.loop { lp with state:=.done,pending:=some c })::(r,.deferred (some []))::L'/\J c h' L'
 let Pm:List PanicEntry->HF->LH->Prop:=λch h' B=>∃lp' L',B=(l,.loop lp')::(r,.deferred (some []))::L'/\Pn ch h' L'
 have hps':∀p∈ps,p<n:=λp hp=>oJ (Si.1 hps p hp)
 have hy:∀done x vs h'' B,(∃rest,S (done++x::rest))->h.le h''->C done h'' B->val x h'' vs->mN P (.func (.yield l) #[] #[]) vs.toArray h'' B (YR C Sp Pm done x):=by
  rintro done x vs h'' B hxs hle ⟨L',rfl,hI⟩ hv
  refine mN.mono (R:=RdR l r lp I J Pn done x) (wF (i:=0) (lp:=lp) rfl (by simp[lp];exact hval x h'' vs hv) ?_) ?_
  .intro X' _ hX' hXM'
   have henv:envOf { tmps:=(ps.toArray.zip vs.toArray).foldl (λtmps p=>tmps.setIfInBounds p.1 p.2) a.tmps,defers:=[] }=setParams e ps vs:=by
    have:=rF ps vs a.tmps a.defers hn hps'
    rw[←he]
    rw[←TW]
    simpa using this
   have:=round l r lp done x vs h'' L' X' hxs hle hI hv rfl hX' hXM'
   rw[←henv,←hn]at this
   exact this
  .rintro x' h3 B' _ (⟨e1,L2,e2,h2⟩|⟨e1,c,L2,e2,h2⟩|⟨ch,e1,lp',L2,e2,h2⟩)
   .exact .inl ⟨e1,L2,e2,h2⟩
   .exact .inr (.inl ⟨e1,c,L2,e2,h2⟩)
   .exact .inr (.inr ⟨ch,e1,lp',L2,e2,h2⟩)
 have hs:=hit (.yield l) #[] #[] C Sp Pm h ((l,.loop lp)::(r,.deferred (some []))::L) (jH h) (λ_ _ _ _ hl⟨L',e1,hi⟩=>⟨L',e1,hIm _ _ _ _ hl hi⟩) (λ_ _ _ hl⟨c,L',e1,hi⟩=>⟨c,L',e1,hJm _ _ _ _ hl hi⟩) (λ_ _ _ _ hl⟨lp',L',e1,hi⟩=>⟨lp',L',e1,hPm _ _ _ _ hl hi⟩) ⟨L,rfl,h0⟩ hy
 obtain⟨nx,hrun,hcall⟩:=hs w2 hw2.pre
 have hev:a.eval g=e.ev g:=by rw[j9,he]
 have hnx:nx=.enter f0 (Value.func (.yield l) #[] #[]::cap).toArray:=by
  simp[kH,invoke,hc0]at hrun
  simpa using hrun.symm
 subst hnx
 have hres:(resolve a.eval (rangeCall g l) 0).run P w2=.ok { target:=.fn (.func f0) cap.toArray,args:=#[.func (.yield l) #[] #[]] } w2:=by
  have hcst:∀v,a.eval (.const v)=v:=λ_=>rfl
  simp[resolve,rangeCall,hev,hgv,hcst,kH]
 have hinv:(invoke (.fn (.func f0) cap.toArray) #[.func (.yield l) #[] #[]]).run P w2=.ok (.enter f0 (Value.func (.yield l) #[] #[]::cap).toArray) w2:=by
  simp[invoke,hc0]
 have hback:∀v w3,(∃h' B,St ⟨w2,h,((l,Obj.loop lp)::(r,.deferred (some []))::L).map (·.1)⟩ h' B w3/\(λ(r:Ending)(h2:HF)(B:LH)=>(r=.returned (.tuple #[])/\((∃xs,S xs/\C xs h2 B)\/Sp h2 B))\/∃ch,r=.panicked ch/\Pm ch h2 B) (.returned v) h' B) ->
   To P Φ (lone (((bodyFrame f).atR { a with defers:=[{ target:=.collected r,args:=#[] }]++a.defers } (.inRangeFunc l::k)).finish v) cs w3):=by
  rintro v w3 ⟨h',B,hst,hR⟩
  rw[finish_atR_inRangeFunc]
  have hS3:St X h' B w3:=by
   have:=S4 (A:=(l,.loop lp)::(r,.deferred (some []))::L) (F:=[]) (by simpa using hw2) hst
   simpa using this
  have hle:=hst.le
  rcases hR with⟨_,hCS⟩|⟨ch,hx,_⟩
  .rcases hCS with⟨xs,hxs,L',rfl,hI⟩|⟨c,L',rfl,hJ⟩
   .have hb:w3.heap[l]? = some (.loop lp):=hS3.own _ (zB ..)
    have hend:(Instr.endLoop l).run P w3=.ok none { w3 with heap:=w3.heap.setIfInBounds l (.loop { lp with state:=.exhausted }) }:=by
     simp[Instr.endLoop,Td,getObj,setObj,T7,hb,lp]
    refine .step (stepR_endRangeFunc hend) ?_
    have hS4:=hS3.write (i:=0) rfl (.loop { lp with state:=.exhausted })
    exact next r xs h' L' hxs hle hI _ (hS4.sub (List.sublist_cons_self ..)) { a with defers:={ target:=.collected r,args:=#[] }::a.defers } cs Φ hn he (by rw[hds]) hF
   .have hb:w3.heap[l]? = some (.loop { lp with state:=.done,pending:=some c }):=hS3.own _ (zB ..)
    have hend:(Instr.endLoop l).run P w3=.ok (some c) { w3 with heap:=w3.heap.setIfInBounds l (.loop { lp with state:=.exhausted,pending:=some c }) }:=by
     simp[Instr.endLoop,Td,getObj,setObj,T7,hb,lp]
    refine .step (stepR_endRangeFunc hend) ?_
    have hS4:=hS3.write (i:=0) rfl (.loop { lp with state:=.exhausted,pending:=some c })
    exact jump r c h' L' hle hJ _ (hS4.sub (List.sublist_cons_self ..)) { a with defers:={ target:=.collected r,args:=#[] }::a.defers } cs Φ hn he (by rw[hds]) hF
  .cases hx
 have hraise:∀ch w3,(∃h' B,St ⟨w2,h,((l,Obj.loop lp)::(r,.deferred (some []))::L).map (·.1)⟩ h' B w3/\(λ(r:Ending)(h2:HF)(B:LH)=>(r=.returned (.tuple #[])/\((∃xs,S xs/\C xs h2 B)\/Sp h2 B))\/∃ch,r=.panicked ch/\Pm ch h2 B) (.panicked ch) h' B) ->
   To P Φ (lone (((bodyFrame f).atR { a with defers:=[{ target:=.collected r,args:=#[] }]++a.defers } (.inRangeFunc l::k)).raise ch) cs w3):=by
  rintro ch w3 ⟨h',B,hst,hR⟩
  have hS3:St X h' B w3:=by
   have:=S4 (A:=(l,.loop lp)::(r,.deferred (some []))::L) (F:=[]) (by simpa using hw2) hst
   simpa using this
  rcases hR with⟨hx,_⟩|⟨ch',hx,lp',L',rfl,hP⟩
  .cases hx
  .cases hx
   exact pan r ch h' L' hst.le hP w3 (hS3.sub (List.sublist_cons_self ..)) { a with defers:={ target:=.collected r,args:=#[] }::a.defers } cs Φ _ hn he (by rw[hds]) hF
 refine .step (stepR_rangeFunc henter hres hinv) ?_
 exact hcall _ cs Φ hback hraise
theorem w6{es:List MapEntry}(hn:(es.map (·.born)).Nodup)(is:List Nat)(hlt:∀i∈is,i<es.length):
  ((leftOf es.toArray (is.map λi=>(es[i]?.map (·.born)).getD 0).toArray).size=0->∀i,i<es.length->i∈is) /\
  ∀en∈(leftOf es.toArray (is.map λi=>(es[i]?.map (·.born)).getD 0).toArray).toList,∃i,es[i]? = some en/\i∉is:=by
 have hmem:∀en,en∈(leftOf es.toArray (is.map λi=>(es[i]?.map (·.born)).getD 0).toArray).toList↔en∈es/\en.born∉is.map λi=>(es[i]?.map (·.born)).getD 0:=by
  intro en
  simp[leftOf]
 constructor
 .intro h0 i hi
  apply Classical.byContradiction
  intro hni
  have:es[i]∈(leftOf es.toArray (is.map λi=>(es[i]?.map (·.born)).getD 0).toArray).toList:=by
   rw[hmem]
   refine⟨List.getElem_mem hi,λhm=>?_⟩
   obtain⟨j,hj,hje⟩:=kJ.1 hm
   have hjl:=hlt j hj
   simp only[vF hjl,Option.map_some,Option.getD_some]at hje
   have:j=i:=by
    have h1:(es.map (·.born))[j]? = (es.map (·.born))[i]?:=by simp[vF hjl,vF hi,hje]
    exact(List.getElem?_inj (by simpa using hjl) hn).1 h1
   exact hni (this▸hj)
  have hl:(leftOf es.toArray (is.map λi=>(es[i]?.map (·.born)).getD 0).toArray).toList.length=0:=by simpa using h0
  rw[List.length_eq_zero_iff]at hl
  rw[hl]at this
  exact jA this
 .intro en hen
  rw[hmem]at hen
  obtain⟨i,hi,rfl⟩:=List.mem_iff_getElem.1 hen.1
  refine⟨i,vF hi,λhm=>hen.2 (kJ.2 ⟨i,hm,?_⟩)⟩
  simp[vF hi]
end
section
section
variable {P:Program} {b:Frame} {n:Nat} {k:List Item} {F:List Frame->(Machine->Prop)->Prop} {e:Env} {ds:List Deferred} {X:Cx} {h:HF} {L:LH}
theorem He(sl:ι->List (Nat×Value))(LL:ι->LH)(I:ι->Prop)(hk:∀i,I i->∀e',TT P b n k F (upds e' (sl i)) ds X h (LL i))(t':(∀i e',I i->i9 e' (sl i)->TT P b n k F e' ds X h (LL i))->TT P b n (.code c::k) F e ds X h L):TT P b n (.code c::k) F e ds X h L:=
 t' λi e' hI hr=>by have:=hk i hI e';rw[hr.upds]at this;exact this
end
theorem Me{n:Nat}{F:List Frame->(Machine->Prop)->Prop}{h:HF}{L:LH}{val:α->HF->List Value->Prop}(rs:List Nat)(hh:ι->HF)(LL:ι->LH)(I:List α->ι->Prop)(JR:ι->Prop)(xid:Nat)(Q:List PanicEntry->HF->LH->Prop)(i₀ : ι)(hf:P.funcs[f]? = some fn)(hgv:e.ev g=it)(hit:Itr P it val xs h)(hps:ps.all (λp=>zR p n)=true)(hval:∀x h vs,val x h vs->vs.length=ps.length)(hQm:∀ch h1 h2 B,kK h1 h2->Q ch h1 B->Q ch h2 B)(hh0:hh i₀=h)(hL0:L=LL i₀)(h0:I xs i₀)(round:∀(l r:Nat)(lp:Loop)(x:α)(rest:List α)(vs:List Value)(i:ι)(h':HF)(X':Cx)(FR:List Frame->(Machine->Prop)->Prop),I (x::rest) i->h.le h'->(hh i).le h'->val x h' vs->X'.h0=h'->(∀b∈X'.M,b<X'.w0.heap.size)->lp.state=.ready ->
   (∀i' e' h2,I rest i'->(hh i').le h2->TT P (roundFrame l f) n [] FR e' [] X' h2 (rdH l r lp (LL i'++markB rs))) ->
   (∀i' e' h2 k',JR i'->(hh i').le h2->TT P (roundFrame l f) n (.code .ret::k') FR e' [] X' h2 (rdH l r lp (LL i'++markB rs))) ->
   (∀i' e' h2 k',I [] i'->(hh i').le h2->exitTo xid k'=none->TT P (roundFrame l f) n (.code (.exit xid)::k') FR e' [] X' h2 (rdH l r lp (LL i'++markB rs))) ->
   (∀ch e' h' L',Q ch h' L'->TP P (roundFrame l f) n ch FR e' [] X' h' (rdH l r lp (L'++markB rs))) ->
   TT P (roundFrame l f) n [.code assign,.beginRound,.code body] FR (setParams e ps vs) [] X' h' ((l,.loop lp)::(r,.deferred (some []))::(LL i++markB rs)))(next:∀r i h',I [] i->(hh i).le h'->h.le h'->TT P (bodyFrame f) n k F e (marks (r::rs)) X h' (LL i++markB (r::rs)))(jret:∀r i h',JR i->(hh i).le h'->h.le h'->TT P (bodyFrame f) n (.code .ret::.inBlock xid::k) F e (marks (r::rs)) X h' (LL i++markB (r::rs)))(pan:∀r ch h' L',Q ch h' L'->h.le h'->TP P (bodyFrame f) n ch F e (marks (r::rs)) X h' (L'++markB (r::rs))):
  TT P (bodyFrame f) n (.code (.rangeFunc g ps.toArray assign body)::.inBlock xid::k) F e (marks rs) X h (L++markB rs):=
 jw rs hh LL I JR (λi=>I [] i) xid Q i₀ hf hgv hit hps hval hQm hh0 hL0 h0 round (λr i h' a b c=>eB (next r i h' a b c)) jret
  (λr i h' a b c=>mr (by simp[exitTo]) (next r i h' a b c)) pan
section mputs
variable {κ α : Type} [DecidableEq κ]
def mputs(v:α)(m:List (κ×α))(ks:List κ):List (κ×α):=ks.foldl (λm k=>mput m k v) m
theorem CB(v:α):∀(ks:List κ){m m':List (κ×α)},m.Perm m'->(m.map (·.1)).Nodup->(mputs v m ks).Perm (mputs v m' ks)
 |[],_,_,p,_=>p
 |k::ks,_,_,p,hn=>CB v ks (GI k v p hn) (ju k v hn)
theorem sy(v:α){ks ks':List κ}(p:ks.Perm ks'):∀{m:List (κ×α)},(m.map (·.1)).Nodup->(mputs v m ks).Perm (mputs v m ks'):=by
 induction p with
 |nil=>exact λ_=>List.Perm.refl _
 |cons x p ih=>exact λhn=>ih (ju x v hn)
 |swap x y l=>exact λhn=>CB v l (GJ v _ y x) (ju x v (ju y v hn))
 |trans p q ih1 ih2=>exact λhn=>(ih1 hn).trans (ih2 hn)
end mputs
theorem p132(a b c:α):[a,c,b].Perm [a,b,c]:=List.Perm.cons a (List.Perm.swap b c [])
theorem p213(a b c:α):[b,a,c].Perm [a,b,c]:=List.Perm.swap a b [c]
theorem p231(a b c:α):[b,c,a].Perm [a,b,c]:=(List.Perm.cons b (List.Perm.swap a c [])).trans (p213 a b c)
theorem p312(a b c:α):[c,a,b].Perm [a,b,c]:=(List.Perm.swap a c [b]).trans (p132 a b c)
theorem p321(a b c:α):[c,b,a].Perm [a,b,c]:=(List.Perm.cons c (List.Perm.swap a b [])).trans (p312 a b c)
end
variable {C3 i:Nat}{base:Option Addr}{dir:ChanDir}{z:Go.Value}
section
section grow
variable {α : Type} {R:Rp α} {E:TypeId} {h:HF} {xs:List α} {base:Option Addr} {cap:Nat} {G:LH}
theorem dA.yl(hG:dA R E h xs base cap G)(hne:0<xs.length):∃bk,base=some ⟨bk,0,none⟩:=by
 rcases hG with⟨rfl,_⟩|⟨bk,_,_,e,_⟩
 .simp at hne
 .exact⟨bk,e⟩
theorem dA.QN(hG:dA R E h xs base cap G):xs.length<=cap:=by
 rcases hG with⟨rfl,_⟩|⟨bk,cl,sp,_,_,_,h4,_⟩
 .simp
 .exact h4
theorem bP.split:∀{xs ys:List α}{cl:List Value},bP R h cl (xs++ys)->∃a b,cl=a++b/\bP R h a xs/\bP R h b ys
 |[],ys,cl,hc=>⟨[],cl,rfl,rfl,hc⟩
 |x::xs,ys,cl,⟨cs,rest,e,hl,hr,hc⟩=>by
  obtain⟨a,b,rfl,h1,h2⟩:=bP.split hc
  exact⟨cs++a,b,by rw[e,qE],⟨cs,a,rfl,hl,hr,h1⟩,h2⟩
theorem dA.take(hG:dA R E h xs base cap G)(k:Nat):dA R E h (xs.take k) base cap G:=by
 rcases hG with⟨rfl,rfl,rfl,rfl⟩|⟨bk,cl,sp,e,hc,h3,h4,h5,rfl⟩
 .rw[List.take_nil];exact dA.nil
 .rw[←List.take_append_drop k xs]at hc
  obtain⟨a,b,rfl,h1,h2⟩:=bP.split hc
  refine .inr ⟨bk,a,b++sp,e,h1,by rw[←qE];exact h3,?_,?_,by rw[qE]⟩
  .rw[List.length_take];omega
  .rw[List.length_take];omega
end grow
section runs
variable {P:Program} {e:Env} {X:Cx} {h:HF} {L:LH} {d:Option Nat} {ty:TypeId} {pos:String} {af:Array Edge} {g:Option (Nat×Bool)}
variable {α : Type} {R:Rp α} {E:TypeId} {xs:List α} {base:Option Addr} {cap bk:Nat} {G:LH}
theorem nX{t:TypeId}{m:Nat}{z:Int}(hT:P.underlying t=some (.slice E))(hS:tySz P E=some (R.sz,a))(hb:base=some ⟨bk,0,none⟩)(hz:0<=z/\z<(xs.length:Int))(hx:e.ev x=.slice base m cap)(hm:m=xs.length)(hix:e.ev ix=.int .i64 z):∀w,St X h L w->(execOp e.ev ⟨d,.indexAddr t x ix,ty,pos,af,g⟩).run P w=.ok (.value (.pointer (some ⟨bk,z.toNat*R.sz,none⟩))) w:=by
 subst hb hm
 have hzz:z=(z.toNat:Int):=by omega
 rw[hzz]at hix
 intro w hw
 rw[Ep hT hS hx hix (by omega) w hw,pD]
theorem Cu{t:TypeId}{m:Nat}{y:α}{h0:HF}(hT:tySz P t=some (m,false))(hG:dA R E h0 xs base cap G)(hb:base=some ⟨bk,0,none⟩)(hi:xs[i]? = some y)(hv:∀cs,R.rep h0 cs y->nth cs off=some v)(hx:e.ev x=.pointer (some ⟨bk,i*R.sz+off,none⟩))(hm:∀p∈G,p∈L):∀w,St X h L w->(execOp e.ev ⟨d,.load t x,ty,pos,af,g⟩).run P w=.ok (.value v) w:=by
 rcases hG with⟨rfl,_⟩|⟨bk',cl,sp,e1,hc,_,_,_,rfl⟩
 .simp at hi
 .rw[hb]at e1
  cases e1
  obtain⟨cs,hl,hr,hcell⟩:=hc.get i y hi
  have hv':=hv cs hr
  rw[hZ]at hv'
  have h9:=hcell off v hv'
  refine wO hT hx (hm _ (List.mem_singleton.2 rfl)) ?_
  rw[hZ,List.getElem?_append_left (by
   rcases vK (i*R.sz+off) cl.length with q|q
   .exact q
   .simp[xJ q]at h9)]
  exact h9
end runs
theorem vu(a b:List α)(i:Nat)(x:α)(hi:i<a.length):setNth (a++b) i x=setNth a i x++b:=by
 rw[mw,mw,List.set_append_left _ _ hi]
theorem BF(a b:List α)(i:Nat)(x:α):setNth (a++b) (a.length+i) x=a++setNth b i x:=by
 rw[mw,mw,List.set_append_right _ _ (Nat.le_add_right _ _)];simp
theorem bP.set{α : Type}{R:Rp α}{h:HF}{off:Nat}{v:Value}{y y':α}(ho:off<R.sz)(hrep:∀cs,R.rep h cs y->R.rep h (setNth cs off v) y'):
  ∀{xs:List α}{cl:List Value}(i:Nat),bP R h cl xs->xs[i]? = some y->bP R h (setNth cl (i*R.sz+off) v) (xs.set i y')
 |x::xs,cl,0,⟨cs,rest,e,hl,hr,hc⟩,hi=>by
  simp at hi
  subst hi
  rw[e,Nat.zero_mul,Nat.zero_add,vu _ _ _ _ (by omega)]
  exact⟨setNth cs off v,rest,rfl,by rw[qg];exact hl,hrep cs hr,hc⟩
 |x::xs,cl,i+1,⟨cs,rest,e,hl,hr,hc⟩,hi=>by
  have ih:=bP.set ho hrep i hc (by simpa using hi)
  rw[e,show(i+1)*R.sz+off=cs.length+(i*R.sz+off)from by rw[hl,Nat.add_mul];omega,BF]
  exact⟨cs,_,rfl,hl,hr,ih⟩
 |[],_,_,_,hi=>by simp at hi
section steps
variable {P:Program} {b:Frame} {n:Nat} {ops:Array Oper} {F:List Frame->(Machine->Prop)->Prop} {e:Env} {ds:List Deferred} {X:Cx} {h:HF} {L:LH} {K:Env->HF->LH->Prop}
variable {d:Option Nat} {ty:TypeId} {pos:String} {af:Array Edge} {g:Option (Nat×Bool)}
variable {α : Type} {R:Rp α} {E:TypeId} {xs:List α} {base:Option Addr} {cap bk:Nat}
theorem AA(A G Q:LH){t:TypeId}{m:Nat}{u u':α}(hT:tySz P t=some (m,a))(hm:m=1)(hG:dA R E h xs base cap G)(hL:L=A++(G++Q))(hb:base=some ⟨bk,0,none⟩)(hi:xs[i]? = some u)(ho:off<R.sz)(hrep:∀cs,R.rep h cs u->R.rep h (setNth cs off v) u')(hx:e.ev x=.pointer (some ⟨bk,i*R.sz+off,none⟩))(hv:vcells (e.ev y)=[v])(h1:one v=true)(t':∀G',dA R E h (xs.set i u') base cap G'->K e h (A++(G'++Q)))(hg:guardB ops e ⟨none,.store t x y,ty,pos,af,g⟩=true:=by rfl):Stp P b n ops F ds X ⟨none,.store t x y,ty,pos,af,g⟩ e h L K:=by
 subst hL hm
 rcases hG with⟨rfl,_⟩|⟨bk',cl,sp,e1,hc,h3,h4,h5,rfl⟩
 .simp at hi
 .have e2:=e1
  rw[hb]at e2
  cases e2
  have hlen:=hc.len
  have hil:i<xs.length:=by
   rcases vK i xs.length with q|q
   .exact q
   .simp[xJ q]at hi
  have hlt:i*R.sz+off<cl.length:=by
   rw[hlen]
   have:=Nat.mul_le_mul_right R.sz (show i+1<=xs.length from hil)
   rw[Nat.add_mul]at this;omega
  have hnth:nth (A++([(bk,qJ (cl++sp).toArray E (0,0))]++Q)) A.length=some (bk,.cells (cl++sp).toArray E (0,0)):=Lw A _ Q
  refine kO A.length hT hx hnth hv rfl (by simp;omega) (by simp[h1]) ?_ hg
  have hs:splice (cl++sp) (i*R.sz+off) [v]=setNth cl (i*R.sz+off) v++sp:=by
   simp only[splice];rw[vu _ _ _ _ hlt]
  rw[hs]
  have hset:=DX A (bk,qJ (cl++sp).toArray E (0,0)) (bk,qJ (setNth cl (i*R.sz+off) v++sp).toArray E (0,0)) Q
  show K e h (setNth (A++(bk,qJ (cl++sp).toArray E (0,0))::Q) A.length _)
  rw[hset]
  refine t' [(bk,.cells (setNth cl (i*R.sz+off) v++sp).toArray E (0,0))] (.inr ⟨bk,setNth cl (i*R.sz+off) v,sp,e1,bP.set ho hrep i hc hi,?_,?_,?_,rfl⟩)
  .rw[kA,qg,←kA];exact h3
  .rw[List.length_set];exact h4
  .rw[List.length_set];exact h5
theorem DZ{t:TypeId}{hi:Operand}{m:Nat}{z:Int}{G:LH}(hT:P.underlying t=some (.slice E))(hS:tySz P E=some (R.sz,a))(hG:dA R E h xs base cap G)(hz:0<=z/\z<=(xs.length:Int))(hx:e.ev x=.slice base m cap)(hm:m=xs.length)(hhi:e.ev hi=.int .i64 z)(t':K (pute e d (.slice base (xs.take z.toNat).length cap)) h L)(hg:guardB ops e ⟨d,.slice t x none (some hi) none,ty,pos,af,g⟩=true:=by rfl):Stp P b n ops F ds X ⟨d,.slice t x none (some hi) none,ty,pos,af,g⟩ e h L K:=by
 subst hm
 have hcap:=hG.QN
 have hz2:0<=z/\z<=(cap:Int):=by omega
 have hl:z.toNat=(xs.take z.toNat).length:=by simp;omega
 refine ff (v:=.slice base (xs.take z.toNat).length cap) (λw hw=>?_) t' hg
 rw[←hl]
 by_cases h0:cap=0
 .have hz0:z=0:=by omega
  subst hz0
  simp[execOp,Instr.sliceAt,Instr.slice,Instr.sliceBounds,Instr.sliceBound,hx,hhi,asIntOf,run_underlying hT,iz hS,hz2,h0]
 .simp[execOp,Instr.sliceAt,Instr.slice,Instr.sliceBounds,Instr.sliceBound,hx,hhi,asIntOf,run_underlying hT,iz hS,hz2,h0,zT]
theorem AB(A G Q:LH)(hc:∀args w,(callFunc f args).run P w=.ok (.enter f args) w)(hm:R.Mono)(hG:dA R E h xs base cap G)(hL:L=A++(G++Q))(hs:∀h1,h.le h1->SlC R h1 base cap xs->Ret P f vs h1 v)(hvs:ass.toList.map e.ev=vs)(t':K (pute e d v) h L)(hg:guardB ops e ⟨d,.call ⟨.value (.func f),ass,ats⟩,ty,pos,af,g⟩=true:=by rfl):
  Stp P b n ops F ds X ⟨d,.call ⟨.value (.func f),ass,ats⟩,ty,pos,af,g⟩ e h L K:=by
 unfold Stp
 rw[if_pos hg]
 intro w hw
 have harr:ass.map e.ev=vs.toArray:=Sd (by simp[←hvs])
 have hr:(execOp e.ev ⟨d,.call ⟨.value (.func f),ass,ats⟩,ty,pos,af,g⟩).run P w=.ok (.enter f vs.toArray) w:=by
  simp[execOp,resolve,Tz,kH,invoke,harr,hc]
 rw[hr]
 have back:∀(h1:HF),h.le h1->(∀bk o,h1 bk=some o->w.heap[bk]? = some o)->SlC R h1 base cap xs->uJ P b n ops F ds X ⟨d,.call ⟨.value (.func f),ass,ats⟩,ty,pos,af,g⟩ e K (.ok (.enter f vs.toArray) w):=by
  intro h1 hle himm hsl
  have hp1:Pre h1 [] w:=⟨himm,λ_ hp=>(jA hp).elim,kQ,λ_ hp=>(jA hp).elim⟩
  refine lj (by simp) (ji (pT.mono (hs h1 hle hsl w hp1) ?_))
  rintro x w' ⟨h',B,hst,rfl,rfl,rfl⟩
  refine⟨h,L,⟨hst.os.trans hw.os,hst.tape.trans hw.tape,hst.output.trans hw.output,jP hw.size hst.size,λb' hb' hM=>?_,hw.le,hw.old,λb' o hb'=>?_,λp hp=>?_,hw.dis,hw.free,hw.new⟩,t'⟩
  .rw[hst.keep b' (SY hb' hw.size) (by simp)];exact hw.keep b' hb' hM
  .rw[hst.keep b' (fD (hw.imm b' o hb')) (by simp)];exact hw.imm b' o hb'
  .rw[hst.keep p.1 (fD (hw.own p hp)) (by simp)];exact hw.own p hp
 rcases hG with⟨rfl,rfl,rfl,rfl⟩|⟨bk,cl,sp,rfl,hcl,h3,h4,h5,rfl⟩
 .exact back h (jH h) hw.imm SlC.nil
 .have hmem:(bk,qJ (cl++sp).toArray E (0,0))∈L:=by rw[hL];simp
  have hle:h.le (h.add bk (.cells (cl++sp).toArray E (0,0))):=HF.zt (hw.free _ hmem)
  refine back _ hle (λk o hk=>?_) ⟨bP.slB (hcl.mono hm hle) (HF.uH _ _ _) h5,h4⟩
  unfold HF.add at hk
  by_cases e0:k=bk
  .subst e0;simp at hk;subst hk;exact hw.own _ hmem
  .rw[if_neg e0]at hk;exact hw.imm k o hk
theorem NH{t E:TypeId}{sz:Operand}{m:Nat}(hT:P.underlying t=some (.chan dir E))(hby:bytesOf P E=some C3)(hsz:e.ev sz=.int .i64 (m:Nat))(hm:m<=1000000000)(hb:C3<=4096)(t':∀bk,K (pute e d (.chan (some bk))) h ((bk,.chan m #[] false 0 0 false)::L))(hg:guardB ops e ⟨d,.makeChan t sz,ty,pos,af,g⟩=true:=by rfl):Stp P b n ops F ds X ⟨d,.makeChan t sz,ty,pos,af,g⟩ e h L K:=
 iM hg λw hw=>by
  refine⟨_,_,h,_,?_,hw.alloc (.chan m #[] false 0 0 false),t' _⟩
  have h1:¬((m:Int)>IntKind.i64.max):=by
   have:IntKind.i64.max=9223372036854775807:=by rfl
   omega
  have h2:∃i,P.info? E=some i/\i.bytes=C3:=by
   unfold bytesOf at hby
   cases hi:P.info? E with
   |none=>rw[hi]at hby;cases hby
   |some i=>rw[hi]at hby;exact⟨i,rfl,by simpa using hby⟩
  obtain⟨i,hi,hib⟩:=h2
  have h3:¬((i.bytes:Int)*(m:Int)>2 ^ 48-112):=by
   rw[hib]
   have:C3*m<=4096*1000000000:=Nat.mul_le_mul hb hm
   have h4:((C3:Int)*(m:Int))=((C3*m:Nat):Int):=by simp
   rw[h4];omega
  simp only[execOp,Instr.makeChan,hsz]
  simp[asInt,asIntOf,run_underlying hT,typeInfo,hi]
  intro hc
  exfalso
  have h1':¬(9223372036854775807<(m:Int)):=by omega
  have h3':¬(281474976710544<(i.bytes:Int)*(m:Int)):=by
   intro h9;exact h3 (by simpa using h9)
  rcases hc with hc|hc|hc
  .omega
  .exact h1' hc
  .exact h3' hc
end steps
theorem yV{s:GStep}{g:Goroutine}{cs:Array CommCase}{bl:Bool}{sh:CommShape}(h:s.bare=.comm g cs bl sh w):∃es,s=.comm g cs bl sh w es:=by
 cases s<;>simp at h
 obtain⟨rfl,rfl,rfl,rfl,rfl⟩:=h
 exact⟨_,rfl⟩
section comm
variable {P:Program} {b:Frame} {n:Nat} {ops:Array Oper} {l:List Oper} {k:List Item} {F:List Frame->(Machine->Prop)->Prop} {e:Env} {ds:List Deferred} {X:Cx} {h:HF} {L:LH}
variable {ty:TypeId} {pos:String} {af:Array Edge} {g:Option (Nat×Bool)}
theorem QB(i:Nat){ch:Operand}{c cap s r:Nat}(hL:nth L i=some (c,.chan cap vs.toArray false s r false))(hch:e.ev ch=.chan (some c))(hx:e.ev x=v)(hroom:vs.length<cap)(t:TO P b n ops l k F e ds X h (setNth L i (c,.chan cap (vs++[v]).toArray false (s+1) r false)))(hg:guardB ops e ⟨none,.send ch x,ty,pos,af,g⟩=true:=by rfl):TO P b n ops (⟨none,.send ch x,ty,pos,af,g⟩::l) k F e ds X h L:=by
 intro w hw is hi a cs Φ hn he hds hF
 obtain⟨j,js,rfl,ho,hj⟩:=pm hi
 have hwt:=(fL (ops:=ops) he).trans hg
 have hs:=stepGR_op (P:=P) (b:=b) (k:=k) (cs:=cs) (w:=w) (rest:=js) ho hwt
 rw[j1 _ _ rfl,j9,he]at hs
 have hb:w.heap[c]? = some (.chan cap vs.toArray false s r false):=by
  have h2:=hL
  rw[hZ]at h2
  exact hw.own _ (vE h2)
 have hcm:∃es,stepG P true (Go.Conc.G (b.atR a (.inRegion ops (j::js)::k)) cs) w=.comm (Go.Conc.G (b.atR a (.inRegion ops (j::js)::k)) cs) #[Go.Conc.scase c v (.tuple #[])] true .send w es:=by
  have hrun:(execOp e.ev ⟨none,.send ch x,ty,pos,af,g⟩).run P w=.ok (.comm #[Go.Conc.scase c v (.tuple #[])] true .send) w:=by
   simp[execOp,hch,hx,Go.Conc.scase]
  show ∃es,stepG P true { frame:=b.atR a (.inRegion ops (j::js)::k),callers:=cs,status:=.running,dying:=none } w=_
  refine yV ?_
  rw[hs]
  simp[stepG.apply,hrun,Go.Conc.G]
 obtain⟨es,hcm⟩:=hcm
 have h1:=Go.Conc.step_lone_send_room hcm hb (by simpa using hroom)
 refine .step h1 ?_
 rw[show Go.Conc.solo (Go.Conc.G ((b.atR a (.inRegion ops (j::js)::k)).finish undef) cs) (w.setChan c cap (vs.toArray.push v) false (s+1) r false)=lone ((b.atR a (.inRegion ops (j::js)::k)).finish undef) cs (w.setChan c cap (vs.toArray.push v) false (s+1) r false)from rfl,gI a js k ho undef]
 have hw2:=hw.write hL (.chan cap (vs++[v]).toArray false (s+1) r false)
 have e1:vs.toArray.push v=(vs++[v]).toArray:=by simp
 rw[e1]
 exact t _ hw2 js hj a cs Φ hn he hds hF
theorem QC(i:Nat){t:TypeId}{ch:Operand}{d c cap s r:Nat}(hT:P.underlying t=some (.chan dir E))(hz:zeroV P E=some z)(hL:nth L i=some (c,.chan cap (v::vs).toArray false s r false))(hch:e.ev ch=.chan (some c))(t':TO P b n ops l k F (upd e d v) ds X h (setNth L i (c,.chan cap vs.toArray false s (r+1) false)))(hd:Nat.blt d n=true:=by rfl)(hg:guardB ops e ⟨some d,.recv t ch false,ty,pos,af,g⟩=true:=by rfl):TO P b n ops (⟨some d,.recv t ch false,ty,pos,af,g⟩::l) k F e ds X h L:=by
 intro w hw is hi a cs Φ hn he hds hF
 obtain⟨j,js,rfl,ho,hj⟩:=pm hi
 have hwt:=(fL (ops:=ops) he).trans hg
 have hs:=stepGR_op (P:=P) (b:=b) (k:=k) (cs:=cs) (w:=w) (rest:=js) ho hwt
 rw[j1 _ _ rfl,j9,he]at hs
 have hb:w.heap[c]? = some (.chan cap (v::vs).toArray false s r false):=by
  have h2:=hL
  rw[hZ]at h2
  exact hw.own _ (vE h2)
 have hcm:∃es,stepG P true (Go.Conc.G (b.atR a (.inRegion ops (j::js)::k)) cs) w=.comm (Go.Conc.G (b.atR a (.inRegion ops (j::js)::k)) cs) #[Go.Conc.rcase c z] true (.recv false) w es:=by
  have hrun:(execOp e.ev ⟨some d,.recv t ch false,ty,pos,af,g⟩).run P w=.ok (.comm #[Go.Conc.rcase c z] true (.recv false)) w:=by
   simp[execOp,run_underlying hT,e8 hz,hch,Go.Conc.rcase]
  show ∃es,stepG P true { frame:=b.atR a (.inRegion ops (j::js)::k),callers:=cs,status:=.running,dying:=none } w=_
  refine yV ?_
  rw[hs]
  simp[stepG.apply,hrun,Go.Conc.G]
 obtain⟨es,hcm⟩:=hcm
 have h1:=Go.Conc.step_lone_recv_buf false hcm hb (by simp)
 refine .step h1 ?_
 have e2:Go.Conc.got false ((v::vs).toArray.getD 0 undef) true=v:=by simp[Go.Conc.got]
 have e1:(v::vs).toArray.extract 1 (v::vs).toArray.size=vs.toArray:=by simp
 rw[e2,e1]
 rw[show Go.Conc.solo (Go.Conc.G ((b.atR a (.inRegion ops (j::js)::k)).finish v) cs) (w.setChan c cap vs.toArray false s (r+1) false)=lone ((b.atR a (.inRegion ops (j::js)::k)).finish v) cs (w.setChan c cap vs.toArray false s (r+1) false)from rfl,gI a js k ho v]
 have hw2:=hw.write hL (.chan cap vs.toArray false s (r+1) false)
 have hdn:d<n:=kP hd
 exact t' _ hw2 js hj (a.put (some d) v) cs Φ (by rw[n1];exact hn) (by rw[oP _ _ _ (hn▸hdn),he]) (by rw[ml];exact hds) hF
end comm
section runs2
variable {P:Program} {e:Env} {X:Cx} {h:HF} {L:LH} {d:Option Nat} {ty:TypeId} {pos:String} {af:Array Edge} {g:Option (Nat×Bool)}
theorem Qp{t:TypeId}{ch:Operand}{c cap s r:Nat}(hT:P.underlying t=some (.chan dir E))(hL:(c,Obj.chan cap vs.toArray false s r false)∈L)(hch:e.ev ch=.chan (some c)):
  ∀w,St X h L w->(execOp e.ev ⟨d,.call ⟨.builtin .len,#[ch],#[t]⟩,ty,pos,af,g⟩).run P w=.ok (.value (.int .i64 (vs.length:Nat))) w:=λw hw=>by
 have hb:w.heap[c]? = some (.chan cap vs.toArray false s r false):=hw.own _ hL
 have hg:(getObj c).run P w=.ok (.chan cap vs.toArray false s r false) w:=by simp[getObj,T7,hb]
 simp[execOp,resolve,invoke,builtin,Builtin.len_,hch,run_underlying hT,hg,goInt]
theorem Mp{t:TypeId}{lo:Operand}{n m cap:Nat}(hT:P.underlying t=some (.slice E))(hS:tySz P E=some (sz,a))(hx:e.ev x=.slice (some ⟨bk,0,none⟩) n cap)(hlo:e.ev lo=.int .i64 (i:Nat))(hi:i<n)(hc:n<=cap)(hm:n-i=m)(h1:sz=1:=by rfl):
  ∀w,St X h L w->(execOp e.ev ⟨d,.slice t x (some lo) none none,ty,pos,af,g⟩).run P w=.ok (.value (.slice (some ⟨bk,i,none⟩) m (cap-i))) w:=λw hw=>by
 subst h1 hm
 have h2:¬(cap=i):=by omega
 have h3:(⟨bk,0,none⟩:Addr).add i=⟨bk,i,none⟩:=pD bk i
 simp[execOp,Instr.sliceAt,Instr.slice,Instr.sliceBounds,Instr.sliceBound,hx,hlo,asIntOf,run_underlying hT,iz hS,h2,h3,Nat.le_of_lt hi]
end runs2
theorem IH{R:Rp α}{h:HF}{L:LH}{t:TypeId}{ys:List α}{cap:Nat}{x:Value}(hw:St X h L w)(hT:P.underlying t=some (.slice E))(hS:tySz P E=some (R.sz,a))(hz:zeroC P E=some zs)(hzl:zs.length=R.sz)(hby:bytesOf P E=some C3)(hs1:Src R h L (.slice base xs.length cap) xs)(hsrc:Src R h L x ys)(hcap:cap<xs.length+ys.length)(hb:(xs.length+ys.length)*C3<=140737488355328)(hb2:xs.length+ys.length<=9223372036854775807):
  ∃base' cap' G' w',(Builtin.append_ #[t,t] ty #[.slice base xs.length cap,x]).run P w=.ok (.slice base' (xs++ys).length cap') w'/\dA R E h (xs++ys) base' cap' G'/\St X h (G'++L) w':=by
 obtain⟨i,hi,hby'⟩:∃i,P.info? E=some i/\i.bytes=C3:=by
  unfold bytesOf at hby
  cases hi:P.info? E with
  |none=>simp[hi]at hby
  |some i=>exact⟨i,rfl,by simpa[hi]using hby⟩
 have hsz:i.size=R.sz:=by
  have:=iz hS w
  simpa[sizeOf,typeInfo,hi]using this
 obtain⟨z,hzz,hzc⟩:∃z,i.zero=some z/\z.cells=zs.toArray:=by
  unfold zeroC at hz
  cases hzz:i.zero with
  |none=>simp[hi,hzz]at hz
  |some z=>exact⟨z,rfl,by simp[hi,hzz]at hz;rw[m6,hz]⟩
 have hnewlen:(xs++ys).length=xs.length+ys.length:=by simp
 have hroom:¬xs.length+ys.length<=cap:=by omega
 have hwd:St X h L w.drew:=hw.drew _
 obtain⟨cl0,b0,c0,hx0,hc0,hf0⟩:=xY (P:=P) hs1 hwd
 obtain⟨cl',b1,c1,hx',hc',hf'⟩:=xY (P:=P) hsrc hwd
 have hfit:Builtin.nextslicecap (xs.length+ys.length) cap*i.bytes<=281474976710656:=growslice_fits hcap (by rw[hby'];exact hb)
 have h48':¬(281474976710656<Builtin.nextslicecap (xs.length+ys.length) cap*i.bytes):=by omega
 have h63':¬(9223372036854775807<((xs.length:Int)+(ys.length:Int))):=by omega
 have hge:=grownCap_ge w (xs.length+ys.length) cap E
 let nc:=grownCap w (xs.length+ys.length) cap E
 let rest:=(Builtin.zeroCells z.cells (nc-(xs.length+ys.length))).toList
 refine⟨some ⟨w.heap.size,0,none⟩,nc,[(w.heap.size,.cells ((cl0++cl')++rest).toArray E (0,0))],w.drew.alloc (.cells ((cl0++cl')++rest).toArray E),?_,?_,?_⟩
 .subst hx'
  rw[←hsz]at hf0 hf'
  simp[Builtin.append_,run_underlying hT,sizeOf,typeInfo,zeroValue,hi,hzz,Builtin.lenOf,hroom,h63',h48',Question.forced,hf0,hf',newRow,grownCap,nc,rest]
  congr 2
  apply Sd
  simp
 .refine .inr ⟨w.heap.size,cl0++cl',rest,rfl,bP.app hc' hc0,?_,by rw[hnewlen];exact hge,by rw[hnewlen];exact hb2,rfl⟩
  have:rest.length=(nc-(xs.length+ys.length))*R.sz:=by
   simp[rest,Builtin.zeroCells,hzc,hzl]
  simp only[kA,this,hc0.len,hc'.len,←Nat.add_mul]
  congr 1
  omega
 .exact hwd.alloc (.cells ((cl0++cl')++rest).toArray E (0,0))
section steps3
variable {P:Program} {b:Frame} {n:Nat} {ops:Array Oper} {F:List Frame->(Machine->Prop)->Prop} {e:Env} {ds:List Deferred} {X:Cx} {h:HF} {L:LH} {K:Env->HF->LH->Prop}
variable {d:Option Nat} {ty:TypeId} {pos:String} {af:Array Edge} {g:Option (Nat×Bool)}
theorem Gm{R:Rp α}{t:TypeId}{s:Operand}{ys:List α}{cap:Nat}{m:Nat}(hT:P.underlying t=some (.slice E))(hS:tySz P E=some (R.sz,a))(hz:zeroC P E=some zs)(hzl:zs.length=R.sz)(hby:bytesOf P E=some C3)(hs1:Src R h L (.slice base xs.length cap) xs)(hx:e.ev s=.slice base m cap)(hm:m=xs.length)(hsrc:Src R h L (e.ev y) ys)(hcap:cap<xs.length+ys.length)(hb:(xs.length+ys.length)*C3<=140737488355328)(hb2:xs.length+ys.length<=9223372036854775807)(t':∀base' cap' G',dA R E h (xs++ys) base' cap' G'->K (pute e d (.slice base' (xs++ys).length cap')) h (G'++L))(hgd:guardB ops e ⟨d,.call ⟨.builtin .append,#[s,y],#[t,t]⟩,ty,pos,af,g⟩=true:=by rfl):Stp P b n ops F ds X ⟨d,.call ⟨.builtin .append,#[s,y],#[t,t]⟩,ty,pos,af,g⟩ e h L K:=
 iM hgd λw hw=>by
  subst hm
  obtain⟨base',cap',G',w',hr,hG',hst⟩:=IH (P:=P) (ty:=ty) hw hT hS hz hzl hby hs1 hsrc hcap hb hb2
  refine⟨_,w',h,_,?_,hst,t' _ _ _ hG'⟩
  simp[execOp,resolve,invoke,builtin,hx,hr]
theorem Mm{t:TypeId}{len:Nat}{cells:List Value}(hXM:∀b∈X.M,b<X.w0.heap.size)(hT:P.underlying t=some (.slice E))(hS:tySz P E=some (sz,a))(hz:zeroC P E=some zs)(hpos:zR 0 (len*sz)=true)(hlt:T9 (len*sz) 16777216=true)(hc:Instr.fill (λi=>some (i*sz,sz)) ((Array.range (len*sz)).map (zs.toArray[·%zs.toArray.size]!)) (parts.toList.map λp=>(p.1,e.ev p.2))=some cells.toArray)(t':∀bk,bk∉X.M->K (pute e d (.slice (some ⟨bk,0,none⟩) len len)) h ((bk,.cells cells.toArray E (0,0))::L))(hg:guardB ops e ⟨d,.buildSlice t len parts,ty,pos,af,g⟩=true:=by rfl):Stp P b n ops F ds X ⟨d,.buildSlice t len parts,ty,pos,af,g⟩ e h L K:=
 iM hg λw hw=>by
  obtain⟨z,h1,h2⟩:=rO hz w
  have hp:=oJ hpos
  have hl:=kP hlt
  have hparts:(parts.map λx=>(x.1,e.ev x.2)).toList=parts.toList.map λp=>(p.1,e.ev p.2):=by simp
  refine⟨_,_,h,_,?_,hw.alloc _,t' _ (λhm=>by have:=hXM _ hm;have:=hw.size;omega)⟩
  have hne:¬len*sz=0:=by omega
  have hnl:¬len*sz>2 ^ 24:=by omega
  simp only[execOp,Instr.buildSlice,qN,run_underlying hT,zL,iz hS,hnl,hne,if_false,h1,h2,S9,hparts]
  rw[hc]
  simp[newRow]
theorem Hn(A Q:LH){t:Nat}{Φ:LH->Prop}(hL:L.Perm (A++Q))(hs:mN P fv vs.toArray h A (λx h' B=>x=.returned (.tuple #[])/\h'=h/\Φ B))(hf:e t=fv)(hvs:ass.toList.map e.ev=vs)(t':∀B,Φ B->K (pute e d (.tuple #[])) h (B++Q))(hg:guardB ops e ⟨d,.call ⟨.value (.tmp t),ass,ats⟩,ty,pos,af,g⟩=true:=by rfl):Stp P b n ops F ds X ⟨d,.call ⟨.value (.tmp t),ass,ats⟩,ty,pos,af,g⟩ e h L K:=by
 unfold Stp
 rw[if_pos hg]
 intro w hw
 have hw':=hw.perm hL
 have harr:ass.map e.ev=vs.toArray:=Sd (by simp[←hvs])
 obtain⟨nx,hrun,hcall⟩:=hs w (Pre.left (A:=A) hw'.pre)
 have hr:(execOp e.ev ⟨d,.call ⟨.value (.tmp t),ass,ats⟩,ty,pos,af,g⟩).run P w=.ok nx w:=by
  rw[←hrun]
  simp[execOp,resolve,Tz,harr,hf]
 rw[hr]
 refine lj (ng hcall) (hcall.mono ?_)
 rintro x w' ⟨h',B,hst,rfl,rfl,hB⟩
 exact⟨h',_,S4 (A:=A) (F:=Q) hw' hst,t' B hB⟩
theorem D0{o:Oper}(hp:L.Perm L')(t:Stp P b n ops F ds X o e h L' K)(hg:guardB ops e o=true:=by rfl):Stp P b n ops F ds X o e h L K:=by
 unfold Stp at t ⊢
 rw[if_pos hg]at t ⊢
 exact λw hw=>t w (hw.perm hp)
end steps3
section runs3
variable {P:Program} {e:Env} {X:Cx} {h:HF} {L:LH} {d:Option Nat} {ty:TypeId} {pos:String} {af:Array Edge} {g:Option (Nat×Bool)}
theorem Qr{t:TypeId}{hi mx:Operand}{n cap:Nat}(hT:P.underlying t=some (.slice E))(hS:tySz P E=some (sz,a))(hx:e.ev x=.slice base n cap)(hhi:e.ev hi=.int .i64 (n:Nat))(hmx:e.ev mx=.int .i64 (n:Nat))(hc:n<=cap):
  ∀w,St X h L w->(execOp e.ev ⟨d,.slice t x none (some hi) (some mx),ty,pos,af,g⟩).run P w=.ok (.value (.slice base n n)) w:=λw hw=>by
 by_cases h0:n=0
 .subst h0
  simp[execOp,Instr.sliceAt,Instr.slice,Instr.sliceBounds,Instr.sliceBound,hx,hhi,hmx,asIntOf,run_underlying hT,iz hS,hc]
 .simp[execOp,Instr.sliceAt,Instr.slice,Instr.sliceBounds,Instr.sliceBound,hx,hhi,hmx,asIntOf,run_underlying hT,iz hS,hc,h0,zT]
end runs3
theorem GL[DecidableEq κ](k:κ){m':List (κ×α)}(hp:m.Perm m')(hn:(m.map (·.1)).Nodup):(mdel m k).Perm (mdel m' k):=by
 induction hp with
 |nil=>exact List.Perm.refl _
 |cons x p ih=>
  obtain⟨k',v'⟩:=x
  rw[kG,xN]at hn
  simp only[mdel]
  split
  .exact p
  .exact List.Perm.cons _ (ih hn.2)
 |swap x y l=>
  obtain⟨a,va⟩:=x
  obtain⟨b,vb⟩:=y
  simp only[kG,xN,qC,not_or]at hn
  simp only[mdel]
  by_cases h1:k=b
  .have h2:¬k=a:=λe=>hn.1.1 (h1.symm.trans e)
   simp only[h1,h2,if_true,if_false]
   rw[if_neg (h1▸h2)]
  .by_cases h2:k=a
   .simp only[h1,h2,if_true,if_false]
    rw[if_neg (h2▸h1)]
   .simp only[h1,h2,if_false]
    exact List.Perm.swap _ _ _
 |trans p q ih1 ih2=>exact(ih1 hn).trans (ih2 ((p.map _).nodup_iff.1 hn))
theorem EB{κ α : Type}[DecidableEq κ](k:κ):∀(m:List (κ×α)),(mdel m k).Sublist m
 |[]=>List.Sublist.refl _
 |(k',v')::m=>by
  simp only[mdel]
  split
  .exact .cons _ (List.Sublist.refl _)
  .exact .cons_cons _ (EB k m)
theorem pF.del{κ α : Type}{enc:κ->Value}{V:HF->Value->α->Prop}{h:HF}[DecidableEq κ]{k:κ}:∀{es:List MapEntry}{m:List (κ×α)}(j:Nat),pF enc V h es m ->
  match findIn k (m.map (·.1)) es j with
  |some (i,_)=>j<=i/\i-j<es.length/\pF enc V h (es.eraseIdx (i-j)) (mdel m k)
  |none=>pF enc V h es (mdel m k)
 |[],[],_,_=>trivial
 |e::es,(k',v)::m,j,⟨a,b,c⟩=>by
  simp only[kG,findIn,mdel]
  by_cases hk:k=k'
  .simp only[hk,if_true]
   refine⟨xG _,by simp,?_⟩
   rw[Nat.sub_self];exact c
  .simp only[hk,if_false]
   have ih:=pF.del (k:=k) (j+1) c
   cases hf:findIn k (m.map (·.1)) es (j+1)with
   |none=>rw[hf]at ih;exact⟨a,b,ih⟩
   |some p=>
    obtain⟨i,u⟩:=p
    rw[hf]at ih
    obtain⟨h1,h2,h3⟩:=ih
    have e1:i-j=(i-(j+1))+1:=by omega
    refine⟨by omega,by simp;omega,?_⟩
    rw[e1,List.eraseIdx_cons_succ];exact⟨a,b,h3⟩
 |[],_::_,_,x=>x.elim
 |_::_,[],_,x=>x.elim
section del
variable {P:Program} {b:Frame} {n:Nat} {ops:Array Oper} {F:List Frame->(Machine->Prop)->Prop} {e:Env} {ds:List Deferred} {X:Cx} {h:HF} {L:LH} {K:Env->HF->LH->Prop}
variable {d:Option Nat} {ty:TypeId} {pos:String} {af:Array Edge} {g:Option (Nat×Bool)} {κ α : Type} {enc:κ->Value} {V:HF->Value->α->Prop} [DecidableEq κ]
theorem NI(i:Nat){t T kt:TypeId}{mo ko:Operand}{m:List (κ×α)}{k:κ}(hT:P.underlying t=some (.map T E))(hK:vp P T enc)(hL:nth L i=some (bk,o))(hm:ia enc V h o m)(hmo:e.ev mo=.map (some bk))(hko:e.ev ko=enc k)(t':∀o',ia enc V h o' (mdel m k)->K (pute e d (.tuple #[])) h (setNth L i (bk,o')))(hg:guardB ops e ⟨d,.call ⟨.builtin .delete,#[mo,ko],#[t,kt]⟩,ty,pos,af,g⟩=true:=by rfl):Stp P b n ops F ds X ⟨d,.call ⟨.builtin .delete,#[mo,ko],#[t,kt]⟩,ty,pos,af,g⟩ e h L K:=
 iM hg λw hw=>by
  obtain⟨m',hp,hn,es,c,rfl,hE,hB,hC⟩:=hm
  have hb:w.heap[bk]? = some (.map es.toArray c):=by
   have h2:=hL
   rw[hZ]at h2
   exact hw.own _ (vE h2)
  have hf:=hK.find k (m'.map (·.1)) es w hE.keys
  have hd:=hE.del (k:=k) 0
  have hnd:((mdel m' k).map (·.1)).Nodup:=hn.sublist ((EB k m').map _)
  cases hr:findIn k (m'.map (·.1)) es 0 with
  |none=>
   rw[hr]at hf hd
   refine⟨.tuple #[],{ w with heap:=w.heap.setIfInBounds bk (.map es.toArray c) },h,_,?_,hw.write hL _,t' (.map es.toArray c) ⟨_,GL k hp hn,hnd,es,c,rfl,hd,hB,hC⟩⟩
   simp[execOp,resolve,invoke,builtin,Builtin.delete_,hmo,hko,run_underlying hT,nt hb,hK.check,hf,td hb]
  |some p=>
   obtain⟨j,u⟩:=p
   rw[hr]at hf hd
   obtain⟨_,hlt,hd⟩:=hd
   rw[Nat.sub_zero]at hd hlt
   refine⟨.tuple #[],{ w with heap:=w.heap.setIfInBounds bk (.map (es.eraseIdx j).toArray c) },h,_,?_,hw.write hL _,t' (.map (es.eraseIdx j).toArray c) ⟨_,GL k hp hn,hnd,es.eraseIdx j,c,rfl,hd,hB.sublist ((List.eraseIdx_sublist es j).map _),λe he=>hC e ((List.eraseIdx_sublist es j).subset he)⟩⟩
   have he:es.toArray.eraseIdxIfInBounds j=(es.eraseIdx j).toArray:=by simp
   simp[execOp,resolve,invoke,builtin,Builtin.delete_,hmo,hko,run_underlying hT,nt hb,hK.check,hf,td hb,he]
end del
theorem BQ{α : Type}[DecidableEq α]:∀{a b:List α},a.Nodup->(∀x∈a,x∈b)->a.length<=b.length
 |[],b,_,_=>vM _
 |x::a,b,hn,hs=>by
  rw[xN]at hn
  have hx:x∈b:=hs x (zB ..)
  have ih:=BQ (b:=b.erase x) hn.2 (λy hy=>by
   have hne:y≠x:=λe=>hn.1 (e▸hy)
   rw[List.mem_erase_of_ne hne];exact hs y (vA _ hy))
  rw[List.length_erase_of_mem hx]at ih
  have:=List.length_pos_of_mem hx
  simp only[zA]
  omega
section frz
variable {P:Program} {b:Frame} {n:Nat} {k:List Item} {F:List Frame->(Machine->Prop)->Prop} {e:Env} {ds:List Deferred} {X:Cx} {h:HF} {L:LH}
theorem DL(A G Q:LH)(hL:L=A++(G++Q))(hM:X.M=[])(t:∀h2,h.le h2->(∀p∈G,h2 p.1=some p.2)->TT P b n todo F e ds X h2 (A++Q)):TT P b n todo F e ds X h L:=by
 subst hL
 intro w hw
 obtain⟨h1,h2,h3⟩:=hw.freezeMid hM
 exact t _ h2 h3 w h1
theorem O5(sl:ι->List (Nat×Value))(hh:ι->HF)(LL:ι->LH)(I:ι->Prop)(hk:∀i,I i->∀e',TT P b n k F (upds e' (sl i)) ds X (hh i) (LL i))(t':(∀i e',I i->i9 e' (sl i)->TT P b n k F e' ds X (hh i) (LL i))->TT P b n (.code c::k) F e ds X h L):TT P b n (.code c::k) F e ds X h L:=
 t' λi e' hI hr=>by have:=hk i hI e';rw[hr.upds]at this;exact this
end frz
end
section
def attR:Except Int Unit->Int
 |.ok _=>0
 |.error e=>e
def idxByte(s:ByteArray)(c:Int):Int:=match(List.range s.size).find? (λi=>s[i]! == UInt8.ofNat c.toNat)with
 |some i=>(i:Nat)
 |none=>-1
def bsI(xs:List Int)(t:Int):Int:=((xs.countP (·<t):Nat):Int)
def slices_BinarySearch_int(x:List Int)(target:Int):Int×Bool:=(bsI x target,x.contains target)
def insI(x:Int):List Int->List Int
 |[]=>[x]
 |y::l=>bif decide (x<=y)then x::y::l else y::insI x l
def sortI:List Int->List Int
 |[]=>[]
 |x::l=>insI x (sortI l)
theorem BY(x:Int):∀l,(insI x l).Perm (x::l)
 |[]=>List.Perm.refl _
 |y::l=>by
  simp only[insI,Bool.cond_eq_ite]
  split
  .exact List.Perm.refl _
  .exact(List.Perm.cons y (BY x l)).trans (List.Perm.swap x y l)
theorem lG:∀xs,(sortI xs).Perm xs
 |[]=>List.Perm.refl _
 |x::l=>(BY x _).trans (List.Perm.cons x (lG l))
theorem gP(xs:List Int):(sortI xs).length=xs.length:=(lG xs).length_eq
theorem CI(x:Int):∀l:List Int,l.Pairwise (·<=·)->(insI x l).Pairwise (·<=·)
 |[],_=>by simp[insI]
 |y::l,h=>by
  rw[List.pairwise_cons]at h
  simp only[insI,Bool.cond_eq_ite,decide_eq_true_eq]
  split
  .next hxy=>
   rw[List.pairwise_cons]
   refine⟨λz hz=>?_,List.pairwise_cons.2 h⟩
   rcases qC.1 hz with rfl|hz
   .exact hxy
   .exact Int.le_trans hxy (h.1 z hz)
  .next hxy=>
   rw[List.pairwise_cons]
   refine⟨λz hz=>?_,CI x l h.2⟩
   rcases qC.1 ((BY x l).mem_iff.1 hz)with rfl|hz
   .omega
   .exact h.1 z hz
theorem lW:∀xs,(sortI xs).Pairwise (·<=·)
 |[]=>List.Pairwise.nil
 |x::l=>CI x _ (lW l)
theorem s9:∀{a b:List Int},a.Pairwise (·<=·)->b.Pairwise (·<=·)->a.Perm b->a=b
 |[],b,_,_,p=>(List.Perm.nil_eq p)
 |x::a,[],_,_,p=>absurd p.length_eq (by simp)
 |x::a,y::b,ha,hb,p=>by
  have hx:x=y:=by
   have h1:x∈y::b:=p.mem_iff.1 (zB ..)
   have h2:y∈x::a:=p.mem_iff.2 (zB ..)
   rw[List.pairwise_cons]at ha hb
   rcases qC.1 h1 with e|h1
   .exact e
   .rcases qC.1 h2 with e|h2
    .exact e.symm
    .have:=ha.1 y h2;have:=hb.1 x h1;omega
  subst hx
  rw[List.pairwise_cons]at ha hb
  rw[s9 ha.2 hb.2 (List.Perm.cons_inv p)]
theorem Iy{xs ys:List Int}(p:xs.Perm ys):sortI xs=sortI ys:=
 s9 (lW _) (lW _) ((lG xs).trans (p.trans (lG ys).symm))
def insS(x:OSeat):List OSeat->List OSeat
 |[]=>[x]
 |y::l=>bif decide (x.person<=y.person)then x::y::l else y::insS x l
def seatS:List OSeat->List OSeat
 |[]=>[]
 |x::l=>insS x (seatS l)
theorem BW(x:OSeat):∀l,(insS x l).Perm (x::l)
 |[]=>List.Perm.refl _
 |y::l=>by
  simp only[insS,Bool.cond_eq_ite]
  split
  .exact List.Perm.refl _
  .exact(List.Perm.cons y (BW x l)).trans (List.Perm.swap x y l)
theorem uS:∀xs,(seatS xs).Perm xs
 |[]=>List.Perm.refl _
 |x::l=>(BW x _).trans (List.Perm.cons x (uS l))
theorem CH(x:OSeat):∀l:List OSeat,l.Pairwise (λa b=>a.person<=b.person)->(insS x l).Pairwise (λa b=>a.person<=b.person)
 |[],_=>by simp[insS]
 |y::l,h=>by
  rw[List.pairwise_cons]at h
  simp only[insS,Bool.cond_eq_ite,decide_eq_true_eq]
  split
  .next hxy=>
   rw[List.pairwise_cons]
   refine⟨λz hz=>?_,List.pairwise_cons.2 h⟩
   rcases qC.1 hz with rfl|hz
   .exact hxy
   .exact Int.le_trans hxy (h.1 z hz)
  .next hxy=>
   rw[List.pairwise_cons]
   refine⟨λz hz=>?_,CH x l h.2⟩
   rcases qC.1 ((BW x l).mem_iff.1 hz)with rfl|hz
   .omega
   .exact h.1 z hz
theorem Az:∀xs,(seatS xs).Pairwise (λa b=>a.person<=b.person)
 |[]=>List.Pairwise.nil
 |x::l=>CH x _ (Az l)
theorem HH(xs:List Int):(xs.mergeSort λx y=>decide (x<=y))=sortI xs:=by
 have h:=List.pairwise_mergeSort (le:=λx y:Int=>decide (x<=y)) (λa b c h1 h2=>by simp at *;omega) (λa b=>by simp;omega) xs
 exact s9 (h.imp (λh=>by simpa using h)) (lW _) ((List.mergeSort_perm _ _).trans (lG xs).symm)
theorem wW{κ α : Type}[DecidableEq κ]{P:α->Prop}:∀{m:List (κ×α)}(k:κ){v:α},(∀p∈m,P p.2)->P v->∀p∈mput m k v,P p.2
 |[],k,v,_,hv,p,hp=>by simp[mput]at hp;subst hp;exact hv
 |(k',v')::m,k,v,h,hv,p,hp=>by
  simp only[mput]at hp
  split at hp
  .rcases qC.1 hp with rfl|hp
   .exact hv
   .exact h p (vA _ hp)
  .rcases qC.1 hp with rfl|hp
   .exact h _ (zB ..)
   .exact wW k (λq hq=>h q (vA _ hq)) hv p hp
theorem I4{κ α : Type}[DecidableEq κ]{P:α->Prop}:∀{m:List (κ×α)}(k:κ){v:α},(∀p∈m,P p.2)->mget? m k=some v->P v
 |[],k,v,_,h=>by simp[mget?]at h
 |(k',v')::m,k,v,h,hg=>by
  simp only[mget?]at hg
  split at hg
  .cases hg;exact h (k',v') (zB ..)
  .exact I4 k (λq hq=>h q (vA _ hq)) hg
theorem yd[DecidableEq κ]{P:α->Prop}(k:κ){z:α}(h:∀p∈m,P p.2)(hz:P z):P (mgetD m k z):=by
 unfold mgetD
 cases hg:mget? m k with
 |none=>exact hz
 |some v=>exact I4 k h hg
def compStep(out:List Int)(x:Int):List Int:=if out.getLast? = some x then out else out++[x]
def compI(xs:List Int):List Int:=xs.foldl compStep []
def slices_Compact_int(xs:List Int):List Int:=compI xs
end
variable {sp:List Go.Value}
section
def RdN{α : Type}(l:Nat)(lp:Loop)(I:List α->HF->LH->Prop)(J:Code->HF->LH->Prop)(Pn:List PanicEntry->HF->LH->Prop)(done:List α)(x:α)(r':Ending)(h:HF)(B:LH):Prop:=
 (r'=.returned (.bool true)/\∃L',B=(l,.loop { lp with state:=.ready,pending:=none })::L'/\I (done++[x]) h L') \/
 (r'=.returned (.bool false)/\∃c L',B=(l,.loop { lp with state:=.done,pending:=some c })::L'/\J c h L') \/
 (∃ch,r'=.panicked ch/\∃lp' L',B=(l,.loop lp')::L'/\Pn ch h L')
section
variable {α : Type} {P:Program} {l:Nat} {f:FuncId} {n:Nat} {k:List Item} {e:Env} {X:Cx} {h:HF} {L:LH} {lp lp':Loop} {fn:Func} {I:List α->HF->LH->Prop} {J:Code->HF->LH->Prop} {Pn:List PanicEntry->HF->LH->Prop} {done:List α} {x:α}
theorem Lq(hlp:lp'={ lp with state:=.busy })(hI:I (done++[x]) h L):TT P (roundFrame l f) n [] (mm P X (RdN l lp I J Pn done x)) e [] X h ((l,.loop lp')::L):=
 Lg 0 rfl (.inl ⟨rfl,L,by rw[hlp];rfl,hI⟩)
end
theorem Md{l0:Nat}{lp0:Loop}{n:Nat}{F:List Frame->(Machine->Prop)->Prop}{h:HF}{L:LH}{val:α->HF->List Value->Prop}(i0:Nat)(hl0:nth L i0=some (l0,.loop lp0))(I:List α->HF->LH->Prop)(hgv:e.ev g=it)(hit:Itr P it val xs h)(hps:ps.all (λp=>zR p n)=true)(hval:∀x h vs,val x h vs->vs.length=ps.length)(hIm:∀done h1 h2 B,kK h1 h2->I done h1 B->I done h2 B)(h0:I [] h L)(round:∀l lp done x rest vs h' L' X',xs=done++x::rest->h.le h'->I done h' L'->val x h' vs->lp.state=.ready->X'.h0=h'->(∀b∈X'.M,b<X'.w0.heap.size) ->
   TT P (roundFrame l f) n [.code assign,.beginRound,.code body] (mm P X' (RdN l lp I (λ_ _ _=>False) (λ_ _ _=>False) done x)) (setParams e ps vs) [] X' h' ((l,.loop lp)::L'))(next:∀h' L',h.le h'->I xs h' L'->TT P (roundFrame l0 f) n k F e ds X h' L'):
  TT P (roundFrame l0 f) n (.code (.rangeFunc g ps.toArray assign body)::k) F e ds X h L:=by
 obtain⟨f0,cap,rfl,hc0,hit⟩:=hit
 intro w hw a cs Φ hn he hds hF
 let l:=w.heap.size
 have hb0:w.heap[l0]? = some (.loop lp0):=qy hw hl0
 let lp:Loop:={ state:=.ready,pending:=none,fn:=f,tmps:=a.tmps,params:=ps.toArray,assign,body,defers:=lp0.defers }
 let w2:World:={ w with heap:=w.heap.push (.loop lp) }
 have hw2:St X h ((l,.loop lp)::L) w2:=hw.alloc _
 have henter:(Instr.enterLoop (roundFrame l0 f).fn a.tmps ps.toArray assign body (roundFrame l0 f).roundOf).run P w=.ok (l,[]) w2:=by
  have:=run_enterLoop_inner (P:=P) hb0 f a.tmps ps.toArray assign body
  exact this
 let C:List α->HF->LH->Prop:=λdone h' B=>∃L',B=(l,.loop lp)::L'/\I done h' L'
 let Sp:HF->LH->Prop:=λ_ _=>False
 let Pm:List PanicEntry->HF->LH->Prop:=λ_ _ _=>False
 have hps':∀p∈ps,p<n:=λp hp=>oJ (Si.1 hps p hp)
 have hy:∀done x rest vs h'' B,xs=done++x::rest->h.le h''->C done h'' B->val x h'' vs->mN P (.func (.yield l) #[] #[]) vs.toArray h'' B (YR C Sp Pm done x):=by
  rintro done x rest vs h'' B hxs hle ⟨L',rfl,hI⟩ hv
  refine mN.mono (R:=RdN l lp I (λ_ _ _=>False) (λ_ _ _=>False) done x) (wF (i:=0) (lp:=lp) rfl (by simp[lp];exact hval x h'' vs hv) ?_) ?_
  .intro X' _ hX' hXM'
   have henv:envOf { tmps:=(ps.toArray.zip vs.toArray).foldl (λtmps p=>tmps.setIfInBounds p.1 p.2) a.tmps,defers:=[] }=setParams e ps vs:=by
    have:=rF ps vs a.tmps a.defers hn hps'
    rw[←he]
    rw[←TW]
    simpa using this
   have:=round l lp done x rest vs h'' L' X' hxs hle hI hv rfl hX' hXM'
   rw[←henv,←hn]at this
   exact this
  .rintro x' h3 B' _ (⟨e1,L2,e2,h2⟩|⟨e1,c,L2,e2,h2⟩|⟨ch,e1,lp',L2,e2,h2⟩)
   .exact .inl ⟨e1,L2,e2,h2⟩
   .exact h2.elim
   .exact h2.elim
 have hs:=hit (.yield l) #[] #[] C Sp Pm h ((l,.loop lp)::L) (jH h) (λ_ _ _ _ hl⟨L',e1,hi⟩=>⟨L',e1,hIm _ _ _ _ hl hi⟩) (λ_ _ _ _ hi=>hi) (λ_ _ _ _ _ hi=>hi) ⟨L,rfl,h0⟩ hy
 obtain⟨nx,hrun,hcall⟩:=hs w2 hw2.pre
 have hev:a.eval g=e.ev g:=by rw[j9,he]
 have hnx:nx=.enter f0 (Value.func (.yield l) #[] #[]::cap).toArray:=by
  simp[kH,invoke,hc0]at hrun
  simpa using hrun.symm
 subst hnx
 have hres:(resolve a.eval (rangeCall g l) 0).run P w2=.ok { target:=.fn (.func f0) cap.toArray,args:=#[.func (.yield l) #[] #[]] } w2:=by
  have hcst:∀v,a.eval (.const v)=v:=λ_=>rfl
  simp[resolve,rangeCall,hev,hgv,hcst,kH]
 have hinv:(invoke (.fn (.func f0) cap.toArray) #[.func (.yield l) #[] #[]]).run P w2=.ok (.enter f0 (Value.func (.yield l) #[] #[]::cap).toArray) w2:=by
  simp[invoke,hc0]
 have hback:∀v w3,(∃h' B,St ⟨w2,h,((l,Obj.loop lp)::L).map (·.1)⟩ h' B w3/\ItR C Sp Pm xs (.returned v) h' B) ->
   To P Φ (lone (((roundFrame l0 f).atR { a with defers:=[]++a.defers } (.inRangeFunc l::k)).finish v) cs w3):=by
  rintro v w3 ⟨h',B,hst,hR⟩
  rw[finish_atR_inRangeFunc]
  have hS3:St X h' B w3:=by
   have:=S4 (A:=(l,.loop lp)::L) (F:=[]) (by simpa using hw2) hst
   simpa using this
  have hle:=hst.le
  rcases hR with⟨_,hCS⟩|⟨ch,hx,_⟩
  .rcases hCS with⟨L',rfl,hI⟩|hF
   .have hb:w3.heap[l]? = some (.loop lp):=hS3.own _ (zB ..)
    have hend:(Instr.endLoop l).run P w3=.ok none { w3 with heap:=w3.heap.setIfInBounds l (.loop { lp with state:=.exhausted }) }:=by
     simp[Instr.endLoop,Td,getObj,setObj,T7,hb,lp]
    refine .step (stepR_endRangeFunc hend) ?_
    have hS4:=hS3.write (i:=0) rfl (.loop { lp with state:=.exhausted })
    exact next h' L' hle hI _ (hS4.sub (List.sublist_cons_self ..)) a cs Φ hn he hds hF
   .exact hF.elim
  .cases hx
 have hraise:∀ch w3,(∃h' B,St ⟨w2,h,((l,Obj.loop lp)::L).map (·.1)⟩ h' B w3/\ItR C Sp Pm xs (.panicked ch) h' B) ->
   To P Φ (lone (((roundFrame l0 f).atR { a with defers:=[]++a.defers } (.inRangeFunc l::k)).raise ch) cs w3):=by
  rintro ch w3 ⟨h',B,hst,hR⟩
  rcases hR with⟨hx,_⟩|⟨ch',hx,hP⟩
  .cases hx
  .exact hP.elim
 refine .step (stepR_rangeFunc henter hres hinv) ?_
 exact hcall _ cs Φ hback hraise
def HF.lend(h:HF)(L:LH):HF:=λb=>match L.find? (λp=>p.1==b)with|some p=>some p.2|none=>h b
theorem HF.I7{h:HF}:∀{L:LH},(L.map (·.1)).Nodup->∀p∈L,h.lend L p.1=some p.2
 |[],_,p,hp=>(jA hp).elim
 |q::L,hd,p,hp=>by
  rw[kG,xN]at hd
  rcases qC.1 hp with rfl|hp
  .simp[HF.lend]
  .have hne:(q.1==p.1)=false:=by
    rw[beq_eq_false_iff_ne];intro e;exact hd.1 (e▸List.mem_map_of_mem hp)
   have:=HF.I7 (h:=h) hd.2 p hp
   simpa[HF.lend,List.find?_cons,hne]using this
theorem HF.Pw{h:HF}{L:LH}(hf:∀p∈L,h p.1=none):h.le (h.lend L):=λb o hb=>by
 unfold HF.lend
 cases hq:L.find? (λp=>p.1==b)with
 |none=>exact hb
 |some p=>
  have h1:=List.mem_of_find?_eq_some hq
  have h2:p.1=b:=by simpa using List.find?_some hq
  rw[←h2,hf p h1]at hb;cases hb
section steps
variable {P:Program} {b:Frame} {n:Nat} {ops:Array Oper} {F:List Frame->(Machine->Prop)->Prop} {e:Env} {ds:List Deferred} {X:Cx} {h:HF} {L:LH} {K:Env->HF->LH->Prop}
variable {d:Option Nat} {ty:TypeId} {pos:String} {af:Array Edge} {g:Option (Nat×Bool)}
theorem NK(hc:∀args w,(callFunc f args).run P w=.ok (.enter f args) w)(hs:∀h1,h.le h1->(∀p∈L,h1 p.1=some p.2)->Ret P f vs h1 v)(hvs:ass.toList.map e.ev=vs)(t':K (pute e d v) h L)(hg:guardB ops e ⟨d,.call ⟨.value (.func f),ass,ats⟩,ty,pos,af,g⟩=true:=by rfl):
  Stp P b n ops F ds X ⟨d,.call ⟨.value (.func f),ass,ats⟩,ty,pos,af,g⟩ e h L K:=by
 unfold Stp
 rw[if_pos hg]
 intro w hw
 have harr:ass.map e.ev=vs.toArray:=Sd (by simp[←hvs])
 have hr:(execOp e.ev ⟨d,.call ⟨.value (.func f),ass,ats⟩,ty,pos,af,g⟩).run P w=.ok (.enter f vs.toArray) w:=by
  simp[execOp,resolve,Tz,kH,invoke,harr,hc]
 rw[hr]
 have hp1:Pre (h.lend L) [] w:=⟨λk o hk=>by
  unfold HF.lend at hk
  cases hq:L.find? (λp=>p.1==k)with
  |none=>rw[hq]at hk;exact hw.imm k o hk
  |some p=>
   rw[hq]at hk
   have h2:p.1=k:=by simpa using List.find?_some hq
   have h3:p.2=o:=by simpa using hk
   rw[←h2,←h3];exact hw.own p (List.mem_of_find?_eq_some hq),λ_ hp=>(jA hp).elim,kQ,λ_ hp=>(jA hp).elim⟩
 refine lj (by simp) (ji (pT.mono (hs _ (HF.Pw hw.free) (HF.I7 hw.dis) w hp1) ?_))
 rintro x w' ⟨h',B,hst,rfl,rfl,rfl⟩
 refine⟨h,L,⟨hst.os.trans hw.os,hst.tape.trans hw.tape,hst.output.trans hw.output,jP hw.size hst.size,λb' hb' hM=>?_,hw.le,hw.old,λb' o hb'=>?_,λp hp=>?_,hw.dis,hw.free,hw.new⟩,t'⟩
 .rw[hst.keep b' (SY hb' hw.size) (by simp)];exact hw.keep b' hb' hM
 .rw[hst.keep b' (fD (hw.imm b' o hb')) (by simp)];exact hw.imm b' o hb'
 .rw[hst.keep p.1 (fD (hw.own p hp)) (by simp)];exact hw.own p hp
end steps
section
variable {P:Program} {b:Frame} {n:Nat} {k:List Item} {F:List Frame->(Machine->Prop)->Prop} {e:Env} {ds:List Deferred} {X:Cx} {h:HF} {L:LH} {ops:Array Oper} {l:List Oper} {ty:TypeId} {pos:String} {af:Array Edge} {g:Option (Nat×Bool)}
theorem Mg(hro:b.roundOf=none)(hvs:as.toList.map e.ev=vs)(t':TO P b n ops l k F e ({ target:=.fn (.func f) #[],args:=vs.toArray }::ds) X h L)(hg:guardB ops e ⟨none,.defer ⟨.value (.func f),as,ats⟩,ty,pos,af,g⟩=true:=by rfl):TO P b n ops (⟨none,.defer ⟨.value (.func f),as,ats⟩,ty,pos,af,g⟩::l) k F e ds X h L:=by
 intro w hw is hi a cs Φ hn he hds hF
 obtain⟨i,js,rfl,ho,hj⟩:=pm hi
 have hwt:=(fL (ops:=ops) he).trans hg
 have hst:=stepGR_op (P:=P) (b:=b) (k:=k) (cs:=cs) (w:=w) (rest:=js) ho hwt
 have harr:as.map e.ev=vs.toArray:=Sd (by simp[←hvs])
 have hr:(execOp a.eval ⟨none,.defer ⟨.value (.func f),as,ats⟩,ty,pos,af,g⟩).run P w=.ok (.defer { target:=.fn (.func f) #[],args:=vs.toArray }) w:=by
  rw[j9,he]
  simp[execOp,resolve,Tz,kH,harr]
 have hs:Oper.semAt b.roundOf a.eval ⟨none,.defer ⟨.value (.func f),as,ats⟩,ty,pos,af,g⟩=execOp a.eval ⟨none,.defer ⟨.value (.func f),as,ats⟩,ty,pos,af,g⟩:=by rw[hro];rfl
 refine .step (m₁:=lone (b.atR { a with defers:={ target:=.fn (.func f) #[],args:=vs.toArray }::a.defers } (.inRegion ops js::k)) cs w) ?_ (t' w hw js hj { a with defers:={ target:=.fn (.func f) #[],args:=vs.toArray }::a.defers } cs Φ hn he (by rw[hds]) hF)
 refine step_lone_go ?_
 have hfin:=gI (b:=b) { a with defers:={ target:=.fn (.func f) #[],args:=vs.toArray }::a.defers } js k ho undef
 rw[hst,hs]
 simp only[stepG.apply,Sem.runT_eq,hr,GStep.bare_after]
 exact congrArg (λfr=>GStep.go { frame:=fr,callers:=cs,status:=.running,dying:=none } w) hfin
end
theorem Nl{g:FuncId}{n m:Nat}{h:HF}{L:LH}{R:Ending->HF->LH->Prop}{R':HF->LH->Prop}(hf:P.funcs[f]? = some fn)(hg:P.funcs[g]? = some gn)(hb:gn.body=some c)(hm:gn.ntmps=m)(hle:T9 cap.length m=true)(hc:∀args w,(callFunc g args).run P w=.ok (.enter g args) w)(t:∀X':Cx,X'.h0=h->TT P (deferFrame g) m [.code c] (Fw P X' .returning R') (envArgs cap) [] X' h A)(hL:L=A++Fr)(fin:∀h' B,h.le h'->R' h' B->∀a:Act,envOf a=e->∀w,St X h' (B++Fr) w->∃v h2 B2,(results fn a.tmps).run P w=.ok v w/\St X h2 B2 w/\R (.returned v) h2 B2):
  TT P (bodyFrame f) n (.code .ret::k) (mm P X R) e [{ target:=.fn (.func g) #[],args:=cap.toArray }] X h L:=by
 intro w hw a cs Φ hn he hds hF
 obtain⟨cc,cs',rfl,h1,_⟩:=hF
 subst hL
 refine .step (stepR_ret rfl) ?_
 have hinv:(invoke (.fn (.func g) #[]) cap.toArray).run P w=.ok (.enter g cap.toArray) w:=by simp[invoke,hc]
 refine .step (step_defer (fr:={ (bodyFrame f).atR a (.code .ret::k)with mode:=.returning }) (by simp) hds rfl hinv) ?_
 have hle':=kP hle
 have henter:RX P g cap.toArray .deferred=(deferFrame g).atR { tmps:=cap.toArray++Sy (m-cap.length) undef,defers:=[] } [.code c]:=by
  simp[RX,SU,hg,hb,hm,deferFrame]
 rw[henter]
 refine t ⟨w,h,A.map (·.1)⟩ rfl w (SW hw.pre.left) _ _ Φ (by simp;omega) (oG _ _) rfl ⟨_,cc::cs',rfl,rfl,?_⟩
 rintro w' ⟨h',B,hst,hR'⟩
 obtain⟨v,h2,B2,hv,hs2,hR⟩:=fin h' B hst.le hR' a he w' (hw.after hst)
 refine .step (ic (fn:=fn) (v:=v) rfl rfl rfl hf hv) ?_
 exact h1 v w' ⟨h2,B2,hs2,hR⟩
theorem Nq{g:FuncId}{n m:Nat}{h:HF}{L:LH}{R:Ending->HF->LH->Prop}{R':HF->LH->Prop}(hf:P.funcs[f]? = some fn)(hg:P.funcs[g]? = some gn)(hb:gn.body=some c)(hm:gn.ntmps=m)(hle:T9 cap.length m=true)(hc:∀args w,(callFunc g args).run P w=.ok (.enter g args) w)(t:∀X':Cx,X'.h0=h->TT P (deferFrame g) m [.code c] (λcs Φ=>∃c rest,cs=c::rest/\c.mode=.panicking [{ v:=pv,recovered:=false }]/\Fw P X' (.panicking [{ v:=pv,recovered:=true }]) R' ({ c with mode:=.panicking [{ v:=pv,recovered:=true }] }::rest) Φ) (envArgs cap) [] X' h A)(hL:L=A++Fr)(fin:∀h' B,h.le h'->R' h' B->∀a:Act,envOf a=e->∀w,St X h' (B++Fr) w->∃v h2 B2,(results fn a.tmps).run P w=.ok v w/\St X h2 B2 w/\R (.returned v) h2 B2):
  TP P (bodyFrame f) n [{ v:=pv,recovered:=false }] (mm P X R) e [{ target:=.fn (.func g) #[],args:=cap.toArray }] X h L:=by
 intro w hw a cs Φ todo hn he hds hF
 obtain⟨cc,cs',rfl,h1,_⟩:=hF
 subst hL
 have hinv:(invoke (.fn (.func g) #[]) cap.toArray).run P w=.ok (.enter g cap.toArray) w:=by simp[invoke,hc]
 refine .step (step_defer (fr:={ (bodyFrame f).atR a todo with mode:=.panicking [{ v:=pv,recovered:=false }] }) (by simp) hds rfl hinv) ?_
 have hle':=kP hle
 have henter:RX P g cap.toArray .deferred=(deferFrame g).atR { tmps:=cap.toArray++Sy (m-cap.length) undef,defers:=[] } [.code c]:=by
  simp[RX,SU,hg,hb,hm,deferFrame]
 rw[henter]
 refine t ⟨w,h,A.map (·.1)⟩ rfl w (SW hw.pre.left) _ _ Φ (by simp;omega) (oG _ _) rfl ⟨_,cc::cs',rfl,rfl,_,cc::cs',rfl,rfl,?_⟩
 rintro w' ⟨h',B,hst,hR'⟩
 obtain⟨v,h2,B2,hv,hs2,hR⟩:=fin h' B hst.le hR' a he w' (hw.after hst)
 refine .step (ic (fn:=fn) (v:=v) rfl rfl rfl hf hv) ?_
 exact h1 v w' ⟨h2,B2,hs2,hR⟩
section
variable {P:Program} {b:Frame} {n:Nat} {k:List Item} {F:List Frame->(Machine->Prop)->Prop} {e:Env} {ds:List Deferred} {X:Cx} {h:HF} {L:LH}
theorem DK(t:TT P b n (.code c::.inLoop c::k) F e ds X h L):TT P b n (.code (.loop c)::k) F e ds X h L:=
 λw hw a cs Φ h1 h2 h3 h4=>.step stepR_loop (t w hw a cs Φ h1 h2 h3 h4)
theorem Aq(t:TT P b n (.code c::.inLoop c::k) F e ds X h L):TT P b n (.inLoop c::k) F e ds X h L:=
 λw hw a cs Φ h1 h2 h3 h4=>.step stepR_inLoop (t w hw a cs Φ h1 h2 h3 h4)
end
def XRH{ρ : Type}(pe:Int->Value)(x:Except Int ρ)(φ : ρ->Value->HF->Prop)(r:Ending)(h':HF)(B:LH):Prop:=
 B=[]/\match x with
  |.ok u=>∃v,r=.returned v/\φ u v h'
  |.error p=>r=.panicked [{ v:=pe p,recovered:=false }]
abbrev G0{ρ : Type}(P:Program)(f:FuncId)(args:List Value)(h:HF)(pe:Int->Value)(x:Except Int ρ)(φ : ρ->Value->HF->Prop):Prop:=nL P f args.toArray h [] (XRH pe x φ)
def exD{ρ : Type}[Inhabited ρ]:Except Int ρ->ρ
 |.ok r=>r
 |.error _=>default
def exOk{ρ : Type}:Except Int ρ->Prop
 |.ok _=>True
 |.error _=>False
theorem PS[Inhabited ρ]{x:Except Int ρ}(h:exOk x):x=.ok (exD x):=by cases x with
 |ok r=>rfl
 |error p=>exact h.elim
section
variable {P:Program} {f:FuncId} {n:Nat} {k:List Item} {e:Env} {X:Cx} {h:HF} {L:LH} {fn:Func} {ρ : Type} {pe:Int->Value} {x:Except Int ρ} {φ : ρ->Value->HF->Prop}
theorem Is(ms:List Nat){u:ρ}(vs:List Value)(hf:P.funcs[f]? = some fn)(hr:fn.results=rs.toArray)(hv:tM P e L rs vs)(hx:x=.ok u)(hφ : φ u (retVal vs) h):
  TT P (bodyFrame f) n (.code .ret::k) (mm P X (XRH pe x φ)) e (marks ms) X h (L++markB ms):=
 uM ms (v:=retVal vs) hf (λa he w hw=>nO hr hv a he w hw) (λ_ hw=>hw.sub (List.nil_sublist _)) (by subst hx;exact⟨rfl,_,rfl,hφ⟩)
theorem Iu(ms:List Nat){p:Int}(hf:P.funcs[f]? = some fn)(hx:x=.error p):
  TP P (bodyFrame f) n [{ v:=pe p,recovered:=false }] (mm P X (XRH pe x φ)) e (marks ms) X h (L++markB ms):=
 Hf ms hf (λ_ hw=>hw.sub (List.nil_sublist _)) (by subst hx;exact⟨rfl,rfl⟩)
end
section
variable {P:Program} {b:Frame} {n:Nat} {ops:Array Oper} {F:List Frame->(Machine->Prop)->Prop} {e:Env} {ds:List Deferred} {X:Cx} {h:HF} {L:LH} {K:Env->HF->LH->Prop}
variable {d:Option Nat} {ty:TypeId} {pos:String} {af:Array Edge} {g:Option (Nat×Bool)} {ρ : Type} {pe:Int->Value} {x:Except Int ρ} {φ : ρ->Value->HF->Prop}
theorem NJ(hc:∀args w,(callFunc f args).run P w=.ok (.enter f args) w)(hs:G0 P f vs h pe x φ)(hvs:as.toList.map e.ev=vs)(t':∀u v h',x=.ok u->h.le h'->φ u v h'->K (pute e d v) h' L)(tp:∀p h',x=.error p->h.le h'->∀e',AgE ops ⟨d,.call ⟨.value (.func f),as,ats⟩,ty,pos,af,g⟩ e e'->TP P b n [{ v:=pe p,recovered:=false }] F e' ds X h' L)(hg:guardB ops e ⟨d,.call ⟨.value (.func f),as,ats⟩,ty,pos,af,g⟩=true:=by rfl):
  Stp P b n ops F ds X ⟨d,.call ⟨.value (.func f),as,ats⟩,ty,pos,af,g⟩ e h L K:=
 D1 (A:=[]) (Fr:=L) hc hvs hs rfl (λv' h' B hle hR=>by
   obtain⟨rfl,hv⟩:=hR
   cases x with
   |ok u=>obtain⟨v,hv,hφ⟩:=hv;cases hv;exact t' _ _ _ rfl hle hφ
   |error p=>cases hv)
  (λch h' B hle hR=>by
   obtain⟨rfl,hv⟩:=hR
   cases x with
   |ok u=>obtain⟨v,hv,_⟩:=hv;cases hv
   |error p=>cases hv;exact tp _ _ rfl hle) hg
theorem Ml[Inhabited ρ](hc:∀args w,(callFunc f args).run P w=.ok (.enter f args) w)(hs:G0 P f vs h pe x φ)(hok:exOk x)(hvs:as.toList.map e.ev=vs)(t':∀v h',h.le h'->φ (exD x) v h'->K (pute e d v) h' L)(hg:guardB ops e ⟨d,.call ⟨.value (.func f),as,ats⟩,ty,pos,af,g⟩=true:=by rfl):
  Stp P b n ops F ds X ⟨d,.call ⟨.value (.func f),as,ats⟩,ty,pos,af,g⟩ e h L K:=
 NJ hc hs hvs (λu v h' hx hl hφ=>by subst hx;exact t' v h' hl hφ) (λp h' hx=>by subst hx;exact hok.elim) hg
theorem n2[Inhabited ρ]{enc:ρ->Value}(hc:∀args w,(callFunc f args).run P w=.ok (.enter f args) w)(hs:F5 P f vs h (exW pe enc x))(hok:exOk x)(hvs:as.toList.map e.ev=vs)(t':K (pute e d (enc (exD x))) h L)(hg:guardB ops e ⟨d,.call ⟨.value (.func f),as,ats⟩,ty,pos,af,g⟩=true:=by rfl):
  Stp P b n ops F ds X ⟨d,.call ⟨.value (.func f),as,ats⟩,ty,pos,af,g⟩ e h L K:=
 mS hc hs hvs (λu hu=>by
  obtain⟨r,hr,rfl⟩:=oF hu
  subst hr;exact t') (λp hp=>by
  obtain⟨q,hq,_⟩:=mX hp
  subst hq;exact hok.elim) hg
end
abbrev Ri{α : Type}(P:Program)(f:FuncId)(args:List Value)(h:HF)(R:Rp α)(E:TypeId)(xs:List α):Prop:=
 nL P f args.toArray h [] (λr h' G=>h'=h/\∃b c,r=.returned (.slice b xs.length c)/\dA R E h xs b c G)
section
variable {P:Program} {f:FuncId} {n:Nat} {k:List Item} {e:Env} {X:Cx} {h hh:HF} {L A G Q:LH} {fn:Func} {α : Type} {R:Rp α} {E:TypeId} {xs ys:List α} {base:Option Addr} {cap:Nat}
theorem St.forgetG(s:St X h (A++(G++Q)) w):St X X.h0 G w:=
 (s.sub (L':=G) ((List.sublist_append_left G Q).trans (List.sublist_append_right A _))).lower
theorem O2(ms:List Nat)(hf:P.funcs[f]? = some fn)(hr:fn.results=rs.toArray)(hX:X.h0=hh)(hL:L=A++(G++Q))(hG:∀h1,dA R E h1 xs base cap G)(hv:tM P e L rs [.slice base xs.length cap])(hs:ys=xs):
  TT P (bodyFrame f) n (.code .ret::k) (mm P X (λr h' G=>h'=hh/\∃b c,r=.returned (.slice b ys.length c)/\dA R E hh ys b c G)) e (marks ms) X h (L++markB ms):=by
 subst hs hL
 exact uM ms (v:=.slice base ys.length cap) hf (λa he w hw=>nO hr hv a he w hw) (λw hw=>hw.forgetG) ⟨hX,_,_,rfl,hG _⟩
end
theorem dA.flat{R:Rp α}{h h1:HF}{cap:Nat}{G:LH}(hR:∀h h' cs x,R.rep h cs x->R.rep h' cs x)(g:dA R E h xs base cap G):dA R E h1 xs base cap G:=by
 have hc:∀{xs:List α}{cl:List Value},bP R h cl xs->bP R h1 cl xs:=by
  intro xs
  induction xs with
  |nil=>intro cl e;exact e
  |cons x xs ih=>rintro cl ⟨cs,rest,e,hl,hr,ht⟩;exact⟨cs,rest,e,hl,hR _ _ _ _ hr,ih ht⟩
 rcases g with g|⟨bk,cl,sp,e1,e2,e3⟩
 .exact .inl g
 .exact .inr ⟨bk,cl,sp,e1,hc e2,e3⟩
theorem IL{fl:List Value}{h:HF}(hc:∀args w,(callFunc f args).run P w=.ok (.enter f args) w)(hr:Rj P f (fl++args++cap) h A v):
  sZ P (.func (.func f) fl.toArray cap.toArray) args h A v:=by
 intro w hp
 refine⟨.enter f (fl++args++cap).toArray,?_,ji (hr w hp)⟩
 simp[kH,invoke,hc]
section
variable {P:Program} {e:Env} {X:Cx} {h:HF} {L:LH} {d:Option Nat} {ty:TypeId} {pos:String} {af:Array Edge} {g:Option (Nat×Bool)}
theorem Lr{t:TypeId}{a c:Int}(hx:e.ev x=.int .i64 a)(hy:e.ev y=.int .i64 c)(hc:c≠0):
  ∀w,St X h L w->(execOp e.ev ⟨d,.binOp .quo t x y u,ty,pos,af,g⟩).run P w=.ok (.value (.int .i64 (IntKind.wrap .i64 (a.tdiv c)))) w:=λw _=>by
 simp[execOp,hx,hy,eqGuard,binOp,Op.intDiv,hc]
end
theorem OG{N:Nat}(h:i<N)(hb:N<=9223372036854775807):xB .i64 (IntKind.i64.wrap (((N-i:Nat):Int)-1))=.int .i64 (((N-(i+1):Nat)):Int):=by
 rw[jc (by omega)]
 congr 1;omega
section
variable {P:Program} {e:Env} {X:Cx} {h:HF} {L:LH} {d:Option Nat} {ty:TypeId} {pos:String} {af:Array Edge} {g:Option (Nat×Bool)}
theorem fR(hx:e.ev x=.pointer (some q)):
  ∀w,St X h L w->(execOp e.ev ⟨d,.nilCheck x,ty,pos,af,g⟩).run P w=.ok (.value (.pointer (some q))) w:=λw _=>by
 simp[execOp,hx]
end
theorem LT:∀(c A R:List Value),cut (A++(c++R)) A.length c.length=some c
 |[],A,R=>rfl
 |v::c,A,R=>by
  have h1:nth (A++(v::c++R)) A.length=some v:=by rw[hZ];simp
  have h2:=LT c (A++[v]) R
  simp only[kA,zA,List.length_nil,qE,List.cons_append,List.nil_append]at h2
  simp only[zA,cut,h1]
  rw[show A++(v::c++R)=A++v::(c++R)from rfl,h2]
theorem zX{α : Type}{C:α->List Value}{sz:Nat}(hC:∀x,(C x).length=sz):∀{xs:List α}{i:Nat}{y:α},xs[i]? = some y->∃a b,xs=a++y::b/\a.length=i/\(a.flatMap C).length=i*sz
 |[],i,y,h=>by simp at h
 |x::xs,0,y,h=>by simp at h;subst h;exact⟨[],xs,rfl,rfl,by simp⟩
 |x::xs,i+1,y,h=>by
  obtain⟨a,b,e,h1,h2⟩:=zX hC (xs:=xs) (i:=i) (y:=y) (by simpa using h)
  refine⟨x::a,b,by rw[e];rfl,by simp[h1],?_⟩
  rw[List.flatMap_cons,kA,hC,h2,Nat.add_mul];omega
theorem OL{C:α->List Value}(hC:∀x,(C x).length=sz){y:α}(h:xs[i]? = some y):cut (xs.flatMap C++sp) (i*sz) sz=some (C y):=by
 obtain⟨a,b,rfl,_,h2⟩:=zX hC h
 have:=LT (C y) (a.flatMap C) (b.flatMap C++sp)
 rw[h2,hC]at this
 simpa using this
theorem Ix{C:α->List Value}(hC:∀x,(C x).length=sz){u y:α}(h:xs[i]? = some u):splice (xs.flatMap C++sp) (i*sz) (C y)=(xs.set i y).flatMap C++sp:=by
 obtain⟨a,b,rfl,h1,h2⟩:=zX hC h
 have h3:((a++u::b).set i y)=a++y::b:=by rw[←h1];simp
 have:=um (C y) (a.flatMap C) (C u++(b.flatMap C++sp)) (by simp[hC])
 rw[h2]at this
 rw[h3]
 have h4:(C u++(b.flatMap C++sp)).drop (C y).length=b.flatMap C++sp:=by
  rw[hC,←hC u];simp
 rw[h4]at this
 simpa using this
theorem Ae{α : Type}{R:Rp α}{C:α->List Value}(hR:∀h cs x,R.rep h cs x->cs=C x){h:HF}:∀{xs:List α}{cl:List Value},bP R h cl xs->cl=xs.flatMap C
 |[],cl,e=>e
 |x::xs,cl,⟨cs,rest,e,_,hr,ht⟩=>by rw[e,hR _ _ _ hr,Ae hR ht];rfl
theorem Fa{α : Type}{R:Rp α}{C:α->List Value}(hR:∀h x,R.rep h (C x) x)(hC:∀x,(C x).length=R.sz)(h:HF):∀(xs:List α),bP R h (xs.flatMap C) xs
 |[]=>rfl
 |x::xs=>⟨C x,xs.flatMap C,rfl,hC x,hR h x,Fa hR hC h xs⟩
theorem sO{α : Type}{C:α->List Value}{sz:Nat}(hC:∀x,(C x).length=sz):∀(xs:List α),(xs.flatMap C).length=xs.length*sz
 |[]=>by simp
 |x::xs=>by rw[List.flatMap_cons,kA,hC,sO hC xs,zA,Nat.add_mul];omega
theorem Kf{t:TypeId}(hT:P.underlying t=some (.slice E))(hz:∀w,(zeroValue E).run P w=.ok z w)(hzc:z.cells=zs.toArray)(hzl:zs.length=sz)(h1:∀v∈zs,one v=true)(hs0:0<sz){n cc:Nat}(hb:w.heap[bk]? = some (.cells cl.toArray E (0,0)))(hle:off+(n+1)*sz<=cl.length)(ty:TypeId):
  ∃vs,vs.length=(n+1)*sz/\(Builtin.clear_ #[t] ty #[.slice (some ⟨bk,off,none⟩) (n+1) cc]).run P w=.ok (.tuple #[]) { w with heap:=w.heap.setIfInBounds bk (.cells (splice cl off vs).toArray E (0,0)) }:=by
 refine⟨(Builtin.zeroCells z.cells (n+1)).toList,?_,?_⟩
 .simp[Builtin.zeroCells,hzc,hzl]
 .have hlen:(Builtin.zeroCells z.cells (n+1)).toList.length=(n+1)*sz:=by simp[Builtin.zeroCells,hzc,hzl]
  have h9:=lJ (P:=P) off (Builtin.zeroCells z.cells (n+1)).toList 0 cl w hb (by rw[hlen];simpa using hle) (λv hv=>by
   simp only[Builtin.zeroCells,Array.toList_map,kJ]at hv
   obtain⟨j,_,rfl⟩:=hv
   rw[hzc]
   have hj:j%zs.length<zs.length:=Nat.mod_lt _ (by omega)
   simp only[List.size_toArray]
   rw[getElem!_pos zs.toArray (j%zs.length) (by simpa using hj)]
   exact h1 _ (by simp))
  rw[Nat.add_zero]at h9
  simp only[Builtin.clear_,qN]
  simp[run_underlying hT,hz,h9]
section
variable {P:Program} {b:Frame} {n:Nat} {ops:Array Oper} {F:List Frame->(Machine->Prop)->Prop} {e:Env} {ds:List Deferred} {X:Cx} {h:HF} {L:LH} {K:Env->HF->LH->Prop}
variable {d:Option Nat} {ty:TypeId} {pos:String} {af:Array Edge} {g:Option (Nat×Bool)}
theorem Kk{t:TypeId}{lo:Operand}{n m cap:Nat}(hT:P.underlying t=some (.slice E))(hS:tySz P E=some (sz,a))(hx:e.ev x=.slice (some ⟨bk,0,none⟩) n cap)(hlo:e.ev lo=.int .i64 (i:Nat))(hi:i<n)(hc:n<=cap)(hm:n-i=m):
  ∀w,St X h L w->(execOp e.ev ⟨d,.slice t x (some lo) none none,ty,pos,af,g⟩).run P w=.ok (.value (.slice (some ⟨bk,i*sz,none⟩) m (cap-i))) w:=λw hw=>by
 subst hm
 have h2:¬(cap=i):=by omega
 have h3:(⟨bk,0,none⟩:Addr).add (i*sz)=⟨bk,i*sz,none⟩:=pD bk (i*sz)
 simp[execOp,Instr.sliceAt,Instr.slice,Instr.sliceBounds,Instr.sliceBound,hx,hlo,asIntOf,run_underlying hT,iz hS,h2,h3,Nat.le_of_lt hi]
theorem Mh(i:Nat){t:TypeId}{m cc:Nat}(hT:P.underlying t=some (.slice E))(hz:∀w,(zeroValue E).run P w=.ok z w)(hzc:z.cells=zs.toArray)(hzl:zs.length=sz)(h1:∀v∈zs,one v=true)(hs0:0<sz)(hL:nth L i=some (bk,.cells cl.toArray E (0,0)))(hx:e.ev x=.slice (some ⟨bk,off,none⟩) (m+1) cc)(hle:off+(m+1)*sz<=cl.length)(t':∀vs,vs.length=(m+1)*sz->K (pute e d (.tuple #[])) h (setNth L i (bk,.cells (splice cl off vs).toArray E (0,0))))(hg:guardB ops e ⟨d,.call ⟨.builtin .clear,#[x],#[t]⟩,ty,pos,af,g⟩=true:=by rfl):Stp P b n ops F ds X ⟨d,.call ⟨.builtin .clear,#[x],#[t]⟩,ty,pos,af,g⟩ e h L K:=
 iM hg λw hw=>by
  have hb:w.heap[bk]? = some (.cells cl.toArray E (0,0)):=by
   have h2:=hL
   rw[hZ]at h2
   exact hw.own _ (vE h2)
  obtain⟨vs,hvl,hr⟩:=Kf (P:=P) (cc:=cc) hT hz hzc hzl h1 hs0 hb hle ty
  refine⟨.tuple #[],_,h,_,?_,hw.write hL _,t' vs hvl⟩
  simp only[execOp,resolve,invoke,builtin]
  simp[hx,hr]
end
section
variable {P:Program} {b:Frame} {n:Nat} {ops:Array Oper} {F:List Frame->(Machine->Prop)->Prop} {e:Env} {ds:List Deferred} {X:Cx} {h:HF} {L:LH} {K:Env->HF->LH->Prop}
variable {d:Option Nat} {ty:TypeId} {pos:String} {af:Array Edge} {g:Option (Nat×Bool)}
theorem Pg{R:Rp α}(hc:∀args w,(callFunc f args).run P w=.ok (.enter f args) w)(hs:Ri P f vs h R E xs)(hvs:ass.toList.map e.ev=vs)(t':∀bb c G,dA R E h xs bb c G->K (pute e d (.slice bb xs.length c)) h (L++G))(hg:guardB ops e ⟨d,.call ⟨.value (.func f),ass,ats⟩,ty,pos,af,g⟩=true:=by rfl):
  Stp P b n ops F ds X ⟨d,.call ⟨.value (.func f),ass,ats⟩,ty,pos,af,g⟩ e h L K:=by
 unfold Stp
 rw[if_pos hg]
 intro w hw
 have harr:ass.map e.ev=vs.toArray:=Sd (by simp[←hvs])
 have hr:(execOp e.ev ⟨d,.call ⟨.value (.func f),ass,ats⟩,ty,pos,af,g⟩).run P w=.ok (.enter f vs.toArray) w:=by
  simp[execOp,resolve,Tz,kH,invoke,harr,hc]
 rw[hr]
 refine lj (by simp) (ji (pT.mono (hs w (hw.sub (List.nil_sublist _)).pre) ?_))
 rintro x w' ⟨h',B,hst,rfl,bb,c,rfl,hG⟩
 exact⟨h',_,(S4 (A:=[]) (F:=L) hw hst).perm xL,t' bb c B hG⟩
end
section
variable {P:Program} {b:Frame} {n:Nat} {k:List Item} {F:List Frame->(Machine->Prop)->Prop} {ds:List Deferred} {X:Cx}
theorem Qj{J:HF->LH->Prop}(m0:Nat)(Inv:σ->Env->HF->LH->Prop)(μ : σ->Nat)(dn:σ->List Nat)(fin:∀s e h L,Inv s e h L->μ s=0->TA P b n l.toArray k F ds X J m0 (dn s) e h L)(step:∀s e h L,Inv s e h L->μ s≠0->nexts l.toArray (dn s)≠[]/\∀i∈nexts l.toArray (dn s),∀o,nth l i=some o->Stp P b n l.toArray F ds X o e h L (λe' h' L'=>J h' L'/\∃s',μ s=μ s'+1/\(i::dn s).Perm (dn s')/\Inv s' e' h' L')):
  ∀(m:Nat)(s:σ)(e:Env)(h:HF)(L:LH),μ s=m->Inv s e h L->TA P b n l.toArray k F ds X J (m+m0) (dn s) e h L:=by
 intro m
 induction m with
 |zero=>intro s e h L hm hI;rw[Nat.zero_add];exact fin s e h L hI hm
 |succ m ih=>
  intro s e h L hm hI
  obtain⟨h0,h1⟩:=step s e h L hI (by omega)
  rw[show m+1+m0=(m+m0)+1 from by omega]
  refine⟨λhn=>absurd hn h0,λi hi o ho=>Stp.mono ?_ (h1 i hi o (by rw[hZ];simpa using ho))⟩
  rintro e' h' L' ⟨hj,s',hs,hp,hI'⟩
  exact⟨hj,TA.perm (λx=>hp.mem_iff.symm) (ih s' e' h' L' (by omega) hI')⟩
theorem Pa{dn:List Nat}{h:HF}{L:LH}{Q:Nat->Env->HF->LH->Prop}(is:List Nat)(hn:nexts l.toArray dn=is)(h0:is≠[])(t:∀i∈is,∀o,nth l i=some o->Stp P b n l.toArray F ds X o e h L (Q i)):nexts l.toArray dn≠[]/\∀i∈nexts l.toArray dn,∀o,nth l i=some o->Stp P b n l.toArray F ds X o e h L (Q i):=by
 rw[hn];exact⟨h0,t⟩
end
theorem pmid{T X X':List α}{i:α}(h:(i::X).Perm X'):(i::(T++X)).Perm (T++X'):=List.perm_middle.symm.trans (List.Perm.append_left T h)
section
variable {P:Program} {b:Frame} {n:Nat} {ops:Array Oper} {F:List Frame->(Machine->Prop)->Prop} {e:Env} {ds:List Deferred} {X:Cx} {h:HF} {L:LH} {K:Env->HF->LH->Prop}
variable {d:Option Nat} {ty:TypeId} {pos:String} {af:Array Edge} {g:Option (Nat×Bool)}
theorem Gk{t:TypeId}{ln cp:Operand}{m:Nat}(hT:P.underlying t=some (.slice E))(hz:zeroC P E=some [z])(hS:tySz P E=some (1,a))(hby:bytesOf P E=some C3)(hl:e.ev ln=.int .i64 (m:Nat))(hc:e.ev cp=.int .i64 (m:Nat))(hb:C3*m<=281474976710656)(h63:m<=9223372036854775807)(t':∀bk,K (pute e d (.slice (some ⟨bk,0,none⟩) m m)) h ((bk,.cells (List.replicate m z).toArray E (0,0))::L))(hg:guardB ops e ⟨d,.makeSlice t ln cp,ty,pos,af,g⟩=true:=by rfl):Stp P b n ops F ds X ⟨d,.makeSlice t ln cp,ty,pos,af,g⟩ e h L K:=
 iM hg λw hw=>by
  obtain⟨i,hi,hby'⟩:∃i,P.info? E=some i/\i.bytes=C3:=by
   unfold bytesOf at hby
   cases hi:P.info? E with
   |none=>simp[hi]at hby
   |some i=>exact⟨i,rfl,by simpa[hi]using hby⟩
  have hsz:i.size=1:=by
   have:=iz hS w
   simpa[sizeOf,typeInfo,hi]using this
  obtain⟨zv,hzz,hzc⟩:∃zv,i.zero=some zv/\zv.cells=#[z]:=by
   unfold zeroC at hz
   cases hzz:i.zero with
   |none=>simp[hi,hzz]at hz
   |some zv=>exact⟨zv,rfl,by simp[hi,hzz]at hz;rw[m6,hz]⟩
  have hr:=run_make (P:=P) w t E i zv hT hi hzz .i64 .i64 (m:Int) (m:Int) (by omega) (Int.le_refl _) (by rw[hby'];omega) (by omega)
  have hcells:madeCells zv.cells ((m:Int).toNat*i.size)=(List.replicate m z).toArray:=by
   rw[hzc,hsz]
   apply Array.ext
   .simp[madeCells]
   .intro j h1 h2;simp[madeCells,Nat.mod_one]
  rw[hcells]at hr
  simp only[Int.toNat_natCast]at hr
  refine⟨_,_,h,_,?_,hw.alloc _,t' _⟩
  have e1:w.alloc (.cells (List.replicate m z).toArray E)={ w with heap:=w.heap.push (.cells (List.replicate m z).toArray E (0,0)) }:=rfl
  rw[e1]at hr
  simp[execOp,hl,hc,hr]
end
theorem Hj{n:Nat}{F:List Frame->(Machine->Prop)->Prop}{h:HF}{L:LH}{K:Env->HF->LH->Prop}{o:Oper}(sl:List (Nat×Value))(hr:i9 e sl)(t:Stp P b n ops F ds X o (upds e sl) h L K):Stp P b n ops F ds X o e h L K:=by
 rw[hr.upds]at t;exact t
theorem Qg{n:Nat}{F:List Frame->(Machine->Prop)->Prop}{h:HF}{L:LH}(sl:List (Nat×Value))(hr:i9 e sl)(t:TT P b n k F (upds e sl) ds X h L):TT P b n k F e ds X h L:=by
 rw[hr.upds]at t;exact t
section
variable {P:Program} {b:Frame} {n:Nat} {k:List Item} {F:List Frame->(Machine->Prop)->Prop} {e:Env} {ds:List Deferred} {X:Cx} {h:HF} {L:LH}
theorem lp3{γ:Type}{x0:ρ}(xs:List α)(sl:Nat->γ->List (Nat×Value))(hh:γ->HF)(LL:γ->LH)(J JX:Nat->γ->Prop)(hJX:∀i g,J i g->JX i g)(Lf:List α->Nat->γ->ρ)(g0:γ)(hb:xs.length<=9223372036854775807)(hs:x0=Lf xs 0 g0)(hJ:J 0 g0)(after:∀i g,i<=xs.length->x0=Lf [] i g->JX i g->∀e',TT P b n k F (upds e' (sl i g)) ds X (hh g) (LL g))(cons:∀i g y r,xs.drop i=y::r->decide ((i:Int)<(xs.length:Int))=true->xs[i]? = some y->i<xs.length->xs.length<=9223372036854775807->x0=Lf (y::r) i g->J i g ->
   (∀i' g' {e'},x0=Lf [] i' g'->JX i' g'->(hi:i'<=xs.length:=by omega)->(hr:i9 e' (sl i' g'):=by exact rds)->TT P b n k F e' ds X (hh g') (LL g')) ->
   (∀g' {e'},x0=Lf r (i+1) g'->J (i+1) g'->(hr:i9 e' (sl (i+1) g'):=by exact rds)->TT P b n (.inLoop c::.inBlock id::k) F e' ds X (hh g') (LL g')) ->
   ∀e',TT P b n (.code c::.inLoop c::.inBlock id::k) F (upds e' (sl i g)) ds X (hh g) (LL g))(nil:∀i g,xs.drop i=[]->decide ((i:Int)<(xs.length:Int))=false->(∀e',i9 e' (sl i g)->TT P b n k F e' ds X (hh g) (LL g)) ->
   ∀e',TT P b n (.code c::.inLoop c::.inBlock id::k) F (upds e' (sl i g)) ds X (hh g) (LL g):=by exact ndA)(h0:i9 e (sl 0 g0):=by exact rds)(hw:∀w,St X h L w->St X (hh g0) (LL g0) w:=by exact sws):
  TT P b n (.code (.block id (.loop c))::k) F e ds X h L:=by
 refine iA (ι:=Nat×γ) (λi=>sl i.1 i.2) (λi=>hh i.2) (λi=>LL i.2) (λi=>i.1<=xs.length/\x0=Lf [] i.1 i.2/\JX i.1 i.2) ?_ (λhx=>?_)
 .rintro⟨i,g⟩ ⟨h1,h2,h3⟩ e'
  exact after i g h1 h2 h3 e'
 .refine kl (ι:=Nat×γ×List α) (λi=>sl i.1 i.2.1) (λi=>hh i.2.1) (λi=>LL i.2.1) (λi=>xs.drop i.1=i.2.2/\i.1<=xs.length/\x0=Lf i.2.2 i.1 i.2.1/\J i.1 i.2.1) (λi=>i.2.2.length) (0,g0,xs) h0 hw ⟨rfl,vM _,hs,hJ⟩ ?_
  rintro⟨i,g,s⟩ ⟨hd,hi,hs,hJ⟩ ag e'
  dsimp only at hd hi hs hJ
  rcases s with _|⟨y,r⟩
  .exact nil i g hd (oI hd) (λe'' hr=>hx (i,g) e'' ⟨hi,hs,hJX _ _ hJ⟩ hr) e'
  .exact cons i g y r hd (tJ hd) (sQ hd) (jv hd) hb hs hJ (λi' g' e'' a b c d=>hx (i',g') e'' ⟨c,a,b⟩ d)
    (λg' e'' a b hr=>ag (i+1,g',r) e'' (Nat.lt_succ_self _) ⟨mY hd,jv hd,a,b⟩ hr) e'
end
end
end Go.Sg
