import Derived.Recover
import Derived.Maps.RangeRun
import Derived.Conc.LoneCalls
import Derived.RangeFuncNested
import Derived.Laws.MakeOwn
import Derived.Test.YtpplkjhgggjaoaaGreatDoorW1
/- A part of the proof of JudgeMore. -/
set_option linter.unusedVariables false
set_option linter.unusedSimpArgs false
set_option maxRecDepth 100000
open List renaming length_cons→xA,length_append→jA,not_mem_nil→kA,mem_cons_of_mem→xB,mem_cons_self→jB,mem_cons→qC,append_assoc→kC,mem_of_getElem?→zE,getElem?_eq_getElem→qF,map_cons→kH,perm_append_comm→kJ,getElem?_eq_none→vL,mem_map→kM,nodup_cons→xR,all_eq_true→R6,nodup_nil→SK
open Bool renaming and_eq_true→zB,false_eq_true→R1
open Go.Sg.Rp renaming int→zC,aM→xH
open Go.Value renaming int→zD
open Go.Sg.HF renaming le_trans→vF,le_refl→xM,le→xN
open Nat renaming le_refl→jG,lt_or_ge→jL,zero_le→qM,le_of_ble_eq_true→vQ,blt→qS,le_trans→vT,lt_of_lt_of_le→TH,ble→Ur
open Go.Deferred renaming ofValue→xJ
open Go.Obj renaming cells→jJ
open Go.Result renaming andThen_ok→zM
open Go.Sem renaming run_bind→xP,run_pure→S5,run→Up
open Go.Addr renaming add→vS
open Go.Frame renaming enter→Sb,atR→S8
open Array renaming ext'→Sd,replicate→SM,foldl_toList→Ue
open Go.Sg.St renaming start→Tf,after→Tg
open Go.Instr renaming getLoop→Tr,enterLoop→Ua
open Go.Sg.Env renaming ev→T6

namespace Go.Sg
variable {A L':LH}{P:Program}{X:Cx}{af:Array Edge}{args cap vs:List Go.Value}{as:Array Operand}{assign body c:Code}{ats:Array TypeId}{b:Frame}{bk n:Nat}{ch:List PanicEntry}{ds:List Deferred}{e:Env}{f:FuncId}{fn:Func}{fv it p v:Go.Value}{g x:Operand}{k todo:List Item}{o:Obj}{ops:Array Oper}{pos:String}{ps:List Tmp}{rs:List ResultVar}{ty:TypeId}{α ι:Type}{done:List α}{xs:List α}
section
def Itr{α : Type}(P:Program)(it:Value)(val:α->HF->List Value->Prop)(xs:List α)(h:HF):Prop:=
 ∃(f0:FuncId)(cap:List Value),it=.func (.func f0) #[] cap.toArray/\(∀args w,(callFunc f0 args).run P w=.ok (.enter f0 args) w)/\Np P it val xs h
theorem Itr.mono{val:α->HF->List Value->Prop}{h h':HF}(i:Itr P it val xs h)(hl:h.le h'):Itr P it val xs h':=
 let ⟨f0,cap,a,b,c⟩:=i;⟨f0,cap,a,b,c.mono hl⟩
theorem sR{val:α->HF->List Value->Prop}{h:HF}(hc:∀args w,(callFunc f args).run P w=.ok (.enter f args) w)(hr:∀(yf:Fn)(ya yb:Array Value)(C:List α->HF->LH->Prop)(Sp:HF->LH->Prop)(Pn:List PanicEntry->HF->LH->Prop)(h':HF)(A:LH),h.le h'->(∀done h1 h2 B,xN h1 h2->C done h1 B->C done h2 B)->(∀h1 h2 B,xN h1 h2->Sp h1 B->Sp h2 B)->(∀ch h1 h2 B,xN h1 h2->Pn ch h1 B->Pn ch h2 B)->C [] h' A ->
   (∀done x rest vs h'' B,xs=done++x::rest->h'.le h''->C done h'' B->val x h'' vs->mu P (.func yf ya yb) vs.toArray h'' B (YR C Sp Pn done x))->nu P f (.func yf ya yb::cap).toArray h' A (ItR C Sp Pn xs)):
  Itr P (.func (.func f) #[] cap.toArray) val xs h:=⟨f,cap,rfl,hc,PZ hc hr⟩
theorem yr(r:Nat)(o:Obj)(L M:LH):((r,o)::(L++M)).Perm (L++(r,o)::M):=List.perm_middle.symm
abbrev rdH(l r:Nat)(lp:Loop)(L:LH):LH:=(l,.loop { lp with state:=.busy })::(r,.deferred (some []))::L
theorem jw{F:List Frame->(Machine->Prop)->Prop}{h:HF}{L:LH}{val:α->HF->List Value->Prop}(rs:List Nat)(hh:ι->HF)(LL:ι->LH)(I:List α->ι->Prop)(JR JX:ι->Prop)(xid:Nat)(Q:List PanicEntry->HF->LH->Prop)(i₀ : ι)(hf:P.funcs[f]? = some fn)(hgv:e.ev g=it)(hit:Itr P it val xs h)(hps:ps.all (λp=>qS p n)=true)(hval:∀x h vs,val x h vs->vs.length=ps.length)(hQm:∀ch h1 h2 B,xN h1 h2->Q ch h1 B->Q ch h2 B)(hh0:hh i₀=h)(hL0:L=LL i₀)(h0:I xs i₀)(round:∀(l r:Nat)(lp:Loop)(x:α)(rest:List α)(vs:List Value)(i:ι)(h':HF)(X':Cx)(FR:List Frame->(Machine->Prop)->Prop),I (x::rest) i->h.le h'->(hh i).le h'->val x h' vs->X'.h0=h'->(∀b∈X'.M,b<X'.w0.heap.size)->lp.state=.ready ->
   (∀i' e' h2,I rest i'->(hh i').le h2->TT P (roundFrame l f) n [] FR e' [] X' h2 (rdH l r lp (LL i'++markB rs))) ->
   (∀i' e' h2 k',JR i'->(hh i').le h2->TT P (roundFrame l f) n (.code .ret::k') FR e' [] X' h2 (rdH l r lp (LL i'++markB rs))) ->
   (∀i' e' h2 k',JX i'->(hh i').le h2->exitTo xid k'=none->TT P (roundFrame l f) n (.code (.exit xid)::k') FR e' [] X' h2 (rdH l r lp (LL i'++markB rs))) ->
   (∀ch e' h' L',Q ch h' L'->TP P (roundFrame l f) n ch FR e' [] X' h' (rdH l r lp (L'++markB rs))) ->
   TT P (roundFrame l f) n [.code assign,.beginRound,.code body] FR (setParams e ps vs) [] X' h' ((l,.loop lp)::(r,.deferred (some []))::(LL i++markB rs)))(next:∀r i h',I [] i->(hh i).le h'->h.le h'->TT P (bodyFrame f) n k F e (marks (r::rs)) X h' (LL i++markB (r::rs)))(jret:∀r i h',JR i->(hh i).le h'->h.le h'->TT P (bodyFrame f) n (.code .ret::k) F e (marks (r::rs)) X h' (LL i++markB (r::rs)))(jexit:∀r i h',JX i->(hh i).le h'->h.le h'->TT P (bodyFrame f) n (.code (.exit xid)::k) F e (marks (r::rs)) X h' (LL i++markB (r::rs)))(pan:∀r ch h' L',Q ch h' L'->h.le h'->TP P (bodyFrame f) n ch F e (marks (r::rs)) X h' (L'++markB (r::rs))):
  TT P (bodyFrame f) n (.code (.rangeFunc g ps.toArray assign body)::k) F e (marks rs) X h (L++markB rs):=by
 obtain⟨f0,cap,rfl,hc0,hit⟩:=hit
 refine NV (val:=val) (xs:=xs)
  (λdone h' B=>∃rest i,xs=done++rest/\(hh i).le h'/\B=LL i++markB rs/\I rest i)
  (λc h' B=>∃i,(hh i).le h'/\B=LL i++markB rs/\((c=.ret/\JR i)\/(c=.exit xid/\JX i)))
  (λch h' B=>∃L',B=L'++markB rs/\Q ch h' L') hgv hc0 hit hps hval ?_ ?_ ?_ ⟨xs,i₀,rfl,hh0▸xM _,by rw[hL0],h0⟩ ?_ ?_ ?_ ?_
 .rintro done h1 h2 B hl ⟨rest,i,a,b,c⟩;exact⟨rest,i,a,vF b hl,c⟩
 .rintro c h1 h2 B hl ⟨i,a,b⟩;exact⟨i,vF a hl,b⟩
 .rintro ch h1 h2 B hl ⟨L',e1,a⟩;exact⟨L',e1,hQm _ _ _ _ hl a⟩
 .rintro l r lp done x rest vs h' L' X' hxs hle ⟨rest',i,hxs',hhi,rfl,hI⟩ hv hlp hX' hXM
  have hrest:rest'=x::rest:=List.append_cancel_left (hxs'.symm.trans hxs)
  subst hrest
  refine round l r lp x rest vs i h' X' _ hI hle hhi hv hX' hXM hlp ?_ ?_ ?_ ?_
  .intro i' e' h2 hI' hl
   exact H5 rfl ⟨rest,i',by rw[hxs];simp,hl,rfl,hI'⟩
  .intro i' e' h2 k' hJ hl
   exact QN rfl ⟨i',hl,rfl,.inl ⟨rfl,hJ⟩⟩
  .intro i' e' h2 k' hJ hl hx
   exact PO hx rfl ⟨i',hl,rfl,.inr ⟨rfl,hJ⟩⟩
  .intro ch e' h' L' hQ
   exact QO hf ⟨L',rfl,hQ⟩
 .rintro r h' L' hle ⟨rest,i,hxs,hl,rfl,hI⟩
  have hrest:rest=[]:=by
   have h2:=congrArg List.length hxs
   rw[jA]at h2
   exact List.length_eq_zero_iff.1 (by omega)
  subst hrest
  exact lJ (yr r _ _ _) (next r i h' hI hl hle)
 .rintro r c h' L' hle ⟨i,hl,rfl,⟨rfl,hJ⟩|⟨rfl,hJ⟩⟩
  .exact lJ (yr r _ _ _) (jret r i h' hJ hl hle)
  .exact lJ (yr r _ _ _) (jexit r i h' hJ hl hle)
 .rintro r ch h' L' hle ⟨L',rfl,hQ⟩
  exact HO (yr r _ _ _) (pan r ch h' L' hQ hle)
section yield
variable {P:Program} {b:Frame} {n:Nat} {ops:Array Oper} {F:List Frame->(Machine->Prop)->Prop} {e:Env} {ds:List Deferred} {X:Cx} {h:HF} {L:LH} {K:Env->HF->LH->Prop}
variable {d:Option Nat} {ty:TypeId} {pos:String} {af:Array Edge} {g:Option (Nat×Bool)}
theorem kp(Fr A:LH){C:List α->HF->LH->Prop}{Sp:HF->LH->Prop}{Pn:List PanicEntry->HF->LH->Prop}{x:α}{t:Nat}(hL:L=Fr++A)(hs:mu P fv vs.toArray h A (YR C Sp Pn done x))(hf:e t=fv)(hvs:as.toList.map e.ev=vs)(yes:∀h' B,h.le h'->C (done++[x]) h' B->K (pute e d (.bool true)) h' (Fr++B))(no:∀h' B,h.le h'->Sp h' B->K (pute e d (.bool false)) h' (Fr++B))(pan:∀ch h' B,h.le h'->Pn ch h' B->∀e',TP P b n ch F e' ds X h' (Fr++B))(hg:guardB ops e ⟨d,.call ⟨.value (.tmp t),as,ats⟩,ty,pos,af,g⟩=true:=by rfl):
  Stp P b n ops F ds X ⟨d,.call ⟨.value (.tmp t),as,ats⟩,ty,pos,af,g⟩ e h L K:=by
 refine AP Fr A hL hs hf hvs ?_ ?_ hg
 .rintro v h' B hle (⟨e1,hC⟩|⟨e1,hS⟩|⟨ch,e1,_⟩)
  .cases e1;exact yes h' B hle hC
  .cases e1;exact no h' B hle hS
  .cases e1
 .rintro ch h' B hle (⟨e1,_⟩|⟨e1,_⟩|⟨ch',e1,hP⟩)
  .cases e1
  .cases e1
  .cases e1;exact pan ch h' B hle hP
theorem N6(Fr A M:LH){C:List α->HF->LH->Prop}{Sp:HF->LH->Prop}{Pn:List PanicEntry->HF->LH->Prop}{x:α}{t:Nat}(hL:L=Fr++(A++M))(hs:mu P fv vs.toArray h A (YR C Sp Pn done x))(hf:e t=fv)(hvs:as.toList.map e.ev=vs)(yes:∀h' B,h.le h'->C (done++[x]) h' B->K (pute e d (.bool true)) h' (Fr++(B++M)))(no:∀h' B,h.le h'->Sp h' B->K (pute e d (.bool false)) h' (Fr++(B++M)))(pan:∀ch h' B,h.le h'->Pn ch h' B->∀e',TP P b n ch F e' ds X h' (Fr++(B++M)))(hg:guardB ops e ⟨d,.call ⟨.value (.tmp t),as,ats⟩,ty,pos,af,g⟩=true:=by rfl):
  Stp P b n ops F ds X ⟨d,.call ⟨.value (.tmp t),as,ats⟩,ty,pos,af,g⟩ e h L K:=by
 have hp:∀B:LH,((Fr++M)++B).Perm (Fr++(B++M)):=λB=>by
  rw[kC];exact List.Perm.append_left Fr kJ
 have key:=kp (K:=λe' h' L'=>∃L'',L'.Perm L''/\K e' h' L'') (L:=(Fr++M)++A) (P:=P) (b:=b) (n:=n) (ops:=ops) (F:=F) (ds:=ds) (X:=X) (d:=d) (ty:=ty) (pos:=pos) (af:=af) (g:=g) (Fr++M) A rfl hs hf hvs
  (λh' B hl hc=>⟨_,hp B,yes h' B hl hc⟩) (λh' B hl hc=>⟨_,hp B,no h' B hl hc⟩) (λch h' B hl hc e'=>HO (hp B) (pan ch h' B hl hc e')) hg
 unfold Stp at key ⊢
 rw[if_pos hg]at key ⊢
 intro w hw
 subst hL
 have h1:=key w (hw.perm (hp A).symm)
 revert h1
 have up:∀e',∀w'':World,(∃h' L',St X h' L' w''/\∃L'',L'.Perm L''/\K e' h' L'')->∃h' L',St X h' L' w''/\K e' h' L':=by
  rintro e' w'' ⟨h',L',hst,L'',hpm,hk⟩;exact⟨h',L'',hst.perm hpm,hk⟩
 intro h1
 cases hr:(execOp e.ev ⟨d,.call ⟨.value (.tmp t),as,ats⟩,ty,pos,af,g⟩).run P w with
 |ok nx w'=>
  rw[hr]at h1
  cases nx with
  |skip=>exact up _ _ h1
  |value v=>exact up _ _ h1
  |enter f args=>
   unfold wm at h1 ⊢
   refine uU.mono (nx:=.enter f args) h1 ?_
   intro x w'' hx
   cases x with
   |returned v=>exact up _ _ hx
   |panicked ch=>exact hx
   |outgrown=>trivial
  |round l f tmps assign body=>
   unfold wm at h1 ⊢
   refine uU.mono (nx:=.round l f tmps assign body) h1 ?_
   intro x w'' hx
   cases x with
   |returned v=>exact up _ _ hx
   |panicked ch=>exact hx
   |outgrown=>trivial
  |_=>exact h1
 |halt hlt w'=>
  rw[hr]at h1
  cases hlt<;>first|exact h1|exact h1.elim
end yield
theorem jb{h:HF}{R:Ending->HF->LH->Prop}(hf:P.funcs[f]? = some fn)(hb:fn.body=some c)(hn:fn.ntmps=n)(hle:Ur args.length n=true)(t:∀X:Cx,(∀b∈X.M,b<X.w0.heap.size)->X.h0=h->TT P (bodyFrame f) n [.code c] (lQ P X R) (envArgs args) [] X h A):nu P f args.toArray h A R:=by
 intro w p caller cs Φ h1 h2
 have hle:=vQ hle
 have henter:Sb P f args.toArray .normal=(bodyFrame f).atR { tmps:=args.toArray++SM (n-args.length) undef,defers:=[] } [.code c]:=by
  simp[Sb,S8,hf,hb,hn,bodyFrame]
 rw[henter]
 exact t ⟨w,h,A.map (·.1)⟩ (λb hb=>by obtain⟨p',hp',rfl⟩:=kM.1 hb;exact gY (p.own p' hp')) rfl w (Tf p) _ (caller::cs) Φ (by simp;omega) (ow _ _) rfl ⟨caller,cs,rfl,h1,h2⟩
theorem Oa{F:List Frame->(Machine->Prop)->Prop}{h:HF}{L:LH}{K:Env->HF->LH->Prop}{d:Option Nat}{g:Option (Nat×Bool)}{t:TypeId}(hXM:∀b∈X.M,b<X.w0.heap.size)(t':∀bk,bk∉X.M->K (pute e d (.map (some bk))) h ((bk,.map #[] 0)::L))(hg:guardB ops e ⟨d,.makeMap t none,ty,pos,af,g⟩=true:=by rfl):Stp P b n ops F ds X ⟨d,.makeMap t none,ty,pos,af,g⟩ e h L K:=
 gT hg λw hw=>⟨_,_,h,_,by simp[execOp,Instr.makeMap],hw.alloc _,t' _ (λhm=>by have:=hXM _ hm;have:=hw.size;omega)⟩
section freezeN
variable {P:Program} {b:Frame} {n:Nat} {k:List Item} {F:List Frame->(Machine->Prop)->Prop} {e:Env} {ds:List Deferred} {X:Cx} {h:HF} {L:LH} {ops:Array Oper} {l:List Oper}
theorem Ei(i:Nat)(hi:nth L i=some (bk,o))(hM:bk∉X.M)(t:∀h2,h.le h2->h2 bk=some o->TO P b n ops l k F e ds X h2 (dropNth L i)):TO P b n ops l k F e ds X h L:=by
 intro w hw
 have h1:=hw.perm (pt L i _ hi)
 exact t _ (HF.Ci (h1.free (bk,o) (by simp))) (HF.yk _ _ _) w (h1.freeze hM)
end freezeN
def tw{κ α : Type}(enc:κ->Value)(V:HF->Value->α->Prop)(h:HF)(bk:Nat)(m:List (κ×α)):Prop:=∃o,h bk=some o/\i9 enc V h o m
theorem tw.mono{κ:Type}{enc:κ->Value}{V:HF->Value->α->Prop}{h h':HF}{m:List (κ×α)}(c:tw enc V h bk m)(hV:zp V)(hl:h.le h'):tw enc V h' bk m:=
 let ⟨o,a,b⟩:=c;⟨o,hl _ _ a,b.mono hV hl⟩
section ends
variable {α : Type} {P:Program} {f:FuncId} {n:Nat} {k:List Item} {e:Env} {X:Cx} {h:HF} {L:LH} {fn:Func} {C:List α->HF->LH->Prop} {Sp:HF->LH->Prop} {Pn:List PanicEntry->HF->LH->Prop} {xs:List α}
theorem mE(rs:List Nat)(hf:P.funcs[f]? = some fn)(hr:fn.results=#[])(hA:A.Sublist L)(hR:C xs h A\/Sp h A):TT P (bodyFrame f) n (.code .ret::k) (lQ P X (ItR C Sp Pn xs)) e (marks rs) X h (L++markB rs):=
 uW rs hf (λa _ w _=>mg hr a w) (λw hw=>hw.sub hA) (.inl ⟨rfl,hR⟩)
theorem sS(rs:List Nat)(hf:P.funcs[f]? = some fn)(hr:fn.results=#[])(hA:A.Sublist L)(hR:C xs h A\/Sp h A):TT P (bodyFrame f) n [] (lQ P X (ItR C Sp Pn xs)) e (marks rs) X h (L++markB rs):=
 LS rs hf (λa _ w _=>mg hr a w) (λw hw=>hw.sub hA) (.inl ⟨rfl,hR⟩)
theorem mP(rs:List Nat)(hf:P.funcs[f]? = some fn)(hA:A.Sublist L)(hR:Pn ch h A):TP P (bodyFrame f) n ch (lQ P X (ItR C Sp Pn xs)) e (marks rs) X h (L++markB rs):=
 HP rs hf (λw hw=>hw.sub hA) (.inr ⟨ch,rfl,hR⟩)
end ends
section ends2
variable {P:Program} {f:FuncId} {n:Nat} {k:List Item} {e:Env} {X:Cx} {h:HF} {L:LH} {fn:Func} {φ : Value->HF->Prop}
theorem ef{F:List Frame->(Machine->Prop)->Prop}(t:TT P b n todo F e (marks []) X h (L++markB [])):TT P b n todo F e [] X h L:=by
 have:L++markB []=L:=by simp[markB]
 rw[this]at t;exact t
theorem cg{F:List Frame->(Machine->Prop)->Prop}(hL:L=L')(t:TT P b n todo F e ds X h L'):TT P b n todo F e ds X h L:=hL▸t
theorem qn(ms:List Nat)(vs:List Value)(hf:P.funcs[f]? = some fn)(hr:fn.results=rs.toArray)(hv:tZ P e L rs vs)(hφ : φ (retVal vs) h):
  TT P (bodyFrame f) n (.code .ret::k) (lQ P X (λx h' B=>B=[]/\∃v,x=.returned v/\φ v h')) e (marks ms) X h (L++markB ms):=
 uW ms (v:=retVal vs) hf (λa he w hw=>mB hr hv a he w hw) (λ_ hw=>hw.sub (List.nil_sublist _)) ⟨rfl,_,rfl,hφ⟩
theorem sA(ms:List Nat){hh:HF}(vs:List Value)(hf:P.funcs[f]? = some fn)(hr:fn.results=rs.toArray)(hX:X.h0=hh)(hv:tZ P e L rs vs)(hvv:retVal vs=v):
  TT P (bodyFrame f) n (.code .ret::k) (lQ P X (λx h' B=>x=.returned v/\h'=hh/\B=[])) e (marks ms) X h (L++markB ms):=
 uW ms (v:=v) hf (λa he w hw=>hvv▸mB hr hv a he w hw) (λ_ hw=>hw.forget) ⟨rfl,hX,rfl⟩
def XR(v:Except Value Value)(hh:HF)(x:Ending)(h':HF)(B:LH):Prop:=
 h'=hh/\B=[]/\match v with
  |.ok u=>x=.returned u
  |.error p=>x=.panicked [{ v:=p,recovered:=false }]
abbrev GK(P:Program)(f:FuncId)(args:List Value)(h:HF)(v:Except Value Value):Prop:=nu P f args.toArray h [] (XR v h)
theorem yl(ms:List Nat){v:Except Value Value}{hh:HF}(vs:List Value)(hf:P.funcs[f]? = some fn)(hr:fn.results=rs.toArray)(hX:X.h0=hh)(hv:tZ P e L rs vs)(hvv:v=.ok (retVal vs)):
  TT P (bodyFrame f) n [] (lQ P X (XR v hh)) e (marks ms) X h (L++markB ms):=
 LS ms (v:=retVal vs) hf (λa he w hw=>mB hr hv a he w hw) (λ_ hw=>hw.forget) (by subst hvv;exact⟨hX,rfl,rfl⟩)
theorem nv(ms:List Nat){v:Except Value Value}{hh:HF}(hf:P.funcs[f]? = some fn)(hX:X.h0=hh)(hvv:v=.error p):
  TP P (bodyFrame f) n [{ v:=p,recovered:=false }] (lQ P X (XR v hh)) e (marks ms) X h (L++markB ms):=
 HP ms hf (λ_ hw=>hw.forget) (by subst hvv;exact⟨hX,rfl,rfl⟩)
theorem gy{F:List Frame->(Machine->Prop)->Prop}(t:TP P b n ch F e (marks []) X h (L++markB [])):TP P b n ch F e [] X h L:=by
 have:L++markB []=L:=by simp[markB]
 rw[this]at t;exact t
end ends2
section stepsX
variable {P:Program} {b:Frame} {n:Nat} {ops:Array Oper} {F:List Frame->(Machine->Prop)->Prop} {e:Env} {ds:List Deferred} {X:Cx} {h:HF} {L:LH} {K:Env->HF->LH->Prop}
variable {d:Option Nat} {ty:TypeId} {pos:String} {af:Array Edge} {g:Option (Nat×Bool)}
theorem mA{v:Except Value Value}(hc:∀args w,(callFunc f args).run P w=.ok (.enter f args) w)(hs:GK P f vs h v)(hvs:as.toList.map e.ev=vs)(t':∀u,v=.ok u->K (pute e d u) h L)(tp:∀p,v=.error p->∀e',TP P b n [{ v:=p,recovered:=false }] F e' ds X h L)(hg:guardB ops e ⟨d,.call ⟨.value (.func f),as,ats⟩,ty,pos,af,g⟩=true:=by rfl):
  Stp P b n ops F ds X ⟨d,.call ⟨.value (.func f),as,ats⟩,ty,pos,af,g⟩ e h L K:=
 mO (A:=[]) (Fr:=L) hc hvs hs rfl (λv' h' B _ hR=>by
   obtain⟨rfl,rfl,hv⟩:=hR
   cases v with
   |ok u=>cases hv;exact t' _ rfl
   |error p=>cases hv)
  (λch h' B _ hR=>by
   obtain⟨rfl,rfl,hv⟩:=hR
   cases v with
   |ok u=>cases hv
   |error p=>cases hv;exact λe' _=>tp _ rfl e') hg
theorem yo{P:Program}{t:TypeId}(w:World):(Instr.panic (.iface t v)).run P w=.halt (.panic (.iface t v)) w:=by simp[Instr.panic,goPanic]
theorem DV{t:TypeId}{T:TypeDesc}(hT:P.underlying t=some T)(hi:(match T with|.interface _=>false|_=>true)=true)(hx:e.ev x=v):
  ∀w,St X h L w->(execOp e.ev ⟨d,.makeInterface t x,ty,pos,af,g⟩).run P w=.ok (.value (.iface t v)) w:=λw _=>by
 cases T<;>simp_all [execOp,Instr.makeInterface,run_underlying hT]
theorem DR(hx:e.ev x=p)(hp:∀w:World,(Instr.panic p).run P w=.halt (.panic p) w)(tp:∀e',TP P b n [{ v:=p,recovered:=false }] F e' ds X h L)(hg:guardB ops e ⟨d,.panic x,ty,pos,af,g⟩=true:=by rfl):Stp P b n ops F ds X ⟨d,.panic x,ty,pos,af,g⟩ e h L K:=by
 unfold Stp
 rw[if_pos hg]
 intro w hw
 have:(execOp e.ev ⟨d,.panic x,ty,pos,af,g⟩).run P w=.halt (.panic p) w:=by
  simp[execOp,hx,hp]
 rw[this]
 exact⟨h,L,hw,λe' _=>tp e'⟩
end stepsX
end
variable {a:Bool}{cl:List Go.Value}{fs:List Field}{i:Int}{ix y:Operand}{l:List Oper}{m off:Nat}{s:ByteArray}
section
def eqv:Option Value->Option Value->Bool
 |some (.int _ a),some (.int _ b)=>a==b
 |some (.bool a),some (.bool b)=>a==b
 |_,_=>false
def okF(P:Program)(xs ys:List Value)(f:Field):Bool:=
 !(f.name == "_") && (match tySz P f.type with|some (1, false) => true|_ => false) && (match P.underlying f.type, nth xs f.offset, nth ys f.offset with
  |some (.int _),some (.int j _),some (.int k _)=>decide (j=k)
  |some .bool,some (.bool _),some (.bool _)=>true
  |_,_,_=>false)
theorem sf{t:TypeId}{xs:List Value}(hT:tySz P t=some (1,false))(hv:nth xs off=some v)(w:World):(part t xs.toArray off).run P w=.ok v w:=by
 rw[gC]at hv
 simp[part,Ed hT,fw hT,hv]
theorem Hl{xs ys:List Value}{f:Field}(h : okF P xs ys f = true) : f.name ≠ "_" /\ tySz P f.type = some (1, false) /\
  ((∃k j a b,P.underlying f.type=some (.int k)/\nth xs f.offset=some (.int j a)/\nth ys f.offset=some (.int j b))\/∃a b,P.underlying f.type=some .bool/\nth xs f.offset=some (.bool a)/\nth ys f.offset=some (.bool b)):=by
 unfold okF at h
 rw[zB,zB]at h
 obtain⟨⟨hn,ht⟩,hv⟩:=h
 refine⟨by simpa using hn,?_,?_⟩
 .split at ht
  .assumption
  .cases ht
 .split at hv
  .rename_i h1 h2 h3
   have:=of_decide_eq_true hv
   subst this
   exact .inl ⟨_,_,_,_,h1,h2,h3⟩
  .rename_i h1 h2 h3
   exact .inr ⟨_,_,h1,h2,h3⟩
  .cases hv
theorem AT{P:Program}{d:Nat}{xs ys:List Value}(w:World):∀(fs:List Field),fs.all (okF P xs ys)=true ->
  (Op.eqFields (d+1) xs.toArray ys.toArray fs).run P w=.ok (fs.all λf=>eqv (nth xs f.offset) (nth ys f.offset)) w
 |[],_=>by simp[Op.eqFields]
 |f::fs,h=>by
  rw[List.all_cons,zB]at h
  obtain⟨h1,h2⟩:=h
  have ih:=AT (d:=d) w fs h2
  obtain⟨hn,hT,⟨k,j,a,b,hu,hx,hy⟩|⟨a,b,hu,hx,hy⟩⟩:=Hl h1
  .rw[Op.eqFields,if_pos hn,List.all_cons,hx,hy]
   simp only[xP,sf hT hx,sf hT hy,zM,run_equalIn_int w d _ _ _ _ _ hu,eqv]
   cases hab:(a==b)
   .simp
   .simp only[Bool.not_true,R1,if_false,Bool.true_and];exact ih
  .rw[Op.eqFields,if_pos hn,List.all_cons,hx,hy]
   simp only[xP,sf hT hx,sf hT hy,zM,run_equalIn_bool' w d _ _ _ hu,eqv]
   cases hab:(a==b)
   .simp
   .simp only[Bool.not_true,R1,if_false,Bool.true_and];exact ih
theorem rT{t:TypeId}{xs ys:List Value}{r:Bool}(hT:P.underlying t=some (.struct fs.toArray))(hp:P.stoodInHeld t=false)(hok:fs.all (okF P xs ys)=true)(hr:(fs.all λf=>eqv (nth xs f.offset) (nth ys f.offset))=r)(w:World):(Op.equal t (.agg xs.toArray) (.agg ys.toArray)).run P w=.ok r w:=by
 have hf:P.fieldsOf t=fs.toArray:=by simp[Program.fieldsOf,hT]
 have:=run_equalIn_struct (P:=P) w 9999 t xs.toArray ys.toArray (by rw[hf];exact hT) hp
 rw[hf]at this
 rw[Op.equal,Op.maxDepth,this,←hr]
 exact AT w fs hok
theorem sJ{t:TypeId}{xs:List Value}(e:Bool)(hT:P.underlying t=some (.struct fs.toArray))(hok:fs.all (okF P xs xs)=true)(w:World):
  (Instr.checkKey e 10000 t (.agg xs.toArray)).run P w=.ok () w:=by
 rw[show(10000:Nat)=9999+1 from rfl,Instr.checkKey]
 simp only[xP,run_underlying hT,zM]
 rw[←Array.forIn_toList]
 simp only
 clear hT
 induction fs with
 |nil=>simp
 |cons f fs ih=>
  rw[List.all_cons,zB]at hok
  have ih:=ih hok.2
  obtain⟨hn,hT,⟨k,j,a,b,hu,hx,hy⟩|⟨a,b,hu,hx,hy⟩⟩:=Hl hok.1
  .have hc:(Instr.checkKey e 9999 f.type (.int j a)).run P w=.ok () w:=by
    rw[show(9999:Nat)=9998+1 from rfl,Instr.checkKey]
    simp[run_underlying hu]
   simp only[List.forIn_cons,if_pos hn,xP,sf hT hx,zM,hc,S5]
   simpa using ih
  .have hc:(Instr.checkKey e 9999 f.type (.bool a)).run P w=.ok () w:=by
    rw[show(9999:Nat)=9998+1 from rfl,Instr.checkKey]
    simp[run_underlying hu]
   simp only[List.forIn_cons,if_pos hn,xP,sf hT hx,zM,hc,S5]
   simpa using ih
theorem En(vs:List Value):∀(cl:List Value),vs.length=cl.length->splice cl 0 vs=vs:=by
 intro cl hl
 have:=oB vs [] cl (by omega)
 simp at this
 rw[this,hl]
 simp
theorem aO{F:List Frame->(Machine->Prop)->Prop}{h:HF}{L:LH}{g:Option (Nat×Bool)}(i:Nat){t:TypeId}{T:Nat}(hT:tySz P t=some (m,a))(hx:e.ev x=.pointer (some ⟨bk,0,none⟩))(hL:nth L i=some (bk,.cells cl.toArray T (0,0)))(hv:e.ev y=.agg vs.toArray)(hm:vs.length=m)(hc:cl.length=m)(h1:vs.all one=true)(t':TO P b n ops l k F e ds X h (setNth L i (bk,.cells vs.toArray T (0,0))))(hg:guardB ops e ⟨none,.store t x y,ty,pos,af,g⟩=true:=by rfl):TO P b n ops (⟨none,.store t x y,ty,pos,af,g⟩::l) k F e ds X h L:=by
 refine cJ i hT hx hL (vs:=vs) (by rw[hv];simp[vcells]) hm (by rw[Nat.zero_add,hm,hc];simp) h1 ?_ hg
 rw[En vs cl (by rw[hm,hc])]
 exact t'
section runs
variable {P:Program} {e:Env} {X:Cx} {h:HF} {L:LH} {d:Option Nat} {ty:TypeId} {pos:String} {af:Array Edge} {g:Option (Nat×Bool)}
theorem L5{t u:TypeId}{xs ys:Array Value}{r:Bool}(hq:∀w,(Op.equal t (.agg xs) (.agg ys)).run P w=.ok r w)(hm:P.eqGuardType P.depth t=false)(hx:e.ev x=.agg xs)(hy:e.ev y=.agg ys):
  ∀w,St X h L w->(execOp e.ev ⟨d,.binOp .eql t x y u,ty,pos,af,g⟩).run P w=.ok (.value (.bool r)) w:=
 λw _=>by
  have h1:=run_eqGuard_agg (P:=P) w .eql t x y xs ys hm
  have h2:=hq w
  simp[execOp,hx,hy,h1,binOp,h2]
theorem H6{t:TypeId}(hT:P.underlying t=some .string)(hx:e.ev x=.string s)(hix:e.ev ix=.int .i64 i)(hi:0<=i/\i<(s.size:Int)):
  ∀w,St X h L w->(execOp e.ev ⟨d,.index t x ix,ty,pos,af,g⟩).run P w=.ok (.value (.int .u8 ((s.data.getD i.toNat 0).toNat:Nat))) w:=
 λw _=>by
  obtain⟨n,rfl⟩:=Int.eq_ofNat_of_zero_le hi.1
  have hn:n<s.size:=by omega
  have hn':n<s.data.size:=hn
  simp[execOp,Instr.index,hix,hx,asIntOf,run_underlying hT,hn]
  rfl
end runs
end
section
structure Holder where
 Person:Int
 Weight:Int
deriving DecidableEq
instance:Inhabited Holder:=⟨⟨0,0⟩⟩
def Holder.cells(x:Holder):List Go.Value:=[.int .i64 x.Person,.int .i64 x.Weight]
abbrev Holder.enc(x:Holder):Go.Value:=.agg (Holder.cells x).toArray
def Holder.rp:Rp Holder:=⟨2,λ_ cs x=>cs=Holder.cells x⟩
theorem Holder.aj:Holder.rp.Mono:=λ_ _ _ _ _ e=>e
theorem Holder.ew:Holder.rp.Good:=⟨Holder.aj,λ_ _ _ e=>by cases e;rfl,by decide⟩
structure Use where
 Doc:Int
 Kind:Int
 Value:Int
 At:Int
 Known:Int
deriving DecidableEq
instance:Inhabited Use:=⟨⟨0,0,0,0,0⟩⟩
def Use.cells(x:Use):List Go.Value:=[.int .i64 x.Doc,.int .i64 x.Kind,.int .i64 x.Value,.int .i64 x.At,.int .i64 x.Known]
abbrev Use.enc(x:Use):Go.Value:=.agg (Use.cells x).toArray
def Use.rp:Rp Use:=⟨5,λ_ cs x=>cs=Use.cells x⟩
theorem Use.aj:Use.rp.Mono:=λ_ _ _ _ _ e=>e
theorem Use.ew:Use.rp.Good:=⟨Use.aj,λ_ _ _ e=>by cases e;rfl,by decide⟩
structure Appoint where
 No:Int
 At:Int
 Known:Int
 Office:Int
 Person:Int
 Weight:Int
 Gone:Bool
deriving DecidableEq
instance:Inhabited Appoint:=⟨⟨0,0,0,0,0,0,false⟩⟩
def Appoint.cells(x:Appoint):List Go.Value:=[.int .i64 x.No,.int .i64 x.At,.int .i64 x.Known,.int .i64 x.Office,.int .i64 x.Person,.int .i64 x.Weight,.bool x.Gone]
abbrev Appoint.enc(x:Appoint):Go.Value:=.agg (Appoint.cells x).toArray
def Appoint.rp:Rp Appoint:=⟨7,λ_ cs x=>cs=Appoint.cells x⟩
theorem Appoint.aj:Appoint.rp.Mono:=λ_ _ _ _ _ e=>e
theorem Appoint.ew:Appoint.rp.Good:=⟨Appoint.aj,λ_ _ _ e=>by cases e;rfl,by decide⟩
structure Deputy where
 No:Int
 At:Int
 Known:Int
 Until:Int
 From:Int
 To:Int
 Office:Int
 Kind:Int
 Most:Int
 Gone:Bool
deriving DecidableEq
instance:Inhabited Deputy:=⟨⟨0,0,0,0,0,0,0,0,0,false⟩⟩
def Deputy.cells(x:Deputy):List Go.Value:=[.int .i64 x.No,.int .i64 x.At,.int .i64 x.Known,.int .i64 x.Until,.int .i64 x.From,.int .i64 x.To,.int .i64 x.Office,.int .i64 x.Kind,.int .i64 x.Most,.bool x.Gone]
abbrev Deputy.enc(x:Deputy):Go.Value:=.agg (Deputy.cells x).toArray
def Deputy.rp:Rp Deputy:=⟨10,λ_ cs x=>cs=Deputy.cells x⟩
theorem Deputy.aj:Deputy.rp.Mono:=λ_ _ _ _ _ e=>e
theorem Deputy.ew:Deputy.rp.Good:=⟨Deputy.aj,λ_ _ _ e=>by cases e;rfl,by decide⟩
structure Interest where
 No:Int
 At:Int
 Known:Int
 Person:Int
 Party:Int
 Of:Bool
 Gone:Bool
deriving DecidableEq
instance:Inhabited Interest:=⟨⟨0,0,0,0,0,false,false⟩⟩
def Interest.cells(x:Interest):List Go.Value:=[.int .i64 x.No,.int .i64 x.At,.int .i64 x.Known,.int .i64 x.Person,.int .i64 x.Party,.bool x.Of,.bool x.Gone]
abbrev Interest.enc(x:Interest):Go.Value:=.agg (Interest.cells x).toArray
def Interest.rp:Rp Interest:=⟨7,λ_ cs x=>cs=Interest.cells x⟩
theorem Interest.aj:Interest.rp.Mono:=λ_ _ _ _ _ e=>e
theorem Interest.ew:Interest.rp.Good:=⟨Interest.aj,λ_ _ _ e=>by cases e;rfl,by decide⟩
structure Budget where
 No:Int
 At:Int
 Known:Int
 Kind:Int
 Period:Int
 Count:Int
 Value:Int
 Gone:Bool
deriving DecidableEq
instance:Inhabited Budget:=⟨⟨0,0,0,0,0,0,0,false⟩⟩
def Budget.cells(x:Budget):List Go.Value:=[.int .i64 x.No,.int .i64 x.At,.int .i64 x.Known,.int .i64 x.Kind,.int .i64 x.Period,.int .i64 x.Count,.int .i64 x.Value,.bool x.Gone]
abbrev Budget.enc(x:Budget):Go.Value:=.agg (Budget.cells x).toArray
def Budget.rp:Rp Budget:=⟨8,λ_ cs x=>cs=Budget.cells x⟩
theorem Budget.aj:Budget.rp.Mono:=λ_ _ _ _ _ e=>e
theorem Budget.ew:Budget.rp.Good:=⟨Budget.aj,λ_ _ _ e=>by cases e;rfl,by decide⟩
structure Approval where
 No:Int
 At:Int
 Known:Int
 Doc:Int
 By:Int
 For:Int
 Office:Int
 Gone:Bool
deriving DecidableEq
instance:Inhabited Approval:=⟨⟨0,0,0,0,0,0,0,false⟩⟩
def Approval.cells(x:Approval):List Go.Value:=[.int .i64 x.No,.int .i64 x.At,.int .i64 x.Known,.int .i64 x.Doc,.int .i64 x.By,.int .i64 x.For,.int .i64 x.Office,.bool x.Gone]
abbrev Approval.enc(x:Approval):Go.Value:=.agg (Approval.cells x).toArray
def Approval.rp:Rp Approval:=⟨8,λ_ cs x=>cs=Approval.cells x⟩
theorem Approval.aj:Approval.rp.Mono:=λ_ _ _ _ _ e=>e
theorem Approval.ew:Approval.rp.Good:=⟨Approval.aj,λ_ _ _ e=>by cases e;rfl,by decide⟩
inductive Expr where
 |mk (Kind N No:Int) (Name:ByteArray) (L:List Expr)
def Expr.Kind:Expr->Int
 |.mk Kind _ _ _ _=>Kind
def Expr.N:Expr->Int
 |.mk _ N _ _ _=>N
def Expr.No:Expr->Int
 |.mk _ _ No _ _=>No
def Expr.Name:Expr->ByteArray
 |.mk _ _ _ Name _=>Name
def Expr.L:Expr->List Expr
 |.mk _ _ _ _ L=>L
instance:Inhabited Expr:=⟨.mk 0 0 0 ⟨#[]⟩ []⟩
mutual
def Expr.dep:Expr->Nat
 |.mk _ _ _ _ L=>Expr.depL L+1
def Expr.depL:List Expr->Nat
 |[]=>0
 |y::ys=>Expr.dep y+Expr.depL ys
end
theorem Expr.lP(x:Expr):0<x.dep:=by cases x;simp[Expr.dep]
theorem Expr.Pd{y:Expr}:∀{l:List Expr},y∈l->y.dep<=Expr.depL l
 |z::l,h=>by
  rcases qC.1 h with rfl|h
  .simp[Expr.depL]
  .have:=Expr.Pd h;simp[Expr.depL];omega
theorem Expr.JL:∀(l:List Expr),l.length<=Expr.depL l
 |[]=>jG _
 |z::l=>by have:=Expr.JL l;have:=Expr.lP z;simp[Expr.depL];omega
theorem Expr.Lc(x:Expr):x.L.length<x.dep:=by
 cases x with
 |mk a b c d L=>have:=Expr.JL L;simp[Expr.dep,Expr.L];omega
theorem Expr.iS{x y:Expr}(h:y∈x.L):y.dep<x.dep:=by
 cases x with
 |mk a b c d L=>have:=Expr.Pd (l:=L) h;simp[Expr.dep];omega
structure cN where
 mb:Option Addr
 mq:Nat
def Expr.cells(x:Expr)(r:cN):List Go.Value:=[.int .i64 x.Kind,.int .i64 x.N,.int .i64 x.No,.string x.Name,.slice r.mb x.L.length r.mq]
inductive Expr.ok(h:HF):Expr->cN->Prop
 |mk (x:Expr) (r:cN) (rs:Nat->cN) (h0:x.L.length<=9223372036854775807/\x.L.length<=r.mq) (h1:∀(i:Nat)(y:Expr),x.L[i]? = some y->∃p,r.mb=some p/\At h (p.add (i*5)) (Expr.cells y (rs i))) (h2:∀(i:Nat)(y:Expr),x.L[i]? = some y->Expr.ok h y (rs i)):Expr.ok h x r
def Expr.rp:Rp Expr:=⟨5,λh cs x=>∃r,cs=Expr.cells x r/\Expr.ok h x r⟩
theorem Expr.ok.mono{h h':HF}{x:Expr}{r:cN}(a:Expr.ok h x r)(hl:h.le h'):Expr.ok h' x r:=by
 induction a with
 |mk x r rs h0 h1 h2 ih=>exact .mk x r rs h0 (λi y hy=>let ⟨p,e,q⟩:=h1 i y hy;⟨p,e,q.mono hl⟩) (λi y hy=>ih i y hy)
theorem Expr.ok.list{h:HF}{x:Expr}{r:cN}(a:Expr.ok h x r):SlC Expr.rp h r.mb r.mq x.L:=by
 cases a with
 |mk x r rs h0 h1 h2=>exact⟨⟨h0.1,λi y hy=>let ⟨p,e,q⟩:=h1 i y hy;⟨p,_,e,q,rfl,_,rfl,h2 i y hy⟩⟩,h0.2⟩
theorem Expr.aj:Expr.rp.Mono:=λ_ _ _ _ hl⟨r,e,o⟩=>⟨r,e,o.mono hl⟩
theorem Expr.ok.of{h:HF}{x:Expr}{r:cN}(a:SlC Expr.rp h r.mb r.mq x.L):Expr.ok h x r:=by
 have h1:∀i,∃q:cN,∀y,x.L[i]? = some y->∃p,r.mb=some p/\At h (p.add (i*5)) (Expr.cells y q)/\Expr.ok h y q:=by
  intro i
  cases hy:x.L[i]? with
  |none=>exact⟨⟨none,0⟩,λy e=>by cases e⟩
  |some y=>
   obtain⟨p,cs,e,q,_,r',rfl,o⟩:=a.1.2 i y hy
   exact⟨r',λz ez=>by cases ez;exact⟨p,e,q,o⟩⟩
 obtain⟨rs,hrs⟩:=Classical.axiomOfChoice h1
 exact .mk x r rs ⟨a.1.1,a.2⟩ (λi y hy=>let ⟨p,e,q,_⟩:=hrs i y hy;⟨p,e,q⟩) (λi y hy=>let ⟨_,_,_,o⟩:=hrs i y hy;o)
theorem Expr.ew:Expr.rp.Good:=⟨Expr.aj,λ_ _ _⟨_,e,_⟩=>by cases e;rfl,by decide⟩
structure Rule where
 Kind:ByteArray
 KindNo:Int
 Think:Int
 Expr:Expr
instance:Inhabited Rule:=⟨⟨⟨#[]⟩,0,0,default⟩⟩
structure BQ where
 Expr:cN
def Rule.cells(x:Rule)(r:BQ):List Go.Value:=[.string x.Kind,.int .i64 x.KindNo,.int .i64 x.Think,.int .i64 x.Expr.Kind,.int .i64 x.Expr.N,.int .i64 x.Expr.No,.string x.Expr.Name,.slice r.Expr.mb x.Expr.L.length r.Expr.mq]
structure Rule.ok(h:HF)(x:Rule)(r:BQ):Prop where
 Expr:Expr.ok h x.Expr r.Expr
theorem Rule.ok.mono{h h':HF}{x:Rule}{r:BQ}(a:Rule.ok h x r)(hl:h.le h'):Rule.ok h' x r:=⟨a.Expr.mono hl⟩
def Rule.rp:Rp Rule:=⟨8,λh cs x=>∃r,cs=Rule.cells x r/\Rule.ok h x r⟩
theorem Rule.aj:Rule.rp.Mono:=λ_ _ _ _ hl⟨r,e,o⟩=>⟨r,e,o.mono hl⟩
theorem Rule.ew:Rule.rp.Good:=⟨Rule.aj,λ_ _ _⟨_,e,_⟩=>by cases e;rfl,by decide⟩
structure Policy where
 Name:ByteArray
 Kinds:List ByteArray
 Offices:List ByteArray
 Rules:List Rule
 Change:Expr
 Mode:Int
instance:Inhabited Policy:=⟨⟨⟨#[]⟩,[],[],[],default,0⟩⟩
structure eR where
 iY:Option Addr
 iX:Nat
 gm:Option Addr
 gl:Nat
 nF:Option Addr
 nE:Nat
 Change:cN
def Policy.cells(x:Policy)(r:eR):List Go.Value:=[.string x.Name,.slice r.iY x.Kinds.length r.iX,.slice r.gm x.Offices.length r.gl,.slice r.nF x.Rules.length r.nE,.int .i64 x.Change.Kind,.int .i64 x.Change.N,.int .i64 x.Change.No,.string x.Change.Name,.slice r.Change.mb x.Change.L.length r.Change.mq,.int .i64 x.Mode]
structure Policy.ok(h:HF)(x:Policy)(r:eR):Prop where
 Kinds:SlC Rp.str h r.iY r.iX x.Kinds
 Offices:SlC Rp.str h r.gm r.gl x.Offices
 Rules:SlC Rule.rp h r.nF r.nE x.Rules
 Change:Expr.ok h x.Change r.Change
theorem Policy.ok.mono{h h':HF}{x:Policy}{r:eR}(a:Policy.ok h x r)(hl:h.le h'):Policy.ok h' x r:=⟨a.Kinds.mono Rp.hZ hl,a.Offices.mono Rp.hZ hl,a.Rules.mono Rule.aj hl,a.Change.mono hl⟩
def Policy.rp:Rp Policy:=⟨10,λh cs x=>∃r,cs=Policy.cells x r/\Policy.ok h x r⟩
theorem Policy.aj:Policy.rp.Mono:=λ_ _ _ _ hl⟨r,e,o⟩=>⟨r,e,o.mono hl⟩
theorem Policy.ew:Policy.rp.Good:=⟨Policy.aj,λ_ _ _⟨_,e,_⟩=>by cases e;rfl,by decide⟩
structure Version where
 No:Int
 At:Int
 Known:Int
 Policy:Policy
instance:Inhabited Version:=⟨⟨0,0,0,default⟩⟩
structure pA where
 Policy:eR
def Version.cells(x:Version)(r:pA):List Go.Value:=[.int .i64 x.No,.int .i64 x.At,.int .i64 x.Known,.string x.Policy.Name,.slice r.Policy.iY x.Policy.Kinds.length r.Policy.iX,.slice r.Policy.gm x.Policy.Offices.length r.Policy.gl,.slice r.Policy.nF x.Policy.Rules.length r.Policy.nE,.int .i64 x.Policy.Change.Kind,.int .i64 x.Policy.Change.N,.int .i64 x.Policy.Change.No,.string x.Policy.Change.Name,.slice r.Policy.Change.mb x.Policy.Change.L.length r.Policy.Change.mq,.int .i64 x.Policy.Mode]
structure Version.ok(h:HF)(x:Version)(r:pA):Prop where
 Policy:Policy.ok h x.Policy r.Policy
theorem Version.ok.mono{h h':HF}{x:Version}{r:pA}(a:Version.ok h x r)(hl:h.le h'):Version.ok h' x r:=⟨a.Policy.mono hl⟩
def Version.rp:Rp Version:=⟨13,λh cs x=>∃r,cs=Version.cells x r/\Version.ok h x r⟩
theorem Version.aj:Version.rp.Mono:=λ_ _ _ _ hl⟨r,e,o⟩=>⟨r,e,o.mono hl⟩
theorem Version.ew:Version.rp.Good:=⟨Version.aj,λ_ _ _⟨_,e,_⟩=>by cases e;rfl,by decide⟩
structure Document where
 No:Int
 At:Int
 Kind:Int
 Value:Int
 From:Int
 Until:Int
 Parties:List Int
 Revokes:List Int
 Needs:List Int
 Text:Nat->Int
instance:Inhabited Document:=⟨⟨0,0,0,0,0,0,[],[],[],λ_=>0⟩⟩
structure kx where
 yC:Option Addr
 yB:Nat
 sk:Option Addr
 sj:Nat
 D5:Option Addr
 D4:Nat
def Document.cells(x:Document)(r:kx):List Go.Value:=.int .i64 x.No::.int .i64 x.At::.int .i64 x.Kind::.int .i64 x.Value::.int .i64 x.From::.int .i64 x.Until::.slice r.yC x.Parties.length r.yB::.slice r.sk x.Revokes.length r.sj::.slice r.D5 x.Needs.length r.D4::.int .u8 (x.Text 0)::.int .u8 (x.Text 1)::.int .u8 (x.Text 2)::.int .u8 (x.Text 3)::.int .u8 (x.Text 4)::.int .u8 (x.Text 5)::.int .u8 (x.Text 6)::.int .u8 (x.Text 7)::.int .u8 (x.Text 8)::.int .u8 (x.Text 9)::.int .u8 (x.Text 10)::.int .u8 (x.Text 11)::.int .u8 (x.Text 12)::.int .u8 (x.Text 13)::.int .u8 (x.Text 14)::.int .u8 (x.Text 15)::.int .u8 (x.Text 16)::.int .u8 (x.Text 17)::.int .u8 (x.Text 18)::.int .u8 (x.Text 19)::.int .u8 (x.Text 20)::.int .u8 (x.Text 21)::.int .u8 (x.Text 22)::.int .u8 (x.Text 23)::.int .u8 (x.Text 24)::.int .u8 (x.Text 25)::.int .u8 (x.Text 26)::.int .u8 (x.Text 27)::.int .u8 (x.Text 28)::.int .u8 (x.Text 29)::.int .u8 (x.Text 30)::.int .u8 (x.Text 31)::[]
structure Document.ok(h:HF)(x:Document)(r:kx):Prop where
 Parties:SlC zC h r.yC r.yB x.Parties
 Revokes:SlC zC h r.sk r.sj x.Revokes
 Needs:SlC zC h r.D5 r.D4 x.Needs
theorem Document.ok.mono{h h':HF}{x:Document}{r:kx}(a:Document.ok h x r)(hl:h.le h'):Document.ok h' x r:=⟨a.Parties.mono xH hl,a.Revokes.mono xH hl,a.Needs.mono xH hl⟩
def Document.rp:Rp Document:=⟨41,λh cs x=>∃r,cs=Document.cells x r/\Document.ok h x r⟩
theorem Document.aj:Document.rp.Mono:=λ_ _ _ _ hl⟨r,e,o⟩=>⟨r,e,o.mono hl⟩
theorem Document.ew:Document.rp.Good:=⟨Document.aj,λ_ _ _⟨_,e,_⟩=>by cases e;rfl,by decide⟩
structure Register where
 Appoints:List Appoint
 Deputies:List Deputy
 Interests:List Interest
 Budgets:List Budget
 Versions:List Version
 Docs:List Document
 Approvals:List Approval
instance:Inhabited Register:=⟨⟨[],[],[],[],[],[],[]⟩⟩
structure fq where
 qb:Option Addr
 pZ:Nat
 pY:Option Addr
 pX:Nat
 oK:Option Addr
 oJ:Nat
 ss:Option Addr
 so:Nat
 ke:Option Addr
 kd:Nat
 CD:Option Addr
 CC:Nat
 rx:Option Addr
 ru:Nat
def Register.cells(x:Register)(r:fq):List Go.Value:=[.slice r.qb x.Appoints.length r.pZ,.slice r.pY x.Deputies.length r.pX,.slice r.oK x.Interests.length r.oJ,.slice r.ss x.Budgets.length r.so,.slice r.ke x.Versions.length r.kd,.slice r.CD x.Docs.length r.CC,.slice r.rx x.Approvals.length r.ru]
structure Register.ok(h:HF)(x:Register)(r:fq):Prop where
 Appoints:SlC Appoint.rp h r.qb r.pZ x.Appoints
 Deputies:SlC Deputy.rp h r.pY r.pX x.Deputies
 Interests:SlC Interest.rp h r.oK r.oJ x.Interests
 Budgets:SlC Budget.rp h r.ss r.so x.Budgets
 Versions:SlC Version.rp h r.ke r.kd x.Versions
 Docs:SlC Document.rp h r.CD r.CC x.Docs
 Approvals:SlC Approval.rp h r.rx r.ru x.Approvals
theorem Register.ok.mono{h h':HF}{x:Register}{r:fq}(a:Register.ok h x r)(hl:h.le h'):Register.ok h' x r:=⟨a.Appoints.mono Appoint.aj hl,a.Deputies.mono Deputy.aj hl,a.Interests.mono Interest.aj hl,a.Budgets.mono Budget.aj hl,a.Versions.mono Version.aj hl,a.Docs.mono Document.aj hl,a.Approvals.mono Approval.aj hl⟩
def Register.rp:Rp Register:=⟨7,λh cs x=>∃r,cs=Register.cells x r/\Register.ok h x r⟩
theorem Register.aj:Register.rp.Mono:=λ_ _ _ _ hl⟨r,e,o⟩=>⟨r,e,o.mono hl⟩
theorem Register.ew:Register.rp.Good:=⟨Register.aj,λ_ _ _⟨_,e,_⟩=>by cases e;rfl,by decide⟩
structure gj where
 State:Int
 Budget:Int
 Versions:List Int
 Who:List Int
instance:Inhabited gj:=⟨⟨0,0,[],[]⟩⟩
structure td where
 ke:Option Addr
 kd:Nat
 Ds:Option Addr
 Dr:Nat
def gj.cells(x:gj)(r:td):List Go.Value:=[.int .i64 x.State,.int .i64 x.Budget,.slice r.ke x.Versions.length r.kd,.slice r.Ds x.Who.length r.Dr]
structure gj.ok(h:HF)(x:gj)(r:td):Prop where
 Versions:SlC zC h r.ke r.kd x.Versions
 Who:SlC zC h r.Ds r.Dr x.Who
theorem gj.ok.mono{h h':HF}{x:gj}{r:td}(a:gj.ok h x r)(hl:h.le h'):gj.ok h' x r:=⟨a.Versions.mono xH hl,a.Who.mono xH hl⟩
def gj.rp:Rp gj:=⟨4,λh cs x=>∃r,cs=gj.cells x r/\gj.ok h x r⟩
theorem gj.aj:gj.rp.Mono:=λ_ _ _ _ hl⟨r,e,o⟩=>⟨r,e,o.mono hl⟩
theorem gj.ew:gj.rp.Good:=⟨gj.aj,λ_ _ _⟨_,e,_⟩=>by cases e;rfl,by decide⟩
structure OSeat where
 office:Int
 person:Int
deriving DecidableEq
instance:Inhabited OSeat:=⟨⟨0,0⟩⟩
def OSeat.cells(x:OSeat):List Go.Value:=[.int .i64 x.office,.int .i64 x.person]
abbrev OSeat.enc(x:OSeat):Go.Value:=.agg (OSeat.cells x).toArray
def OSeat.rp:Rp OSeat:=⟨2,λ_ cs x=>cs=OSeat.cells x⟩
theorem OSeat.aj:OSeat.rp.Mono:=λ_ _ _ _ _ e=>e
theorem OSeat.ew:OSeat.rp.Good:=⟨OSeat.aj,λ_ _ _ e=>by cases e;rfl,by decide⟩
structure dP where
 person:Int
 party:Int
 of:Bool
deriving DecidableEq
instance:Inhabited dP:=⟨⟨0,0,false⟩⟩
def dP.cells(x:dP):List Go.Value:=[.int .i64 x.person,.int .i64 x.party,.bool x.of]
abbrev dP.enc(x:dP):Go.Value:=.agg (dP.cells x).toArray
def dP.rp:Rp dP:=⟨3,λ_ cs x=>cs=dP.cells x⟩
theorem dP.aj:dP.rp.Mono:=λ_ _ _ _ _ e=>e
theorem dP.ew:dP.rp.Good:=⟨dP.aj,λ_ _ _ e=>by cases e;rfl,by decide⟩
structure gN where
 path:List Int
 to:Int
instance:Inhabited gN:=⟨⟨[],0⟩⟩
structure MD where
 xh:Option Addr
 Ac:Nat
def gN.cells(x:gN)(r:MD):List Go.Value:=[.slice r.xh x.path.length r.Ac,.int .i64 x.to]
structure gN.ok(h:HF)(x:gN)(r:MD):Prop where
 path:SlC zC h r.xh r.Ac x.path
theorem gN.ok.mono{h h':HF}{x:gN}{r:MD}(a:gN.ok h x r)(hl:h.le h'):gN.ok h' x r:=⟨a.path.mono xH hl⟩
def gN.rp:Rp gN:=⟨2,λh cs x=>∃r,cs=gN.cells x r/\gN.ok h x r⟩
theorem gN.aj:gN.rp.Mono:=λ_ _ _ _ hl⟨r,e,o⟩=>⟨r,e,o.mono hl⟩
theorem gN.ew:gN.rp.Good:=⟨gN.aj,λ_ _ _⟨_,e,_⟩=>by cases e;rfl,by decide⟩
structure rn where
 Ly:List Int
 To:Int
instance:Inhabited rn:=⟨⟨[],0⟩⟩
structure Pr where
 Pt:Option Addr
 Ps:Nat
def rn.cells(x:rn)(r:Pr):List Go.Value:=[.slice r.Pt x.Ly.length r.Ps,.int .i64 x.To]
structure rn.ok(h:HF)(x:rn)(r:Pr):Prop where
 Ly:SlC zC h r.Pt r.Ps x.Ly
theorem rn.ok.mono{h h':HF}{x:rn}{r:Pr}(a:rn.ok h x r)(hl:h.le h'):rn.ok h' x r:=⟨a.Ly.mono xH hl⟩
def rn.rp:Rp rn:=⟨2,λh cs x=>∃r,cs=rn.cells x r/\rn.ok h x r⟩
theorem rn.aj:rn.rp.Mono:=λ_ _ _ _ hl⟨r,e,o⟩=>⟨r,e,o.mono hl⟩
theorem rn.ew:rn.rp.Good:=⟨rn.aj,λ_ _ _⟨_,e,_⟩=>by cases e;rfl,by decide⟩
structure aW where
 value:Int
 holders:List (List Holder)
 who:List Int
instance:Inhabited aW:=⟨⟨0,[],[]⟩⟩
structure iA where
 kv:Option Addr
 ku:Nat
 sx:Option Addr
 su:Nat
def aW.cells(x:aW)(r:iA):List Go.Value:=[.int .i64 x.value,.slice r.kv x.holders.length r.ku,.slice r.sx x.who.length r.su]
structure aW.ok(h:HF)(x:aW)(r:iA):Prop where
 holders:SlC (Rp.sl Holder.rp) h r.kv r.ku x.holders
 who:SlC zC h r.sx r.su x.who
theorem aW.ok.mono{h h':HF}{x:aW}{r:iA}(a:aW.ok h x r)(hl:h.le h'):aW.ok h' x r:=⟨a.holders.mono (Rp.yn Holder.aj) hl,a.who.mono xH hl⟩
def aW.rp:Rp aW:=⟨3,λh cs x=>∃r,cs=aW.cells x r/\aW.ok h x r⟩
theorem aW.aj:aW.rp.Mono:=λ_ _ _ _ hl⟨r,e,o⟩=>⟨r,e,o.mono hl⟩
theorem aW.ew:aW.rp.Good:=⟨aW.aj,λ_ _ _⟨_,e,_⟩=>by cases e;rfl,by decide⟩
structure gq where
 x:Expr
 depth:Int
instance:Inhabited gq:=⟨⟨default,0⟩⟩
structure CA where
 x:cN
def gq.cells(x:gq)(r:CA):List Go.Value:=[.int .i64 x.x.Kind,.int .i64 x.x.N,.int .i64 x.x.No,.string x.x.Name,.slice r.x.mb x.x.L.length r.x.mq,.int .i64 x.depth]
structure gq.ok(h:HF)(x:gq)(r:CA):Prop where
 x:Expr.ok h x.x r.x
theorem gq.ok.mono{h h':HF}{x:gq}{r:CA}(a:gq.ok h x r)(hl:h.le h'):gq.ok h' x r:=⟨a.x.mono hl⟩
def gq.rp:Rp gq:=⟨6,λh cs x=>∃r,cs=gq.cells x r/\gq.ok h x r⟩
theorem gq.aj:gq.rp.Mono:=λ_ _ _ _ hl⟨r,e,o⟩=>⟨r,e,o.mono hl⟩
theorem gq.ew:gq.rp.Good:=⟨gq.aj,λ_ _ _⟨_,e,_⟩=>by cases e;rfl,by decide⟩
structure te where
 e:Int
deriving DecidableEq
instance:Inhabited te:=⟨⟨0⟩⟩
def te.cells(x:te):List Go.Value:=[.int .i64 x.e]
abbrev te.enc(x:te):Go.Value:=.agg (te.cells x).toArray
def te.rp:Rp te:=⟨1,λ_ cs x=>cs=te.cells x⟩
theorem te.aj:te.rp.Mono:=λ_ _ _ _ _ e=>e
theorem te.ew:te.rp.Good:=⟨te.aj,λ_ _ _ e=>by cases e;rfl,by decide⟩
structure gG where
 docs:List Document
 at_:List (Int×Int)
instance:Inhabited gG:=⟨⟨[],[]⟩⟩
structure nG where
 FO:Option Addr
 FN:Nat
 Ky:Nat
def gG.cells(x:gG)(r:nG):List Go.Value:=[.slice r.FO x.docs.length r.FN,.map (some r.Ky)]
structure gG.ok(h:HF)(x:gG)(r:nG):Prop where
 docs:SlC Document.rp h r.FO r.FN x.docs
 at_:tw (zD .i64) vI h r.Ky x.at_
theorem gG.ok.mono{h h':HF}{x:gG}{r:nG}(a:gG.ok h x r)(hl:h.le h'):gG.ok h' x r:=⟨a.docs.mono Document.aj hl,a.at_.mono vI.mono hl⟩
def gG.rp:Rp gG:=⟨2,λh cs x=>∃r,cs=gG.cells x r/\gG.ok h x r⟩
theorem gG.aj:gG.rp.Mono:=λ_ _ _ _ hl⟨r,e,o⟩=>⟨r,e,o.mono hl⟩
theorem gG.ew:gG.rp.Good:=⟨gG.aj,λ_ _ _⟨_,e,_⟩=>by cases e;rfl,by decide⟩
structure eu where
 doc:Int
 vx:Int
 forWhom:Int
 office:Int
deriving DecidableEq
instance:Inhabited eu:=⟨⟨0,0,0,0⟩⟩
def eu.cells(x:eu):List Go.Value:=[.int .i64 x.doc,.int .i64 x.vx,.int .i64 x.forWhom,.int .i64 x.office]
abbrev eu.enc(x:eu):Go.Value:=.agg (eu.cells x).toArray
def eu.rp:Rp eu:=⟨4,λ_ cs x=>cs=eu.cells x⟩
theorem eu.aj:eu.rp.Mono:=λ_ _ _ _ _ e=>e
theorem eu.ew:eu.rp.Good:=⟨eu.aj,λ_ _ _ e=>by cases e;rfl,by decide⟩
structure dZ where
 eU:Int
 to:Int
 office:Int
 kind:Int
deriving DecidableEq
instance:Inhabited dZ:=⟨⟨0,0,0,0⟩⟩
def dZ.cells(x:dZ):List Go.Value:=[.int .i64 x.eU,.int .i64 x.to,.int .i64 x.office,.int .i64 x.kind]
abbrev dZ.enc(x:dZ):Go.Value:=.agg (dZ.cells x).toArray
def dZ.rp:Rp dZ:=⟨4,λ_ cs x=>cs=dZ.cells x⟩
theorem dZ.aj:dZ.rp.Mono:=λ_ _ _ _ _ e=>e
theorem dZ.ew:dZ.rp.Good:=⟨dZ.aj,λ_ _ _ e=>by cases e;rfl,by decide⟩
structure cG where
 office:Int
 kind:Int
 value:Int
 at_:Int
 known:Int
deriving DecidableEq
instance:Inhabited cG:=⟨⟨0,0,0,0,0⟩⟩
def cG.cells(x:cG):List Go.Value:=[.int .i64 x.office,.int .i64 x.kind,.int .i64 x.value,.int .i64 x.at_,.int .i64 x.known]
abbrev cG.enc(x:cG):Go.Value:=.agg (cG.cells x).toArray
def cG.rp:Rp cG:=⟨5,λ_ cs x=>cs=cG.cells x⟩
theorem cG.aj:cG.rp.Mono:=λ_ _ _ _ _ e=>e
theorem cG.ew:cG.rp.Good:=⟨cG.aj,λ_ _ _ e=>by cases e;rfl,by decide⟩
structure gH where
 kind:Int
 period:Int
deriving DecidableEq
instance:Inhabited gH:=⟨⟨0,0⟩⟩
def gH.cells(x:gH):List Go.Value:=[.int .i64 x.kind,.int .i64 x.period]
abbrev gH.enc(x:gH):Go.Value:=.agg (gH.cells x).toArray
def gH.rp:Rp gH:=⟨2,λ_ cs x=>cs=gH.cells x⟩
theorem gH.aj:gH.rp.Mono:=λ_ _ _ _ _ e=>e
theorem gH.ew:gH.rp.Good:=⟨gH.aj,λ_ _ _ e=>by cases e;rfl,by decide⟩
structure ft where
 shelf:gG
 signed:List Int
 done:List Bool
 lacks:List Int
 revoked:List (Int×(List Int))
instance:Inhabited ft:=⟨⟨default,[],[],[],[]⟩⟩
structure tg where
 shelf:nG
 cd:Option Addr
 bZ:Nat
 Ar:Option Addr
 Aq:Nat
 Mg:Option Addr
 Mf:Nat
 Hf:Nat
def ft.cells(x:ft)(r:tg):List Go.Value:=[.slice r.shelf.FO x.shelf.docs.length r.shelf.FN,.map (some r.shelf.Ky),.slice r.cd x.signed.length r.bZ,.slice r.Ar x.done.length r.Aq,.slice r.Mg x.lacks.length r.Mf,.map (some r.Hf)]
structure ft.ok(h:HF)(x:ft)(r:tg):Prop where
 shelf:gG.ok h x.shelf r.shelf
 signed:SlC zC h r.cd r.bZ x.signed
 done:SlC Rp.bool h r.Ar r.Aq x.done
 lacks:SlC zC h r.Mg r.Mf x.lacks
 revoked:tw (zD .i64) (VSl zC) h r.Hf x.revoked
theorem ft.ok.mono{h h':HF}{x:ft}{r:tg}(a:ft.ok h x r)(hl:h.le h'):ft.ok h' x r:=⟨a.shelf.mono hl,a.signed.mono xH hl,a.done.mono Rp.pW hl,a.lacks.mono xH hl,a.revoked.mono (VSl.mono xH) hl⟩
def ft.rp:Rp ft:=⟨6,λh cs x=>∃r,cs=ft.cells x r/\ft.ok h x r⟩
theorem ft.aj:ft.rp.Mono:=λ_ _ _ _ hl⟨r,e,o⟩=>⟨r,e,o.mono hl⟩
theorem ft.ew:ft.rp.Good:=⟨ft.aj,λ_ _ _⟨_,e,_⟩=>by cases e;rfl,by decide⟩
structure bI where
 Register:Register
 doc:Document
 at_:Int
 known:Int
instance:Inhabited bI:=⟨⟨default,default,0,0⟩⟩
structure jv where
 Register:fq
 doc:kx
def bI.cells(x:bI)(r:jv):List Go.Value:=.slice r.Register.qb x.Register.Appoints.length r.Register.pZ::.slice r.Register.pY x.Register.Deputies.length r.Register.pX::.slice r.Register.oK x.Register.Interests.length r.Register.oJ::.slice r.Register.ss x.Register.Budgets.length r.Register.so::.slice r.Register.ke x.Register.Versions.length r.Register.kd::.slice r.Register.CD x.Register.Docs.length r.Register.CC::.slice r.Register.rx x.Register.Approvals.length r.Register.ru::.int .i64 x.doc.No::.int .i64 x.doc.At::.int .i64 x.doc.Kind::.int .i64 x.doc.Value::.int .i64 x.doc.From::.int .i64 x.doc.Until::.slice r.doc.yC x.doc.Parties.length r.doc.yB::.slice r.doc.sk x.doc.Revokes.length r.doc.sj::.slice r.doc.D5 x.doc.Needs.length r.doc.D4::.int .u8 (x.doc.Text 0)::.int .u8 (x.doc.Text 1)::.int .u8 (x.doc.Text 2)::.int .u8 (x.doc.Text 3)::.int .u8 (x.doc.Text 4)::.int .u8 (x.doc.Text 5)::.int .u8 (x.doc.Text 6)::.int .u8 (x.doc.Text 7)::.int .u8 (x.doc.Text 8)::.int .u8 (x.doc.Text 9)::.int .u8 (x.doc.Text 10)::.int .u8 (x.doc.Text 11)::.int .u8 (x.doc.Text 12)::.int .u8 (x.doc.Text 13)::.int .u8 (x.doc.Text 14)::.int .u8 (x.doc.Text 15)::.int .u8 (x.doc.Text 16)::.int .u8 (x.doc.Text 17)::.int .u8 (x.doc.Text 18)::.int .u8 (x.doc.Text 19)::.int .u8 (x.doc.Text 20)::.int .u8 (x.doc.Text 21)::.int .u8 (x.doc.Text 22)::.int .u8 (x.doc.Text 23)::.int .u8 (x.doc.Text 24)::.int .u8 (x.doc.Text 25)::.int .u8 (x.doc.Text 26)::.int .u8 (x.doc.Text 27)::.int .u8 (x.doc.Text 28)::.int .u8 (x.doc.Text 29)::.int .u8 (x.doc.Text 30)::.int .u8 (x.doc.Text 31)::.int .i64 x.at_::.int .i64 x.known::[]
structure bI.ok(h:HF)(x:bI)(r:jv):Prop where
 Register:Register.ok h x.Register r.Register
 doc:Document.ok h x.doc r.doc
theorem bI.ok.mono{h h':HF}{x:bI}{r:jv}(a:bI.ok h x r)(hl:h.le h'):bI.ok h' x r:=⟨a.Register.mono hl,a.doc.mono hl⟩
def bI.rp:Rp bI:=⟨50,λh cs x=>∃r,cs=bI.cells x r/\bI.ok h x r⟩
theorem bI.aj:bI.rp.Mono:=λ_ _ _ _ hl⟨r,e,o⟩=>⟨r,e,o.mono hl⟩
theorem bI.ew:bI.rp.Good:=⟨bI.aj,λ_ _ _⟨_,e,_⟩=>by cases e;rfl,by decide⟩
end
variable {E:TypeId}{ass:Array Operand}{id sz:Nat}{parts:Array (Nat×Operand)}{pe:Int->Go.Value}{q:Addr}{w:World}{zs:List Go.Value}{ρ σ:Type}
section
section
variable {P:Program} {b:Frame} {n:Nat} {k:List Item} {F:List Frame->(Machine->Prop)->Prop} {e:Env} {ds:List Deferred} {X:Cx} {h:HF} {L:LH}
theorem PD(L':LH)(sl:List (Nat×Value))(hk:∀e',TT P b n k F (upds e' sl) ds X h L')(t':(∀e',i5 e' sl->TT P b n k F e' ds X h L')->TT P b n (.code c::k) F e ds X h L):TT P b n (.code c::k) F e ds X h L:=
 t' λe' hr=>by have:=hk e';rw[hr.upds]at this;exact this
theorem ym(hs:L.Perm L')(t:TO P b n ops l k F e ds X h L'):TO P b n ops l k F e ds X h L:=λw hw=>t w (hw.perm hs)
theorem im(hs:L=L')(t:TO P b n ops l k F e ds X h L'):TO P b n ops l k F e ds X h L:=hs▸t
theorem si(A G M:LH):(A++(M++G)).Perm (A++(G++M)):=List.Perm.append_left A kJ
theorem sC(sl:ι->List (Nat×Value))(dd:ι->List Deferred)(hh:ι->HF)(LL:ι->LH)(I:ι->Prop)(hk:∀i,I i->∀e',TT P b n k F (upds e' (sl i)) (dd i) X (hh i) (LL i))(hb:(∀i e',I i->i5 e' (sl i)->TT P b n k F e' (dd i) X (hh i) (LL i))->TT P b n (.code c::.inBlock id::k) F e ds X h L):TT P b n (.code (.block id c)::k) F e ds X h L:=
 me (hb λi e' hI hr=>IX (sl i) hr (hk i hI e'))
end
section runs
variable {P:Program} {e:Env} {X:Cx} {h:HF} {L:LH} {d:Option Nat} {ty:TypeId} {pos:String} {af:Array Edge} {g:Option (Nat×Bool)}
theorem Ol{t:TypeId}{len:Nat}{p:Addr}(hT:P.underlying t=some (.array len E))(hS:tySz P E=some (sz,a))(hx:e.ev x=.pointer (some p))(hix:e.ev ix=.int .i64 i)(hi:0<=i/\i<(len:Int)):
  ∀w,St X h L w->(execOp e.ev ⟨d,.indexAddr t x ix,ty,pos,af,g⟩).run P w=.ok (.value (.pointer (some (p.add (i.toNat*sz))))) w:=
 λw _=>by simp[execOp,Instr.indexAt,Instr.sureAddr,hix,hx,asIntOf,run_underlying hT,fw hS,hi.1,hi.2]
theorem nC{c:Operand}{s:Bool}(hc:e.ev c=.bool s)(hv:(bif s then e.ev x else e.ev y)=v):∀w,St X h L w->(execOp e.ev ⟨d,.pick c x y,ty,pos,af,g⟩).run P w=.ok (.value v) w:=
 hv▸K7 hc
end runs
section stepsM
variable {P:Program} {b:Frame} {n:Nat} {ops:Array Oper} {F:List Frame->(Machine->Prop)->Prop} {e:Env} {ds:List Deferred} {X:Cx} {h:HF} {L:LH} {K:Env->HF->LH->Prop}
variable {ty:TypeId} {pos:String} {af:Array Edge} {g:Option (Nat×Bool)} {κ α : Type} {enc:κ->Value} {V:HF->Value->α->Prop} [DecidableEq κ]
theorem wU(i:Nat){t T:TypeId}{mo ko xo:Operand}{m:List (κ×α)}{k:κ}{x:α}(hT:P.underlying t=some (.map T E))(hK:wG P T enc)(hL:nth L i=some (bk,o))(hm:i9 enc V h o m)(hmo:e.ev mo=.map (some bk))(hko:e.ev ko=enc k)(hx:V h (e.ev xo) x)(t':∀o',i9 enc V h o' (mput m k x)->K e h (setNth L i (bk,o')))(hg:guardB ops e ⟨none,.insert t mo ko xo,ty,pos,af,g⟩=true:=by rfl):Stp P b n ops F ds X ⟨none,.insert t mo ko xo,ty,pos,af,g⟩ e h L K:=by
 unfold Stp
 rw[if_pos hg]
 intro w hw
 have hb:w.heap[bk]? = some o:=by
  have h2:=hL
  rw[gC]at h2
  exact hw.own _ (zE h2)
 obtain⟨o',hr,hm'⟩:=yU (k:=k) hT hK hb hm hx
 have:(execOp e.ev ⟨none,.insert t mo ko xo,ty,pos,af,g⟩).run P w=.ok .skip { w with heap:=w.heap.setIfInBounds bk o' }:=by
  simp[execOp,hmo,hko,hr]
 rw[this]
 exact⟨h,_,hw.write hL _,t' o' hm'⟩
end stepsM
section stepsA
variable {P:Program} {b:Frame} {n:Nat} {ops:Array Oper} {F:List Frame->(Machine->Prop)->Prop} {e:Env} {ds:List Deferred} {X:Cx} {h:HF} {L:LH} {K:Env->HF->LH->Prop}
variable {d:Option Nat} {ty:TypeId} {pos:String} {af:Array Edge} {g:Option (Nat×Bool)}
theorem sG(i:Nat){t:TypeId}{T:Nat}(hT:tySz P t=some (m,a))(hx:e.ev x=.pointer (some ⟨bk,0,none⟩))(hL:nth L i=some (bk,.cells cl.toArray T (0,0)))(hv:e.ev y=.agg vs.toArray)(hm:vs.length=m)(hc:cl.length=m)(h1:vs.all one=true)(t':K e h (setNth L i (bk,.cells vs.toArray T (0,0))))(hg:guardB ops e ⟨none,.store t x y,ty,pos,af,g⟩=true:=by rfl):Stp P b n ops F ds X ⟨none,.store t x y,ty,pos,af,g⟩ e h L K:=by
 refine kt i hT hx hL (vs:=vs) (by rw[hv];simp[vcells]) hm (by rw[Nat.zero_add,hm,hc];simp) h1 ?_ hg
 rw[En vs cl (by rw[hm,hc])]
 exact t'
theorem Oh{t:TypeId}{len:Nat}{cells:List Value}(hT:P.underlying t=some (.array len E))(hS:tySz P E=some (sz,a))(hz:zeroC P t=some zs)(hc:Instr.fill (λi=>some (i*sz,sz)) zs.toArray (parts.toList.map λp=>(p.1,e.ev p.2))=some cells.toArray)(t':K (pute e d (.agg cells.toArray)) h L)(hg:guardB ops e ⟨d,.build t parts,ty,pos,af,g⟩=true:=by rfl):Stp P b n ops F ds X ⟨d,.build t parts,ty,pos,af,g⟩ e h L K:=
 gT hg λw hw=>by
  obtain⟨z,h1,h2⟩:=se hz w
  have hparts:(parts.map λx=>(x.1,e.ev x.2)).toList=parts.toList.map λp=>(p.1,e.ev p.2):=by simp
  refine⟨_,_,h,_,?_,hw,t'⟩
  simp only[execOp,Instr.build,xP,h1,h2,zM,run_underlying hT,fw hS,S5,hparts]
  rw[hc]
  simp
theorem CK{α : Type}:∀(l:List α)(i:Nat)(x y:α),nth l i=some x->(setNth l i y).Perm (y::dropNth l i)
 |[],_,_,_,h=>by simp[nth]at h
 |z::l,0,x,y,h=>List.Perm.refl _
 |z::l,i+1,x,y,h=>(List.Perm.cons z (CK l i x y h)).trans (List.Perm.swap y z _)
theorem Og(i:Nat){t:Nat}{o':Obj}(hL:nth L i=some (bk,o))(hs:mu P fv vs.toArray h [(bk,o)] (λx h' B=>x=.returned (.tuple #[])/\h'=h/\B=[(bk,o')]))(hf:e t=fv)(hvs:as.toList.map e.ev=vs)(t':K (pute e d (.tuple #[])) h (setNth L i (bk,o')))(hg:guardB ops e ⟨d,.call ⟨.value (.tmp t),as,ats⟩,ty,pos,af,g⟩=true:=by rfl):Stp P b n ops F ds X ⟨d,.call ⟨.value (.tmp t),as,ats⟩,ty,pos,af,g⟩ e h L K:=by
 unfold Stp
 rw[if_pos hg]
 intro w hw
 have hw':=hw.perm (pt L i _ hL)
 have harr:as.map e.ev=vs.toArray:=Sd (by simp[←hvs])
 obtain⟨nx,hrun,hcall⟩:=hs w (Pre.left (A:=[(bk,o)]) hw'.pre)
 have hr:(execOp e.ev ⟨d,.call ⟨.value (.tmp t),as,ats⟩,ty,pos,af,g⟩).run P w=.ok nx w:=by
  rw[←hrun]
  simp[execOp,resolve,T6,harr,hf]
 rw[hr]
 refine lr (mV hcall) (hcall.mono ?_)
 rintro x w' ⟨h',B,hst,rfl,rfl,rfl⟩
 exact⟨h',_,(Tg (A:=[(bk,o)]) (F:=dropNth L i) hw' hst).perm (CK L i _ _ hL).symm,t'⟩
theorem Oe{t:Nat}{φ:Value->HF->Prop}(hs:QC P fv vs h φ)(hf:e t=fv)(hvs:ass.toList.map e.ev=vs)(t':∀v h',h.le h'->φ v h'->K (pute e d v) h' L)(hg:guardB ops e ⟨d,.call ⟨.value (.tmp t),ass,ats⟩,ty,pos,af,g⟩=true:=by rfl):
  Stp P b n ops F ds X ⟨d,.call ⟨.value (.tmp t),ass,ats⟩,ty,pos,af,g⟩ e h L K:=by
 refine AP L [] (List.append_nil L).symm hs hf hvs ?_ ?_ hg
 .rintro v h' B hle ⟨rfl,v',hv,hφ⟩
  cases hv
  rw[List.append_nil]
  exact t' _ h' hle hφ
 .rintro ch h' B hle ⟨_,v',hv,_⟩
  cases hv
end stepsA
theorem Rc{h:HF}{cs:List Value}(ha:At h q cs)(hi:0<=i/\i<(cs.length:Int)):At h (q.add (i.toNat*1)) [cs.getD i.toNat .nilFunc]:=by
 obtain⟨cl,T,fz,hb,hs,hc⟩:=ha
 have hlt:i.toNat<cs.length:=by omega
 have h1:i.toNat*1=i.toNat:=Nat.mul_one _
 obtain⟨g,off,sp⟩:=q
 simp only at hs
 subst hs
 have hq:(⟨g,off,none⟩:Addr).add (i.toNat*1)=⟨g,off+i.toNat,none⟩:=by
  rw[h1]
  by_cases e0:i.toNat=0
  .simp[vS,e0]
  .simp[vS,e0]
 rw[hq]
 refine⟨cl,T,fz,hb,rfl,λj v hj=>?_⟩
 have hj0:j=0:=by
  cases j with
  |zero=>rfl
  |succ j=>simp at hj
 subst hj0
 simp at hj
 subst hj
 have:=hc i.toNat (cs.getD i.toNat .nilFunc) (by simp[List.getD,qF hlt])
 simpa using this
theorem m7{h:HF}{R:Ending->HF->LH->Prop}(hc:∀args w,(callFunc f args).run P w=.ok (.enter f args) w)(hs:nu P f (args++cap).toArray h A R):
  mu P (.func (.func f) #[] cap.toArray) args.toArray h A R:=by
 intro w hp
 refine⟨.enter f (args++cap).toArray,?_,je (hs w hp)⟩
 simp[xJ,invoke,hc]
def exW{ρ : Type}(pe:Int->Value)(f:ρ->Value):Except Int ρ->Except Value Value
 |.ok r=>.ok (f r)
 |.error e=>.error (pe e)
theorem ov{f:ρ->Value}{x:Except Int ρ}{u:Value}(h:exW pe f x=.ok u):∃r,x=.ok r/\f r=u:=by
 cases x with
 |ok r=>exact⟨r,rfl,by simpa[exW]using h⟩
 |error p=>simp[exW]at h
theorem mF{f:ρ->Value}{x:Except Int ρ}(h:exW pe f x=.error p):∃e,x=.error e/\pe e=p:=by
 cases x with
 |ok r=>simp[exW]at h
 |error q=>exact⟨q,rfl,by simpa[exW]using h⟩
def exi{ρ σ : Type}:Except Int ρ->(ρ->Except Int σ)->Except Int σ
 |.ok r,k=>k r
 |.error p,_=>.error p
theorem pq{x:Except Int ρ}{k:ρ->Except Int σ}{r:ρ}(h:x=.ok r):exi x k=k r:=by subst h;rfl
theorem mZ{x:Except Int ρ}{k:ρ->Except Int σ}{p:Int}(h:x=.error p):exi x k=.error p:=by subst h;rfl
theorem kj{args:Array Value}{R:Ending->World->Prop}(h:Calls P f args w R)(hno:∀w',¬R .outgrown w'):rq P f args w R:=by
 intro c cs Φ h1 h2
 obtain⟨e,w',fr,hR,hc,hfn,hl⟩:=h (c::cs)
 cases e with
 |returned v=>
  obtain⟨m',s',p'⟩:=h1 v w' hR
  exact⟨m',(show Steps P _ _ from hc).trans (.head (step_leave_returned hl) s'),p'⟩
 |panicked ch=>
  obtain⟨m',s',p'⟩:=h2 ch w' hR
  exact⟨m',(show Steps P _ _ from hc).trans (.head (step_leave_panicked hl) s'),p'⟩
 |outgrown=>exact(hno _ hR).elim
end
section
def smP(p:Policy):Prop:=p.Rules.length<=2000000/\(∀r∈p.Rules,r.Expr.dep<=1500000)/\p.Change.dep<=1500000/\p.Offices.length<=2000000/\p.Kinds.length<=2000000
def smV(l:List Version):Prop:=l.length<=2000000/\∀v∈l,smP v.Policy
def smR(r:Register):Prop:=smV r.Versions/\r.Appoints.length<=2000000/\r.Deputies.length<=2000000/\r.Interests.length<=2000000/\r.Budgets.length<=2000000/\r.Docs.length<=2000000/\r.Approvals.length<=2000000
theorem smP.rules{p:Policy}(h:smP p):p.Rules.length<=2000000:=h.1
theorem smP.change{p:Policy}(h:smP p):p.Change.dep<=1500000:=h.2.2.1
theorem smV.len{l:List Version}(h:smV l):l.length<=2000000:=h.1
theorem smR.vers{r:Register}(h:smR r):smV r.Versions:=h.1
inductive OkX(n:Int):Expr->Prop
 |mk (x:Expr) (hk:1<=x.Kind/\x.Kind<=4) (hn:x.Kind<=2->0<=x.No/\x.No<n) (hl:x.Kind=4->x.L.length=2) (hs:∀y∈x.L,OkX n y):OkX n x
theorem OkX.kind{n:Int}{x:Expr}(h:OkX n x):1<=x.Kind/\x.Kind<=4:=by cases h with|mk _ a=>exact a
theorem OkX.no{n:Int}{x:Expr}(h:OkX n x):x.Kind<=2->0<=x.No/\x.No<n:=by cases h with|mk _ _ a=>exact a
theorem OkX.two{n:Int}{x:Expr}(h:OkX n x):x.Kind=4->x.L.length=2:=by cases h with|mk _ _ _ a=>exact a
theorem OkX.sub{n:Int}{x:Expr}(h:OkX n x):∀y∈x.L,OkX n y:=by cases h with|mk _ _ _ _ a=>exact a
def stopV(e:Int):Value:=.iface 358 (.agg (te.cells ⟨e⟩).toArray)
def errV(e:Int):Value:=.iface 37 (.int .i64 e)
def kindsC:List Value:=[.func (.func 405) #[] #[],.func (.func 406) #[] #[],.func (.func 407) #[] #[],.func (.func 408) #[] #[],.func (.func 409) #[] #[]]
def kfun(i:Int):Value:=kindsC.getD i.toNat .nilFunc
def Kinds(h:HF):Prop:=∃T fz,h 0=some (.cells kindsC.toArray T fz)
theorem Kinds.mono{h h':HF}(k:Kinds h)(hl:h.le h'):Kinds h':=let ⟨T,fz,e⟩:=k;⟨T,fz,hl _ _ e⟩
theorem Kinds.at{h:HF}(k:Kinds h)(hi:0<=i/\i<5):At h ((⟨0,0,none⟩:Addr).add (i.toNat*1)) [kfun i]:=by
 obtain⟨T,fz,e⟩:=k
 rw[pz]
 refine At.EX e (λj v hj=>?_)
 have hj0:j=0:=by
  cases j with
  |zero=>rfl
  |succ j=>simp at hj
 subst hj0
 simp at hj
 subst hj
 have:i=0\/i=1\/i=2\/i=3\/i=4:=by omega
 rcases this with rfl|rfl|rfl|rfl|rfl<;>rfl
def VFn(_:HF)(v:Value)(x:Value):Prop:=v=x
theorem VFn.mono:zp VFn:=λ_ _ _ _ _ e=>e
theorem mj{κ α : Type}[DecidableEq κ]:∀(m:List (κ×α))(k:κ)(v:α),(mput m k v).length<=m.length+1
 |[],_,_=>by simp[mput]
 |(k',v')::r,k,v=>by
  have:=mj r k v
  simp only[mput]
  split<;>simp<;>omega
theorem PJ(h:(s.toList==(⟨#[]⟩:ByteArray).toList)=false):0<s.size:=by
 rcases Nat.eq_zero_or_pos s.size with h0|h0
 .exfalso
  have:s=⟨#[]⟩:=by
   cases s with
   |mk d=>
    have:d=#[]:=Array.eq_empty_of_size_eq_zero h0
    rw[this]
  rw[this]at h;simp at h
 .exact h0
abbrev pC:=ft
abbrev MG:=tg
abbrev pC.cells(x:ft)(r:tg):List Go.Value:=ft.cells x r
structure pC.ok(h:HF)(x:ft)(r:tg):Prop where
 signed:SlC zC h r.cd r.bZ x.signed
theorem pC.ok.mono{h h':HF}{x:ft}{r:tg}(a:pC.ok h x r)(hl:h.le h'):pC.ok h' x r:=⟨a.signed.mono xH hl⟩
end
variable {Fr:LH}{gn:Func}{pv:Go.Value}
section
def deferFrame(f:FuncId):Frame:={ fn:=f,tmps:=#[],todo:=[],defers:=[],mode:=.run,kind:=.deferred,roundOf:=none }
section
variable {P:Program} {f:FuncId} {n:Nat} {k:List Item} {e:Env} {X:Cx} {h:HF} {L:LH} {ops:Array Oper} {l:List Oper} {d:Nat} {ty:TypeId} {pos:String} {af:Array Edge} {g:Option (Nat×Bool)} {ats:Array TypeId}
theorem Eh{F F':List Frame->(Machine->Prop)->Prop}(v:Value)(hF:∀cs Φ,F cs Φ->∃cs',recoverD cs=some (v,cs')/\F' cs' Φ)(t:TO P (deferFrame f) n ops l k F' (upd e d v) ds X h L)(hd:Nat.blt d n=true:=by rfl)(hg:guardB ops e ⟨some d,.call ⟨.builtin .recover,#[],ats⟩,ty,pos,af,g⟩=true:=by rfl):
  TO P (deferFrame f) n ops (⟨some d,.call ⟨.builtin .recover,#[],ats⟩,ty,pos,af,g⟩::l) k F e ds X h L:=by
 intro w hw is hi a cs Φ hn he hds hF0
 obtain⟨i,js,rfl,ho,hj⟩:=pg hi
 obtain⟨cs',hrec,hF1⟩:=hF cs Φ hF0
 have hwt:=(fG (ops:=ops) he).trans hg
 have hst:=stepGR_op (P:=P) (b:=deferFrame f) (k:=k) (cs:=cs) (w:=w) (rest:=js) ho hwt
 have hr:(execOp a.eval ⟨some d,.call ⟨.builtin .recover,#[],ats⟩,ty,pos,af,g⟩).run P w=.ok .recover w:=by
  simp[execOp,resolve,invoke,builtin]
 have htr:tryRecover ((deferFrame f).atR a (.inRegion ops (i::js)::k)) cs=some (v,cs'):=by
  rw[tryRecover_deferred (by rfl) cs,hrec]
 have hput:envOf (a.put (some d) v)=upd e d v:=by rw[oI a d v (by rw[hn];exact oy hd),he]
 refine .step (m₁:=lone ((deferFrame f).atR (a.put (some d) v) (.inRegion ops js::k)) cs' w) ?_ (t w hw js hj (a.put (some d) v) cs' Φ (by rw[nS];exact hn) hput (by rw[lX];exact hds) hF1)
 refine step_lone_go ?_
 rw[hst,jj _ _ rfl,←gK a js k ho v]
 simp[stepG.apply,hr,htr]
 rfl
theorem CI{F:List Frame->(Machine->Prop)->Prop}(hF:∀cs Φ,F cs Φ->recoverD cs=none)(t:TO P (deferFrame f) n ops l k F (upd e d .nilIface) ds X h L)(hd:Nat.blt d n=true:=by rfl)(hg:guardB ops e ⟨some d,.call ⟨.builtin .recover,#[],ats⟩,ty,pos,af,g⟩=true:=by rfl):
  TO P (deferFrame f) n ops (⟨some d,.call ⟨.builtin .recover,#[],ats⟩,ty,pos,af,g⟩::l) k F e ds X h L:=by
 intro w hw is hi a cs Φ hn he hds hF0
 obtain⟨i,js,rfl,ho,hj⟩:=pg hi
 have hrec:=hF cs Φ hF0
 have hwt:=(fG (ops:=ops) he).trans hg
 have hst:=stepGR_op (P:=P) (b:=deferFrame f) (k:=k) (cs:=cs) (w:=w) (rest:=js) ho hwt
 have hr:(execOp a.eval ⟨some d,.call ⟨.builtin .recover,#[],ats⟩,ty,pos,af,g⟩).run P w=.ok .recover w:=by
  simp[execOp,resolve,invoke,builtin]
 have htr:tryRecover ((deferFrame f).atR a (.inRegion ops (i::js)::k)) cs=none:=by
  rw[tryRecover_deferred (by rfl) cs,hrec]
 have hput:envOf (a.put (some d) .nilIface)=upd e d .nilIface:=by rw[oI a d _ (by rw[hn];exact oy hd),he]
 refine .step (m₁:=lone ((deferFrame f).atR (a.put (some d) .nilIface) (.inRegion ops js::k)) cs w) ?_ (t w hw js hj (a.put (some d) .nilIface) cs Φ (by rw[nS];exact hn) hput (by rw[lX];exact hds) hF0)
 refine step_lone_go ?_
 rw[hst,jj _ _ rfl,←gK a js k ho .nilIface]
 simp[stepG.apply,hr,htr]
 rfl
def F9(P:Program)(X:Cx)(u':FrameMode)(R:HF->LH->Prop)(cs:List Frame)(Φ : Machine->Prop):Prop:=
 ∃c rest,cs=c::rest/\c.mode=u'/\∀w',(∃h' B,St X h' B w'/\R h' B)->To P Φ (lone { c with mode:=settle u' } rest w')
theorem HR{u':FrameMode}{R:HF->LH->Prop}(hf:P.funcs[f]? = some fn)(hr:fn.results=#[])(hR:R h L):TT P (deferFrame f) n [] (F9 P X u' R) e [] X h L:=by
 intro w hw a cs Φ hn he hds hF
 obtain⟨c,rest,rfl,hm,h1⟩:=hF
 refine .step (stepR_end rfl) ?_
 have hgo:Frame.going P { (deferFrame f).atR a []with mode:=.returning } w (.returned (.tuple #[])):=⟨rfl,hds,fn,hf,mg hr a w⟩
 refine .step (step_going_returned (c:=c) (cs:=rest) rfl hgo) ?_
 rw[hm]
 exact h1 w ⟨h,L,hw,hR⟩
end
section
variable {P:Program} {b:Frame} {n:Nat} {k:List Item} {F:List Frame->(Machine->Prop)->Prop} {e:Env} {ds:List Deferred} {X:Cx} {h:HF} {L:LH} {ops:Array Oper} {l:List Oper} {ty:TypeId} {pos:String} {af:Array Edge} {g:Option (Nat×Bool)}
theorem N0{t:Nat}{fv:Fn}{cap:Array Value}(hro:b.roundOf=none)(hf:e t=.func fv #[] cap)(t':TO P b n ops l k F e ({ target:=.fn fv cap,args:=#[] }::ds) X h L)(hg:guardB ops e ⟨none,.defer ⟨.value (.tmp t),#[],ats⟩,ty,pos,af,g⟩=true:=by rfl):TO P b n ops (⟨none,.defer ⟨.value (.tmp t),#[],ats⟩,ty,pos,af,g⟩::l) k F e ds X h L:=by
 intro w hw is hi a cs Φ hn he hds hF
 obtain⟨i,js,rfl,ho,hj⟩:=pg hi
 have hwt:=(fG (ops:=ops) he).trans hg
 have hst:=stepGR_op (P:=P) (b:=b) (k:=k) (cs:=cs) (w:=w) (rest:=js) ho hwt
 have hr:(execOp a.eval ⟨none,.defer ⟨.value (.tmp t),#[],ats⟩,ty,pos,af,g⟩).run P w=.ok (.defer { target:=.fn fv cap,args:=#[] }) w:=by
  have hev:a.eval (.tmp t)=.func fv #[] cap:=by rw[jt,he];exact hf
  simp[execOp,resolve,hev,xJ]
 have hs:Oper.semAt b.roundOf a.eval ⟨none,.defer ⟨.value (.tmp t),#[],ats⟩,ty,pos,af,g⟩=execOp a.eval ⟨none,.defer ⟨.value (.tmp t),#[],ats⟩,ty,pos,af,g⟩:=by rw[hro];rfl
 refine .step (m₁:=lone (b.atR { a with defers:={ target:=.fn fv cap,args:=#[] }::a.defers } (.inRegion ops js::k)) cs w) ?_ (t' w hw js hj { a with defers:={ target:=.fn fv cap,args:=#[] }::a.defers } cs Φ hn he (by rw[hds]) hF)
 refine step_lone_go ?_
 have hfin:=gK (b:=b) { a with defers:={ target:=.fn fv cap,args:=#[] }::a.defers } js k ho undef
 rw[hst,hs]
 simp only[stepG.apply,Sem.runT_eq,hr,GStep.bare_after]
 exact congrArg (λfr=>GStep.go { frame:=fr,callers:=cs,status:=.running,dying:=none } w) hfin
end
theorem PC{g:FuncId}{h:HF}{L:LH}{R:Ending->HF->LH->Prop}{R':HF->LH->Prop}(hf:P.funcs[f]? = some fn)(hg:P.funcs[g]? = some gn)(hb:gn.body=some c)(hm:gn.ntmps=m)(hle:Ur cap.length m=true)(hc:∀args w,(callFunc g args).run P w=.ok (.enter g args) w)(t:∀X':Cx,X'.h0=h->TT P (deferFrame g) m [.code c] (F9 P X' .returning R') (envArgs cap) [] X' h A)(hL:L=A++Fr)(fin:∀h' B,h.le h'->R' h' B->∀a:Act,envOf a=e->∀w,St X h' (B++Fr) w->∃v h2 B2,(results fn a.tmps).run P w=.ok v w/\St X h2 B2 w/\R (.returned v) h2 B2):
  TT P (bodyFrame f) n (.code .ret::k) (lQ P X R) e [{ target:=.fn (.func g) cap.toArray,args:=#[] }] X h L:=by
 intro w hw a cs Φ hn he hds hF
 obtain⟨cc,cs',rfl,h1,_⟩:=hF
 subst hL
 refine .step (stepR_ret rfl) ?_
 have hinv:(invoke (.fn (.func g) cap.toArray) #[]).run P w=.ok (.enter g cap.toArray) w:=by simp[invoke,hc]
 refine .step (step_defer (fr:={ (bodyFrame f).atR a (.code .ret::k)with mode:=.returning }) (by simp) hds rfl hinv) ?_
 have hle':=vQ hle
 have henter:Sb P g cap.toArray .deferred=(deferFrame g).atR { tmps:=cap.toArray++SM (m-cap.length) undef,defers:=[] } [.code c]:=by
  simp[Sb,S8,hg,hb,hm,deferFrame]
 rw[henter]
 refine t ⟨w,h,A.map (·.1)⟩ rfl w (Tf hw.pre.left) _ _ Φ (by simp;omega) (ow _ _) rfl ⟨_,cc::cs',rfl,rfl,?_⟩
 rintro w' ⟨h',B,hst,hR'⟩
 obtain⟨v,h2,B2,hv,hs2,hR⟩:=fin h' B hst.le hR' a he w' (hw.after hst)
 refine .step (ia (fn:=fn) (v:=v) rfl rfl rfl hf hv) ?_
 exact h1 v w' ⟨h2,B2,hs2,hR⟩
theorem PF{g:FuncId}{h:HF}{L:LH}{R:Ending->HF->LH->Prop}{R':HF->LH->Prop}(hf:P.funcs[f]? = some fn)(hg:P.funcs[g]? = some gn)(hb:gn.body=some c)(hm:gn.ntmps=m)(hle:Ur cap.length m=true)(hc:∀args w,(callFunc g args).run P w=.ok (.enter g args) w)(t:∀X':Cx,X'.h0=h->TT P (deferFrame g) m [.code c] (λcs Φ=>∃c rest,cs=c::rest/\c.mode=.panicking [{ v:=pv,recovered:=false }]/\F9 P X' (.panicking [{ v:=pv,recovered:=true }]) R' ({ c with mode:=.panicking [{ v:=pv,recovered:=true }] }::rest) Φ) (envArgs cap) [] X' h A)(hL:L=A++Fr)(fin:∀h' B,h.le h'->R' h' B->∀a:Act,envOf a=e->∀w,St X h' (B++Fr) w->∃v h2 B2,(results fn a.tmps).run P w=.ok v w/\St X h2 B2 w/\R (.returned v) h2 B2):
  TP P (bodyFrame f) n [{ v:=pv,recovered:=false }] (lQ P X R) e [{ target:=.fn (.func g) cap.toArray,args:=#[] }] X h L:=by
 intro w hw a cs Φ todo hn he hds hF
 obtain⟨cc,cs',rfl,h1,_⟩:=hF
 subst hL
 have hinv:(invoke (.fn (.func g) cap.toArray) #[]).run P w=.ok (.enter g cap.toArray) w:=by simp[invoke,hc]
 refine .step (step_defer (fr:={ (bodyFrame f).atR a todo with mode:=.panicking [{ v:=pv,recovered:=false }] }) (by simp) hds rfl hinv) ?_
 have hle':=vQ hle
 have henter:Sb P g cap.toArray .deferred=(deferFrame g).atR { tmps:=cap.toArray++SM (m-cap.length) undef,defers:=[] } [.code c]:=by
  simp[Sb,S8,hg,hb,hm,deferFrame]
 rw[henter]
 refine t ⟨w,h,A.map (·.1)⟩ rfl w (Tf hw.pre.left) _ _ Φ (by simp;omega) (ow _ _) rfl ⟨_,cc::cs',rfl,rfl,_,cc::cs',rfl,rfl,?_⟩
 rintro w' ⟨h',B,hst,hR'⟩
 obtain⟨v,h2,B2,hv,hs2,hR⟩:=fin h' B hst.le hR' a he w' (hw.after hst)
 refine .step (ia (fn:=fn) (v:=v) rfl rfl rfl hf hv) ?_
 exact h1 v w' ⟨h2,B2,hs2,hR⟩
end
variable {clock:Nat}{es:Array MapEntry}{seen:Array Nat}
section
section steps
variable {P:Program} {b:Frame} {n:Nat} {ops:Array Oper} {F:List Frame->(Machine->Prop)->Prop} {e:Env} {ds:List Deferred} {X:Cx} {h:HF} {L:LH} {K:Env->HF->LH->Prop}
variable {d:Option Nat} {ty:TypeId} {pos:String} {af:Array Edge} {g:Option (Nat×Bool)}
theorem LX{t T:TypeId}(hT:P.underlying t=some (.map T E))(hb:h bk=some (.map es clock))(hx:e.ev x=.map (some bk))(t':∀it,K (pute e d (.pointer (some ⟨it,0,none⟩))) h ((it,.mapIter (some bk) clock #[] clock)::L))(hg:guardB ops e ⟨d,.range t x,ty,pos,af,g⟩=true:=by rfl):Stp P b n ops F ds X ⟨d,.range t x,ty,pos,af,g⟩ e h L K:=
 gT hg λw hw=>⟨_,_,h,_,by simp[execOp,Instr.range,hx,run_underlying hT,qp (hw.imm _ _ hb)],hw.alloc _,t' _⟩
theorem N9(i:Nat){it since c0:Nat}(hL:nth L i=some (it,.mapIter (some bk) since seen c0))(hb:h bk=some (.map es clock))(hold:∀x∈es.toList,x.born<since)(hsc:since<=c0)(hx:e.ev x=.pointer (some ⟨it,0,none⟩))(no:(leftOf es seen).size=0->K (pute e d (.tuple #[.bool false])) h L)(yes:∀en∈(leftOf es seen).toList,K (pute e d (.tuple #[.bool true,en.key,en.val])) h (setNth L i (it,.mapIter (some bk) since (seen.push en.born) clock)))(hg:guardB ops e ⟨d,.next x false,ty,pos,af,g⟩=true:=by rfl):Stp P b n ops F ds X ⟨d,.next x false,ty,pos,af,g⟩ e h L K:=by
 refine gT hg λw hw=>?_
 have hit:w.heap[it]? = some (.mapIter (some bk) since seen c0):=by
  have h2:=hL
  rw[gC]at h2
  exact hw.own _ (zE h2)
 rcases run_next_at (P:=P) w ty it bk since c0 seen es clock hit (hw.imm _ _ hb) hold hsc with⟨h0,hr⟩|⟨en,hen,w1,hw1,hr⟩
 .exact⟨_,w,h,L,by simp[execOp,hx,hr],hw,no h0⟩
 .have hw1':St X h L w1:=by
   rcases hw1 with rfl|rfl
   .exact hw
   .exact hw.drew _
  exact⟨.tuple #[.bool true,en.key,en.val],{ w1 with heap:=w1.heap.setIfInBounds it (.mapIter (some bk) since (seen.push en.born) clock) },h,_,by simp[execOp,hx,hr];rfl,hw1'.write hL _,yes en hen⟩
theorem L7(i:Nat){it since:Nat}{en:MapEntry}(hL:nth L i=some (it,.mapIter (some bk) since (seen.push en.born) clock))(hb:h bk=some (.map es clock))(he:en∈es.toList)(hn:(es.toList.map (·.born)).Nodup)(hx:e.ev x=.pointer (some ⟨it,0,none⟩)):
  ∀w,St X h L w->(execOp e.ev ⟨d,.entry x,ty,pos,af,g⟩).run P w=.ok (.value (.tuple #[en.key,en.val])) w:=λw hw=>by
 have hit:w.heap[it]? = some (.mapIter (some bk) since (seen.push en.born) clock):=by
  have h2:=hL
  rw[gC]at h2
  exact hw.own _ (zE h2)
 have:=run_entry_at (P:=P) w it bk since seen es clock en hit (hw.imm _ _ hb) he hn
 simp[execOp,hx,this]
end steps
def F8{α : Type}(P:Program)(it:Value)(val:α->HF->List Value->Prop)(S:List α->Prop)(h:HF):Prop:=
 ∃(f0:FuncId)(cap:List Value),it=.func (.func f0) #[] cap.toArray/\(∀args w,(callFunc f0 args).run P w=.ok (.enter f0 args) w) /\
  ∀(yf:Fn)(ya yb:Array Value)(C:List α->HF->LH->Prop)(Sp:HF->LH->Prop)(Pn:List PanicEntry->HF->LH->Prop)(h':HF)(A:LH),h.le h' ->
   (∀done h1 h2 B,xN h1 h2->C done h1 B->C done h2 B)->(∀h1 h2 B,xN h1 h2->Sp h1 B->Sp h2 B)->(∀ch h1 h2 B,xN h1 h2->Pn ch h1 B->Pn ch h2 B)->C [] h' A ->
   (∀done x vs h'' B,(∃rest,S (done++x::rest))->h'.le h''->C done h'' B->val x h'' vs->mu P (.func yf ya yb) vs.toArray h'' B (YR C Sp Pn done x)) ->
   mu P it #[.func yf ya yb] h' A (λr h2 B=>(r=.returned (.tuple #[])/\((∃xs,S xs/\C xs h2 B)\/Sp h2 B))\/∃ch,r=.panicked ch/\Pn ch h2 B)
theorem GV{F:List Frame->(Machine->Prop)->Prop}{h:HF}{L:LH}{val:α->HF->List Value->Prop}{S:List α->Prop}(I:List α->HF->LH->Prop)(J:Code->HF->LH->Prop)(Pn:List PanicEntry->HF->LH->Prop)(hgv:e.ev g=it)(hit:F8 P it val S h)(hps:ps.all (λp=>qS p n)=true)(hval:∀x h vs,val x h vs->vs.length=ps.length)(hIm:∀done h1 h2 B,xN h1 h2->I done h1 B->I done h2 B)(hJm:∀c h1 h2 B,xN h1 h2->J c h1 B->J c h2 B)(hPm:∀ch h1 h2 B,xN h1 h2->Pn ch h1 B->Pn ch h2 B)(h0:I [] h L)(round:∀l r lp done x vs h' L' X',(∃rest,S (done++x::rest))->h.le h'->I done h' L'->val x h' vs->lp.state=.ready->X'.h0=h'->(∀b∈X'.M,b<X'.w0.heap.size) ->
   TT P (roundFrame l f) n [.code assign,.beginRound,.code body] (lQ P X' (RdR l r lp I J Pn done x)) (setParams e ps vs) [] X' h' ((l,.loop lp)::(r,.deferred (some []))::L'))(next:∀r xs h' L',S xs->h.le h'->I xs h' L'->TT P (bodyFrame f) n k F e ({ target:=.collected r,args:=#[] }::ds) X h' ((r,.deferred (some []))::L'))(jump:∀r c h' L',h.le h'->J c h' L'->TT P (bodyFrame f) n (.code c::k) F e ({ target:=.collected r,args:=#[] }::ds) X h' ((r,.deferred (some []))::L'))(pan:∀r ch h' L',h.le h'->Pn ch h' L'->TP P (bodyFrame f) n ch F e ({ target:=.collected r,args:=#[] }::ds) X h' ((r,.deferred (some []))::L')):
  TT P (bodyFrame f) n (.code (.rangeFunc g ps.toArray assign body)::k) F e ds X h L:=by
 obtain⟨f0,cap,rfl,hc0,hit⟩:=hit
 intro w hw a cs Φ hn he hds hF
 let r:=w.heap.size
 let w1:World:={ w with heap:=w.heap.push (.deferred (some [])) }
 have hw1:St X h ((r,.deferred (some []))::L) w1:=hw.alloc _
 let l:=w1.heap.size
 let lp:Loop:={ state:=.ready,pending:=none,fn:=f,tmps:=a.tmps,params:=ps.toArray,assign,body,defers:=r }
 let w2:World:={ w1 with heap:=w1.heap.push (.loop lp) }
 have hw2:St X h ((l,.loop lp)::(r,.deferred (some []))::L) w2:=hw1.alloc _
 have henter:(Ua (bodyFrame f).fn a.tmps ps.toArray assign body (bodyFrame f).roundOf).run P w=.ok (l,[{ target:=.collected r,args:=#[] }]) w2:=by
  simp[Ua,bodyFrame,r,l,lp,w2,w1]
 let C:List α->HF->LH->Prop:=λdone h' B=>∃L',B=(l,.loop lp)::(r,.deferred (some []))::L'/\I done h' L'
 let Sp:HF->LH->Prop:=λh' B=>∃c L',B=(l,.loop { lp with state:=.done,pending:=some c })::(r,.deferred (some []))::L'/\J c h' L'
 let Pm:List PanicEntry->HF->LH->Prop:=λch h' B=>∃lp' L',B=(l,.loop lp')::(r,.deferred (some []))::L'/\Pn ch h' L'
 have hps':∀p∈ps,p<n:=λp hp=>oy (R6.1 hps p hp)
 have hy:∀done x vs h'' B,(∃rest,S (done++x::rest))->h.le h''->C done h'' B->val x h'' vs->mu P (.func (.yield l) #[] #[]) vs.toArray h'' B (YR C Sp Pm done x):=by
  rintro done x vs h'' B hxs hle ⟨L',rfl,hI⟩ hv
  refine mu.mono (R:=RdR l r lp I J Pn done x) (wR (i:=0) (lp:=lp) rfl (by simp[lp];exact hval x h'' vs hv) ?_) ?_
  .intro X' _ hX' hXM'
   have henv:envOf { tmps:=(ps.toArray.zip vs.toArray).foldl (λtmps p=>tmps.setIfInBounds p.1 p.2) a.tmps,defers:=[] }=setParams e ps vs:=by
    have:=rS ps vs a.tmps a.defers hn hps'
    rw[←he]
    rw[←Ue]
    simpa using this
   have:=round l r lp done x vs h'' L' X' hxs hle hI hv rfl hX' hXM'
   rw[←henv,←hn]at this
   exact this
  .rintro x' h3 B' _ (⟨e1,L2,e2,h2⟩|⟨e1,c,L2,e2,h2⟩|⟨ch,e1,lp',L2,e2,h2⟩)
   .exact .inl ⟨e1,L2,e2,h2⟩
   .exact .inr (.inl ⟨e1,c,L2,e2,h2⟩)
   .exact .inr (.inr ⟨ch,e1,lp',L2,e2,h2⟩)
 have hs:=hit (.yield l) #[] #[] C Sp Pm h ((l,.loop lp)::(r,.deferred (some []))::L) (xM h) (λ_ _ _ _ hl⟨L',e1,hi⟩=>⟨L',e1,hIm _ _ _ _ hl hi⟩) (λ_ _ _ hl⟨c,L',e1,hi⟩=>⟨c,L',e1,hJm _ _ _ _ hl hi⟩) (λ_ _ _ _ hl⟨lp',L',e1,hi⟩=>⟨lp',L',e1,hPm _ _ _ _ hl hi⟩) ⟨L,rfl,h0⟩ hy
 obtain⟨nx,hrun,hcall⟩:=hs w2 hw2.pre
 have hev:a.eval g=e.ev g:=by rw[jt,he]
 have hnx:nx=.enter f0 (Value.func (.yield l) #[] #[]::cap).toArray:=by
  simp[xJ,invoke,hc0]at hrun
  simpa using hrun.symm
 subst hnx
 have hres:(resolve a.eval (rangeCall g l) 0).run P w2=.ok { target:=.fn (.func f0) cap.toArray,args:=#[.func (.yield l) #[] #[]] } w2:=by
  have hcst:∀v,a.eval (.const v)=v:=λ_=>rfl
  simp[resolve,rangeCall,hev,hgv,hcst,xJ]
 have hinv:(invoke (.fn (.func f0) cap.toArray) #[.func (.yield l) #[] #[]]).run P w2=.ok (.enter f0 (Value.func (.yield l) #[] #[]::cap).toArray) w2:=by
  simp[invoke,hc0]
 have hback:∀v w3,(∃h' B,St ⟨w2,h,((l,Obj.loop lp)::(r,.deferred (some []))::L).map (·.1)⟩ h' B w3/\(λ(r:Ending)(h2:HF)(B:LH)=>(r=.returned (.tuple #[])/\((∃xs,S xs/\C xs h2 B)\/Sp h2 B))\/∃ch,r=.panicked ch/\Pm ch h2 B) (.returned v) h' B) ->
   To P Φ (lone (((bodyFrame f).atR { a with defers:=[{ target:=.collected r,args:=#[] }]++a.defers } (.inRangeFunc l::k)).finish v) cs w3):=by
  rintro v w3 ⟨h',B,hst,hR⟩
  rw[finish_atR_inRangeFunc]
  have hS3:St X h' B w3:=by
   have:=Tg (A:=(l,.loop lp)::(r,.deferred (some []))::L) (F:=[]) (by simpa using hw2) hst
   simpa using this
  have hle:=hst.le
  rcases hR with⟨_,hCS⟩|⟨ch,hx,_⟩
  .rcases hCS with⟨xs,hxs,L',rfl,hI⟩|⟨c,L',rfl,hJ⟩
   .have hb:w3.heap[l]? = some (.loop lp):=hS3.own _ (jB ..)
    have hend:(Instr.endLoop l).run P w3=.ok none { w3 with heap:=w3.heap.setIfInBounds l (.loop { lp with state:=.exhausted }) }:=by
     simp[Instr.endLoop,Tr,getObj,setObj,Up,hb,lp]
    refine .step (stepR_endRangeFunc hend) ?_
    have hS4:=hS3.write (i:=0) rfl (.loop { lp with state:=.exhausted })
    exact next r xs h' L' hxs hle hI _ (hS4.sub (List.sublist_cons_self ..)) { a with defers:={ target:=.collected r,args:=#[] }::a.defers } cs Φ hn he (by rw[hds]) hF
   .have hb:w3.heap[l]? = some (.loop { lp with state:=.done,pending:=some c }):=hS3.own _ (jB ..)
    have hend:(Instr.endLoop l).run P w3=.ok (some c) { w3 with heap:=w3.heap.setIfInBounds l (.loop { lp with state:=.exhausted,pending:=some c }) }:=by
     simp[Instr.endLoop,Tr,getObj,setObj,Up,hb,lp]
    refine .step (stepR_endRangeFunc hend) ?_
    have hS4:=hS3.write (i:=0) rfl (.loop { lp with state:=.exhausted,pending:=some c })
    exact jump r c h' L' hle hJ _ (hS4.sub (List.sublist_cons_self ..)) { a with defers:={ target:=.collected r,args:=#[] }::a.defers } cs Φ hn he (by rw[hds]) hF
  .cases hx
 have hraise:∀ch w3,(∃h' B,St ⟨w2,h,((l,Obj.loop lp)::(r,.deferred (some []))::L).map (·.1)⟩ h' B w3/\(λ(r:Ending)(h2:HF)(B:LH)=>(r=.returned (.tuple #[])/\((∃xs,S xs/\C xs h2 B)\/Sp h2 B))\/∃ch,r=.panicked ch/\Pm ch h2 B) (.panicked ch) h' B) ->
   To P Φ (lone (((bodyFrame f).atR { a with defers:=[{ target:=.collected r,args:=#[] }]++a.defers } (.inRangeFunc l::k)).raise ch) cs w3):=by
  rintro ch w3 ⟨h',B,hst,hR⟩
  have hS3:St X h' B w3:=by
   have:=Tg (A:=(l,.loop lp)::(r,.deferred (some []))::L) (F:=[]) (by simpa using hw2) hst
   simpa using this
  rcases hR with⟨hx,_⟩|⟨ch',hx,lp',L',rfl,hP⟩
  .cases hx
  .cases hx
   exact pan r ch h' L' hst.le hP w3 (hS3.sub (List.sublist_cons_self ..)) { a with defers:={ target:=.collected r,args:=#[] }::a.defers } cs Φ _ hn he (by rw[hds]) hF
 refine .step (stepR_rangeFunc henter hres hinv) ?_
 exact hcall _ cs Φ hback hraise
theorem C2{es:List MapEntry}(hn:(es.map (·.born)).Nodup)(is:List Nat)(hlt:∀i∈is,i<es.length):
  ((leftOf es.toArray (is.map λi=>(es[i]?.map (·.born)).getD 0).toArray).size=0->∀i,i<es.length->i∈is) /\
  ∀en∈(leftOf es.toArray (is.map λi=>(es[i]?.map (·.born)).getD 0).toArray).toList,∃i,es[i]? = some en/\i∉is:=by
 have hmem:∀en,en∈(leftOf es.toArray (is.map λi=>(es[i]?.map (·.born)).getD 0).toArray).toList↔en∈es/\en.born∉is.map λi=>(es[i]?.map (·.born)).getD 0:=by
  intro en
  simp[leftOf]
 constructor
 .intro h0 i hi
  apply Classical.byContradiction
  intro hni
  have:es[i]∈(leftOf es.toArray (is.map λi=>(es[i]?.map (·.born)).getD 0).toArray).toList:=by
   rw[hmem]
   refine⟨List.getElem_mem hi,λhm=>?_⟩
   obtain⟨j,hj,hje⟩:=kM.1 hm
   have hjl:=hlt j hj
   simp only[qF hjl,Option.map_some,Option.getD_some]at hje
   have:j=i:=by
    have h1:(es.map (·.born))[j]? = (es.map (·.born))[i]?:=by simp[qF hjl,qF hi,hje]
    exact(List.getElem?_inj (by simpa using hjl) hn).1 h1
   exact hni (this▸hj)
  have hl:(leftOf es.toArray (is.map λi=>(es[i]?.map (·.born)).getD 0).toArray).toList.length=0:=by simpa using h0
  rw[List.length_eq_zero_iff]at hl
  rw[hl]at this
  exact kA this
 .intro en hen
  rw[hmem]at hen
  obtain⟨i,hi,rfl⟩:=List.mem_iff_getElem.1 hen.1
  refine⟨i,qF hi,λhm=>hen.2 (kM.2 ⟨i,hm,?_⟩)⟩
  simp[qF hi]
end
section
section
variable {P:Program} {b:Frame} {n:Nat} {k:List Item} {F:List Frame->(Machine->Prop)->Prop} {e:Env} {ds:List Deferred} {X:Cx} {h:HF} {L:LH}
end
theorem MK{F:List Frame->(Machine->Prop)->Prop}{h:HF}{L:LH}{val:α->HF->List Value->Prop}(rs:List Nat)(hh:ι->HF)(LL:ι->LH)(I:List α->ι->Prop)(JR:ι->Prop)(xid:Nat)(Q:List PanicEntry->HF->LH->Prop)(i₀ : ι)(hf:P.funcs[f]? = some fn)(hgv:e.ev g=it)(hit:Itr P it val xs h)(hps:ps.all (λp=>qS p n)=true)(hval:∀x h vs,val x h vs->vs.length=ps.length)(hQm:∀ch h1 h2 B,xN h1 h2->Q ch h1 B->Q ch h2 B)(hh0:hh i₀=h)(hL0:L=LL i₀)(h0:I xs i₀)(round:∀(l r:Nat)(lp:Loop)(x:α)(rest:List α)(vs:List Value)(i:ι)(h':HF)(X':Cx)(FR:List Frame->(Machine->Prop)->Prop),I (x::rest) i->h.le h'->(hh i).le h'->val x h' vs->X'.h0=h'->(∀b∈X'.M,b<X'.w0.heap.size)->lp.state=.ready ->
   (∀i' e' h2,I rest i'->(hh i').le h2->TT P (roundFrame l f) n [] FR e' [] X' h2 (rdH l r lp (LL i'++markB rs))) ->
   (∀i' e' h2 k',JR i'->(hh i').le h2->TT P (roundFrame l f) n (.code .ret::k') FR e' [] X' h2 (rdH l r lp (LL i'++markB rs))) ->
   (∀i' e' h2 k',I [] i'->(hh i').le h2->exitTo xid k'=none->TT P (roundFrame l f) n (.code (.exit xid)::k') FR e' [] X' h2 (rdH l r lp (LL i'++markB rs))) ->
   (∀ch e' h' L',Q ch h' L'->TP P (roundFrame l f) n ch FR e' [] X' h' (rdH l r lp (L'++markB rs))) ->
   TT P (roundFrame l f) n [.code assign,.beginRound,.code body] FR (setParams e ps vs) [] X' h' ((l,.loop lp)::(r,.deferred (some []))::(LL i++markB rs)))(next:∀r i h',I [] i->(hh i).le h'->h.le h'->TT P (bodyFrame f) n k F e (marks (r::rs)) X h' (LL i++markB (r::rs)))(jret:∀r i h',JR i->(hh i).le h'->h.le h'->TT P (bodyFrame f) n (.code .ret::.inBlock xid::k) F e (marks (r::rs)) X h' (LL i++markB (r::rs)))(pan:∀r ch h' L',Q ch h' L'->h.le h'->TP P (bodyFrame f) n ch F e (marks (r::rs)) X h' (L'++markB (r::rs))):
  TT P (bodyFrame f) n (.code (.rangeFunc g ps.toArray assign body)::.inBlock xid::k) F e (marks rs) X h (L++markB rs):=
 jw rs hh LL I JR (λi=>I [] i) xid Q i₀ hf hgv hit hps hval hQm hh0 hL0 h0 round (λr i h' a b c=>eS (next r i h' a b c)) jret
  (λr i h' a b c=>lK (by simp[exitTo]) (next r i h' a b c)) pan
section mputs
variable {κ α : Type} [DecidableEq κ]
end mputs
end
variable {base:Option Addr}{dir:ChanDir}{vx:Nat}{z:Go.Value}
section
section grow
variable {α : Type} {R:Rp α} {E:TypeId} {h:HF} {xs:List α} {base:Option Addr} {cap:Nat} {G:LH}
theorem du.yA(hG:du R E h xs base cap G)(hne:0<xs.length):∃bk,base=some ⟨bk,0,none⟩:=by
 rcases hG with⟨rfl,_⟩|⟨bk,_,_,e,_⟩
 .simp at hne
 .exact⟨bk,e⟩
theorem du.Q9(hG:du R E h xs base cap G):xs.length<=cap:=by
 rcases hG with⟨rfl,_⟩|⟨bk,cl,sp,_,_,_,h4,_⟩
 .simp
 .exact h4
theorem bz.split:∀{xs ys:List α}{cl:List Value},bz R h cl (xs++ys)->∃a b,cl=a++b/\bz R h a xs/\bz R h b ys
 |[],ys,cl,hc=>⟨[],cl,rfl,rfl,hc⟩
 |x::xs,ys,cl,⟨cs,rest,e,hl,hr,hc⟩=>by
  obtain⟨a,b,rfl,h1,h2⟩:=bz.split hc
  exact⟨cs++a,b,by rw[e,kC],⟨cs,a,rfl,hl,hr,h1⟩,h2⟩
theorem du.take(hG:du R E h xs base cap G)(k:Nat):du R E h (xs.take k) base cap G:=by
 rcases hG with⟨rfl,rfl,rfl,rfl⟩|⟨bk,cl,sp,e,hc,h3,h4,h5,rfl⟩
 .rw[List.take_nil];exact du.nil
 .rw[←List.take_append_drop k xs]at hc
  obtain⟨a,b,rfl,h1,h2⟩:=bz.split hc
  refine .inr ⟨bk,a,b++sp,e,h1,by rw[←kC];exact h3,?_,?_,by rw[kC]⟩
  .rw[List.length_take];omega
  .rw[List.length_take];omega
end grow
section runs
variable {P:Program} {e:Env} {X:Cx} {h:HF} {L:LH} {d:Option Nat} {ty:TypeId} {pos:String} {af:Array Edge} {g:Option (Nat×Bool)}
variable {α : Type} {R:Rp α} {E:TypeId} {xs:List α} {base:Option Addr} {cap bk:Nat} {G:LH}
theorem oq{t:TypeId}{z:Int}(hT:P.underlying t=some (.slice E))(hS:tySz P E=some (R.sz,a))(hb:base=some ⟨bk,0,none⟩)(hz:0<=z/\z<(xs.length:Int))(hx:e.ev x=.slice base m cap)(hm:m=xs.length)(hix:e.ev ix=.int .i64 z):∀w,St X h L w->(execOp e.ev ⟨d,.indexAddr t x ix,ty,pos,af,g⟩).run P w=.ok (.value (.pointer (some ⟨bk,z.toNat*R.sz,none⟩))) w:=by
 subst hb hm
 have hzz:z=(z.toNat:Int):=by omega
 rw[hzz]at hix
 intro w hw
 rw[CU hT hS hx hix (by omega) w hw,pz]
theorem ES{t:TypeId}{i:Nat}{y:α}{h0:HF}(hT:tySz P t=some (m,false))(hG:du R E h0 xs base cap G)(hb:base=some ⟨bk,0,none⟩)(hi:xs[i]? = some y)(hv:∀cs,R.rep h0 cs y->nth cs off=some v)(hx:e.ev x=.pointer (some ⟨bk,i*R.sz+off,none⟩))(hm:∀p∈G,p∈L):∀w,St X h L w->(execOp e.ev ⟨d,.load t x,ty,pos,af,g⟩).run P w=.ok (.value v) w:=by
 rcases hG with⟨rfl,_⟩|⟨bk',cl,sp,e1,hc,_,_,_,rfl⟩
 .simp at hi
 .rw[hb]at e1
  cases e1
  obtain⟨cs,hl,hr,hcell⟩:=hc.get i y hi
  have hv':=hv cs hr
  rw[gC]at hv'
  have h9:=hcell off v hv'
  refine zZ hT hx (hm _ (List.mem_singleton.2 rfl)) ?_
  rw[gC,List.getElem?_append_left (by
   rcases jL (i*R.sz+off) cl.length with q|q
   .exact q
   .simp[vL q]at h9)]
  exact h9
end runs
theorem vZ(a b:List α)(i:Nat)(x:α)(hi:i<a.length):setNth (a++b) i x=setNth a i x++b:=by
 rw[mf,mf,List.set_append_left _ _ hi]
theorem BU(a b:List α)(i:Nat)(x:α):setNth (a++b) (a.length+i) x=a++setNth b i x:=by
 rw[mf,mf,List.set_append_right _ _ (Nat.le_add_right _ _)];simp
theorem bz.set{α : Type}{R:Rp α}{h:HF}{off:Nat}{v:Value}{y y':α}(ho:off<R.sz)(hrep:∀cs,R.rep h cs y->R.rep h (setNth cs off v) y'):
  ∀{xs:List α}{cl:List Value}(i:Nat),bz R h cl xs->xs[i]? = some y->bz R h (setNth cl (i*R.sz+off) v) (xs.set i y')
 |x::xs,cl,0,⟨cs,rest,e,hl,hr,hc⟩,hi=>by
  simp at hi
  subst hi
  rw[e,Nat.zero_mul,Nat.zero_add,vZ _ _ _ _ (by omega)]
  exact⟨setNth cs off v,rest,rfl,by rw[qh];exact hl,hrep cs hr,hc⟩
 |x::xs,cl,i+1,⟨cs,rest,e,hl,hr,hc⟩,hi=>by
  have ih:=bz.set ho hrep i hc (by simpa using hi)
  rw[e,show(i+1)*R.sz+off=cs.length+(i*R.sz+off)from by rw[hl,Nat.add_mul];omega,BU]
  exact⟨cs,_,rfl,hl,hr,ih⟩
 |[],_,_,_,hi=>by simp at hi
section steps
variable {P:Program} {b:Frame} {n:Nat} {ops:Array Oper} {F:List Frame->(Machine->Prop)->Prop} {e:Env} {ds:List Deferred} {X:Cx} {h:HF} {L:LH} {K:Env->HF->LH->Prop}
variable {d:Option Nat} {ty:TypeId} {pos:String} {af:Array Edge} {g:Option (Nat×Bool)}
variable {α : Type} {R:Rp α} {E:TypeId} {xs:List α} {base:Option Addr} {cap bk:Nat}
theorem AO(A G Q:LH){t:TypeId}{i:Nat}{u u':α}(hT:tySz P t=some (m,a))(hm:m=1)(hG:du R E h xs base cap G)(hL:L=A++(G++Q))(hb:base=some ⟨bk,0,none⟩)(hi:xs[i]? = some u)(ho:off<R.sz)(hrep:∀cs,R.rep h cs u->R.rep h (setNth cs off v) u')(hx:e.ev x=.pointer (some ⟨bk,i*R.sz+off,none⟩))(hv:vcells (e.ev y)=[v])(h1:one v=true)(t':∀G',du R E h (xs.set i u') base cap G'->K e h (A++(G'++Q)))(hg:guardB ops e ⟨none,.store t x y,ty,pos,af,g⟩=true:=by rfl):Stp P b n ops F ds X ⟨none,.store t x y,ty,pos,af,g⟩ e h L K:=by
 subst hL hm
 rcases hG with⟨rfl,_⟩|⟨bk',cl,sp,e1,hc,h3,h4,h5,rfl⟩
 .simp at hi
 .have e2:=e1
  rw[hb]at e2
  cases e2
  have hlen:=hc.len
  have hil:i<xs.length:=by
   rcases jL i xs.length with q|q
   .exact q
   .simp[vL q]at hi
  have hlt:i*R.sz+off<cl.length:=by
   rw[hlen]
   have:=Nat.mul_le_mul_right R.sz (show i+1<=xs.length from hil)
   rw[Nat.add_mul]at this;omega
  have hnth:nth (A++([(bk,jJ (cl++sp).toArray E (0,0))]++Q)) A.length=some (bk,.cells (cl++sp).toArray E (0,0)):=If A _ Q
  refine kt A.length hT hx hnth hv rfl (by simp;omega) (by simp[h1]) ?_ hg
  have hs:splice (cl++sp) (i*R.sz+off) [v]=setNth cl (i*R.sz+off) v++sp:=by
   simp only[splice];rw[vZ _ _ _ _ hlt]
  rw[hs]
  have hset:=Ep A (bk,jJ (cl++sp).toArray E (0,0)) (bk,jJ (setNth cl (i*R.sz+off) v++sp).toArray E (0,0)) Q
  show K e h (setNth (A++(bk,jJ (cl++sp).toArray E (0,0))::Q) A.length _)
  rw[hset]
  refine t' [(bk,.cells (setNth cl (i*R.sz+off) v++sp).toArray E (0,0))] (.inr ⟨bk,setNth cl (i*R.sz+off) v,sp,e1,bz.set ho hrep i hc hi,?_,?_,?_,rfl⟩)
  .rw[jA,qh,←jA];exact h3
  .rw[List.length_set];exact h4
  .rw[List.length_set];exact h5
theorem Jc{t:TypeId}{hi:Operand}{z:Int}{G:LH}(hT:P.underlying t=some (.slice E))(hS:tySz P E=some (R.sz,a))(hG:du R E h xs base cap G)(hz:0<=z/\z<=(xs.length:Int))(hx:e.ev x=.slice base m cap)(hm:m=xs.length)(hhi:e.ev hi=.int .i64 z)(t':K (pute e d (.slice base (xs.take z.toNat).length cap)) h L)(hg:guardB ops e ⟨d,.slice t x none (some hi) none,ty,pos,af,g⟩=true:=by rfl):Stp P b n ops F ds X ⟨d,.slice t x none (some hi) none,ty,pos,af,g⟩ e h L K:=by
 subst hm
 have hcap:=hG.Q9
 have hz2:0<=z/\z<=(cap:Int):=by omega
 have hl:z.toNat=(xs.take z.toNat).length:=by simp;omega
 refine eT (v:=.slice base (xs.take z.toNat).length cap) (λw hw=>?_) t' hg
 rw[←hl]
 by_cases h0:cap=0
 .have hz0:z=0:=by omega
  subst hz0
  simp[execOp,Instr.sliceAt,Instr.slice,Instr.sliceBounds,Instr.sliceBound,hx,hhi,asIntOf,run_underlying hT,fw hS,hz2,h0]
 .simp[execOp,Instr.sliceAt,Instr.slice,Instr.sliceBounds,Instr.sliceBound,hx,hhi,asIntOf,run_underlying hT,fw hS,hz2,h0,vS]
theorem Et(A G Q:LH)(hc:∀args w,(callFunc f args).run P w=.ok (.enter f args) w)(hm:R.Mono)(hG:du R E h xs base cap G)(hL:L=A++(G++Q))(hs:∀h1,h.le h1->SlC R h1 base cap xs->Ret P f vs h1 v)(hvs:ass.toList.map e.ev=vs)(t':K (pute e d v) h L)(hg:guardB ops e ⟨d,.call ⟨.value (.func f),ass,ats⟩,ty,pos,af,g⟩=true:=by rfl):
  Stp P b n ops F ds X ⟨d,.call ⟨.value (.func f),ass,ats⟩,ty,pos,af,g⟩ e h L K:=by
 unfold Stp
 rw[if_pos hg]
 intro w hw
 have harr:ass.map e.ev=vs.toArray:=Sd (by simp[←hvs])
 have hr:(execOp e.ev ⟨d,.call ⟨.value (.func f),ass,ats⟩,ty,pos,af,g⟩).run P w=.ok (.enter f vs.toArray) w:=by
  simp[execOp,resolve,T6,xJ,invoke,harr,hc]
 rw[hr]
 have back:∀(h1:HF),h.le h1->(∀bk o,h1 bk=some o->w.heap[bk]? = some o)->SlC R h1 base cap xs->wm P b n ops F ds X ⟨d,.call ⟨.value (.func f),ass,ats⟩,ty,pos,af,g⟩ e K (.ok (.enter f vs.toArray) w):=by
  intro h1 hle himm hsl
  have hp1:Pre h1 [] w:=⟨himm,λ_ hp=>(kA hp).elim,SK,λ_ hp=>(kA hp).elim⟩
  refine lr (by simp) (je (rq.mono (hs h1 hle hsl w hp1) ?_))
  rintro x w' ⟨h',B,hst,rfl,rfl,rfl⟩
  refine⟨h,L,⟨hst.os.trans hw.os,hst.tape.trans hw.tape,hst.output.trans hw.output,vT hw.size hst.size,λb' hb' hM=>?_,hw.le,hw.old,λb' o hb'=>?_,λp hp=>?_,hw.dis,hw.free,hw.new⟩,t'⟩
  .rw[hst.keep b' (TH hb' hw.size) (by simp)];exact hw.keep b' hb' hM
  .rw[hst.keep b' (gY (hw.imm b' o hb')) (by simp)];exact hw.imm b' o hb'
  .rw[hst.keep p.1 (gY (hw.own p hp)) (by simp)];exact hw.own p hp
 rcases hG with⟨rfl,rfl,rfl,rfl⟩|⟨bk,cl,sp,rfl,hcl,h3,h4,h5,rfl⟩
 .exact back h (xM h) hw.imm SlC.nil
 .have hmem:(bk,jJ (cl++sp).toArray E (0,0))∈L:=by rw[hL];simp
  have hle:h.le (h.add bk (.cells (cl++sp).toArray E (0,0))):=HF.Ci (hw.free _ hmem)
  refine back _ hle (λk o hk=>?_) ⟨bz.slB (hcl.mono hm hle) (HF.yk _ _ _) h5,h4⟩
  unfold HF.add at hk
  by_cases e0:k=bk
  .subst e0;simp at hk;subst hk;exact hw.own _ hmem
  .rw[if_neg e0]at hk;exact hw.imm k o hk
theorem Oc{t E:TypeId}{sz:Operand}(hT:P.underlying t=some (.chan dir E))(hby:bytesOf P E=some vx)(hsz:e.ev sz=.int .i64 (m:Nat))(hm:m<=1000000000)(hb:vx<=4096)(t':∀bk,K (pute e d (.chan (some bk))) h ((bk,.chan m #[] false 0 0 false)::L))(hg:guardB ops e ⟨d,.makeChan t sz,ty,pos,af,g⟩=true:=by rfl):Stp P b n ops F ds X ⟨d,.makeChan t sz,ty,pos,af,g⟩ e h L K:=
 gT hg λw hw=>by
  refine⟨_,_,h,_,?_,hw.alloc (.chan m #[] false 0 0 false),t' _⟩
  have h1:¬((m:Int)>IntKind.i64.max):=by
   have:IntKind.i64.max=9223372036854775807:=by rfl
   omega
  have h2:∃i,P.info? E=some i/\i.bytes=vx:=by
   unfold bytesOf at hby
   cases hi:P.info? E with
   |none=>rw[hi]at hby;cases hby
   |some i=>rw[hi]at hby;exact⟨i,rfl,by simpa using hby⟩
  obtain⟨i,hi,hib⟩:=h2
  have h3:¬((i.bytes:Int)*(m:Int)>2 ^ 48-112):=by
   rw[hib]
   have:vx*m<=4096*1000000000:=Nat.mul_le_mul hb hm
   have h4:((vx:Int)*(m:Int))=((vx*m:Nat):Int):=by simp
   rw[h4];omega
  simp only[execOp,Instr.makeChan,hsz]
  simp[asInt,asIntOf,run_underlying hT,typeInfo,hi]
  intro hc
  exfalso
  have h1':¬(9223372036854775807<(m:Int)):=by omega
  have h3':¬(281474976710544<(i.bytes:Int)*(m:Int)):=by
   intro h9;exact h3 (by simpa using h9)
  rcases hc with hc|hc|hc
  .omega
  .exact h1' hc
  .exact h3' hc
end steps
theorem zm{s:GStep}{g:Goroutine}{cs:Array CommCase}{bl:Bool}{sh:CommShape}(h:s.bare=.comm g cs bl sh w):∃es,s=.comm g cs bl sh w es:=by
 cases s<;>simp at h
 obtain⟨rfl,rfl,rfl,rfl,rfl⟩:=h
 exact⟨_,rfl⟩
section comm
variable {P:Program} {b:Frame} {n:Nat} {ops:Array Oper} {l:List Oper} {k:List Item} {F:List Frame->(Machine->Prop)->Prop} {e:Env} {ds:List Deferred} {X:Cx} {h:HF} {L:LH}
variable {ty:TypeId} {pos:String} {af:Array Edge} {g:Option (Nat×Bool)}
theorem QY(i:Nat){ch:Operand}{c cap s r:Nat}(hL:nth L i=some (c,.chan cap vs.toArray false s r false))(hch:e.ev ch=.chan (some c))(hx:e.ev x=v)(hroom:vs.length<cap)(t:TO P b n ops l k F e ds X h (setNth L i (c,.chan cap (vs++[v]).toArray false (s+1) r false)))(hg:guardB ops e ⟨none,.send ch x,ty,pos,af,g⟩=true:=by rfl):TO P b n ops (⟨none,.send ch x,ty,pos,af,g⟩::l) k F e ds X h L:=by
 intro w hw is hi a cs Φ hn he hds hF
 obtain⟨j,js,rfl,ho,hj⟩:=pg hi
 have hwt:=(fG (ops:=ops) he).trans hg
 have hs:=stepGR_op (P:=P) (b:=b) (k:=k) (cs:=cs) (w:=w) (rest:=js) ho hwt
 rw[jj _ _ rfl,jt,he]at hs
 have hb:w.heap[c]? = some (.chan cap vs.toArray false s r false):=by
  have h2:=hL
  rw[gC]at h2
  exact hw.own _ (zE h2)
 have hcm:∃es,stepG P true (Go.Conc.G (b.atR a (.inRegion ops (j::js)::k)) cs) w=.comm (Go.Conc.G (b.atR a (.inRegion ops (j::js)::k)) cs) #[Go.Conc.scase c v (.tuple #[])] true .send w es:=by
  have hrun:(execOp e.ev ⟨none,.send ch x,ty,pos,af,g⟩).run P w=.ok (.comm #[Go.Conc.scase c v (.tuple #[])] true .send) w:=by
   simp[execOp,hch,hx,Go.Conc.scase]
  show ∃es,stepG P true { frame:=b.atR a (.inRegion ops (j::js)::k),callers:=cs,status:=.running,dying:=none } w=_
  refine zm ?_
  rw[hs]
  simp[stepG.apply,hrun,Go.Conc.G]
 obtain⟨es,hcm⟩:=hcm
 have h1:=Go.Conc.step_lone_send_room hcm hb (by simpa using hroom)
 refine .step h1 ?_
 rw[show Go.Conc.solo (Go.Conc.G ((b.atR a (.inRegion ops (j::js)::k)).finish undef) cs) (w.setChan c cap (vs.toArray.push v) false (s+1) r false)=lone ((b.atR a (.inRegion ops (j::js)::k)).finish undef) cs (w.setChan c cap (vs.toArray.push v) false (s+1) r false)from rfl,gK a js k ho undef]
 have hw2:=hw.write hL (.chan cap (vs++[v]).toArray false (s+1) r false)
 have e1:vs.toArray.push v=(vs++[v]).toArray:=by simp
 rw[e1]
 exact t _ hw2 js hj a cs Φ hn he hds hF
theorem QZ(i:Nat){t:TypeId}{ch:Operand}{d c cap s r:Nat}(hT:P.underlying t=some (.chan dir E))(hz:zeroV P E=some z)(hL:nth L i=some (c,.chan cap (v::vs).toArray false s r false))(hch:e.ev ch=.chan (some c))(t':TO P b n ops l k F (upd e d v) ds X h (setNth L i (c,.chan cap vs.toArray false s (r+1) false)))(hd:Nat.blt d n=true:=by rfl)(hg:guardB ops e ⟨some d,.recv t ch false,ty,pos,af,g⟩=true:=by rfl):TO P b n ops (⟨some d,.recv t ch false,ty,pos,af,g⟩::l) k F e ds X h L:=by
 intro w hw is hi a cs Φ hn he hds hF
 obtain⟨j,js,rfl,ho,hj⟩:=pg hi
 have hwt:=(fG (ops:=ops) he).trans hg
 have hs:=stepGR_op (P:=P) (b:=b) (k:=k) (cs:=cs) (w:=w) (rest:=js) ho hwt
 rw[jj _ _ rfl,jt,he]at hs
 have hb:w.heap[c]? = some (.chan cap (v::vs).toArray false s r false):=by
  have h2:=hL
  rw[gC]at h2
  exact hw.own _ (zE h2)
 have hcm:∃es,stepG P true (Go.Conc.G (b.atR a (.inRegion ops (j::js)::k)) cs) w=.comm (Go.Conc.G (b.atR a (.inRegion ops (j::js)::k)) cs) #[Go.Conc.rcase c z] true (.recv false) w es:=by
  have hrun:(execOp e.ev ⟨some d,.recv t ch false,ty,pos,af,g⟩).run P w=.ok (.comm #[Go.Conc.rcase c z] true (.recv false)) w:=by
   simp[execOp,run_underlying hT,eX hz,hch,Go.Conc.rcase]
  show ∃es,stepG P true { frame:=b.atR a (.inRegion ops (j::js)::k),callers:=cs,status:=.running,dying:=none } w=_
  refine zm ?_
  rw[hs]
  simp[stepG.apply,hrun,Go.Conc.G]
 obtain⟨es,hcm⟩:=hcm
 have h1:=Go.Conc.step_lone_recv_buf false hcm hb (by simp)
 refine .step h1 ?_
 have e2:Go.Conc.got false ((v::vs).toArray.getD 0 undef) true=v:=by simp[Go.Conc.got]
 have e1:(v::vs).toArray.extract 1 (v::vs).toArray.size=vs.toArray:=by simp
 rw[e2,e1]
 rw[show Go.Conc.solo (Go.Conc.G ((b.atR a (.inRegion ops (j::js)::k)).finish v) cs) (w.setChan c cap vs.toArray false s (r+1) false)=lone ((b.atR a (.inRegion ops (j::js)::k)).finish v) cs (w.setChan c cap vs.toArray false s (r+1) false)from rfl,gK a js k ho v]
 have hw2:=hw.write hL (.chan cap vs.toArray false s (r+1) false)
 have hdn:d<n:=vQ hd
 exact t' _ hw2 js hj (a.put (some d) v) cs Φ (by rw[nS];exact hn) (by rw[oI _ _ _ (hn▸hdn),he]) (by rw[lX];exact hds) hF
end comm
section runs2
variable {P:Program} {e:Env} {X:Cx} {h:HF} {L:LH} {d:Option Nat} {ty:TypeId} {pos:String} {af:Array Edge} {g:Option (Nat×Bool)}
theorem QP{t:TypeId}{ch:Operand}{c cap s r:Nat}(hT:P.underlying t=some (.chan dir E))(hL:(c,Obj.chan cap vs.toArray false s r false)∈L)(hch:e.ev ch=.chan (some c)):
  ∀w,St X h L w->(execOp e.ev ⟨d,.call ⟨.builtin .len,#[ch],#[t]⟩,ty,pos,af,g⟩).run P w=.ok (.value (.int .i64 (vs.length:Nat))) w:=λw hw=>by
 have hb:w.heap[c]? = some (.chan cap vs.toArray false s r false):=hw.own _ hL
 have hg:(getObj c).run P w=.ok (.chan cap vs.toArray false s r false) w:=by simp[getObj,Up,hb]
 simp[execOp,resolve,invoke,builtin,Builtin.len_,hch,run_underlying hT,hg,goInt]
end runs2
theorem Jg{R:Rp α}{h:HF}{L:LH}{t:TypeId}{ys:List α}{cap:Nat}{x:Value}(hw:St X h L w)(hT:P.underlying t=some (.slice E))(hS:tySz P E=some (R.sz,a))(hz:zeroC P E=some zs)(hzl:zs.length=R.sz)(hby:bytesOf P E=some vx)(hs1:Src R h L (.slice base xs.length cap) xs)(hsrc:Src R h L x ys)(hcap:cap<xs.length+ys.length)(hb:(xs.length+ys.length)*vx<=140737488355328)(hb2:xs.length+ys.length<=9223372036854775807):
  ∃base' cap' G' w',(Builtin.append_ #[t,t] ty #[.slice base xs.length cap,x]).run P w=.ok (.slice base' (xs++ys).length cap') w'/\du R E h (xs++ys) base' cap' G'/\St X h (G'++L) w':=by
 obtain⟨i,hi,hby'⟩:∃i,P.info? E=some i/\i.bytes=vx:=by
  unfold bytesOf at hby
  cases hi:P.info? E with
  |none=>simp[hi]at hby
  |some i=>exact⟨i,rfl,by simpa[hi]using hby⟩
 have hsz:i.size=R.sz:=by
  have:=fw hS w
  simpa[sizeOf,typeInfo,hi]using this
 obtain⟨z,hzz,hzc⟩:∃z,i.zero=some z/\z.cells=zs.toArray:=by
  unfold zeroC at hz
  cases hzz:i.zero with
  |none=>simp[hi,hzz]at hz
  |some z=>exact⟨z,rfl,by simp[hi,hzz]at hz;rw[lC,hz]⟩
 have hnewlen:(xs++ys).length=xs.length+ys.length:=by simp
 have hroom:¬xs.length+ys.length<=cap:=by omega
 have hwd:St X h L w.drew:=hw.drew _
 obtain⟨cl0,b0,c0,hx0,hc0,hf0⟩:=yp (P:=P) hs1 hwd
 obtain⟨cl',b1,c1,hx',hc',hf'⟩:=yp (P:=P) hsrc hwd
 have hfit:Builtin.nextslicecap (xs.length+ys.length) cap*i.bytes<=281474976710656:=growslice_fits hcap (by rw[hby'];exact hb)
 have h48':¬(281474976710656<Builtin.nextslicecap (xs.length+ys.length) cap*i.bytes):=by omega
 have h63':¬(9223372036854775807<((xs.length:Int)+(ys.length:Int))):=by omega
 have hge:=grownCap_ge w (xs.length+ys.length) cap E
 let nc:=grownCap w (xs.length+ys.length) cap E
 let rest:=(Builtin.zeroCells z.cells (nc-(xs.length+ys.length))).toList
 refine⟨some ⟨w.heap.size,0,none⟩,nc,[(w.heap.size,.cells ((cl0++cl')++rest).toArray E (0,0))],w.drew.alloc (.cells ((cl0++cl')++rest).toArray E),?_,?_,?_⟩
 .subst hx'
  rw[←hsz]at hf0 hf'
  simp[Builtin.append_,run_underlying hT,sizeOf,typeInfo,zeroValue,hi,hzz,Builtin.lenOf,hroom,h63',h48',Question.forced,hf0,hf',newRow,grownCap,nc,rest]
  congr 2
  apply Sd
  simp
 .refine .inr ⟨w.heap.size,cl0++cl',rest,rfl,bz.app hc' hc0,?_,by rw[hnewlen];exact hge,by rw[hnewlen];exact hb2,rfl⟩
  have:rest.length=(nc-(xs.length+ys.length))*R.sz:=by
   simp[rest,Builtin.zeroCells,hzc,hzl]
  simp only[jA,this,hc0.len,hc'.len,←Nat.add_mul]
  congr 1
  omega
 .exact hwd.alloc (.cells ((cl0++cl')++rest).toArray E (0,0))
section steps3
variable {P:Program} {b:Frame} {n:Nat} {ops:Array Oper} {F:List Frame->(Machine->Prop)->Prop} {e:Env} {ds:List Deferred} {X:Cx} {h:HF} {L:LH} {K:Env->HF->LH->Prop}
variable {d:Option Nat} {ty:TypeId} {pos:String} {af:Array Edge} {g:Option (Nat×Bool)}
theorem Hc{R:Rp α}{t:TypeId}{s:Operand}{ys:List α}{cap:Nat}(hT:P.underlying t=some (.slice E))(hS:tySz P E=some (R.sz,a))(hz:zeroC P E=some zs)(hzl:zs.length=R.sz)(hby:bytesOf P E=some vx)(hs1:Src R h L (.slice base xs.length cap) xs)(hx:e.ev s=.slice base m cap)(hm:m=xs.length)(hsrc:Src R h L (e.ev y) ys)(hcap:cap<xs.length+ys.length)(hb:(xs.length+ys.length)*vx<=140737488355328)(hb2:xs.length+ys.length<=9223372036854775807)(t':∀base' cap' G',du R E h (xs++ys) base' cap' G'->K (pute e d (.slice base' (xs++ys).length cap')) h (G'++L))(hgd:guardB ops e ⟨d,.call ⟨.builtin .append,#[s,y],#[t,t]⟩,ty,pos,af,g⟩=true:=by rfl):Stp P b n ops F ds X ⟨d,.call ⟨.builtin .append,#[s,y],#[t,t]⟩,ty,pos,af,g⟩ e h L K:=
 gT hgd λw hw=>by
  subst hm
  obtain⟨base',cap',G',w',hr,hG',hst⟩:=Jg (P:=P) (ty:=ty) hw hT hS hz hzl hby hs1 hsrc hcap hb hb2
  refine⟨_,w',h,_,?_,hst,t' _ _ _ hG'⟩
  simp[execOp,resolve,invoke,builtin,hx,hr]
theorem MS{t:TypeId}{len:Nat}{cells:List Value}(hXM:∀b∈X.M,b<X.w0.heap.size)(hT:P.underlying t=some (.slice E))(hS:tySz P E=some (sz,a))(hz:zeroC P E=some zs)(hpos:qS 0 (len*sz)=true)(hlt:Ur (len*sz) 16777216=true)(hc:Instr.fill (λi=>some (i*sz,sz)) ((Array.range (len*sz)).map (zs.toArray[·%zs.toArray.size]!)) (parts.toList.map λp=>(p.1,e.ev p.2))=some cells.toArray)(t':∀bk,bk∉X.M->K (pute e d (.slice (some ⟨bk,0,none⟩) len len)) h ((bk,.cells cells.toArray E (0,0))::L))(hg:guardB ops e ⟨d,.buildSlice t len parts,ty,pos,af,g⟩=true:=by rfl):Stp P b n ops F ds X ⟨d,.buildSlice t len parts,ty,pos,af,g⟩ e h L K:=
 gT hg λw hw=>by
  obtain⟨z,h1,h2⟩:=se hz w
  have hp:=oy hpos
  have hl:=vQ hlt
  have hparts:(parts.map λx=>(x.1,e.ev x.2)).toList=parts.toList.map λp=>(p.1,e.ev p.2):=by simp
  refine⟨_,_,h,_,?_,hw.alloc _,t' _ (λhm=>by have:=hXM _ hm;have:=hw.size;omega)⟩
  have hne:¬len*sz=0:=by omega
  have hnl:¬len*sz>2 ^ 24:=by omega
  simp only[execOp,Instr.buildSlice,xP,run_underlying hT,zM,fw hS,hnl,hne,if_false,h1,h2,S5,hparts]
  rw[hc]
  simp[newRow]
theorem HX(A Q:LH){t:Nat}{Φ:LH->Prop}(hL:L.Perm (A++Q))(hs:mu P fv vs.toArray h A (λx h' B=>x=.returned (.tuple #[])/\h'=h/\Φ B))(hf:e t=fv)(hvs:ass.toList.map e.ev=vs)(t':∀B,Φ B->K (pute e d (.tuple #[])) h (B++Q))(hg:guardB ops e ⟨d,.call ⟨.value (.tmp t),ass,ats⟩,ty,pos,af,g⟩=true:=by rfl):Stp P b n ops F ds X ⟨d,.call ⟨.value (.tmp t),ass,ats⟩,ty,pos,af,g⟩ e h L K:=by
 unfold Stp
 rw[if_pos hg]
 intro w hw
 have hw':=hw.perm hL
 have harr:ass.map e.ev=vs.toArray:=Sd (by simp[←hvs])
 obtain⟨nx,hrun,hcall⟩:=hs w (Pre.left (A:=A) hw'.pre)
 have hr:(execOp e.ev ⟨d,.call ⟨.value (.tmp t),ass,ats⟩,ty,pos,af,g⟩).run P w=.ok nx w:=by
  rw[←hrun]
  simp[execOp,resolve,T6,harr,hf]
 rw[hr]
 refine lr (mV hcall) (hcall.mono ?_)
 rintro x w' ⟨h',B,hst,rfl,rfl,hB⟩
 exact⟨h',_,Tg (A:=A) (F:=Q) hw' hst,t' B hB⟩
theorem BV{o:Oper}(hp:L.Perm L')(t:Stp P b n ops F ds X o e h L' K)(hg:guardB ops e o=true:=by rfl):Stp P b n ops F ds X o e h L K:=by
 unfold Stp at t ⊢
 rw[if_pos hg]at t ⊢
 exact λw hw=>t w (hw.perm hp)
end steps3
section runs3
variable {P:Program} {e:Env} {X:Cx} {h:HF} {L:LH} {d:Option Nat} {ty:TypeId} {pos:String} {af:Array Edge} {g:Option (Nat×Bool)}
theorem QS{t:TypeId}{hi mx:Operand}{cap:Nat}(hT:P.underlying t=some (.slice E))(hS:tySz P E=some (sz,a))(hx:e.ev x=.slice base n cap)(hhi:e.ev hi=.int .i64 (n:Nat))(hmx:e.ev mx=.int .i64 (n:Nat))(hc:n<=cap):
  ∀w,St X h L w->(execOp e.ev ⟨d,.slice t x none (some hi) (some mx),ty,pos,af,g⟩).run P w=.ok (.value (.slice base n n)) w:=λw hw=>by
 by_cases h0:n=0
 .subst h0
  simp[execOp,Instr.sliceAt,Instr.slice,Instr.sliceBounds,Instr.sliceBound,hx,hhi,hmx,asIntOf,run_underlying hT,fw hS,hc]
 .simp[execOp,Instr.sliceAt,Instr.slice,Instr.sliceBounds,Instr.sliceBound,hx,hhi,hmx,asIntOf,run_underlying hT,fw hS,hc,h0,vS]
end runs3
theorem pB.del{κ α : Type}{enc:κ->Value}{V:HF->Value->α->Prop}{h:HF}[DecidableEq κ]{k:κ}:∀{es:List MapEntry}{m:List (κ×α)}(j:Nat),pB enc V h es m ->
  match findIn k (m.map (·.1)) es j with
  |some (i,_)=>j<=i/\i-j<es.length/\pB enc V h (es.eraseIdx (i-j)) (mdel m k)
  |none=>pB enc V h es (mdel m k)
 |[],[],_,_=>trivial
 |e::es,(k',v)::m,j,⟨a,b,c⟩=>by
  simp only[kH,findIn,mdel]
  by_cases hk:k=k'
  .simp only[hk,if_true]
   refine⟨jG _,by simp,?_⟩
   rw[Nat.sub_self];exact c
  .simp only[hk,if_false]
   have ih:=pB.del (k:=k) (j+1) c
   cases hf:findIn k (m.map (·.1)) es (j+1)with
   |none=>rw[hf]at ih;exact⟨a,b,ih⟩
   |some p=>
    obtain⟨i,u⟩:=p
    rw[hf]at ih
    obtain⟨h1,h2,h3⟩:=ih
    have e1:i-j=(i-(j+1))+1:=by omega
    refine⟨by omega,by simp;omega,?_⟩
    rw[e1,List.eraseIdx_cons_succ];exact⟨a,b,h3⟩
 |[],_::_,_,x=>x.elim
 |_::_,[],_,x=>x.elim
section del
variable {P:Program} {b:Frame} {n:Nat} {ops:Array Oper} {F:List Frame->(Machine->Prop)->Prop} {e:Env} {ds:List Deferred} {X:Cx} {h:HF} {L:LH} {K:Env->HF->LH->Prop}
variable {d:Option Nat} {ty:TypeId} {pos:String} {af:Array Edge} {g:Option (Nat×Bool)} {κ α : Type} {enc:κ->Value} {V:HF->Value->α->Prop} [DecidableEq κ]
end del
theorem yt{α : Type}[DecidableEq α]:∀{a b:List α},a.Nodup->(∀x∈a,x∈b)->a.length<=b.length
 |[],b,_,_=>qM _
 |x::a,b,hn,hs=>by
  rw[xR]at hn
  have hx:x∈b:=hs x (jB ..)
  have ih:=yt (b:=b.erase x) hn.2 (λy hy=>by
   have hne:y≠x:=λe=>hn.1 (e▸hy)
   rw[List.mem_erase_of_ne hne];exact hs y (xB _ hy))
  rw[List.length_erase_of_mem hx]at ih
  have:=List.length_pos_of_mem hx
  simp only[xA]
  omega
section frz
variable {P:Program} {b:Frame} {n:Nat} {k:List Item} {F:List Frame->(Machine->Prop)->Prop} {e:Env} {ds:List Deferred} {X:Cx} {h:HF} {L:LH}
theorem Ef(A G Q:LH)(hL:L=A++(G++Q))(hM:X.M=[])(t:∀h2,h.le h2->(∀p∈G,h2 p.1=some p.2)->TT P b n todo F e ds X h2 (A++Q)):TT P b n todo F e ds X h L:=by
 subst hL
 intro w hw
 obtain⟨h1,h2,h3⟩:=hw.freezeMid hM
 exact t _ h2 h3 w h1
theorem PE(sl:ι->List (Nat×Value))(hh:ι->HF)(LL:ι->LH)(I:ι->Prop)(hk:∀i,I i->∀e',TT P b n k F (upds e' (sl i)) ds X (hh i) (LL i))(t':(∀i e',I i->i5 e' (sl i)->TT P b n k F e' ds X (hh i) (LL i))->TT P b n (.code c::k) F e ds X h L):TT P b n (.code c::k) F e ds X h L:=
 t' λi e' hI hr=>by have:=hk i hI e';rw[hr.upds]at this;exact this
end frz
end
section
def attR:Except Int Unit->Int
 |.ok _=>0
 |.error e=>e
def idxByte(s:ByteArray)(c:Int):Int:=match(List.range s.size).find? (λi=>s[i]! == UInt8.ofNat c.toNat)with
 |some i=>(i:Nat)
 |none=>-1
def bsI(xs:List Int)(t:Int):Int:=((xs.countP (·<t):Nat):Int)
def slices_BinarySearch_int(x:List Int)(target:Int):Int×Bool:=(bsI x target,x.contains target)
def insI(x:Int):List Int->List Int
 |[]=>[x]
 |y::l=>bif decide (x<=y)then x::y::l else y::insI x l
def sortI:List Int->List Int
 |[]=>[]
 |x::l=>insI x (sortI l)
theorem Co(x:Int):∀l,(insI x l).Perm (x::l)
 |[]=>List.Perm.refl _
 |y::l=>by
  simp only[insI,Bool.cond_eq_ite]
  split
  .exact List.Perm.refl _
  .exact(List.Perm.cons y (Co x l)).trans (List.Perm.swap x y l)
theorem lS:∀xs,(sortI xs).Perm xs
 |[]=>List.Perm.refl _
 |x::l=>(Co x _).trans (List.Perm.cons x (lS l))
theorem iM(xs:List Int):(sortI xs).length=xs.length:=(lS xs).length_eq
theorem C6(x:Int):∀l:List Int,l.Pairwise (·<=·)->(insI x l).Pairwise (·<=·)
 |[],_=>by simp[insI]
 |y::l,h=>by
  rw[List.pairwise_cons]at h
  simp only[insI,Bool.cond_eq_ite,decide_eq_true_eq]
  split
  .next hxy=>
   rw[List.pairwise_cons]
   refine⟨λz hz=>?_,List.pairwise_cons.2 h⟩
   rcases qC.1 hz with rfl|hz
   .exact hxy
   .exact Int.le_trans hxy (h.1 z hz)
  .next hxy=>
   rw[List.pairwise_cons]
   refine⟨λz hz=>?_,C6 x l h.2⟩
   rcases qC.1 ((Co x l).mem_iff.1 hz)with rfl|hz
   .omega
   .exact h.1 z hz
theorem mw:∀xs,(sortI xs).Pairwise (·<=·)
 |[]=>List.Pairwise.nil
 |x::l=>C6 x _ (mw l)
theorem wS:∀{a b:List Int},a.Pairwise (·<=·)->b.Pairwise (·<=·)->a.Perm b->a=b
 |[],b,_,_,p=>(List.Perm.nil_eq p)
 |x::a,[],_,_,p=>absurd p.length_eq (by simp)
 |x::a,y::b,ha,hb,p=>by
  have hx:x=y:=by
   have h1:x∈y::b:=p.mem_iff.1 (jB ..)
   have h2:y∈x::a:=p.mem_iff.2 (jB ..)
   rw[List.pairwise_cons]at ha hb
   rcases qC.1 h1 with e|h1
   .exact e
   .rcases qC.1 h2 with e|h2
    .exact e.symm
    .have:=ha.1 y h2;have:=hb.1 x h1;omega
  subst hx
  rw[List.pairwise_cons]at ha hb
  rw[wS ha.2 hb.2 (List.Perm.cons_inv p)]
theorem I2{xs ys:List Int}(p:xs.Perm ys):sortI xs=sortI ys:=
 wS (mw _) (mw _) ((lS xs).trans (p.trans (lS ys).symm))
def insS(x:OSeat):List OSeat->List OSeat
 |[]=>[x]
 |y::l=>bif decide (x.person<=y.person)then x::y::l else y::insS x l
def seatS:List OSeat->List OSeat
 |[]=>[]
 |x::l=>insS x (seatS l)
theorem Cm(x:OSeat):∀l,(insS x l).Perm (x::l)
 |[]=>List.Perm.refl _
 |y::l=>by
  simp only[insS,Bool.cond_eq_ite]
  split
  .exact List.Perm.refl _
  .exact(List.Perm.cons y (Cm x l)).trans (List.Perm.swap x y l)
theorem u9:∀xs,(seatS xs).Perm xs
 |[]=>List.Perm.refl _
 |x::l=>(Cm x _).trans (List.Perm.cons x (u9 l))
theorem C5(x:OSeat):∀l:List OSeat,l.Pairwise (λa b=>a.person<=b.person)->(insS x l).Pairwise (λa b=>a.person<=b.person)
 |[],_=>by simp[insS]
 |y::l,h=>by
  rw[List.pairwise_cons]at h
  simp only[insS,Bool.cond_eq_ite,decide_eq_true_eq]
  split
  .next hxy=>
   rw[List.pairwise_cons]
   refine⟨λz hz=>?_,List.pairwise_cons.2 h⟩
   rcases qC.1 hz with rfl|hz
   .exact hxy
   .exact Int.le_trans hxy (h.1 z hz)
  .next hxy=>
   rw[List.pairwise_cons]
   refine⟨λz hz=>?_,C5 x l h.2⟩
   rcases qC.1 ((Cm x l).mem_iff.1 hz)with rfl|hz
   .omega
   .exact h.1 z hz
theorem AN:∀xs,(seatS xs).Pairwise (λa b=>a.person<=b.person)
 |[]=>List.Pairwise.nil
 |x::l=>C5 x _ (AN l)
theorem Ii(xs:List Int):(xs.mergeSort λx y=>decide (x<=y))=sortI xs:=by
 have h:=List.pairwise_mergeSort (le:=λx y:Int=>decide (x<=y)) (λa b c h1 h2=>by simp at *;omega) (λa b=>by simp;omega) xs
 exact wS (h.imp (λh=>by simpa using h)) (mw _) ((List.mergeSort_perm _ _).trans (lS xs).symm)
theorem xj{κ α : Type}[DecidableEq κ]{P:α->Prop}:∀{m:List (κ×α)}(k:κ){v:α},(∀p∈m,P p.2)->P v->∀p∈mput m k v,P p.2
 |[],k,v,_,hv,p,hp=>by simp[mput]at hp;subst hp;exact hv
 |(k',v')::m,k,v,h,hv,p,hp=>by
  simp only[mput]at hp
  split at hp
  .rcases qC.1 hp with rfl|hp
   .exact hv
   .exact h p (xB _ hp)
  .rcases qC.1 hp with rfl|hp
   .exact h _ (jB ..)
   .exact xj k (λq hq=>h q (xB _ hq)) hv p hp
theorem JH{κ α : Type}[DecidableEq κ]{P:α->Prop}:∀{m:List (κ×α)}(k:κ){v:α},(∀p∈m,P p.2)->mget? m k=some v->P v
 |[],k,v,_,h=>by simp[mget?]at h
 |(k',v')::m,k,v,h,hg=>by
  simp only[mget?]at hg
  split at hg
  .cases hg;exact h (k',v') (jB ..)
  .exact JH k (λq hq=>h q (xB _ hq)) hg
theorem yu{κ:Type}[DecidableEq κ]{P:α->Prop}{m:List (κ×α)}(k:κ){z:α}(h:∀p∈m,P p.2)(hz:P z):P (mgetD m k z):=by
 unfold mgetD
 cases hg:mget? m k with
 |none=>exact hz
 |some v=>exact JH k h hg
def compStep(out:List Int)(x:Int):List Int:=if out.getLast? = some x then out else out++[x]
def compI(xs:List Int):List Int:=xs.foldl compStep []
def slices_Compact_int(xs:List Int):List Int:=compI xs
end
variable {sp:List Go.Value}
section
def RdN{α : Type}(l:Nat)(lp:Loop)(I:List α->HF->LH->Prop)(J:Code->HF->LH->Prop)(Pn:List PanicEntry->HF->LH->Prop)(done:List α)(x:α)(r':Ending)(h:HF)(B:LH):Prop:=
 (r'=.returned (.bool true)/\∃L',B=(l,.loop { lp with state:=.ready,pending:=none })::L'/\I (done++[x]) h L') \/
 (r'=.returned (.bool false)/\∃c L',B=(l,.loop { lp with state:=.done,pending:=some c })::L'/\J c h L') \/
 (∃ch,r'=.panicked ch/\∃lp' L',B=(l,.loop lp')::L'/\Pn ch h L')
section
variable {α : Type} {P:Program} {l:Nat} {f:FuncId} {n:Nat} {k:List Item} {e:Env} {X:Cx} {h:HF} {L:LH} {lp lp':Loop} {fn:Func} {I:List α->HF->LH->Prop} {J:Code->HF->LH->Prop} {Pn:List PanicEntry->HF->LH->Prop} {done:List α} {x:α}
theorem LZ(hlp:lp'={ lp with state:=.busy })(hI:I (done++[x]) h L):TT P (roundFrame l f) n [] (lQ P X (RdN l lp I J Pn done x)) e [] X h ((l,.loop lp')::L):=
 LR 0 rfl (.inl ⟨rfl,L,by rw[hlp];rfl,hI⟩)
end
theorem MJ{l0:Nat}{lp0:Loop}{F:List Frame->(Machine->Prop)->Prop}{h:HF}{L:LH}{val:α->HF->List Value->Prop}(i0:Nat)(hl0:nth L i0=some (l0,.loop lp0))(I:List α->HF->LH->Prop)(hgv:e.ev g=it)(hit:Itr P it val xs h)(hps:ps.all (λp=>qS p n)=true)(hval:∀x h vs,val x h vs->vs.length=ps.length)(hIm:∀done h1 h2 B,xN h1 h2->I done h1 B->I done h2 B)(h0:I [] h L)(round:∀l lp done x rest vs h' L' X',xs=done++x::rest->h.le h'->I done h' L'->val x h' vs->lp.state=.ready->X'.h0=h'->(∀b∈X'.M,b<X'.w0.heap.size) ->
   TT P (roundFrame l f) n [.code assign,.beginRound,.code body] (lQ P X' (RdN l lp I (λ_ _ _=>False) (λ_ _ _=>False) done x)) (setParams e ps vs) [] X' h' ((l,.loop lp)::L'))(next:∀h' L',h.le h'->I xs h' L'->TT P (roundFrame l0 f) n k F e ds X h' L'):
  TT P (roundFrame l0 f) n (.code (.rangeFunc g ps.toArray assign body)::k) F e ds X h L:=by
 obtain⟨f0,cap,rfl,hc0,hit⟩:=hit
 intro w hw a cs Φ hn he hds hF
 let l:=w.heap.size
 have hb0:w.heap[l0]? = some (.loop lp0):=qX hw hl0
 let lp:Loop:={ state:=.ready,pending:=none,fn:=f,tmps:=a.tmps,params:=ps.toArray,assign,body,defers:=lp0.defers }
 let w2:World:={ w with heap:=w.heap.push (.loop lp) }
 have hw2:St X h ((l,.loop lp)::L) w2:=hw.alloc _
 have henter:(Ua (roundFrame l0 f).fn a.tmps ps.toArray assign body (roundFrame l0 f).roundOf).run P w=.ok (l,[]) w2:=by
  have:=run_enterLoop_inner (P:=P) hb0 f a.tmps ps.toArray assign body
  exact this
 let C:List α->HF->LH->Prop:=λdone h' B=>∃L',B=(l,.loop lp)::L'/\I done h' L'
 let Sp:HF->LH->Prop:=λ_ _=>False
 let Pm:List PanicEntry->HF->LH->Prop:=λ_ _ _=>False
 have hps':∀p∈ps,p<n:=λp hp=>oy (R6.1 hps p hp)
 have hy:∀done x rest vs h'' B,xs=done++x::rest->h.le h''->C done h'' B->val x h'' vs->mu P (.func (.yield l) #[] #[]) vs.toArray h'' B (YR C Sp Pm done x):=by
  rintro done x rest vs h'' B hxs hle ⟨L',rfl,hI⟩ hv
  refine mu.mono (R:=RdN l lp I (λ_ _ _=>False) (λ_ _ _=>False) done x) (wR (i:=0) (lp:=lp) rfl (by simp[lp];exact hval x h'' vs hv) ?_) ?_
  .intro X' _ hX' hXM'
   have henv:envOf { tmps:=(ps.toArray.zip vs.toArray).foldl (λtmps p=>tmps.setIfInBounds p.1 p.2) a.tmps,defers:=[] }=setParams e ps vs:=by
    have:=rS ps vs a.tmps a.defers hn hps'
    rw[←he]
    rw[←Ue]
    simpa using this
   have:=round l lp done x rest vs h'' L' X' hxs hle hI hv rfl hX' hXM'
   rw[←henv,←hn]at this
   exact this
  .rintro x' h3 B' _ (⟨e1,L2,e2,h2⟩|⟨e1,c,L2,e2,h2⟩|⟨ch,e1,lp',L2,e2,h2⟩)
   .exact .inl ⟨e1,L2,e2,h2⟩
   .exact h2.elim
   .exact h2.elim
 have hs:=hit (.yield l) #[] #[] C Sp Pm h ((l,.loop lp)::L) (xM h) (λ_ _ _ _ hl⟨L',e1,hi⟩=>⟨L',e1,hIm _ _ _ _ hl hi⟩) (λ_ _ _ _ hi=>hi) (λ_ _ _ _ _ hi=>hi) ⟨L,rfl,h0⟩ hy
 obtain⟨nx,hrun,hcall⟩:=hs w2 hw2.pre
 have hev:a.eval g=e.ev g:=by rw[jt,he]
 have hnx:nx=.enter f0 (Value.func (.yield l) #[] #[]::cap).toArray:=by
  simp[xJ,invoke,hc0]at hrun
  simpa using hrun.symm
 subst hnx
 have hres:(resolve a.eval (rangeCall g l) 0).run P w2=.ok { target:=.fn (.func f0) cap.toArray,args:=#[.func (.yield l) #[] #[]] } w2:=by
  have hcst:∀v,a.eval (.const v)=v:=λ_=>rfl
  simp[resolve,rangeCall,hev,hgv,hcst,xJ]
 have hinv:(invoke (.fn (.func f0) cap.toArray) #[.func (.yield l) #[] #[]]).run P w2=.ok (.enter f0 (Value.func (.yield l) #[] #[]::cap).toArray) w2:=by
  simp[invoke,hc0]
 have hback:∀v w3,(∃h' B,St ⟨w2,h,((l,Obj.loop lp)::L).map (·.1)⟩ h' B w3/\ItR C Sp Pm xs (.returned v) h' B) ->
   To P Φ (lone (((roundFrame l0 f).atR { a with defers:=[]++a.defers } (.inRangeFunc l::k)).finish v) cs w3):=by
  rintro v w3 ⟨h',B,hst,hR⟩
  rw[finish_atR_inRangeFunc]
  have hS3:St X h' B w3:=by
   have:=Tg (A:=(l,.loop lp)::L) (F:=[]) (by simpa using hw2) hst
   simpa using this
  have hle:=hst.le
  rcases hR with⟨_,hCS⟩|⟨ch,hx,_⟩
  .rcases hCS with⟨L',rfl,hI⟩|hF
   .have hb:w3.heap[l]? = some (.loop lp):=hS3.own _ (jB ..)
    have hend:(Instr.endLoop l).run P w3=.ok none { w3 with heap:=w3.heap.setIfInBounds l (.loop { lp with state:=.exhausted }) }:=by
     simp[Instr.endLoop,Tr,getObj,setObj,Up,hb,lp]
    refine .step (stepR_endRangeFunc hend) ?_
    have hS4:=hS3.write (i:=0) rfl (.loop { lp with state:=.exhausted })
    exact next h' L' hle hI _ (hS4.sub (List.sublist_cons_self ..)) a cs Φ hn he hds hF
   .exact hF.elim
  .cases hx
 have hraise:∀ch w3,(∃h' B,St ⟨w2,h,((l,Obj.loop lp)::L).map (·.1)⟩ h' B w3/\ItR C Sp Pm xs (.panicked ch) h' B) ->
   To P Φ (lone (((roundFrame l0 f).atR { a with defers:=[]++a.defers } (.inRangeFunc l::k)).raise ch) cs w3):=by
  rintro ch w3 ⟨h',B,hst,hR⟩
  rcases hR with⟨hx,_⟩|⟨ch',hx,hP⟩
  .cases hx
  .exact hP.elim
 refine .step (stepR_rangeFunc henter hres hinv) ?_
 exact hcall _ cs Φ hback hraise
def HF.lend(h:HF)(L:LH):HF:=λb=>match L.find? (λp=>p.1==b)with|some p=>some p.2|none=>h b
theorem HF.JK{h:HF}:∀{L:LH},(L.map (·.1)).Nodup->∀p∈L,h.lend L p.1=some p.2
 |[],_,p,hp=>(kA hp).elim
 |q::L,hd,p,hp=>by
  rw[kH,xR]at hd
  rcases qC.1 hp with rfl|hp
  .simp[HF.lend]
  .have hne:(q.1==p.1)=false:=by
    rw[beq_eq_false_iff_ne];intro e;exact hd.1 (e▸List.mem_map_of_mem hp)
   have:=HF.JK (h:=h) hd.2 p hp
   simpa[HF.lend,List.find?_cons,hne]using this
theorem HF.PY{h:HF}{L:LH}(hf:∀p∈L,h p.1=none):h.le (h.lend L):=λb o hb=>by
 unfold HF.lend
 cases hq:L.find? (λp=>p.1==b)with
 |none=>exact hb
 |some p=>
  have h1:=List.mem_of_find?_eq_some hq
  have h2:p.1=b:=by simpa using List.find?_some hq
  rw[←h2,hf p h1]at hb;cases hb
section steps
variable {P:Program} {b:Frame} {n:Nat} {ops:Array Oper} {F:List Frame->(Machine->Prop)->Prop} {e:Env} {ds:List Deferred} {X:Cx} {h:HF} {L:LH} {K:Env->HF->LH->Prop}
variable {d:Option Nat} {ty:TypeId} {pos:String} {af:Array Edge} {g:Option (Nat×Bool)}
theorem Od(hc:∀args w,(callFunc f args).run P w=.ok (.enter f args) w)(hs:∀h1,h.le h1->(∀p∈L,h1 p.1=some p.2)->Ret P f vs h1 v)(hvs:ass.toList.map e.ev=vs)(t':K (pute e d v) h L)(hg:guardB ops e ⟨d,.call ⟨.value (.func f),ass,ats⟩,ty,pos,af,g⟩=true:=by rfl):
  Stp P b n ops F ds X ⟨d,.call ⟨.value (.func f),ass,ats⟩,ty,pos,af,g⟩ e h L K:=by
 unfold Stp
 rw[if_pos hg]
 intro w hw
 have harr:ass.map e.ev=vs.toArray:=Sd (by simp[←hvs])
 have hr:(execOp e.ev ⟨d,.call ⟨.value (.func f),ass,ats⟩,ty,pos,af,g⟩).run P w=.ok (.enter f vs.toArray) w:=by
  simp[execOp,resolve,T6,xJ,invoke,harr,hc]
 rw[hr]
 have hp1:Pre (h.lend L) [] w:=⟨λk o hk=>by
  unfold HF.lend at hk
  cases hq:L.find? (λp=>p.1==k)with
  |none=>rw[hq]at hk;exact hw.imm k o hk
  |some p=>
   rw[hq]at hk
   have h2:p.1=k:=by simpa using List.find?_some hq
   have h3:p.2=o:=by simpa using hk
   rw[←h2,←h3];exact hw.own p (List.mem_of_find?_eq_some hq),λ_ hp=>(kA hp).elim,SK,λ_ hp=>(kA hp).elim⟩
 refine lr (by simp) (je (rq.mono (hs _ (HF.PY hw.free) (HF.JK hw.dis) w hp1) ?_))
 rintro x w' ⟨h',B,hst,rfl,rfl,rfl⟩
 refine⟨h,L,⟨hst.os.trans hw.os,hst.tape.trans hw.tape,hst.output.trans hw.output,vT hw.size hst.size,λb' hb' hM=>?_,hw.le,hw.old,λb' o hb'=>?_,λp hp=>?_,hw.dis,hw.free,hw.new⟩,t'⟩
 .rw[hst.keep b' (TH hb' hw.size) (by simp)];exact hw.keep b' hb' hM
 .rw[hst.keep b' (gY (hw.imm b' o hb')) (by simp)];exact hw.imm b' o hb'
 .rw[hst.keep p.1 (gY (hw.own p hp)) (by simp)];exact hw.own p hp
end steps
section
variable {P:Program} {b:Frame} {n:Nat} {k:List Item} {F:List Frame->(Machine->Prop)->Prop} {e:Env} {ds:List Deferred} {X:Cx} {h:HF} {L:LH} {ops:Array Oper} {l:List Oper} {ty:TypeId} {pos:String} {af:Array Edge} {g:Option (Nat×Bool)}
theorem GW(hro:b.roundOf=none)(hvs:as.toList.map e.ev=vs)(t':TO P b n ops l k F e ({ target:=.fn (.func f) #[],args:=vs.toArray }::ds) X h L)(hg:guardB ops e ⟨none,.defer ⟨.value (.func f),as,ats⟩,ty,pos,af,g⟩=true:=by rfl):TO P b n ops (⟨none,.defer ⟨.value (.func f),as,ats⟩,ty,pos,af,g⟩::l) k F e ds X h L:=by
 intro w hw is hi a cs Φ hn he hds hF
 obtain⟨i,js,rfl,ho,hj⟩:=pg hi
 have hwt:=(fG (ops:=ops) he).trans hg
 have hst:=stepGR_op (P:=P) (b:=b) (k:=k) (cs:=cs) (w:=w) (rest:=js) ho hwt
 have harr:as.map e.ev=vs.toArray:=Sd (by simp[←hvs])
 have hr:(execOp a.eval ⟨none,.defer ⟨.value (.func f),as,ats⟩,ty,pos,af,g⟩).run P w=.ok (.defer { target:=.fn (.func f) #[],args:=vs.toArray }) w:=by
  rw[jt,he]
  simp[execOp,resolve,T6,xJ,harr]
 have hs:Oper.semAt b.roundOf a.eval ⟨none,.defer ⟨.value (.func f),as,ats⟩,ty,pos,af,g⟩=execOp a.eval ⟨none,.defer ⟨.value (.func f),as,ats⟩,ty,pos,af,g⟩:=by rw[hro];rfl
 refine .step (m₁:=lone (b.atR { a with defers:={ target:=.fn (.func f) #[],args:=vs.toArray }::a.defers } (.inRegion ops js::k)) cs w) ?_ (t' w hw js hj { a with defers:={ target:=.fn (.func f) #[],args:=vs.toArray }::a.defers } cs Φ hn he (by rw[hds]) hF)
 refine step_lone_go ?_
 have hfin:=gK (b:=b) { a with defers:={ target:=.fn (.func f) #[],args:=vs.toArray }::a.defers } js k ho undef
 rw[hst,hs]
 simp only[stepG.apply,Sem.runT_eq,hr,GStep.bare_after]
 exact congrArg (λfr=>GStep.go { frame:=fr,callers:=cs,status:=.running,dying:=none } w) hfin
end
theorem IW{g:FuncId}{h:HF}{L:LH}{R:Ending->HF->LH->Prop}{R':HF->LH->Prop}(hf:P.funcs[f]? = some fn)(hg:P.funcs[g]? = some gn)(hb:gn.body=some c)(hm:gn.ntmps=m)(hle:Ur cap.length m=true)(hc:∀args w,(callFunc g args).run P w=.ok (.enter g args) w)(t:∀X':Cx,X'.h0=h->TT P (deferFrame g) m [.code c] (F9 P X' .returning R') (envArgs cap) [] X' h A)(hL:L=A++Fr)(fin:∀h' B,h.le h'->R' h' B->∀a:Act,envOf a=e->∀w,St X h' (B++Fr) w->∃v h2 B2,(results fn a.tmps).run P w=.ok v w/\St X h2 B2 w/\R (.returned v) h2 B2):
  TT P (bodyFrame f) n (.code .ret::k) (lQ P X R) e [{ target:=.fn (.func g) #[],args:=cap.toArray }] X h L:=by
 intro w hw a cs Φ hn he hds hF
 obtain⟨cc,cs',rfl,h1,_⟩:=hF
 subst hL
 refine .step (stepR_ret rfl) ?_
 have hinv:(invoke (.fn (.func g) #[]) cap.toArray).run P w=.ok (.enter g cap.toArray) w:=by simp[invoke,hc]
 refine .step (step_defer (fr:={ (bodyFrame f).atR a (.code .ret::k)with mode:=.returning }) (by simp) hds rfl hinv) ?_
 have hle':=vQ hle
 have henter:Sb P g cap.toArray .deferred=(deferFrame g).atR { tmps:=cap.toArray++SM (m-cap.length) undef,defers:=[] } [.code c]:=by
  simp[Sb,S8,hg,hb,hm,deferFrame]
 rw[henter]
 refine t ⟨w,h,A.map (·.1)⟩ rfl w (Tf hw.pre.left) _ _ Φ (by simp;omega) (ow _ _) rfl ⟨_,cc::cs',rfl,rfl,?_⟩
 rintro w' ⟨h',B,hst,hR'⟩
 obtain⟨v,h2,B2,hv,hs2,hR⟩:=fin h' B hst.le hR' a he w' (hw.after hst)
 refine .step (ia (fn:=fn) (v:=v) rfl rfl rfl hf hv) ?_
 exact h1 v w' ⟨h2,B2,hs2,hR⟩
theorem AF{g:FuncId}{h:HF}{L:LH}{R:Ending->HF->LH->Prop}{R':HF->LH->Prop}(hf:P.funcs[f]? = some fn)(hg:P.funcs[g]? = some gn)(hb:gn.body=some c)(hm:gn.ntmps=m)(hle:Ur cap.length m=true)(hc:∀args w,(callFunc g args).run P w=.ok (.enter g args) w)(t:∀X':Cx,X'.h0=h->TT P (deferFrame g) m [.code c] (λcs Φ=>∃c rest,cs=c::rest/\c.mode=.panicking [{ v:=pv,recovered:=false }]/\F9 P X' (.panicking [{ v:=pv,recovered:=true }]) R' ({ c with mode:=.panicking [{ v:=pv,recovered:=true }] }::rest) Φ) (envArgs cap) [] X' h A)(hL:L=A++Fr)(fin:∀h' B,h.le h'->R' h' B->∀a:Act,envOf a=e->∀w,St X h' (B++Fr) w->∃v h2 B2,(results fn a.tmps).run P w=.ok v w/\St X h2 B2 w/\R (.returned v) h2 B2):
  TP P (bodyFrame f) n [{ v:=pv,recovered:=false }] (lQ P X R) e [{ target:=.fn (.func g) #[],args:=cap.toArray }] X h L:=by
 intro w hw a cs Φ todo hn he hds hF
 obtain⟨cc,cs',rfl,h1,_⟩:=hF
 subst hL
 have hinv:(invoke (.fn (.func g) #[]) cap.toArray).run P w=.ok (.enter g cap.toArray) w:=by simp[invoke,hc]
 refine .step (step_defer (fr:={ (bodyFrame f).atR a todo with mode:=.panicking [{ v:=pv,recovered:=false }] }) (by simp) hds rfl hinv) ?_
 have hle':=vQ hle
 have henter:Sb P g cap.toArray .deferred=(deferFrame g).atR { tmps:=cap.toArray++SM (m-cap.length) undef,defers:=[] } [.code c]:=by
  simp[Sb,S8,hg,hb,hm,deferFrame]
 rw[henter]
 refine t ⟨w,h,A.map (·.1)⟩ rfl w (Tf hw.pre.left) _ _ Φ (by simp;omega) (ow _ _) rfl ⟨_,cc::cs',rfl,rfl,_,cc::cs',rfl,rfl,?_⟩
 rintro w' ⟨h',B,hst,hR'⟩
 obtain⟨v,h2,B2,hv,hs2,hR⟩:=fin h' B hst.le hR' a he w' (hw.after hst)
 refine .step (ia (fn:=fn) (v:=v) rfl rfl rfl hf hv) ?_
 exact h1 v w' ⟨h2,B2,hs2,hR⟩
section
variable {P:Program} {b:Frame} {n:Nat} {k:List Item} {F:List Frame->(Machine->Prop)->Prop} {e:Env} {ds:List Deferred} {X:Cx} {h:HF} {L:LH}
theorem Ee(t:TT P b n (.code c::.inLoop c::k) F e ds X h L):TT P b n (.code (.loop c)::k) F e ds X h L:=
 λw hw a cs Φ h1 h2 h3 h4=>.step stepR_loop (t w hw a cs Φ h1 h2 h3 h4)
theorem AE(t:TT P b n (.code c::.inLoop c::k) F e ds X h L):TT P b n (.inLoop c::k) F e ds X h L:=
 λw hw a cs Φ h1 h2 h3 h4=>.step stepR_inLoop (t w hw a cs Φ h1 h2 h3 h4)
end
def XRH{ρ : Type}(pe:Int->Value)(x:Except Int ρ)(φ : ρ->Value->HF->Prop)(r:Ending)(h':HF)(B:LH):Prop:=
 B=[]/\match x with
  |.ok u=>∃v,r=.returned v/\φ u v h'
  |.error p=>r=.panicked [{ v:=pe p,recovered:=false }]
abbrev HG{ρ : Type}(P:Program)(f:FuncId)(args:List Value)(h:HF)(pe:Int->Value)(x:Except Int ρ)(φ : ρ->Value->HF->Prop):Prop:=nu P f args.toArray h [] (XRH pe x φ)
def exD{ρ : Type}[Inhabited ρ]:Except Int ρ->ρ
 |.ok r=>r
 |.error _=>default
def exOk{ρ : Type}:Except Int ρ->Prop
 |.ok _=>True
 |.error _=>False
theorem Ql[Inhabited ρ]{x:Except Int ρ}(h:exOk x):x=.ok (exD x):=by cases x with
 |ok r=>rfl
 |error p=>exact h.elim
section
variable {P:Program} {f:FuncId} {n:Nat} {k:List Item} {e:Env} {X:Cx} {h:HF} {L:LH} {fn:Func} {ρ : Type} {pe:Int->Value} {x:Except Int ρ} {φ : ρ->Value->HF->Prop}
theorem IV(ms:List Nat){u:ρ}(vs:List Value)(hf:P.funcs[f]? = some fn)(hr:fn.results=rs.toArray)(hv:tZ P e L rs vs)(hx:x=.ok u)(hφ : φ u (retVal vs) h):
  TT P (bodyFrame f) n (.code .ret::k) (lQ P X (XRH pe x φ)) e (marks ms) X h (L++markB ms):=
 uW ms (v:=retVal vs) hf (λa he w hw=>mB hr hv a he w hw) (λ_ hw=>hw.sub (List.nil_sublist _)) (by subst hx;exact⟨rfl,_,rfl,hφ⟩)
theorem IY(ms:List Nat){p:Int}(hf:P.funcs[f]? = some fn)(hx:x=.error p):
  TP P (bodyFrame f) n [{ v:=pe p,recovered:=false }] (lQ P X (XRH pe x φ)) e (marks ms) X h (L++markB ms):=
 HP ms hf (λ_ hw=>hw.sub (List.nil_sublist _)) (by subst hx;exact⟨rfl,rfl⟩)
end
section
variable {P:Program} {b:Frame} {n:Nat} {ops:Array Oper} {F:List Frame->(Machine->Prop)->Prop} {e:Env} {ds:List Deferred} {X:Cx} {h:HF} {L:LH} {K:Env->HF->LH->Prop}
variable {d:Option Nat} {ty:TypeId} {pos:String} {af:Array Edge} {g:Option (Nat×Bool)} {ρ : Type} {pe:Int->Value} {x:Except Int ρ} {φ : ρ->Value->HF->Prop}
theorem Jd(hc:∀args w,(callFunc f args).run P w=.ok (.enter f args) w)(hs:HG P f vs h pe x φ)(hvs:as.toList.map e.ev=vs)(t':∀u v h',x=.ok u->h.le h'->φ u v h'->K (pute e d v) h' L)(tp:∀p h',x=.error p->h.le h'->∀e',AgE ops ⟨d,.call ⟨.value (.func f),as,ats⟩,ty,pos,af,g⟩ e e'->TP P b n [{ v:=pe p,recovered:=false }] F e' ds X h' L)(hg:guardB ops e ⟨d,.call ⟨.value (.func f),as,ats⟩,ty,pos,af,g⟩=true:=by rfl):
  Stp P b n ops F ds X ⟨d,.call ⟨.value (.func f),as,ats⟩,ty,pos,af,g⟩ e h L K:=
 mO (A:=[]) (Fr:=L) hc hvs hs rfl (λv' h' B hle hR=>by
   obtain⟨rfl,hv⟩:=hR
   cases x with
   |ok u=>obtain⟨v,hv,hφ⟩:=hv;cases hv;exact t' _ _ _ rfl hle hφ
   |error p=>cases hv)
  (λch h' B hle hR=>by
   obtain⟨rfl,hv⟩:=hR
   cases x with
   |ok u=>obtain⟨v,hv,_⟩:=hv;cases hv
   |error p=>cases hv;exact tp _ _ rfl hle) hg
theorem MR[Inhabited ρ](hc:∀args w,(callFunc f args).run P w=.ok (.enter f args) w)(hs:HG P f vs h pe x φ)(hok:exOk x)(hvs:as.toList.map e.ev=vs)(t':∀v h',h.le h'->φ (exD x) v h'->K (pute e d v) h' L)(hg:guardB ops e ⟨d,.call ⟨.value (.func f),as,ats⟩,ty,pos,af,g⟩=true:=by rfl):
  Stp P b n ops F ds X ⟨d,.call ⟨.value (.func f),as,ats⟩,ty,pos,af,g⟩ e h L K:=
 Jd hc hs hvs (λu v h' hx hl hφ=>by subst hx;exact t' v h' hl hφ) (λp h' hx=>by subst hx;exact hok.elim) hg
theorem nT[Inhabited ρ]{enc:ρ->Value}(hc:∀args w,(callFunc f args).run P w=.ok (.enter f args) w)(hs:GK P f vs h (exW pe enc x))(hok:exOk x)(hvs:as.toList.map e.ev=vs)(t':K (pute e d (enc (exD x))) h L)(hg:guardB ops e ⟨d,.call ⟨.value (.func f),as,ats⟩,ty,pos,af,g⟩=true:=by rfl):
  Stp P b n ops F ds X ⟨d,.call ⟨.value (.func f),as,ats⟩,ty,pos,af,g⟩ e h L K:=
 mA hc hs hvs (λu hu=>by
  obtain⟨r,hr,rfl⟩:=ov hu
  subst hr;exact t') (λp hp=>by
  obtain⟨q,hq,_⟩:=mF hp
  subst hq;exact hok.elim) hg
end
abbrev Rx{α : Type}(P:Program)(f:FuncId)(args:List Value)(h:HF)(R:Rp α)(E:TypeId)(xs:List α):Prop:=
 nu P f args.toArray h [] (λr h' G=>h'=h/\∃b c,r=.returned (.slice b xs.length c)/\du R E h xs b c G)
section
variable {P:Program} {f:FuncId} {n:Nat} {k:List Item} {e:Env} {X:Cx} {h hh:HF} {L A G Q:LH} {fn:Func} {α : Type} {R:Rp α} {E:TypeId} {xs ys:List α} {base:Option Addr} {cap:Nat}
theorem St.forgetG(s:St X h (A++(G++Q)) w):St X X.h0 G w:=
 (s.sub (L':=G) ((List.sublist_append_left G Q).trans (List.sublist_append_right A _))).lower
theorem PB(ms:List Nat)(hf:P.funcs[f]? = some fn)(hr:fn.results=rs.toArray)(hX:X.h0=hh)(hL:L=A++(G++Q))(hG:∀h1,du R E h1 xs base cap G)(hv:tZ P e L rs [.slice base xs.length cap])(hs:ys=xs):
  TT P (bodyFrame f) n (.code .ret::k) (lQ P X (λr h' G=>h'=hh/\∃b c,r=.returned (.slice b ys.length c)/\du R E hh ys b c G)) e (marks ms) X h (L++markB ms):=by
 subst hs hL
 exact uW ms (v:=.slice base ys.length cap) hf (λa he w hw=>mB hr hv a he w hw) (λw hw=>hw.forgetG) ⟨hX,_,_,rfl,hG _⟩
end
theorem du.flat{R:Rp α}{h h1:HF}{cap:Nat}{G:LH}(hR:∀h h' cs x,R.rep h cs x->R.rep h' cs x)(g:du R E h xs base cap G):du R E h1 xs base cap G:=by
 have hc:∀{xs:List α}{cl:List Value},bz R h cl xs->bz R h1 cl xs:=by
  intro xs
  induction xs with
  |nil=>intro cl e;exact e
  |cons x xs ih=>rintro cl ⟨cs,rest,e,hl,hr,ht⟩;exact⟨cs,rest,e,hl,hR _ _ _ _ hr,ih ht⟩
 rcases g with g|⟨bk,cl,sp,e1,e2,e3⟩
 .exact .inl g
 .exact .inr ⟨bk,cl,sp,e1,hc e2,e3⟩
theorem Jk{fl:List Value}{h:HF}(hc:∀args w,(callFunc f args).run P w=.ok (.enter f args) w)(hr:Ry P f (fl++args++cap) h A v):
  tv P (.func (.func f) fl.toArray cap.toArray) args h A v:=by
 intro w hp
 refine⟨.enter f (fl++args++cap).toArray,?_,je (hr w hp)⟩
 simp[xJ,invoke,hc]
section
variable {P:Program} {e:Env} {X:Cx} {h:HF} {L:LH} {d:Option Nat} {ty:TypeId} {pos:String} {af:Array Edge} {g:Option (Nat×Bool)}
theorem CT{t u:TypeId}{a c:Int}(hx:e.ev x=.int .i64 a)(hy:e.ev y=.int .i64 c)(hc:c≠0):
  ∀w,St X h L w->(execOp e.ev ⟨d,.binOp .quo t x y u,ty,pos,af,g⟩).run P w=.ok (.value (.int .i64 (IntKind.wrap .i64 (a.tdiv c)))) w:=λw _=>by
 simp[execOp,hx,hy,eqGuard,binOp,Op.intDiv,hc]
end
theorem Iv{N i:Nat}(h:i<N)(hb:N<=9223372036854775807):zD .i64 (IntKind.i64.wrap (((N-i:Nat):Int)-1))=.int .i64 (((N-(i+1):Nat)):Int):=by
 rw[jh (by omega)]
 congr 1;omega
section
variable {P:Program} {e:Env} {X:Cx} {h:HF} {L:LH} {d:Option Nat} {ty:TypeId} {pos:String} {af:Array Edge} {g:Option (Nat×Bool)}
theorem fL(hx:e.ev x=.pointer (some q)):
  ∀w,St X h L w->(execOp e.ev ⟨d,.nilCheck x,ty,pos,af,g⟩).run P w=.ok (.value (.pointer (some q))) w:=λw _=>by
 simp[execOp,hx]
end
theorem Mw:∀(c A R:List Value),cut (A++(c++R)) A.length c.length=some c
 |[],A,R=>rfl
 |v::c,A,R=>by
  have h1:nth (A++(v::c++R)) A.length=some v:=by rw[gC];simp
  have h2:=Mw c (A++[v]) R
  simp only[jA,xA,List.length_nil,kC,List.cons_append,List.nil_append]at h2
  simp only[xA,cut,h1]
  rw[show A++(v::c++R)=A++v::(c++R)from rfl,h2]
theorem Am{α : Type}{C:α->List Value}{sz:Nat}(hC:∀x,(C x).length=sz):∀{xs:List α}{i:Nat}{y:α},xs[i]? = some y->∃a b,xs=a++y::b/\a.length=i/\(a.flatMap C).length=i*sz
 |[],i,y,h=>by simp at h
 |x::xs,0,y,h=>by simp at h;subst h;exact⟨[],xs,rfl,rfl,by simp⟩
 |x::xs,i+1,y,h=>by
  obtain⟨a,b,e,h1,h2⟩:=Am hC (xs:=xs) (i:=i) (y:=y) (by simpa using h)
  refine⟨x::a,b,by rw[e];rfl,by simp[h1],?_⟩
  rw[List.flatMap_cons,jA,hC,h2,Nat.add_mul];omega
theorem Pe{C:α->List Value}(hC:∀x,(C x).length=sz){i:Nat}{y:α}(h:xs[i]? = some y):cut (xs.flatMap C++sp) (i*sz) sz=some (C y):=by
 obtain⟨a,b,rfl,_,h2⟩:=Am hC h
 have:=Mw (C y) (a.flatMap C) (b.flatMap C++sp)
 rw[h2,hC]at this
 simpa using this
theorem I1{C:α->List Value}(hC:∀x,(C x).length=sz){i:Nat}{u y:α}(h:xs[i]? = some u):splice (xs.flatMap C++sp) (i*sz) (C y)=(xs.set i y).flatMap C++sp:=by
 obtain⟨a,b,rfl,h1,h2⟩:=Am hC h
 have h3:((a++u::b).set i y)=a++y::b:=by rw[←h1];simp
 have:=oB (C y) (a.flatMap C) (C u++(b.flatMap C++sp)) (by simp[hC])
 rw[h2]at this
 rw[h3]
 have h4:(C u++(b.flatMap C++sp)).drop (C y).length=b.flatMap C++sp:=by
  rw[hC,←hC u];simp
 rw[h4]at this
 simpa using this
theorem tb{α : Type}{R:Rp α}{C:α->List Value}(hR:∀h cs x,R.rep h cs x->cs=C x){h:HF}:∀{xs:List α}{cl:List Value},bz R h cl xs->cl=xs.flatMap C
 |[],cl,e=>e
 |x::xs,cl,⟨cs,rest,e,_,hr,ht⟩=>by rw[e,hR _ _ _ hr,tb hR ht];rfl
theorem An{α : Type}{R:Rp α}{C:α->List Value}(hR:∀h x,R.rep h (C x) x)(hC:∀x,(C x).length=R.sz)(h:HF):∀(xs:List α),bz R h (xs.flatMap C) xs
 |[]=>rfl
 |x::xs=>⟨C x,xs.flatMap C,rfl,hC x,hR h x,An hR hC h xs⟩
theorem ns{α : Type}{C:α->List Value}{sz:Nat}(hC:∀x,(C x).length=sz):∀(xs:List α),(xs.flatMap C).length=xs.length*sz
 |[]=>by simp
 |x::xs=>by rw[List.flatMap_cons,jA,hC,ns hC xs,xA,Nat.add_mul];omega
theorem KX{t:TypeId}(hT:P.underlying t=some (.slice E))(hz:∀w,(zeroValue E).run P w=.ok z w)(hzc:z.cells=zs.toArray)(hzl:zs.length=sz)(h1:∀v∈zs,one v=true)(hs0:0<sz){cc:Nat}(hb:w.heap[bk]? = some (.cells cl.toArray E (0,0)))(hle:off+(n+1)*sz<=cl.length)(ty:TypeId):
  ∃vs,vs.length=(n+1)*sz/\(Builtin.clear_ #[t] ty #[.slice (some ⟨bk,off,none⟩) (n+1) cc]).run P w=.ok (.tuple #[]) { w with heap:=w.heap.setIfInBounds bk (.cells (splice cl off vs).toArray E (0,0)) }:=by
 refine⟨(Builtin.zeroCells z.cells (n+1)).toList,?_,?_⟩
 .simp[Builtin.zeroCells,hzc,hzl]
 .have hlen:(Builtin.zeroCells z.cells (n+1)).toList.length=(n+1)*sz:=by simp[Builtin.zeroCells,hzc,hzl]
  have h9:=lv (P:=P) off (Builtin.zeroCells z.cells (n+1)).toList 0 cl w hb (by rw[hlen];simpa using hle) (λv hv=>by
   simp only[Builtin.zeroCells,Array.toList_map,kM]at hv
   obtain⟨j,_,rfl⟩:=hv
   rw[hzc]
   have hj:j%zs.length<zs.length:=Nat.mod_lt _ (by omega)
   simp only[List.size_toArray]
   rw[getElem!_pos zs.toArray (j%zs.length) (by simpa using hj)]
   exact h1 _ (by simp))
  rw[Nat.add_zero]at h9
  simp only[Builtin.clear_,xP]
  simp[run_underlying hT,hz,h9]
section
variable {P:Program} {b:Frame} {n:Nat} {ops:Array Oper} {F:List Frame->(Machine->Prop)->Prop} {e:Env} {ds:List Deferred} {X:Cx} {h:HF} {L:LH} {K:Env->HF->LH->Prop}
variable {d:Option Nat} {ty:TypeId} {pos:String} {af:Array Edge} {g:Option (Nat×Bool)}
theorem nf{t:TypeId}{lo:Operand}{n cap i:Nat}(hT:P.underlying t=some (.slice E))(hS:tySz P E=some (sz,a))(hx:e.ev x=.slice (some ⟨bk,0,none⟩) n cap)(hlo:e.ev lo=.int .i64 (i:Nat))(hi:i<n)(hc:n<=cap)(hm:n-i=m):
  ∀w,St X h L w->(execOp e.ev ⟨d,.slice t x (some lo) none none,ty,pos,af,g⟩).run P w=.ok (.value (.slice (some ⟨bk,i*sz,none⟩) m (cap-i))) w:=λw hw=>by
 subst hm
 have h2:¬(cap=i):=by omega
 have h3:(⟨bk,0,none⟩:Addr).add (i*sz)=⟨bk,i*sz,none⟩:=pz bk (i*sz)
 simp[execOp,Instr.sliceAt,Instr.slice,Instr.sliceBounds,Instr.sliceBound,hx,hlo,asIntOf,run_underlying hT,fw hS,h2,h3,Nat.le_of_lt hi]
theorem MM(i:Nat){t:TypeId}{cc:Nat}(hT:P.underlying t=some (.slice E))(hz:∀w,(zeroValue E).run P w=.ok z w)(hzc:z.cells=zs.toArray)(hzl:zs.length=sz)(h1:∀v∈zs,one v=true)(hs0:0<sz)(hL:nth L i=some (bk,.cells cl.toArray E (0,0)))(hx:e.ev x=.slice (some ⟨bk,off,none⟩) (m+1) cc)(hle:off+(m+1)*sz<=cl.length)(t':∀vs,vs.length=(m+1)*sz->K (pute e d (.tuple #[])) h (setNth L i (bk,.cells (splice cl off vs).toArray E (0,0))))(hg:guardB ops e ⟨d,.call ⟨.builtin .clear,#[x],#[t]⟩,ty,pos,af,g⟩=true:=by rfl):Stp P b n ops F ds X ⟨d,.call ⟨.builtin .clear,#[x],#[t]⟩,ty,pos,af,g⟩ e h L K:=
 gT hg λw hw=>by
  have hb:w.heap[bk]? = some (.cells cl.toArray E (0,0)):=by
   have h2:=hL
   rw[gC]at h2
   exact hw.own _ (zE h2)
  obtain⟨vs,hvl,hr⟩:=KX (P:=P) (cc:=cc) hT hz hzc hzl h1 hs0 hb hle ty
  refine⟨.tuple #[],_,h,_,?_,hw.write hL _,t' vs hvl⟩
  simp only[execOp,resolve,invoke,builtin]
  simp[hx,hr]
end
section
variable {P:Program} {b:Frame} {n:Nat} {ops:Array Oper} {F:List Frame->(Machine->Prop)->Prop} {e:Env} {ds:List Deferred} {X:Cx} {h:HF} {L:LH} {K:Env->HF->LH->Prop}
variable {d:Option Nat} {ty:TypeId} {pos:String} {af:Array Edge} {g:Option (Nat×Bool)}
theorem PN{R:Rp α}(hc:∀args w,(callFunc f args).run P w=.ok (.enter f args) w)(hs:Rx P f vs h R E xs)(hvs:ass.toList.map e.ev=vs)(t':∀bb c G,du R E h xs bb c G->K (pute e d (.slice bb xs.length c)) h (L++G))(hg:guardB ops e ⟨d,.call ⟨.value (.func f),ass,ats⟩,ty,pos,af,g⟩=true:=by rfl):
  Stp P b n ops F ds X ⟨d,.call ⟨.value (.func f),ass,ats⟩,ty,pos,af,g⟩ e h L K:=by
 unfold Stp
 rw[if_pos hg]
 intro w hw
 have harr:ass.map e.ev=vs.toArray:=Sd (by simp[←hvs])
 have hr:(execOp e.ev ⟨d,.call ⟨.value (.func f),ass,ats⟩,ty,pos,af,g⟩).run P w=.ok (.enter f vs.toArray) w:=by
  simp[execOp,resolve,T6,xJ,invoke,harr,hc]
 rw[hr]
 refine lr (by simp) (je (rq.mono (hs w (hw.sub (List.nil_sublist _)).pre) ?_))
 rintro x w' ⟨h',B,hst,rfl,bb,c,rfl,hG⟩
 exact⟨h',_,(Tg (A:=[]) (F:=L) hw hst).perm kJ,t' bb c B hG⟩
end
section
variable {P:Program} {b:Frame} {n:Nat} {k:List Item} {F:List Frame->(Machine->Prop)->Prop} {ds:List Deferred} {X:Cx}
theorem QI{J:HF->LH->Prop}(m0:Nat)(Inv:σ->Env->HF->LH->Prop)(μ : σ->Nat)(dn:σ->List Nat)(fin:∀s e h L,Inv s e h L->μ s=0->TA P b n l.toArray k F ds X J m0 (dn s) e h L)(step:∀s e h L,Inv s e h L->μ s≠0->nexts l.toArray (dn s)≠[]/\∀i∈nexts l.toArray (dn s),∀o,nth l i=some o->Stp P b n l.toArray F ds X o e h L (λe' h' L'=>J h' L'/\∃s',μ s=μ s'+1/\(i::dn s).Perm (dn s')/\Inv s' e' h' L')):
  ∀(m:Nat)(s:σ)(e:Env)(h:HF)(L:LH),μ s=m->Inv s e h L->TA P b n l.toArray k F ds X J (m+m0) (dn s) e h L:=by
 intro m
 induction m with
 |zero=>intro s e h L hm hI;rw[Nat.zero_add];exact fin s e h L hI hm
 |succ m ih=>
  intro s e h L hm hI
  obtain⟨h0,h1⟩:=step s e h L hI (by omega)
  rw[show m+1+m0=(m+m0)+1 from by omega]
  refine⟨λhn=>absurd hn h0,λi hi o ho=>Stp.mono ?_ (h1 i hi o (by rw[gC];simpa using ho))⟩
  rintro e' h' L' ⟨hj,s',hs,hp,hI'⟩
  exact⟨hj,TA.perm (λx=>hp.mem_iff.symm) (ih s' e' h' L' (by omega) hI')⟩
theorem PK{dn:List Nat}{h:HF}{L:LH}{Q:Nat->Env->HF->LH->Prop}(is:List Nat)(hn:nexts l.toArray dn=is)(h0:is≠[])(t:∀i∈is,∀o,nth l i=some o->Stp P b n l.toArray F ds X o e h L (Q i)):nexts l.toArray dn≠[]/\∀i∈nexts l.toArray dn,∀o,nth l i=some o->Stp P b n l.toArray F ds X o e h L (Q i):=by
 rw[hn];exact⟨h0,t⟩
end
theorem pmid{T X X':List α}{i:α}(h:(i::X).Perm X'):(i::(T++X)).Perm (T++X'):=List.perm_middle.symm.trans (List.Perm.append_left T h)
section
variable {P:Program} {b:Frame} {n:Nat} {ops:Array Oper} {F:List Frame->(Machine->Prop)->Prop} {e:Env} {ds:List Deferred} {X:Cx} {h:HF} {L:LH} {K:Env->HF->LH->Prop}
variable {d:Option Nat} {ty:TypeId} {pos:String} {af:Array Edge} {g:Option (Nat×Bool)}
theorem Ha{t:TypeId}{ln cp:Operand}(hT:P.underlying t=some (.slice E))(hz:zeroC P E=some [z])(hS:tySz P E=some (1,a))(hby:bytesOf P E=some vx)(hl:e.ev ln=.int .i64 (m:Nat))(hc:e.ev cp=.int .i64 (m:Nat))(hb:vx*m<=281474976710656)(h63:m<=9223372036854775807)(t':∀bk,K (pute e d (.slice (some ⟨bk,0,none⟩) m m)) h ((bk,.cells (List.replicate m z).toArray E (0,0))::L))(hg:guardB ops e ⟨d,.makeSlice t ln cp,ty,pos,af,g⟩=true:=by rfl):Stp P b n ops F ds X ⟨d,.makeSlice t ln cp,ty,pos,af,g⟩ e h L K:=
 gT hg λw hw=>by
  obtain⟨i,hi,hby'⟩:∃i,P.info? E=some i/\i.bytes=vx:=by
   unfold bytesOf at hby
   cases hi:P.info? E with
   |none=>simp[hi]at hby
   |some i=>exact⟨i,rfl,by simpa[hi]using hby⟩
  have hsz:i.size=1:=by
   have:=fw hS w
   simpa[sizeOf,typeInfo,hi]using this
  obtain⟨zv,hzz,hzc⟩:∃zv,i.zero=some zv/\zv.cells=#[z]:=by
   unfold zeroC at hz
   cases hzz:i.zero with
   |none=>simp[hi,hzz]at hz
   |some zv=>exact⟨zv,rfl,by simp[hi,hzz]at hz;rw[lC,hz]⟩
  have hr:=run_make (P:=P) w t E i zv hT hi hzz .i64 .i64 (m:Int) (m:Int) (by omega) (Int.le_refl _) (by rw[hby'];omega) (by omega)
  have hcells:madeCells zv.cells ((m:Int).toNat*i.size)=(List.replicate m z).toArray:=by
   rw[hzc,hsz]
   apply Array.ext
   .simp[madeCells]
   .intro j h1 h2;simp[madeCells,Nat.mod_one]
  rw[hcells]at hr
  simp only[Int.toNat_natCast]at hr
  refine⟨_,_,h,_,?_,hw.alloc _,t' _⟩
  have e1:w.alloc (.cells (List.replicate m z).toArray E)={ w with heap:=w.heap.push (.cells (List.replicate m z).toArray E (0,0)) }:=rfl
  rw[e1]at hr
  simp[execOp,hl,hc,hr]
end
theorem HT{F:List Frame->(Machine->Prop)->Prop}{h:HF}{L:LH}{K:Env->HF->LH->Prop}{o:Oper}(sl:List (Nat×Value))(hr:i5 e sl)(t:Stp P b n ops F ds X o (upds e sl) h L K):Stp P b n ops F ds X o e h L K:=by
 rw[hr.upds]at t;exact t
theorem QG{F:List Frame->(Machine->Prop)->Prop}{h:HF}{L:LH}(sl:List (Nat×Value))(hr:i5 e sl)(t:TT P b n k F (upds e sl) ds X h L):TT P b n k F e ds X h L:=by
 rw[hr.upds]at t;exact t
section
variable {P:Program} {b:Frame} {n:Nat} {k:List Item} {F:List Frame->(Machine->Prop)->Prop} {e:Env} {ds:List Deferred} {X:Cx} {h:HF} {L:LH}
theorem lp3{γ:Type}{x0:ρ}(xs:List α)(sl:Nat->γ->List (Nat×Value))(hh:γ->HF)(LL:γ->LH)(J JX:Nat->γ->Prop)(hJX:∀i g,J i g->JX i g)(Lf:List α->Nat->γ->ρ)(g0:γ)(hb:xs.length<=9223372036854775807)(hs:x0=Lf xs 0 g0)(hJ:J 0 g0)(after:∀i g,i<=xs.length->x0=Lf [] i g->JX i g->∀e',TT P b n k F (upds e' (sl i g)) ds X (hh g) (LL g))(cons:∀i g y r,xs.drop i=y::r->decide ((i:Int)<(xs.length:Int))=true->xs[i]? = some y->i<xs.length->xs.length<=9223372036854775807->x0=Lf (y::r) i g->J i g ->
   (∀i' g' {e'},x0=Lf [] i' g'->JX i' g'->(hi:i'<=xs.length:=by omega)->(hr:i5 e' (sl i' g'):=by exact rds)->TT P b n k F e' ds X (hh g') (LL g')) ->
   (∀g' {e'},x0=Lf r (i+1) g'->J (i+1) g'->(hr:i5 e' (sl (i+1) g'):=by exact rds)->TT P b n (.inLoop c::.inBlock id::k) F e' ds X (hh g') (LL g')) ->
   ∀e',TT P b n (.code c::.inLoop c::.inBlock id::k) F (upds e' (sl i g)) ds X (hh g) (LL g))(nil:∀i g,xs.drop i=[]->decide ((i:Int)<(xs.length:Int))=false->(∀e',i5 e' (sl i g)->TT P b n k F e' ds X (hh g) (LL g)) ->
   ∀e',TT P b n (.code c::.inLoop c::.inBlock id::k) F (upds e' (sl i g)) ds X (hh g) (LL g):=by exact ndA)(h0:i5 e (sl 0 g0):=by exact rds)(hw:∀w,St X h L w->St X (hh g0) (LL g0) w:=by exact sws):
  TT P b n (.code (.block id (.loop c))::k) F e ds X h L:=by
 refine ir (ι:=Nat×γ) (λi=>sl i.1 i.2) (λi=>hh i.2) (λi=>LL i.2) (λi=>i.1<=xs.length/\x0=Lf [] i.1 i.2/\JX i.1 i.2) ?_ (λhx=>?_)
 .rintro⟨i,g⟩ ⟨h1,h2,h3⟩ e'
  exact after i g h1 h2 h3 e'
 .refine jZ (ι:=Nat×γ×List α) (λi=>sl i.1 i.2.1) (λi=>hh i.2.1) (λi=>LL i.2.1) (λi=>xs.drop i.1=i.2.2/\i.1<=xs.length/\x0=Lf i.2.2 i.1 i.2.1/\J i.1 i.2.1) (λi=>i.2.2.length) (0,g0,xs) h0 hw ⟨rfl,qM _,hs,hJ⟩ ?_
  rintro⟨i,g,s⟩ ⟨hd,hi,hs,hJ⟩ ag e'
  dsimp only at hd hi hs hJ
  rcases s with _|⟨y,r⟩
  .exact nil i g hd (mR hd) (λe'' hr=>hx (i,g) e'' ⟨hi,hs,hJX _ _ hJ⟩ hr) e'
  .exact cons i g y r hd (s8 hd) (rE hd) (hY hd) hb hs hJ (λi' g' e'' a b c d=>hx (i',g') e'' ⟨c,a,b⟩ d)
    (λg' e'' a b hr=>ag (i+1,g',r) e'' (Nat.lt_succ_self _) ⟨kw hd,hY hd,a,b⟩ hr) e'
end
end
end Go.Sg
