import Derived.Test.YtafbfagbjekhhaaGreatDoorL4
/- A part of the proof of MissingLeast. -/
set_option linter.unusedVariables false
set_option linter.unusedSimpArgs false
set_option maxRecDepth 100000
open List renaming length_cons→zA,length_nil→zB,toArray→xB,range→vD,append_assoc→jE,perm_append_comm→xG,map_cons→kG
open Go.Sg.Rp renaming int→jB,str→WN,sl→W9,iZ→Xl
open Go.IntKind renaming wrap→kB
open Go.Value renaming int→zC,bool→vV
open Nat renaming le_refl→kE,zero_le→zH,blt→zJ,eq_of_beq_eq_true→qM,beq→jW
open Go.Sg.SlC renaming nil→zG
open Go.Obj renaming cells→jG
open Go.Deferred renaming ofValue→xH
open Go.Sg.HF renaming le_refl→kH,le→xJ
open Go.Sg.Lack renaming rp→jJ
open Go.Result renaming andThen_ok→jK
open Go.Sem renaming run_bind→jL
open Option.some renaming injEq→zP
open Go.Sg.Budget renaming rp→zR
open Go.Region renaming binds→Xh
open Go.Sg.OSeat renaming rp→Xn
open Go.Instr renaming fill→XY

namespace Go.Sg
variable {E u:TypeId}{G L':LH}{K S:List Nat}{P:Program}{T bk cap id ix m n:Nat}{X:Cx}{ass:Array Operand}{ats:Array TypeId}{b:Frame}{base:Option Addr}{c gd:Bool}{cl:List Go.Value}{ds:List Deferred}{e:Env}{f:FuncId}{fn:Fn}{fz:Nat×Nat}{h h' hh:HF}{k:List Item}{l:List Oper}{o:Operand}{op:Op}{ops:Array Oper}{p:Prop}{parts:Array (Nat×Operand)}{pe:Int->Go.Value}{pl:List (Nat×Nat)}{q:Addr}{tF:List (Nat×Nat×Nat)}{tS:List (Nat×Bool)}{v:Go.Value}{α ρ:Type}{R:Rp α}{val:α->HF->List Go.Value->Prop}{x0:ρ}{xs:List α}{y:α}
section
def lookN{β : Type}:List (Nat×β)->Nat->Option β
 |[],_=>none
 |(a,b)::l,t=>bif jW a t then some b else lookN l t
theorem tabq{β : Type}{f:Nat->Option β}:∀{tab:List (Nat×β)},tab.map (λx=>f x.1)=tab.map (λx=>some x.2)->∀{t:Nat}{v:β},lookN tab t=some v->f t=some v
 |[],_,t,v,h=>by cases h
 |(a,b)::l,hm,t,v,h=>by
  unfold lookN at h
  simp only[kG,List.cons.injEq]at hm
  cases hb:jW a t with
  |true=>rw[hb]at h;cases h;rw[←qM hb];exact hm.1
  |false=>rw[hb]at h;exact tabq hm.2 h
def sliceE(P:Program)(t:Nat):Option Nat:=match P.underlying t with
 |some (.slice E)=>some E
 |_=>none
theorem xl{t E:Nat}(h:sliceE P t=some E):P.underlying t=some (.slice E):=by
 unfold sliceE at h;split at h
 .cases h;assumption
 .cases h
def lenK(P:Program)(t:Nat):Option Bool:=match P.underlying t with
 |some (.slice _)=>some true
 |some .string=>some false
 |_=>none
theorem Vh{t:Nat}(h:lenK P t=some true):∃E,P.underlying t=some (.slice E):=by
 unfold lenK at h;split at h
 .exact⟨_,by assumption⟩
 .cases h
 .cases h
theorem SD{t:Nat}(h:lenK P t=some false):P.underlying t=some .string:=by
 unfold lenK at h;split at h
 .cases h
 .assumption
 .cases h
def intK(P:Program)(t:Nat):Option IntKind:=match P.underlying t with
 |some (.int k)=>some k
 |_=>none
theorem P1{t:Nat}{k:IntKind}(h:intK P t=some k):P.underlying t=some (.int k):=by
 unfold intK at h;split at h
 .cases h;assumption
 .cases h
def valM(tF:List (Nat×Nat×Nat))(tS:List (Nat×Bool))(e:Env):Op->Option Value
 |.fieldAddr s x i=>match e.ev x,look3 tF s i with
  |.pointer (some a),some off=>some (.pointer (some (a.add off)))
  |_,_=>none
 |.call ⟨.builtin .len,⟨[x]⟩,⟨[t]⟩⟩=>match e.ev x,lookN tS t with
  |.slice _ m' _,some true=>some (.int .i64 (m':Int))
  |.string s,some false=>some (.int .i64 (s.size:Int))
  |_,_=>none
 |.nilCheck x=>match e.ev x with
  |.pointer (some a)=>some (.pointer (some a))
  |_=>none
 |op=>opQ e op
def isPick:Op->Bool
 |.pick _ _ _=>true
 |_=>false
def stepM(gd:Bool)(tF:List (Nat×Nat×Nat))(tS:List (Nat×Bool))(n:Nat):Qs->Option Qs
 |.tt (.code .skip::k) e=>some (.tt k e)
 |.tt (.code (.seq x y)::k) e=>some (.tt (.code x::.code y::k) e)
 |.tt (.code (.block id c)::k) e=>match c with
  |.loop _=>none
  |c=>some (.tt (.code c::.inBlock id::k) e)
 |.tt (.inBlock _::k) e=>some (.tt k e)
 |.tt (.code (.exit id)::k) e=>match exitTo id k with
  |some k'=>some (.tt k' e)
  |none=>none
 |.tt (.code (.region _ ⟨l⟩ false)::k) e=>some (.to ⟨l⟩ l k e)
 |.tt _ _=>none
 |.to _ [] k e=>some (.tt k e)
 |.to ops (⟨some d,op,ty,pos,af,g⟩::l) k e=>match zJ d n with
  |false=>none
  |true=>match gd||(g.isNone&&!isPick op)with
   |false=>none
   |true=>match guardB ops e ⟨some d,op,ty,pos,af,g⟩with
    |false=>some (.to ops l k (upd e d undef))
    |true=>match valM tF tS e op with
     |some v=>some (.to ops l k (upd e d v))
     |none=>none
 |.to _ _ _ _=>none
def runM(tF:List (Nat×Nat×Nat))(tS:List (Nat×Bool))(n:Nat):Nat->Qs->Qs
 |0,s=>s
 |m+1,s=>match stepM false tF tS n s with
  |some s'=>runM tF tS n m s'
  |none=>s
def goM(gd:Bool)(tF:List (Nat×Nat×Nat))(tS:List (Nat×Bool))(n:Nat)(m:Nat)(s:Qs):Option Qs:=match stepM gd tF tS n s with
 |some s'=>some (runM tF tS n m s')
 |none=>none
section
variable {P:Program} {b:Frame} {n:Nat} {F:List Frame->(Machine->Prop)->Prop} {ds:List Deferred} {X:Cx} {h:HF} {L:LH}
theorem KM(hF:(tF.all λx=>fldOf P x.1 x.2.1==some x.2.2)=true)(hS:tS.map (λx=>lenK P x.1)=tS.map (λx=>some x.2))(hv:valM tF tS e op=some v):
  noDefer op=true/\∀(d:Option Nat)(ty:TypeId)(pos:String)(af:Array Edge)(g:Option (Nat×Bool))w,St X h L w->(execOp e.ev ⟨d,op,ty,pos,af,g⟩).run P w=.ok (.value v) w:=by
 unfold valM at hv
 split at hv
 .split at hv
  .next hx hl=>cases hv;exact⟨rfl,λ_ _ _ _ _ w hw=>yZ (by simpa using(List.all_eq_true.1 hF) _ (Bz hl)) hx w hw⟩
  .cases hv
 .split at hv
  .next hx hl=>cases hv;exact⟨rfl,λ_ _ _ _ _ w hw=>let ⟨_,hu⟩:=Vh (tabq hS hl);Ke hu hx w hw⟩
  .next hx hl=>cases hv;exact⟨rfl,λ_ _ _ _ _ w hw=>Oy (SD (tabq hS hl)) hx w hw⟩
  .cases hv
 .split at hv
  .next hx=>cases hv;exact⟨rfl,λ_ _ _ _ _ w hw=>gv hx w hw⟩
  .cases hv
 .exact⟨(ED (P:=P) hv).1,λ_ _ _ _ _ w _=>(ED hv).2 _ _ _ _ _ w⟩
theorem Mv(hF:(tF.all λx=>fldOf P x.1 x.2.1==some x.2.2)=true)(hS:tS.map (λx=>lenK P x.1)=tS.map (λx=>some x.2)){s s':Qs}(hs:stepM gd tF tS n s=some s')(t:s'.holds P b n F ds X h L):s.holds P b n F ds X h L:=by
 unfold stepM at hs
 split at hs
 .cases hs;exact bL t
 .cases hs;exact ea t
 .split at hs
  .cases hs
  .cases hs;exact m7 t
 .cases hs;exact fW t
 .split at hs
  .next hx=>cases hs;exact kW hx t
  .cases hs
 .cases hs;exact bJ t
 .cases hs
 .cases hs;exact bo t
 .split at hs
  .cases hs
  .next hd=>
   split at hs
   .cases hs
   .split at hs
    .next hg=>cases hs;exact HO t hd hg
    .next hg=>
     split at hs
     .next v hv=>cases hs;exact rQ v (KM (X:=X) (h:=h) (L:=L) hF hS hv).1 ((KM hF hS hv).2 _ _ _ _ _) hd hg t
     .cases hs
 .cases hs
theorem PH{tF:List (Nat×Nat×Nat)}{tS:List (Nat×Bool)}(hF:(tF.all λx=>fldOf P x.1 x.2.1==some x.2.2)=true)(hS:tS.map (λx=>lenK P x.1)=tS.map (λx=>some x.2)):∀(m:Nat)(s:Qs),(runM tF tS n m s).holds P b n F ds X h L->s.holds P b n F ds X h L
 |0,_,t=>t
 |m+1,s,t=>by
  unfold runM at t
  split at t
  .next hs=>exact Mv hF hS hs (PH hF hS m _ t)
  .exact t
theorem Ie(hF:(tF.all λx=>fldOf P x.1 x.2.1==some x.2.2)=true)(hS:tS.map (λx=>lenK P x.1)=tS.map (λx=>some x.2)){s s':Qs}(hs:goM gd tF tS n m s=some s')(t:s'.holds P b n F ds X h L):s.holds P b n F ds X h L:=by
 unfold goM at hs
 split at hs
 .next h1=>cases hs;exact Mv hF hS h1 (PH hF hS m _ t)
 .cases hs
end
def ldV(a:Bool)(m:Nat)(cl:List Value)(off:Nat):Option Value:=match a with
 |false=>nth cl off
 |true=>match cut cl off m with
  |some cs=>some (.agg cs.toArray)
  |none=>none
def chainE(s:Nat):List Oper->Nat×List Nat×Nat×List Oper
 |[]=>(0,[],0,[])
 |⟨some d,.pick (.tmp c) x y,_,_,_,_⟩::l=>bif jW c s then(1,[d],d,l)else match chainE s l with
  |(m,S,z,r)=>(m+1,d::S,z,r)
 |⟨some d,_,_,_,_,_⟩::l=>match chainE s l with
  |(m,S,z,r)=>(m+1,d::S,z,r)
 |⟨none,_,_,_,_,_⟩::l=>match chainE s l with
  |(m,S,z,r)=>(m+1,S,z,r)
def chainO(ops:Array Oper)(w:Bool):List Oper->Option (Nat×Nat×List Nat×Nat×List Oper)
 |⟨a,b,c,d,f,some (j,w')⟩::l=>bif w==w' then match(ops[j]?).bind (·.dst)with
  |some s=>match chainE s (⟨a,b,c,d,f,some (j,w')⟩::l)with
   |(m,S,z,r)=>some (s,m,s::S,z,r)
  |none=>none
  else none
 |_=>none
section
variable {P:Program} {b:Frame} {n:Nat} {k:List Item} {F:List Frame->(Machine->Prop)->Prop} {e:Env} {ds:List Deferred} {X:Cx} {h:HF} {L:LH}
theorem wor{r:List Oper}{s d:Nat}{x:Bool}(y:Bool)(hc:chainO ops false l=some (s,m,S,d,r))(hx:e s=.bool x)(hr:l.drop m=r)(t':x=false->(∀e',e' d=.bool y->(ha:Agr S e e':=by repeat (first|exact rL|refine uu rfl ?_|refine uv rfl ?_))->TO P b n ops r k F e' ds X h L)->TO P b n ops l k F (upd e s (.bool false)) ds X h L)(hk:∀e'',TO P b n ops r k F (upd (mix S e'' e) d (.bool (x||y))) ds X h L)(hq:∃e2,runQ n m (.to ops l k (upd e s (.bool true)))=some (.to ops (l.drop m) k e2)/\e2 d=.bool true/\Agr S e e2:=by exact⟨_,rfl,rfl,by repeat (first|exact rL|refine uu rfl ?_|refine uv rfl ?_)⟩):TO P b n ops l k F e ds X h L:=by
 subst hr
 exact gy m S s d y hx t' hk hq
theorem wand{r:List Oper}{s d:Nat}{x:Bool}(y:Bool)(hc:chainO ops true l=some (s,m,S,d,r))(hx:e s=.bool x)(hr:l.drop m=r)(t':x=true->(∀e',e' d=.bool y->(ha:Agr S e e':=by repeat (first|exact rL|refine uu rfl ?_|refine uv rfl ?_))->TO P b n ops r k F e' ds X h L)->TO P b n ops l k F (upd e s (.bool true)) ds X h L)(hk:∀e'',TO P b n ops r k F (upd (mix S e'' e) d (.bool (x&&y))) ds X h L)(hq:∃e2,runQ n m (.to ops l k (upd e s (.bool false)))=some (.to ops (l.drop m) k e2)/\e2 d=.bool false/\Agr S e e2:=by exact⟨_,rfl,rfl,by repeat (first|exact rL|refine uu rfl ?_|refine uv rfl ?_)⟩):TO P b n ops l k F e ds X h L:=by
 subst hr
 exact kI m S s d y hx t' hk hq
theorem wcond{x z:α}{p q:Code}(hx:e.ev o=.bool c)(hs:x=bif c then y else z)(t1:c=true->x=y->TT P b n (.code p::k) F e ds X h L)(t2:c=false->x=z->TT P b n (.code q::k) F e ds X h L):TT P b n (.code (.cond o p q)::k) F e ds X h L:=aH hs hx t1 t2
end
theorem rdd(h:p:=by first|exact trivial|exact⟨rfl,trivial⟩|exact⟨rfl,rfl,trivial⟩|exact⟨rfl,rfl,rfl,trivial⟩|exact⟨rfl,rfl,rfl,rfl,trivial⟩|exact⟨rfl,rfl,rfl,rfl,rfl,trivial⟩|((repeat (first|exact trivial|refine⟨rfl,?_⟩|fail));all_goals fail)|fail):p:=h
section
variable {P:Program} {f:FuncId} {n:Nat} {k:List Item} {e:Env} {X:Cx} {h:HF} {L:LH} {fn:Func} {rs:List ResultVar} {φ : Value->HF->Prop}
theorem wrP(vs:List Value)(hf:P.funcs[f]? = some fn)(hr:fn.results=rs.toArray)(hv:tl P e L rs vs)(hX:X.h0=hh)(hvv:retVal vs=v):
  TT P (bodyFrame f) n (.code .ret::k) (mV P X (λx h' B=>x=.returned v/\h'=hh/\B=[])) e [] X h L:=wd vs hf hr hX hv hvv
theorem wrH(vs:List Value)(hf:P.funcs[f]? = some fn)(hr:fn.results=rs.toArray)(hv:tl P e L rs vs)(hφ : φ (retVal vs) h):
  TT P (bodyFrame f) n (.code .ret::k) (mV P X (λx h' B=>B=[]/\∃v,x=.returned v/\φ v h')) e [] X h L:=lL vs hf hr hv hφ
theorem weX{f':ρ->Value}{z:Except Int ρ}{r:ρ}(hs:z=.ok r)(vs:List Value)(hf:P.funcs[f]? = some fn)(hr:fn.results=rs.toArray)(hX:X.h0=hh)(hv:tl P e L rs vs)(hvv:retVal vs=f' r):
  TT P (bodyFrame f) n [] (mV P X (XR (exW pe f' z) hh)) e [] X h L:=dR (Bn [] vs hf hr hX hv (by rw[hs,hvv];rfl))
end
theorem leA(h:p:=by first|exact HF.le_refl _|assumption|((repeat (first|exact HF.le_refl _|assumption|refine HF.le_trans ?_ (by assumption)|fail));all_goals fail)|fail):p:=h
theorem wcT{F:List Frame->(Machine->Prop)->Prop}{L:LH}{p q:Code}(hx:e.ev o=.bool c)(hc:c=true)(t:TT P b n (.code p::k) F e ds X h L):TT P b n (.code (.cond o p q)::k) F e ds X h L:=mC (hx.trans (congrArg vV hc)) t
theorem wcF{F:List Frame->(Machine->Prop)->Prop}{L:LH}{p q:Code}(hx:e.ev o=.bool c)(hc:c=false)(t:TT P b n (.code q::k) F e ds X h L):TT P b n (.code (.cond o p q)::k) F e ds X h L:=ot (hx.trans (congrArg vV hc)) t
theorem wsb{F:List Frame->(Machine->Prop)->Prop}{h2 h00:HF}{L:LH}(t:TT P b n k F e ds X h L')(hs:L'.Sublist L)(de:h.le h2)(hX:X.h0=h00)(h0:h00.le h):TT P b n k F e ds X h2 L:=TF de hX h0 (cu hs t)
theorem wso{F:List Frame->(Machine->Prop)->Prop}{h2 h00:HF}{L:LH}(t:TO P b n ops l k F e ds X h L')(hs:L'.Sublist L)(de:h.le h2)(hX:X.h0=h00)(h0:h00.le h):TO P b n ops l k F e ds X h2 L:=tZ de hX h0 (US hs t)
theorem jsA{K L:LH}(hs:K.Sublist L:=by first|exact List.Sublist.refl _|((repeat (first|exact List.Sublist.refl _|exact List.nil_sublist _|exact List.sublist_append_left _ _|exact List.sublist_append_right _ _|refine List.Sublist.append_left ?_ _|refine List.Sublist.cons_cons _ ?_|refine List.Sublist.cons _ ?_|fail));all_goals fail)|fail):K.Sublist L:=hs
theorem rdw(h:p:=by first|((repeat (first|exact trivial|refine⟨rfl,?_⟩|refine⟨nH ob,?_⟩|refine⟨lv ob,?_⟩|fail));all_goals fail)|fail):p:=h
def litC(e:Env):List (Nat×Operand)->List Value
 |[]=>[]
 |(_,x)::l=>vcells (e.ev x)++litC e l
theorem cNi:cS R h [] []:=rfl
theorem cCo{cs rest:List Value}{x:α}(hr:R.rep h cs x)(hl:cs.length=R.sz)(ht:cS R h rest xs):cS R h (cs++rest) (x::xs):=⟨cs,rest,rfl,hl,hr,ht⟩
theorem slL(hb:h bk=some (.cells cl.toArray T fz))(hl:h.le h')(hc:cS R h' cl xs)(de:xs.length<=9223372036854775807:=by simp)(hcap:xs.length<=cap:=by simp):SlC R h' (some ⟨bk,0,none⟩) cap xs:=cS.slB0 hc (hl _ _ hb) de hcap
def litB(pl:List (Nat×Nat))(e:Env):List (Nat×Operand)->List Value->List Value
 |[],zs=>zs
 |(i,x)::l,zs=>match nth pl i with
  |some (off,_)=>litB pl e l (splice zs off (vcells (e.ev x)))
  |none=>litB pl e l zs
def plcs(P:Program)(t:Nat):Option (List (Nat×Nat)):=match P.underlying t with
 |some (.struct fs)=>fs.toList.mapM λf=>(P.info? f.type).map λi=>(f.offset,i.size)
 |_=>none
theorem Kr{α β : Type}{f:α->Option β}:∀{l:List α}{r:List β},l.mapM f=some r->l.map f=r.map some
 |[],r,h=>by simp at h;subst h;rfl
 |a::l,r,h=>by
  simp only[List.mapM_cons,Option.bind_eq_bind,Option.bind_eq_some_iff]at h
  obtain⟨b,hb,t,ht,hr⟩:=h
  cases hr
  rw[kG,hb,Kr ht];rfl
theorem T6{t:Nat}(h:plcs P t=some pl):∃fs,P.underlying t=some (.struct fs)/\fs.toList.map (λf=>(P.info? f.type).map λi=>(f.offset,i.size))=pl.map some:=by
 unfold plcs at h;split at h
 .exact⟨_,by assumption,Kr h⟩
 .cases h
def kp(e:Env):List Nat->List (Nat×Value)
 |[]=>[]
 |s::K=>(s,e s)::kp e K
theorem Av{e:Env}:∀{K:List Nat}{r:List (Nat×Value)},iD e r->iD e (kp e K++r)
 |[],_,h=>h
 |_::_,_,h=>⟨rfl,Av h⟩
def H0{α ρ : Type}(K:List Nat)(ix:Nat)(Lf:List α->Nat->ρ):Prop:=True
theorem h0(K:List Nat)(ix:Nat)(Lf:List α->Nat->ρ):H0 K ix Lf:=trivial
def H1{α ρ γ : Type}(K:List Nat)(ix:Nat)(ac:γ->List (Nat×Value))(Lf:List α->Nat->γ->ρ):Prop:=True
theorem h1{γ:Type}(K:List Nat)(ix:Nat)(ac:γ->List (Nat×Value))(Lf:List α->Nat->γ->ρ):H1 K ix ac Lf:=trivial
theorem hs0{Lf:List α->Nat->ρ}(H:H0 K ix Lf)(hs:x0=Lf xs 0):H0 K ix Lf/\x0=Lf xs 0:=⟨H,hs⟩
theorem hs1{γ:Type}{ac:γ->List (Nat×Value)}{Lf:List α->Nat->γ->ρ}(g0:γ)(H:H1 K ix ac Lf)(hs:x0=Lf xs 0 g0):H1 K ix ac Lf/\x0=Lf xs 0 g0:=⟨H,hs⟩
section
variable {P:Program} {b:Frame} {n:Nat} {k:List Item} {F:List Frame->(Machine->Prop)->Prop} {e:Env} {ds:List Deferred} {X:Cx} {h:HF} {L:LH}
theorem lpk0{c:Code}{Lf:List α->Nat->ρ}(H:H0 K ix Lf/\x0=Lf xs 0)(hb:xs.length<=9223372036854775807)(hi0:e ix=.int .i64 ((0:Nat):Int))(after:∀i,i<=xs.length->x0=Lf [] i->∀e',TT P b n k F (upds e' (kp e K++[(ix,.int .i64 (i:Int))])) ds X h L)(cons:∀i y r,xs.drop i=y::r->decide ((i:Int)<(xs.length:Int))=true->xs[i]? = some y->i<xs.length->xs.length<=9223372036854775807->x0=Lf (y::r) i ->
   (∀i' {e'},x0=Lf [] i'->(hi:i'<=xs.length:=by omega)->(hr:iD e' (kp e K++[(ix,.int .i64 (i':Int))]):=by exact rds)->TT P b n k F e' ds X h L) ->
   (∀{e'},x0=Lf r (i+1)->(hr:iD e' (kp e K++[(ix,.int .i64 ((i+1:Nat):Int))]):=by exact rds)->TT P b n (.inLoop c::.inBlock id::k) F e' ds X h L) ->
   ∀e',TT P b n (.code c::.inLoop c::.inBlock id::k) F (upds e' (kp e K++[(ix,.int .i64 (i:Int))])) ds X h L)(nil:∀i,xs.drop i=[]->decide ((i:Int)<(xs.length:Int))=false->(∀e',iD e' (kp e K++[(ix,.int .i64 (i:Int))])->TT P b n k F e' ds X h L) ->
   ∀e',TT P b n (.code c::.inLoop c::.inBlock id::k) F (upds e' (kp e K++[(ix,.int .i64 (i:Int))])) ds X h L:=by exact ndW):
  TT P b n (.code (.block id (.loop c))::k) F e ds X h L:=
 lp0 xs (λi=>kp e K++[(ix,.int .i64 (i:Int))]) L Lf hb H.2 after cons nil (Av ⟨hi0,trivial⟩) (λ_ hw=>hw)
theorem lpk1{γ:Type}{c:Code}{ac:γ->List (Nat×Value)}{Lf:List α->Nat->γ->ρ}{g0:γ}(H:H1 K ix ac Lf/\x0=Lf xs 0 g0)(hb:xs.length<=9223372036854775807)(hi0:iD e ((ix,.int .i64 ((0:Nat):Int))::ac g0))(after:∀i g,i<=xs.length->x0=Lf [] i g->∀e',TT P b n k F (upds e' (kp e K++((ix,.int .i64 (i:Int))::ac g))) ds X h L)(cons:∀i g y r,xs.drop i=y::r->decide ((i:Int)<(xs.length:Int))=true->xs[i]? = some y->i<xs.length->xs.length<=9223372036854775807->x0=Lf (y::r) i g ->
   (∀i' g' {e'},x0=Lf [] i' g'->(hi:i'<=xs.length:=by omega)->(hr:iD e' (kp e K++((ix,.int .i64 (i':Int))::ac g')):=by exact rds)->TT P b n k F e' ds X h L) ->
   (∀g' {e'},x0=Lf r (i+1) g'->(hr:iD e' (kp e K++((ix,.int .i64 ((i+1:Nat):Int))::ac g')):=by exact rds)->TT P b n (.inLoop c::.inBlock id::k) F e' ds X h L) ->
   ∀e',TT P b n (.code c::.inLoop c::.inBlock id::k) F (upds e' (kp e K++((ix,.int .i64 (i:Int))::ac g))) ds X h L)(nil:∀i g,xs.drop i=[]->decide ((i:Int)<(xs.length:Int))=false->(∀e',iD e' (kp e K++((ix,.int .i64 (i:Int))::ac g))->TT P b n k F e' ds X h L) ->
   ∀e',TT P b n (.code c::.inLoop c::.inBlock id::k) F (upds e' (kp e K++((ix,.int .i64 (i:Int))::ac g))) ds X h L:=by exact ndW):
  TT P b n (.code (.block id (.loop c))::k) F e ds X h L:=
 lp1 xs (λi g=>kp e K++((ix,.int .i64 (i:Int))::ac g)) L Lf g0 hb H.2 after cons nil (Av hi0) (λ_ hw=>hw)
end
section
variable {P:Program} {b:Frame} {n:Nat} {k:List Item} {F:List Frame->(Machine->Prop)->Prop} {e:Env} {ds:List Deferred} {X:Cx} {h:HF} {L:LH}
theorem lpn0{c:Code}{N:Nat}{Lf:List Nat->Nat->ρ}(H:H0 K ix Lf/\x0=Lf (vD N) 0)(hb:N<=9223372036854775807)(hi0:e ix=.int .i64 ((0:Nat):Int))(after:∀i,i<=N->x0=Lf [] i->∀e',TT P b n k F (upds e' (kp e K++[(ix,.int .i64 (i:Int))])) ds X h L)(cons:∀i r,(List.range N).drop i=i::r->decide ((i:Int)<(N:Int))=true->i<N->x0=Lf (i::r) i ->
   (∀i' {e'},x0=Lf [] i'->(hi:i'<=N:=by omega)->(hr:iD e' (kp e K++[(ix,.int .i64 (i':Int))]):=by exact rds)->TT P b n k F e' ds X h L) ->
   (∀{e'},x0=Lf r (i+1)->(hr:iD e' (kp e K++[(ix,.int .i64 ((i+1:Nat):Int))]):=by exact rds)->TT P b n (.inLoop c::.inBlock id::k) F e' ds X h L) ->
   ∀e',TT P b n (.code c::.inLoop c::.inBlock id::k) F (upds e' (kp e K++[(ix,.int .i64 (i:Int))])) ds X h L)(nil:∀i,i=N->decide ((i:Int)<(N:Int))=false->(∀e',iD e' (kp e K++[(ix,.int .i64 (i:Int))])->TT P b n k F e' ds X h L) ->
   ∀e',TT P b n (.code c::.inLoop c::.inBlock id::k) F (upds e' (kp e K++[(ix,.int .i64 (i:Int))])) ds X h L:=by exact ndW):
  TT P b n (.code (.block id (.loop c))::k) F e ds X h L:=by
 have hl:(vD N).length=N:=List.length_range
 refine gB (ι:=Nat) (λi=>kp e K++[(ix,.int .i64 (i:Int))]) (λ_=>h) (λ_=>L) (λi=>i<=N/\x0=Lf [] i) ?_ (λhx=>?_)
 .rintro i ⟨h1,h2⟩ e'
  exact after i h1 h2 e'
 .refine ju (ι:=Nat×List Nat) (λi=>kp e K++[(ix,.int .i64 (i.1:Int))]) (λ_=>h) (λ_=>L) (λi=>(vD N).drop i.1=i.2/\i.1<=N/\x0=Lf i.2 i.1) (λi=>i.2.length) (0,vD N) (Av ⟨hi0,trivial⟩) (λ_ hw=>hw) ⟨rfl,zH _,H.2⟩ ?_
  rintro⟨i,s⟩ ⟨hd,hi,hs⟩ ag e'
  dsimp only at hd hi hs
  rcases s with _|⟨y,r⟩
  .have h1:N<=i:=by have:=List.drop_eq_nil_iff.1 hd;omega
   exact nil i (by omega) (by simp;omega) (λe'' hr=>hx i e'' ⟨hi,hs⟩ hr) e'
  .have h1:=ip hd
   rw[hl]at h1
   have h2:=rJ hd
   have h3:y=i:=by simp[h1]at h2;omega
   subst h3
   exact cons y r hd (by simp;omega) h1 hs (λi' e'' a c d=>hx i' e'' ⟨c,a⟩ d) (λ{e''}a hr=>ag (y+1,r) e'' (Nat.lt_succ_self _) ⟨kx hd,h1,a⟩ hr) e'
end
class RpG{α : Type}(R:Rp α):Prop where
 good:R.Good
instance:RpG jB:=⟨Rp.jZ⟩
instance:RpG Rp.bool:=⟨Rp.E2⟩
instance:RpG WN:=⟨Rp.RZ⟩
instance {α : Type} {R:Rp α} [i:RpG R]:RpG (W9 R):=⟨Rp.KW i.good.mono⟩
theorem mnG[i:RpG R]:R.Mono:=i.good.mono
theorem grm[i:RpG R](g:cN R E h xs base cap G)(hl:h.le h'):cN R E h' xs base cap G:=g.mono i.good.mono hl
section
variable {α : Type} {G Q A B L:List α} {x:α}
theorem pm0:(Q++G).Perm (Q++G):=List.Perm.refl _
theorem pmg:G.Perm ([]++G):=List.Perm.refl _
theorem pmn:L.Perm (L++[]):=by rw[List.append_nil]
theorem pmc(p:L.Perm (Q++G)):(x::L).Perm ((x::Q)++G):=List.Perm.cons x p
theorem pma(p:B.Perm (Q++G)):(A++B).Perm ((A++Q)++G):=by rw[jE];exact List.Perm.append_left A p
theorem pmb(p:A.Perm (Q++G)):(A++B).Perm ((Q++B)++G):=(List.Perm.append_right B p).trans (by rw[jE,jE];exact List.Perm.append_left Q xG)
theorem pm1{z:α}(p:L.Perm (Q++[])):(z::L).Perm (Q++[z]):=(List.Perm.cons z (by simpa using p)).trans (xG (l₁:=[z]))
end
theorem pmA{L M:List α}(p:L.Perm M:=by first|exact pmn|exact pm0|exact pmg|exact pmc pm0|exact pmc pmg|exact pma pm0|exact pma pmg|exact pmb pm0|exact pmb pmg|exact pmc (pmc pm0)|exact pmc (pmc pmg)|exact pmc (pma pm0)|exact pmc (pma pmg)|exact pmc (pmb pm0)|exact pmc (pmb pmg)|exact pma (pmc pm0)|exact pma (pmc pmg)|exact pma (pma pm0)|exact pma (pma pmg)|exact pma (pmb pm0)|exact pma (pmb pmg)|exact pmc (pmc (pmc pm0))|exact pmc (pmc (pmc pmg))|exact pmc (pmc (pma pm0))|exact pmc (pmc (pma pmg))|exact pmc (pmc (pmb pm0))|exact pmc (pmc (pmb pmg))|exact pmc (pma (pmc pm0))|exact pmc (pma (pmc pmg))|exact pmc (pma (pma pm0))|exact pmc (pma (pma pmg))|exact pmc (pma (pmb pm0))|exact pmc (pma (pmb pmg))|exact pmc (pmc (pmc (pmc pm0)))|exact pmc (pmc (pmc (pmc pmg)))|exact pmc (pmc (pmc (pma pm0)))|exact pmc (pmc (pmc (pma pmg)))|exact pmc (pmc (pmc (pmb pm0)))|exact pmc (pmc (pmc (pmb pmg)))|exact pmc (pmc (pma (pmc pm0)))|exact pmc (pmc (pma (pmc pmg)))|exact pmc (pmc (pma (pma pm0)))|exact pmc (pmc (pma (pma pmg)))|exact pmc (pmc (pma (pmb pm0)))|exact pmc (pmc (pma (pmb pmg)))|exact pm1 pmn|exact pmc (pm1 pmn)|fail):L.Perm M:=p
def HG{α β ρ : Type}(K:List Nat)(ix sl:Nat)(R:Rp β)(E:Nat)(Lf:List α->Nat->List β->ρ):Prop:=True
theorem hsG{β:Type}{sl:Nat}{R:Rp β}{E:Nat}{Lf:List α->Nat->List β->ρ}{g0:List β}(H:HG K ix sl R E Lf)(hs:x0=Lf xs 0 g0):HG K ix sl R E Lf/\x0=Lf xs 0 g0:=⟨H,hs⟩
theorem hG{β:Type}(K:List Nat)(ix sl:Nat)(R:Rp β)(E:Nat)(Lf:List α->Nat->List β->ρ):HG K ix sl R E Lf:=trivial
section
variable {P:Program} {b:Frame} {n:Nat} {k:List Item} {F:List Frame->(Machine->Prop)->Prop} {e:Env} {ds:List Deferred} {X:Cx} {h:HF} {L:LH}
theorem lpkG{β:Type}{c:Code}{sl:Nat}{R:Rp β}{E:Nat}{Lf:List α->Nat->List β->ρ}{g0:List β}{G0 Q:LH}(H:HG K ix sl R E Lf/\x0=Lf xs 0 g0)(hb:xs.length<=9223372036854775807)(hi0:iD e [(ix,.int .i64 ((0:Nat):Int)),(sl,.slice base g0.length cap)])(hG:cN R E h g0 base cap G0)(hp:L.Perm (Q++G0))(after:∀i l bs cp G hh,i<=xs.length->x0=Lf [] i l->h.le hh->cN R E hh l bs cp G->l.length<=g0.length+i->∀e',TT P b n k F (upds e' (kp e K++[(ix,.int .i64 (i:Int)),(sl,.slice bs l.length cp)])) ds X hh (Q++G))(cons:∀i l bs cp G hh y r,xs.drop i=y::r->decide ((i:Int)<(xs.length:Int))=true->xs[i]? = some y->i<xs.length->xs.length<=9223372036854775807->x0=Lf (y::r) i l->h.le hh->cN R E hh l bs cp G->l.length<=g0.length+i ->
   (∀i' {l' bs' cp' G' hh' e'},x0=Lf [] i' l'->cN R E hh' l' bs' cp' G'->h.le hh'->l'.length<=g0.length+i'->(hi:i'<=xs.length:=by omega)->(hr:iD e' (kp e K++[(ix,.int .i64 (i':Int)),(sl,.slice bs' l'.length cp')]):=by exact rds)->TT P b n k F e' ds X hh' (Q++G')) ->
   (∀{l' bs' cp' G' hh' e'},x0=Lf r (i+1) l'->cN R E hh' l' bs' cp' G'->h.le hh'->l'.length<=g0.length+(i+1)->(hr:iD e' (kp e K++[(ix,.int .i64 ((i+1:Nat):Int)),(sl,.slice bs' l'.length cp')]):=by exact rds)->TT P b n (.inLoop c::.inBlock id::k) F e' ds X hh' (Q++G')) ->
   ∀e',TT P b n (.code c::.inLoop c::.inBlock id::k) F (upds e' (kp e K++[(ix,.int .i64 (i:Int)),(sl,.slice bs l.length cp)])) ds X hh (Q++G))(nil:∀i(g:List β×Option Addr×Nat×LH×HF),xs.drop i=[]->decide ((i:Int)<(xs.length:Int))=false->(∀e',iD e' (kp e K++[(ix,.int .i64 (i:Int)),(sl,.slice g.2.1 g.1.length g.2.2.1)])->TT P b n k F e' ds X g.2.2.2.2 (Q++g.2.2.2.1)) ->
   ∀e',TT P b n (.code c::.inLoop c::.inBlock id::k) F (upds e' (kp e K++[(ix,.int .i64 (i:Int)),(sl,.slice g.2.1 g.1.length g.2.2.1)])) ds X g.2.2.2.2 (Q++g.2.2.2.1):=by exact ndW):
  TT P b n (.code (.block id (.loop c))::k) F e ds X h L:=by
 refine m6 hp (lp2 (γ:=List β×Option Addr×Nat×LH×HF) xs (λi g=>kp e K++[(ix,.int .i64 (i:Int)),(sl,.slice g.2.1 g.1.length g.2.2.1)]) (λg=>g.2.2.2.2) (λg=>Q++g.2.2.2.1)
  (λi g=>h.le g.2.2.2.2/\cN R E g.2.2.2.2 g.1 g.2.1 g.2.2.1 g.2.2.2.1/\g.1.length<=g0.length+i) (λs i g=>Lf s i g.1) (g0,base,cap,G0,h) hb H.2 ⟨kH _,hG,Nat.le_add_right _ _⟩ ?_ ?_ nil (Av hi0) (λ_ hw=>hw))
 .rintro i ⟨l,bs,cp,G,hh⟩ h1 h2 ⟨h3,h4,h5⟩ e'
  exact after i l bs cp G hh h1 h2 h3 h4 h5 e'
 .rintro i ⟨l,bs,cp,G,hh⟩ y r a1 a2 a3 a4 a5 a6 ⟨h3,h4,h5⟩ hx ag e'
  exact cons i l bs cp G hh y r a1 a2 a3 a4 a5 a6 h3 h4 h5 (λi' {l' bs' cp' G' hh' _}q1 q2 q3 q4 q5 q6=>hx i' (l',bs',cp',G',hh') q1 ⟨q3,q2,q4⟩ q5 q6) (λ{l' bs' cp' G' hh' _}q1 q2 q3 q4 q5=>ag (l',bs',cp',G',hh') q1 ⟨q3,q2,q4⟩ q5) e'
theorem wfg[i:RpG R]{Q:LH}{todo:List Item}(hG:cN R E h xs base cap G)(hp:L.Perm (Q++G))(hM:X.M=[])(t:∀h2,h.le h2->SlC R h2 base cap xs->TT P b n todo F e ds X h2 Q):TT P b n todo F e ds X h L:=
 m6 (hp.trans xG) (fQ i.good.mono [] G Q rfl hM hG t)
theorem wfgo[i:RpG R]{Q:LH}(hG:cN R E h xs base cap G)(hp:L.Perm (Q++G))(hM:X.M=[])(t:∀h2,h.le h2->SlC R h2 base cap xs->TO P b n ops l k F e ds X h2 Q):TO P b n ops l k F e ds X h L:=
 qZ (hp.trans xG) (oW i.good.mono [] G Q rfl hM hG t)
end
section
variable {P:Program} {b:Frame} {n:Nat} {k:List Item} {F:List Frame->(Machine->Prop)->Prop} {e:Env} {ds:List Deferred} {X:Cx} {h:HF} {L:LH} {ops:Array Oper} {l:List Oper} {d:Option Nat} {ty t:TypeId} {pos:String} {af:Array Edge} {g:Option (Nat×Bool)} {x y:Operand}
theorem gO(t:TO P b n ops l k F e ds X h L):TO P b n ops l k F e ds X h L:=t
theorem gT(t:TT P b n k F e ds X h L):TT P b n k F e ds X h L:=t
theorem gLd(t':TO P b n ops (⟨d,.load t x,ty,pos,af,g⟩::l) k F e ds X h L):TO P b n ops (⟨d,.load t x,ty,pos,af,g⟩::l) k F e ds X h L:=t'
theorem gSt(t':TO P b n ops (⟨d,.store t x y,ty,pos,af,g⟩::l) k F e ds X h L):TO P b n ops (⟨d,.store t x y,ty,pos,af,g⟩::l) k F e ds X h L:=t'
theorem gBx(t':TO P b n ops (⟨d,.box t x,ty,pos,af,g⟩::l) k F e ds X h L):TO P b n ops (⟨d,.box t x,ty,pos,af,g⟩::l) k F e ds X h L:=t'
theorem gAl(t':TO P b n ops (⟨d,.alloc t,ty,pos,af,g⟩::l) k F e ds X h L):TO P b n ops (⟨d,.alloc t,ty,pos,af,g⟩::l) k F e ds X h L:=t'
theorem gCf(t':TO P b n ops (⟨d,.call ⟨.value (.func f),ass,ats⟩,ty,pos,af,g⟩::l) k F e ds X h L):TO P b n ops (⟨d,.call ⟨.value (.func f),ass,ats⟩,ty,pos,af,g⟩::l) k F e ds X h L:=t'
theorem gBi{op:BinOp}(t':TO P b n ops (⟨d,.binOp op t x y u,ty,pos,af,g⟩::l) k F e ds X h L):TO P b n ops (⟨d,.binOp op t x y u,ty,pos,af,g⟩::l) k F e ds X h L:=t'
theorem gCv(t':TO P b n ops (⟨d,.convert t u x,ty,pos,af,g⟩::l) k F e ds X h L):TO P b n ops (⟨d,.convert t u x,ty,pos,af,g⟩::l) k F e ds X h L:=t'
theorem gBd(t':TO P b n ops (⟨d,.build t parts,ty,pos,af,g⟩::l) k F e ds X h L):TO P b n ops (⟨d,.build t parts,ty,pos,af,g⟩::l) k F e ds X h L:=t'
theorem gBs{len:Nat}(t':TO P b n ops (⟨d,.buildSlice t len parts,ty,pos,af,g⟩::l) k F e ds X h L):TO P b n ops (⟨d,.buildSlice t len parts,ty,pos,af,g⟩::l) k F e ds X h L:=t'
theorem gCt{q:Nat}(t':TO P b n ops (⟨d,.call ⟨.value (.tmp q),ass,ats⟩,ty,pos,af,g⟩::l) k F e ds X h L):TO P b n ops (⟨d,.call ⟨.value (.tmp q),ass,ats⟩,ty,pos,af,g⟩::l) k F e ds X h L:=t'
theorem gMf{fi ca:Array Operand}(t':TO P b n ops (⟨d,.makeFunc fn fi ca,ty,pos,af,g⟩::l) k F e ds X h L):TO P b n ops (⟨d,.makeFunc fn fi ca,ty,pos,af,g⟩::l) k F e ds X h L:=t'
theorem gAp{q:TypeId}(t':TO P b n ops (⟨d,.call ⟨.builtin .append,#[x,y],#[t,q]⟩,ty,pos,af,g⟩::l) k F e ds X h L):TO P b n ops (⟨d,.call ⟨.builtin .append,#[x,y],#[t,q]⟩,ty,pos,af,g⟩::l) k F e ds X h L:=t'
theorem gSx(t':TO P b n ops (⟨d,.index t x y,ty,pos,af,g⟩::l) k F e ds X h L):TO P b n ops (⟨d,.index t x y,ty,pos,af,g⟩::l) k F e ds X h L:=t'
theorem gIx(t':TO P b n ops (⟨d,.indexAddr t x y,ty,pos,af,g⟩::l) k F e ds X h L):TO P b n ops (⟨d,.indexAddr t x y,ty,pos,af,g⟩::l) k F e ds X h L:=t'
theorem gGu{q:Nat×Bool}(t':TO P b n ops (⟨d,op,ty,pos,af,some q⟩::l) k F e ds X h L):TO P b n ops (⟨d,op,ty,pos,af,some q⟩::l) k F e ds X h L:=t'
theorem gOr{z:Nat×Nat×List Nat×Nat×List Oper}(w:Bool)(hc:chainO ops w l=some z)(t':TO P b n ops l k F e ds X h L):TO P b n ops l k F e ds X h L:=t'
theorem gPk{z:Operand}(t':TO P b n ops (⟨d,.pick x y z,ty,pos,af,g⟩::l) k F e ds X h L):TO P b n ops (⟨d,.pick x y z,ty,pos,af,g⟩::l) k F e ds X h L:=t'
theorem gRe(t':TT P b n (.code .ret::k) F e ds X h L):TT P b n (.code .ret::k) F e ds X h L:=t'
theorem gNi(t':TT P b n [] F e ds X h L):TT P b n [] F e ds X h L:=t'
theorem gCo{p q:Code}(t':TT P b n (.code (.cond x p q)::k) F e ds X h L):TT P b n (.code (.cond x p q)::k) F e ds X h L:=t'
theorem gLo{p:Code}(t':TT P b n (.code (.block id (.loop p))::k) F e ds X h L):TT P b n (.code (.block id (.loop p))::k) F e ds X h L:=t'
theorem gIl{p:Code}(t':TT P b n (.inLoop p::k) F e ds X h L):TT P b n (.inLoop p::k) F e ds X h L:=t'
theorem gSl{q:Option Addr}{c:Nat}(a:SlC R h q c xs):SlC R h q c xs:=a
theorem gAt{cs:List Value}(a:At h q cs):At h q cs:=a
theorem gIt{it:Value}(a:Itr P it val xs h):Itr P it val xs h:=a
theorem gAn{a b:Prop}(q:a/\b):a/\b:=q
end
end
variable {af:Array Edge}{captured:List Operand}{d:Option Nat}{dn dn':List Nat}{g:Option (Nat×Bool)}{i j m':Nat}{pos:String}{ty:TypeId}{w:Bool}{x:Operand}
section
def bnd:Ground->Bool
 |.textOnly _=>false
 |.gcOnly _=>false
 |_=>true
def hasN:List Nat->Nat->Bool
 |[],_=>false
 |a::l,t=>match jW a t with
  |true=>true
  |false=>hasN l t
def rdyE(dn:List Nat):List Edge->Bool
 |[]=>true
 |⟨j,g⟩::l=>match bnd g with
  |true=>match hasN dn j with
   |true=>rdyE dn l
   |false=>false
  |false=>rdyE dn l
def rdyO(dn:List Nat)(i:Nat):Oper->Bool
 |⟨_,_,_,_,⟨af⟩,_⟩=>match hasN dn i with
  |true=>false
  |false=>rdyE dn af
def nxS(dn:List Nat):Nat->List Oper->List Nat
 |_,[]=>[]
 |i,o::l=>match rdyO dn i o with
  |true=>i::nxS dn (i+1) l
  |false=>nxS dn (i+1) l
theorem P4{t:Nat}:hasN dn t=dn.contains t:=by
 induction dn with
 |nil=>rfl
 |cons a l ih=>
  unfold hasN
  rw[List.contains_cons,←ih]
  cases h:jW a t with
  |true=>rw[qM h];simp
  |false=>
   have:¬t=a:=λe=>by subst e;simp at h
   simp[this]
theorem Vq(e:Edge):bnd e.ground=Xh .any e:=by
 unfold bnd Xh
 cases e.ground<;>rfl
theorem TV{af:List Edge}:rdyE dn af=af.all λe=>!Region.binds .any e||dn.contains e.on:=by
 induction af with
 |nil=>rfl
 |cons a l ih=>
  obtain⟨j,g⟩:=a
  have hb:=Vq ⟨j,g⟩
  unfold rdyE
  rw[List.all_cons,←ih,←hb,P4]
  dsimp only
  cases bnd g<;>cases dn.contains j<;>rfl
theorem PJ{o:Oper}:rdyO dn i o=(!dn.contains i&&o.after.all λe=>!Region.binds .any e||dn.contains e.on):=by
 obtain⟨a,b,c,d,⟨af⟩,f⟩:=o
 unfold rdyO
 rw[P4]
 cases dn.contains i with
 |true=>rfl
 |false=>simp[TV]
theorem Su(dn:List Nat)(f:Nat->Option Oper):∀(l:List Oper)(s:Nat),(∀j,f (s+j)=l[j]?)->nxS dn s l=(List.range' s l.length).filter λi=>!dn.contains i&&((f i).map (·.after.all λe=>!Region.binds .any e||dn.contains e.on)).getD false
 |[],s,_=>rfl
 |o::l,s,h=>by
  have h0:f s=some o:=by simpa using h 0
  have h1:=Su dn f l (s+1) (λj=>by rw[Nat.add_assoc,Nat.add_comm 1 j];simpa using h (j+1))
  unfold nxS
  rw[zA,List.range'_succ,h1]
  have hq:=PJ (dn:=dn) (i:=s) (o:=o)
  cases hr:rdyO dn s o with
  |true=>rw[List.filter_cons_of_pos (by rw[h0];exact hq.symm.trans hr)]
  |false=>rw[List.filter_cons_of_neg (by rw[h0];exact λh=>Bool.noConfusion (hr.symm.trans (hq.trans h)))]
theorem Kn:nexts l.toArray dn=nxS dn 0 l:=by
 rw[Su dn (λi=>l.toArray[i]?) l 0 (λj=>by simp)]
 unfold nexts
 simp[List.range_eq_range']
def flt:Op->Bool
 |.load _ _=>true
 |.fieldAddr _ _ _=>true
 |.indexAddr _ _ _=>true
 |.index _ _ _=>true
 |.binOp _ _ _ _ _=>true
 |.unOp _ _ _=>true
 |.pick _ _ _=>true
 |.move _=>true
 |.assign _=>true
 |.extract _ _=>true
 |.field _ _ _=>true
 |.call ⟨.builtin .len,_,_⟩=>true
 |_=>false
def fstD(md:Nat)(dn:List Nat):Nat->List Oper->Option (Nat×Oper)
 |_,[]=>none
 |i,o::l=>match(match md with|0=>flt o.op|_=>o.guard.isSome)with
  |true=>match rdyO dn i o with
   |true=>some (i,o)
   |false=>fstD md dn (i+1) l
  |false=>fstD md dn (i+1) l
def gslot(ops:List Oper)(j:Nat):Option Nat:=match nth ops j with
 |some o=>o.dst
 |none=>none
def PM(ops:List Oper)(gk:List Nat)(op:Op):Option (Nat×Bool)->Bool
 |none=>match op with
  |.pick (.tmp s) _ _=>hasN gk s
  |.pick _ _ _=>false
  |_=>true
 |some (j,_)=>match gslot ops j with
  |some s=>hasN gk s
  |none=>false
def passD(tF:List (Nat×Nat×Nat))(tS:List (Nat×Bool))(ops:List Oper)(gk:List Nat):Nat->List Oper->Nat->List Nat->Env->Nat×List Nat×Env
 |i,⟨some d,op,ty,pos,⟨af⟩,g⟩::l,m+1,dn,e=>match hasN dn i with
  |true=>passD tF tS ops gk (i+1) l (m+1) dn e
  |false=>match rdyE dn af with
   |false=>passD tF tS ops gk (i+1) l (m+1) dn e
   |true=>match PM ops gk op g with
    |false=>passD tF tS ops gk (i+1) l (m+1) dn e
    |true=>match guardB ⟨ops⟩ e ⟨some d,op,ty,pos,⟨af⟩,g⟩with
     |false=>passD tF tS ops gk (i+1) l m (i::dn) (upd e d undef)
     |true=>match valM tF tS e op with
      |some v=>passD tF tS ops gk (i+1) l m (i::dn) (upd e d v)
      |none=>passD tF tS ops gk (i+1) l (m+1) dn e
 |i,⟨none,_,_,_,_,_⟩::l,m,dn,e=>passD tF tS ops gk (i+1) l m dn e
 |_,_,m,dn,e=>(m,dn,e)
section
variable {P:Program} {b:Frame} {n:Nat} {k:List Item} {F:List Frame->(Machine->Prop)->Prop} {ds:List Deferred} {X:Cx} {l:List Oper}
theorem Qc{md:Nat}{dn:List Nat}(ops:List Oper):∀(l:List Oper)(s:Nat),(∀j,nth ops (s+j)=nth l j)->∀{i:Nat}{o:Oper},fstD md dn s l=some (i,o)->nth ops i=some o/\rdyO dn i o=true
 |[],s,_,i,o,h=>by cases h
 |a::l,s,hn,i,o,h=>by
  have hr:fstD md dn (s+1) l=some (i,o)->nth ops i=some o/\rdyO dn i o=true:=Qc ops l (s+1) (λj=>by rw[Nat.add_assoc,Nat.add_comm 1 j];exact hn (j+1))
  unfold fstD at h
  split at h
  .split at h
   .next h2=>cases h;exact⟨hn 0,h2⟩
   .exact hr h
  .exact hr h
theorem Dz{o:Oper}(hi:nth l i=some o)(hr:rdyO dn i o=true):(nexts l.toArray dn).contains i=true:=by
 rw[i9]at hi
 have hl:i<l.length:=(List.getElem?_eq_some_iff.1 hi).1
 rw[PJ]at hr
 simp only[nexts,List.contains_iff_mem,List.mem_filter,List.mem_range,List.size_toArray]
 refine⟨hl,?_⟩
 have:l.toArray[i]? = some o:=by simpa using hi
 rw[this]
 exact hr
def TD(gk:List Nat)(P:Program)(b:Frame)(n:Nat)(l:List Oper)(k:List Item)(F:List Frame->(Machine->Prop)->Prop)(ds:List Deferred)(X:Cx)(m:Nat)(dn:List Nat)(e:Env)(h:HF)(L:LH):Prop:=
 sepAll l.toArray=true->TA P b n l.toArray k F ds X (Jst h L) m dn e h L
def TX(gk:List Nat)(P:Program)(b:Frame)(n:Nat)(l:List Oper)(k:List Item)(F:List Frame->(Machine->Prop)->Prop)(ds:List Deferred)(X:Cx)(m:Nat)(dn:List Nat)(i:Nat)(o:Oper)(e:Env)(h:HF)(L:LH):Prop:=
 nth l i=some o->rdyO dn i o=true->TD gk P b n l k F ds X (m+1) dn e h L
variable {m:Nat} {dn:List Nat} {e:Env} {h:HF} {L:LH} {i:Nat} {o:Oper} {gk:List Nat}
theorem wany(hm:P.follows .mixedOrders=true)(t:TD [] P b n l k F ds X l.length [] e h L)(hc:(sepAll l.toArray&&slotsIn l.toArray n)=true:=by kernel_rfl):TT P b n (.code (.region id ⟨l⟩ true)::k) F e ds X h L:=
 eY L hm hc (Jst.start h L) (λhs _=>t hs)
theorem wdx(md:Nat)(hf:fstD md dn 0 l=some (i,o))(t:TX gk P b n l k F ds X m dn i o e h L):TD gk P b n l k F ds X (m+1) dn e h L:=by
 obtain⟨h1,h2⟩:=Qc l l 0 (λj=>by rw[Nat.zero_add]) hf
 exact t h1 h2
theorem wdf{d:Nat}(hd:o.dst=some d)(hg:guardB l.toArray e o=true)(hr:∀h' L',Jst h L h' L'->∀w,St X h' L' w->(execOp e.ev o).run P w=.ok (.value v) w)(t:TD gk P b n l k F ds X m (i::dn) (upd e d v) h L):TX gk P b n l k F ds X m dn i o e h L:=
 λhi hy hs=>ki i hs (Jst.start h L) hi hd (Dz hi hy) hg hr (t hs)
theorem wdlr(v:Bool){s:Nat}(hj:gslot l j=some s)(hk:hasN gk s=false)(he:e s=.bool v)(t:TD (s::gk) P b n l k F ds X (m+1) dn e h L):TX gk P b n l k F ds X m dn i ⟨d,op,ty,pos,af,some (j,w)⟩ e h L:=λ_ _=>t
theorem wdlu{s:Nat}(hj:gslot l j=some s)(hk:hasN gk s=false)(he:e s=undef)(t:TD (s::gk) P b n l k F ds X (m+1) dn e h L):TX gk P b n l k F ds X m dn i ⟨d,op,ty,pos,af,some (j,w)⟩ e h L:=λ_ _=>t
theorem wdsp{s:Nat}{x:Bool}(hj:gslot l j=some s)(hk:hasN gk s=false)(he:e s=.bool x)(t1:x=true->TD (s::gk) P b n l k F ds X (m+1) dn (upd e s (.bool true)) h L)(t0:x=false->TD (s::gk) P b n l k F ds X (m+1) dn (upd e s (.bool false)) h L):TX gk P b n l k F ds X m dn i ⟨d,op,ty,pos,af,some (j,w)⟩ e h L:=
 λhi hy hs=>fE s he (λhx=>t1 hx hs) (λhx=>t0 hx hs)
theorem wd0(hn:nxS dn 0 l=[])(t:TT P b n k F e ds X h L):TD gk P b n l k F ds X 0 dn e h L:=λ_=>bO (Kn.trans hn) t
def JT(h:HF)(L:LH)(h':HF)(L':LH)(p:Prop):Prop:=h.le h'/\L.Sublist L'/\p
theorem UV{o:Oper}(hs:sepAll l.toArray=true)(t:Stp P b n l.toArray F ds X o e h L λe' h' L'=>JT h L h' L' (TD gk P b n l k F ds X m (i::dn) e' h' L')):Stp P b n l.toArray F ds X o e h L λe' h' L'=>Jst h L h' L'/\TA P b n l.toArray k F ds X (Jst h L) m (i::dn) e' h' L':=
 Stp.mono (λe' h' L'⟨a,b,c⟩=>⟨⟨a,λp hp=>b.subset hp⟩,qm a (λp hp=>b.subset hp) (c hs)⟩) t
theorem wd1{i:Nat}{o:Oper}(hn:nxS dn 0 l=[i])(hi:nth l i=some o)(t:Stp P b n l.toArray F ds X o e h L λe' h' L'=>JT h L h' L' (TD gk P b n l k F ds X m (i::dn) e' h' L')):TD gk P b n l k F ds X (m+1) dn e h L:=
 λhs=>RY i (Kn.trans hn) hi (UV hs t)
theorem So(hF:(tF.all λx=>fldOf P x.1 x.2.1==some x.2.2)=true)(hS:tS.map (λx=>lenK P x.1)=tS.map (λx=>some x.2))(hs:sepAll l.toArray=true)(gk:List Nat):
  ∀(i:Nat)(r:List Oper)(m:Nat)(dn:List Nat)(e:Env),(∀j,nth l (i+j)=nth r j)->TA P b n l.toArray k F ds X (Jst h L) (passD tF tS l gk i r m dn e).1 (passD tF tS l gk i r m dn e).2.1 (passD tF tS l gk i r m dn e).2.2 h L->TA P b n l.toArray k F ds X (Jst h L) m dn e h L:=by
 intro i r m dn e
 fun_induction passD tF tS l gk i r m dn e with
 |case1 i d op ty pos af g l' m dn e hh ih=>exact λhn t=>ih (λj=>by rw[Nat.add_assoc,Nat.add_comm 1 j];exact hn (j+1)) t
 |case2 i d op ty pos af g l' m dn e hh hr ih=>exact λhn t=>ih (λj=>by rw[Nat.add_assoc,Nat.add_comm 1 j];exact hn (j+1)) t
 |case3 i d op ty pos af g l' m dn e hh hr hp ih=>exact λhn t=>ih (λj=>by rw[Nat.add_assoc,Nat.add_comm 1 j];exact hn (j+1)) t
 |case4 i d op ty pos af g l' m dn e hh hr hp hg ih=>
  intro hn t
  have hi:nth l i=some ⟨some d,op,ty,pos,⟨af⟩,g⟩:=hn 0
  refine np i hs (Jst.start h L) hi rfl (Dz hi ?_) hg (ih (λj=>by rw[Nat.add_assoc,Nat.add_comm 1 j];exact hn (j+1)) t)
  unfold rdyO
  rw[hh]
  exact hr
 |case5 i d op ty pos af g l' m dn e hh hr hp hg v hv ih=>
  intro hn t
  have hi:nth l i=some ⟨some d,op,ty,pos,⟨af⟩,g⟩:=hn 0
  refine ki i hs (Jst.start h L) hi rfl (Dz hi ?_) hg (λh' L' _ w hw=>(KM hF hS hv).2 _ _ _ _ _ w hw) (ih (λj=>by rw[Nat.add_assoc,Nat.add_comm 1 j];exact hn (j+1)) t)
  unfold rdyO
  rw[hh]
  exact hr
 |case6 i d op ty pos af g l' m dn e hh hr hp hg hv ih=>exact λhn t=>ih (λj=>by rw[Nat.add_assoc,Nat.add_comm 1 j];exact hn (j+1)) t
 |case7 i a b' c d l' g m dn e ih=>exact λhn t=>ih (λj=>by rw[Nat.add_assoc,Nat.add_comm 1 j];exact hn (j+1)) t
 |case8=>exact λ_ t=>t
theorem wdqP(hF:(tF.all λx=>fldOf P x.1 x.2.1==some x.2.2)=true)(hS:tS.map (λx=>lenK P x.1)=tS.map (λx=>some x.2)){e':Env}(hp:passD tF tS l gk 0 l m dn e=(m',dn',e'))(t:TD gk P b n l k F ds X m' dn' e' h L):TD gk P b n l k F ds X m dn e h L:=λhs=>So hF hS hs gk 0 l m dn e (λj=>by rw[Nat.zero_add]) (by rw[hp];exact t hs)
theorem wcoT{x z:α}{o:Operand}{p q:Code}(hx:e.ev o=.bool true)(hs:x=bif c then y else z)(hc:c=true)(t:x=y->TT P b n (.code p::k) F e ds X h L):TT P b n (.code (.cond o p q)::k) F e ds X h L:=mC hx (t (hs.trans (by rw[hc];rfl)))
theorem wcoN{x z:α}{c':Bool}{o:Operand}{p q:Code}(hx:e.ev o=.bool c)(hs:x=bif c' then y else z)(hc:c'=c)(t1:c=true->x=y->TT P b n (.code p::k) F e ds X h L)(t2:c=false->x=z->TT P b n (.code q::k) F e ds X h L):TT P b n (.code (.cond o p q)::k) F e ds X h L:=aH (hc▸hs) hx t1 t2
theorem wcoF{x z:α}{o:Operand}{p q:Code}(hx:e.ev o=.bool false)(hs:x=bif c then y else z)(hc:c=false)(t:x=z->TT P b n (.code q::k) F e ds X h L):TT P b n (.code (.cond o p q)::k) F e ds X h L:=ot hx (t (hs.trans (by rw[hc];rfl)))
section shapes
variable {e:Env} {K:Env->HF->LH->Prop} {ops:Array Oper} {d:Option Nat} {ty t:TypeId} {pos:String} {af:Array Edge} {g:Option (Nat×Bool)} {x y:Operand}
theorem gD(t:TD gk P b n l k F ds X m dn e h L):TD gk P b n l k F ds X m dn e h L:=t
theorem gX(t:TX gk P b n l k F ds X m dn i o e h L):TX gk P b n l k F ds X m dn i o e h L:=t
theorem gXl(q:TX gk P b n l k F ds X m dn i ⟨d,.load t x,ty,pos,af,g⟩ e h L):TX gk P b n l k F ds X m dn i ⟨d,.load t x,ty,pos,af,g⟩ e h L:=q
theorem gXi(q:TX gk P b n l k F ds X m dn i ⟨d,.indexAddr t x y,ty,pos,af,g⟩ e h L):TX gk P b n l k F ds X m dn i ⟨d,.indexAddr t x y,ty,pos,af,g⟩ e h L:=q
theorem gS(q:Stp P b n ops F ds X o e h L K):Stp P b n ops F ds X o e h L K:=q
theorem gJ(q:JT h L h' L' p):JT h L h' L' p:=q
theorem gRg{ops:Array Oper}(q:TT P b n (.code (.region id ops true)::k) F e ds X h L):TT P b n (.code (.region id ops true)::k) F e ds X h L:=q
end shapes
end
theorem wmz{F:List Frame->(Machine->Prop)->Prop}{L:LH}{q:Option Nat}(j:Nat){first:List Operand}(hj:nth captured j=some x)(hx:e.ev x=.pointer (some ⟨bk,0,none⟩))(hL:nth L i=some (bk,.cells cl.toArray T fz))(hM:X.M=[])(t:∀h2,h.le h2->At h2 ⟨bk,0,none⟩ cl->TO P b n ops (⟨q,.makeFunc fn ⟨first⟩ ⟨captured⟩,ty,pos,af,g⟩::l) k F e ds X h2 (dropNth L i)):TO P b n ops (⟨q,.makeFunc fn ⟨first⟩ ⟨captured⟩,ty,pos,af,g⟩::l) k F e ds X h L:=
 cz i hL hM λh2 a b=>t h2 a (dO b)
theorem T2{L:LH}{s t:TypeId}{S:TypeDesc}{kk k2:IntKind}{m:Int}(hS:P.underlying s=some S)(hT:P.underlying t=some (.int k2))(hx:e.ev x=.int kk m):
  ∀w,St X h L w->(execOp e.ev ⟨d,.convert s t x,ty,pos,af,g⟩).run P w=.ok (.value (.int k2 (k2.wrap m))) w:=λw hw=>by
 simp[execOp,convert,run_underlying hS,run_underlying hT,hx,Conv.intToInt]
section
variable {P:Program} {b:Frame} {n:Nat} {k:List Item} {F:List Frame->(Machine->Prop)->Prop} {e:Env} {ds:List Deferred} {X:Cx} {h:HF} {L:LH} {ops:Array Oper} {l:List Oper} {d:Nat} {ty t u:TypeId} {pos:String} {af:Array Edge} {g:Option (Nat×Bool)} {x y:Operand} {ik yk:IntKind} {a c:Int}
theorem wshr(hx:e.ev x=.int ik a)(hy:e.ev y=.int yk c)(hb:0<=c)(t':TO P b n ops l k F (upd e d (.int ik (a.fdiv (2 ^ min c.toNat ik.bits)))) ds X h L)(hd:Nat.blt d n=true:=by rfl)(hg:guardB ops e ⟨some d,.binOp .shr t x y u,ty,pos,af,g⟩=true:=by rfl):TO P b n ops (⟨some d,.binOp .shr t x y u,ty,pos,af,g⟩::l) k F e ds X h L:=
 rQ _ rfl (λw _=>by simp[execOp,hx,hy,eqGuard,binOp,Op.shift,Int.not_lt.2 hb]) hd hg t'
theorem wshl(hx:e.ev x=.int ik a)(hy:e.ev y=.int yk c)(hb:0<=c)(t':TO P b n ops l k F (upd e d (.int ik (ik.wrap (a*2 ^ min c.toNat ik.bits)))) ds X h L)(hd:Nat.blt d n=true:=by rfl)(hg:guardB ops e ⟨some d,.binOp .shl t x y u,ty,pos,af,g⟩=true:=by rfl):TO P b n ops (⟨some d,.binOp .shl t x y u,ty,pos,af,g⟩::l) k F e ds X h L:=
 rQ _ rfl (λw _=>by simp[execOp,hx,hy,eqGuard,binOp,Op.shift,Int.not_lt.2 hb]) hd hg t'
theorem wband(hx:e.ev x=.int ik a)(hy:e.ev y=.int ik c)(t':TO P b n ops l k F (upd e d (.int ik (ik.wrap ((BitVec.ofInt ik.bits a &&& BitVec.ofInt ik.bits c).toNat:Int)))) ds X h L)(hd:Nat.blt d n=true:=by rfl)(hg:guardB ops e ⟨some d,.binOp .and t x y u,ty,pos,af,g⟩=true:=by rfl):TO P b n ops (⟨some d,.binOp .and t x y u,ty,pos,af,g⟩::l) k F e ds X h L:=
 rQ _ rfl (λw _=>by simp[execOp,hx,hy,eqGuard,binOp,Op.intBits]) hd hg t'
theorem wcvP{S:IntKind}(hS:P.underlying t=some (.int S))(hT:P.underlying u=some (.int ik))(hx:e.ev x=.int yk a)(t':TO P b n ops l k F (upd e d (.int ik (ik.wrap a))) ds X h L)(hd:Nat.blt d n=true:=by rfl)(hg:guardB ops e ⟨some d,.convert t u x,ty,pos,af,g⟩=true:=by rfl):TO P b n ops (⟨some d,.convert t u x,ty,pos,af,g⟩::l) k F e ds X h L:=
 aI (eG (T2 hS hT hx) t' hg) rfl hd
end
section
variable {a b c:Bool}
theorem We(h:a=true):(a||b)=true:=by rw[h];rfl
theorem Wd(h:b=true):(a||b)=true:=by rw[h];cases a<;>rfl
theorem Wh(h:a=false):(a&&b)=false:=by rw[h];rfl
theorem Wg(h:b=false):(a&&b)=false:=by rw[h];cases a<;>rfl
theorem Wc(h:a=false)(h':b=c):(a||b)=c:=by rw[h,h'];rfl
theorem Wf(h:a=true)(h':b=c):(a&&b)=c:=by rw[h,h'];rfl
end
theorem bP{p:Prop}(h:p:=by first
 |with_reducible rfl
 |assumption
 |((with_reducible refine We ?_);exact bP)
 |((with_reducible refine Wd ?_);exact bP)
 |((with_reducible refine Wh ?_);exact bP)
 |((with_reducible refine Wg ?_);exact bP)
 |((with_reducible refine Wc ?_ ?_)<;>exact bP)
 |((with_reducible refine Wf ?_ ?_)<;>exact bP)
 |exact rfl
 |fail):p:=h
end
variable {a:Bool}{fv:Go.Value}{mm:Nat}{s:ByteArray}{vs zs:List Go.Value}
section
open Go.Proofs Go.Proofs.Tryz
def wT:List (Nat×(Nat×Bool)):=(221,(1,false))::(264,(1,false))::(249,(1,false))::(252,(2,true))::(31,(1,false))::(306,(1,false))::(3,(1,false))::(36,(1,false))::(347,(1,true))::(257,(2,true))::(255,(1,false))::(254,(1,false))::(258,(1,false))::(207,(7,true))::(24,(1,false))::(4,(1,false))::(26,(1,false))::(279,(1,false))::(215,(6,true))::(150,(1,false))::(105,(1,false))::(136,(1,false))::(212,(2,true))::(54,(41,true))::(43,(1,false))::(40,(4,true))::(98,(2,true))::(33,(1,false))::(96,(50,true))::(25,(1,false))::(32,(1,false))::(61,(10,true))::(79,(5,true))::(77,(1,false))::(134,(1,false))::(35,(1,false))::(140,(1,false))::(190,(1,false))::(67,(8,true))::(120,(7,true))::(204,(10,true))::(73,(8,true))::(354,(1,false))::(59,(5,true))::(57,(1,false))::(320,(6,true))::(56,(1,false))::(65,(8,true))::(55,(1,false))::(9,(1,false))::(237,(1,false))::(63,(13,true))::(22,(1,false))::(23,(1,false))::(27,(1,false))::(28,(1,false))::(223,(5,true))::(226,(2,true))::(30,(7,true))::(362,(4,true))::(358,(1,false))::(365,(1,false))::(205,(1,false))::(325,(5,true))::(367,(4,true))::(299,(1,false))::(301,(3,true))::(268,(2,true))::(191,(1,false))::(275,(3,true))::(345,(1,false))::(311,(1,false))::(312,(5,true))::(45,(2,true))::(102,(1,false))::[]
def wZ:List (Nat×List Value):=(252,[.int .i64 0,.int .i64 0])::(3,[.int .i64 0])::(36,[.int .i64 0])::(347,[.int .i64 0])::(257,[.slice none 0 0,.int .i64 0])::(207,[.int .i64 0,.int .i64 0,.int .i64 0,.int .i64 0,.int .i64 0,.bool false,.bool false])::(254,[.map none])::(221,[.map none])::(255,[.chan none])::(258,[.nilFunc])::(279,[.nilFunc])::(31,[.slice none 0 0])::(215,[.slice none 0 0,.map none,.slice none 0 0,.slice none 0 0,.slice none 0 0,.map none])::(150,[.pointer none])::(105,[.map none])::(136,[.slice none 0 0])::(212,[.slice none 0 0,.map none])::(54,(.int .i64 0::.int .i64 0::.int .i64 0::.int .i64 0::.int .i64 0::.int .i64 0::.slice none 0 0::.slice none 0 0::.slice none 0 0::.int .u8 0::.int .u8 0::.int .u8 0::.int .u8 0::.int .u8 0::.int .u8 0::.int .u8 0::.int .u8 0::.int .u8 0::.int .u8 0::.int .u8 0::.int .u8 0::.int .u8 0::.int .u8 0::.int .u8 0::.int .u8 0::.int .u8 0::.int .u8 0::.int .u8 0::.int .u8 0::.int .u8 0::.int .u8 0::.int .u8 0::.int .u8 0::.int .u8 0::.int .u8 0::.int .u8 0::.int .u8 0::.int .u8 0::.int .u8 0::.int .u8 0::.int .u8 0::[]))::(43,[.map none])::(40,[.int .i64 0,.int .i64 0,.slice none 0 0,.slice none 0 0])::(98,[.int .i64 0,.nilFunc])::(96,(.slice none 0 0::.slice none 0 0::.slice none 0 0::.slice none 0 0::.slice none 0 0::.slice none 0 0::.slice none 0 0::.int .i64 0::.int .i64 0::.int .i64 0::.int .i64 0::.int .i64 0::.int .i64 0::.slice none 0 0::.slice none 0 0::.slice none 0 0::.int .u8 0::.int .u8 0::.int .u8 0::.int .u8 0::.int .u8 0::.int .u8 0::.int .u8 0::.int .u8 0::.int .u8 0::.int .u8 0::.int .u8 0::.int .u8 0::.int .u8 0::.int .u8 0::.int .u8 0::.int .u8 0::.int .u8 0::.int .u8 0::.int .u8 0::.int .u8 0::.int .u8 0::.int .u8 0::.int .u8 0::.int .u8 0::.int .u8 0::.int .u8 0::.int .u8 0::.int .u8 0::.int .u8 0::.int .u8 0::.int .u8 0::.int .u8 0::.int .i64 0::.int .i64 0::[]))::(61,[.string (⟨#[]⟩:ByteArray),.slice none 0 0,.slice none 0 0,.slice none 0 0,.int .i64 0,.int .i64 0,.int .i64 0,.string (⟨#[]⟩:ByteArray),.slice none 0 0,.int .i64 0])::(4,[.bool false])::(79,[.bool false,.slice none 0 0,.slice none 0 0,.slice none 0 0,.nilFunc])::(77,[.nilFunc])::(134,[.slice none 0 0])::(35,[.slice none 0 0])::(140,[.slice none 0 0])::(190,[.slice none 0 0])::(67,[.int .i64 0,.int .i64 0,.int .i64 0,.int .i64 0,.int .i64 0,.int .i64 0,.int .i64 0,.bool false])::(120,[.int .i64 0,.int .i64 0,.int .i64 0,.int .i64 0,.int .i64 0,.int .i64 0,.bool false])::(204,[.int .i64 0,.int .i64 0,.int .i64 0,.int .i64 0,.int .i64 0,.int .i64 0,.int .i64 0,.int .i64 0,.int .i64 0,.bool false])::(73,[.int .i64 0,.int .i64 0,.int .i64 0,.int .i64 0,.int .i64 0,.int .i64 0,.int .i64 0,.bool false])::(320,[.int .i64 0,.int .i64 0,.int .i64 0,.string (⟨#[]⟩:ByteArray),.slice none 0 0,.int .i64 0])::(59,[.int .i64 0,.int .i64 0,.int .i64 0,.string (⟨#[]⟩:ByteArray),.slice none 0 0])::(65,[.string (⟨#[]⟩:ByteArray),.int .i64 0,.int .i64 0,.int .i64 0,.int .i64 0,.int .i64 0,.string (⟨#[]⟩:ByteArray),.slice none 0 0])::(57,[.slice none 0 0])::(63,[.int .i64 0,.int .i64 0,.int .i64 0,.string (⟨#[]⟩:ByteArray),.slice none 0 0,.slice none 0 0,.slice none 0 0,.int .i64 0,.int .i64 0,.int .i64 0,.string (⟨#[]⟩:ByteArray),.slice none 0 0,.int .i64 0])::(223,[.int .i64 0,.int .i64 0,.int .i64 0,.int .i64 0,.int .i64 0])::(226,[.int .i64 0,.int .i64 0])::(26,[.slice none 0 0])::(362,[.int .i64 0,.int .i64 0,.int .i64 0,.int .i64 0])::(28,[.slice none 0 0])::(358,[.map none])::(367,[.int .i64 0,.int .i64 0,.int .i64 0,.int .i64 0])::(205,[.nilFunc])::(365,[.map none])::(325,[.int .i64 0,.int .i64 0,.int .i64 0,.int .i64 0,.int .i64 0])::(301,[.int .i64 0,.int .i64 0,.bool false])::(299,[.map none])::(268,[.int .i64 0,.int .i64 0])::(345,[.nilFunc])::(312,[.nilFunc,.nilFunc,.nilFunc,.nilFunc,.nilFunc])::(275,[.int .i64 0,.slice none 0 0,.slice none 0 0])::(191,[.slice none 0 0])::(45,[.int .i64 0,.int .i64 0])::(30,[.slice none 0 0,.slice none 0 0,.slice none 0 0,.slice none 0 0,.slice none 0 0,.slice none 0 0,.slice none 0 0])::(9,[.string (⟨#[]⟩:ByteArray)])::[]
def wB:List (Nat×Nat):=(252,16)::(3,8)::(207,48)::(257,32)::(4,1)::(77,8)::(134,24)::(35,24)::(190,24)::(59,64)::(65,96)::(73,64)::(63,184)::(67,64)::(204,80)::(268,16)::(191,24)::(45,16)::(120,56)::[]
def wS:List (Nat×Nat):=(22,120)::(23,204)::(24,207)::(25,73)::(26,63)::(27,54)::(28,67)::(31,3)::(32,223)::(35,45)::(55,9)::(56,65)::(57,59)::(101,98)::(134,77)::(136,4)::(140,35)::(148,36)::(190,191)::(191,268)::(272,31)::(306,252)::[]
def wL:List (Nat×Bool):=(22,true)::(23,true)::(24,true)::(25,true)::(26,true)::(27,true)::(28,true)::(31,true)::(32,true)::(35,true)::(55,true)::(56,true)::(57,true)::(101,true)::(134,true)::(136,true)::(140,true)::(148,true)::(190,true)::(191,true)::(272,true)::(306,true)::(9,false)::(10,false)::(11,false)::[]
def wI:List (Nat×IntKind):=(2,.i64)::(3,.i64)::(5,.u8)::(6,.u8)::(12,.u64)::(36,.i64)::(139,.u64)::(199,.u32)::(201,.u64)::(285,.i64)::(331,.u64)::(390,.u8)::(391,.u8)::[]
def wP:List (Nat×List (Nat×Nat)):=(30,[(0,1),(1,1),(2,1),(3,1),(4,1),(5,1),(6,1)])::(40,[(0,1),(1,1),(2,1),(3,1)])::(45,[(0,1),(1,1)])::(54,[(0,1),(1,1),(2,1),(3,1),(4,1),(5,1),(6,1),(7,1),(8,1),(9,32)])::(59,[(0,1),(1,1),(2,1),(3,1),(4,1)])::(61,[(0,1),(1,1),(2,1),(3,1),(4,5),(9,1)])::(63,[(0,1),(1,1),(2,1),(3,10)])::(65,[(0,1),(1,1),(2,1),(3,5)])::(67,[(0,1),(1,1),(2,1),(3,1),(4,1),(5,1),(6,1),(7,1)])::(73,[(0,1),(1,1),(2,1),(3,1),(4,1),(5,1),(6,1),(7,1)])::(79,[(0,1),(1,1),(2,1),(3,1),(4,1)])::(96,[(0,7),(7,41),(48,1),(49,1)])::(98,[(0,1),(1,1)])::(120,[(0,1),(1,1),(2,1),(3,1),(4,1),(5,1),(6,1)])::(204,[(0,1),(1,1),(2,1),(3,1),(4,1),(5,1),(6,1),(7,1),(8,1),(9,1)])::(207,[(0,1),(1,1),(2,1),(3,1),(4,1),(5,1),(6,1)])::(212,[(0,1),(1,1)])::(215,[(0,2),(2,1),(3,1),(4,1),(5,1)])::(223,[(0,1),(1,1),(2,1),(3,1),(4,1)])::(226,[(0,1),(1,1)])::(252,[(0,1),(1,1)])::(257,[(0,1),(1,1)])::(268,[(0,1),(1,1)])::(275,[(0,1),(1,1),(2,1)])::(301,[(0,1),(1,1),(2,1)])::(320,[(0,5),(5,1)])::(325,[(0,1),(1,1),(2,1),(3,1),(4,1)])::(347,[(0,1)])::(362,[(0,1),(1,1),(2,1),(3,1)])::(367,[(0,1),(1,1),(2,1),(3,1)])::[]
def wF:List (Nat×Nat×Nat):=(347,0,0)::(257,0,0)::(257,1,1)::(207,0,0)::(207,3,3)::(207,4,4)::(207,5,5)::(268,1,1)::(215,0,0)::(215,1,2)::(215,2,3)::(215,3,4)::(215,4,5)::(212,0,0)::(212,1,1)::(54,0,0)::(54,7,7)::(54,8,8)::(40,0,0)::(40,1,1)::(40,2,2)::(40,3,3)::(98,0,0)::(98,1,1)::(30,3,3)::(30,4,4)::(30,5,5)::(96,0,0)::(96,1,7)::(96,2,48)::(96,3,49)::(54,1,1)::(54,2,2)::(54,3,3)::(79,0,0)::(79,1,1)::(79,2,2)::(79,3,3)::(79,4,4)::(67,0,0)::(67,1,1)::(67,2,2)::(67,3,3)::(67,4,4)::(67,5,5)::(67,6,6)::(120,6,6)::(120,0,0)::(120,1,1)::(120,2,2)::(120,3,3)::(120,4,4)::(120,5,5)::(204,0,0)::(204,1,1)::(204,2,2)::(204,4,4)::(204,5,5)::(204,6,6)::(204,7,7)::(204,9,9)::(204,3,3)::(204,8,8)::(207,1,1)::(207,2,2)::(73,7,7)::(73,0,0)::(73,1,1)::(73,2,2)::(73,3,3)::(73,4,4)::(73,5,5)::(73,6,6)::(59,4,4)::(61,3,3)::(65,3,3)::(61,4,4)::(61,2,2)::(61,1,1)::(320,1,5)::(59,0,0)::(61,0,0)::(320,0,0)::(59,3,3)::(59,1,1)::(61,5,9)::(65,0,0)::(65,2,2)::(59,2,2)::(65,1,1)::(63,0,0)::(63,1,1)::(63,2,2)::(63,3,3)::(54,4,4)::(54,5,5)::(54,6,6)::(30,0,0)::(30,1,1)::(30,2,2)::(30,6,6)::(223,0,0)::(223,1,1)::(223,2,2)::(223,3,3)::(223,4,4)::(67,7,7)::(325,0,0)::(325,1,1)::(325,2,2)::(325,3,3)::(325,4,4)::(207,6,6)::(252,1,1)::(252,0,0)::(268,0,0)::(275,1,1)::(275,2,2)::(275,0,0)::(45,0,0)::(45,1,1)::[]
theorem pD:wT.map (λx=>tySz prog x.1)=wT.map (λx=>some x.2):=by kernel_rfl
theorem Pb:wZ.map (λx=>zeroC prog x.1)=wZ.map (λx=>some x.2):=by kernel_rfl
theorem Vy:wB.map (λx=>bytesOf prog x.1)=wB.map (λx=>some x.2):=by kernel_rfl
theorem Mc:wS.map (λx=>sliceE prog x.1)=wS.map (λx=>some x.2):=by kernel_rfl
theorem GA:wL.map (λx=>lenK prog x.1)=wL.map (λx=>some x.2):=by kernel_rfl
theorem Uy:wI.map (λx=>intK prog x.1)=wI.map (λx=>some x.2):=by kernel_rfl
theorem Vx:wP.map (λx=>plcs prog x.1)=wP.map (λx=>some x.2):=by kernel_rfl
theorem JL:(wF.all λx=>fldOf prog x.1 x.2.1==some x.2.2)=true:=by kernel_rfl
class Cl(f:FuncId):Prop where
 call:∀args w,(callFunc f args).run prog w=.ok (.enter f args) w
class CtI(f:FuncId) where
 p:Prop
 pf:p
class Ct(f:FuncId) where
 p:Prop
 call:∀args w,(callFunc f args).run prog w=.ok (.enter f args) w
 pf:p
instance:RpG bW.rp:=⟨bW.dg⟩
instance:RpG Use.rp:=⟨Use.dg⟩
instance:RpG aK.rp:=⟨aK.dg⟩
instance:RpG bA.rp:=⟨bA.dg⟩
instance:RpG aG.rp:=⟨aG.dg⟩
instance:RpG zR:=⟨Budget.dg⟩
instance:RpG ay.rp:=⟨ay.dg⟩
instance:RpG aj.rp:=⟨aj.dg⟩
instance:RpG fC.rp:=⟨fC.dg⟩
instance:RpG aw.rp:=⟨aw.dg⟩
instance:RpG aE.rp:=⟨aE.dg⟩
instance:RpG ao.rp:=⟨ao.dg⟩
instance:RpG Register.rp:=⟨Register.dg⟩
instance:RpG fN.rp:=⟨fN.dg⟩
instance:RpG jJ:=⟨Lack.dg⟩
instance:RpG Xn:=⟨OSeat.dg⟩
instance:RpG dZ.rp:=⟨dZ.dg⟩
instance:RpG iE.rp:=⟨iE.dg⟩
instance:RpG bj.rp:=⟨bj.dg⟩
instance:RpG gG.rp:=⟨gG.dg⟩
instance:RpG tq.rp:=⟨tq.dg⟩
instance:RpG iq.rp:=⟨iq.dg⟩
instance:RpG fL.rp:=⟨fL.dg⟩
instance:RpG ek.rp:=⟨ek.dg⟩
instance:RpG cL.rp:=⟨cL.dg⟩
instance:RpG gl.rp:=⟨gl.dg⟩
instance:RpG fh.rp:=⟨fh.dg⟩
instance:RpG bU.rp:=⟨bU.dg⟩
class Sub(cl:List Value)(off m:Nat)(cs:outParam (List Value)):Prop where
 pf:cut cl off m=some cs
instance (x:fC) (r:Co):Sub (fC.cells x r) 3 5 (aj.cells x.aj r.aj):=⟨rfl⟩
instance (x:aw) (r:jv):Sub (aw.cells x r) 4 5 (aj.cells x.aO r.aO):=⟨rfl⟩
instance (x:aE) (r:pR):Sub (aE.cells x r) 3 10 (aw.cells x.aw r.aw):=⟨rfl⟩
instance (x:gG) (r:C7):Sub (gG.cells x r) 0 5 (aj.cells x.x r.x):=⟨rfl⟩
instance (x:fh) (r:vO):Sub (fh.cells x r) 0 2 (iq.cells x.shelf r.shelf):=⟨rfl⟩
instance (x:bU) (r:sG):Sub (bU.cells x r) 0 7 (Register.cells x.Register r.Register):=⟨rfl⟩
instance (x:bU) (r:sG):Sub (bU.cells x r) 7 41 (ao.cells x.aV r.aV):=⟨rfl⟩
class RpT(E:Nat){α : outParam Type}(R:outParam (Rp α)):Prop where
 pf:R.Good
instance:RpT 3 jB:=⟨RpG.good⟩
instance:RpT 4 Rp.bool:=⟨RpG.good⟩
instance:RpT 35 (W9 jJ):=⟨RpG.good⟩
instance:RpT 45 jJ:=⟨RpG.good⟩
instance:RpT 59 aj.rp:=⟨RpG.good⟩
instance:RpT 63 aE.rp:=⟨RpG.good⟩
instance:RpT 65 fC.rp:=⟨RpG.good⟩
instance:RpT 67 ay.rp:=⟨RpG.good⟩
instance:RpT 73 zR:=⟨RpG.good⟩
instance:RpT 120 aK.rp:=⟨RpG.good⟩
instance:RpT 190 (W9 (W9 bW.rp)):=⟨RpG.good⟩
instance:RpT 191 (W9 bW.rp):=⟨RpG.good⟩
instance:RpT 204 bA.rp:=⟨RpG.good⟩
instance:RpT 207 aG.rp:=⟨RpG.good⟩
instance:RpT 252 Xn:=⟨RpG.good⟩
instance:RpT 257 iE.rp:=⟨RpG.good⟩
instance:RpT 268 bW.rp:=⟨RpG.good⟩
section
variable {b:Frame} {n:Nat} {k:List Item} {F:List Frame->(Machine->Prop)->Prop} {e:Env} {ds:List Deferred} {X:Cx} {h:HF} {L:LH}
variable {ops ops':Array Oper} {l l':List Oper} {d:Nat} {ty:TypeId} {pos:String} {af:Array Edge} {g:Option (Nat×Bool)} {k':List Item} {e':Env}
theorem wtt(hr:goM false wF wL n 300 (.tt k e)=some (.tt k' e'))(t:TT prog b n k' F e' ds X h L):TT prog b n k F e ds X h L:=Ie (s':=.tt k' e') JL GA hr t
theorem wto(hr:goM false wF wL n 300 (.tt k e)=some (.to ops' l' k' e'))(t:TO prog b n ops' l' k' F e' ds X h L):TT prog b n k F e ds X h L:=Ie (s':=.to ops' l' k' e') JL GA hr t
theorem wot(hr:goM false wF wL n 300 (.to ops l k e)=some (.tt k' e'))(t:TT prog b n k' F e' ds X h L):TO prog b n ops l k F e ds X h L:=Ie (s':=.tt k' e') JL GA hr t
theorem woo(hr:goM false wF wL n 300 (.to ops l k e)=some (.to ops' l' k' e'))(t:TO prog b n ops' l' k' F e' ds X h L):TO prog b n ops l k F e ds X h L:=Ie (s':=.to ops' l' k' e') JL GA hr t
theorem wgo(hr:goM true wF wL n 0 (.to ops l k e)=some (.to ops' l' k' e'))(t:TO prog b n ops' l' k' F e' ds X h L):TO prog b n ops l k F e ds X h L:=Ie (s':=.to ops' l' k' e') JL GA hr t
theorem wld{t:TypeId}{off:Nat}(hT:lookN wT t=some (m,a))(hx:e.ev x=.pointer (some ⟨bk,off,none⟩))(hL:nth L i=some (bk,.cells cl.toArray T fz))(hv:ldV a m cl off=some v)(t':TO prog b n ops l k F (upd e d v) ds X h L)(hd:Nat.blt d n=true:=by rfl)(hg:guardB ops e ⟨some d,.load t x,ty,pos,af,g⟩=true:=by rfl):TO prog b n ops (⟨some d,.load t x,ty,pos,af,g⟩::l) k F e ds X h L:=by
 cases a with
 |false=>exact py i (tabq (f:=tySz prog) pD hT) hx hL hv t' hd hg
 |true=>
  unfold ldV at hv;split at hv
  .next h1=>cases h1
  .split at hv
   .next hc=>cases hv;exact dy i (tabq (f:=tySz prog) pD hT) hx hL hc t' hd hg
   .cases hv
theorem wlh{t:TypeId}{cs:List Value}(hT:lookN wT t=some (m,a))(hx:e.ev x=.pointer (some (q.add j)))(ha:At h q cs)(hv:ldV a m cs j=some v)(t':TO prog b n ops l k F (upd e d v) ds X h L)(hd:Nat.blt d n=true:=by rfl)(hg:guardB ops e ⟨some d,.load t x,ty,pos,af,g⟩=true:=by rfl):TO prog b n ops (⟨some d,.load t x,ty,pos,af,g⟩::l) k F e ds X h L:=by
 cases a with
 |false=>exact lQ (tabq (f:=tySz prog) pD hT) ha hx hv t' hd hg
 |true=>
  unfold ldV at hv;split at hv
  .next h1=>cases h1
  .split at hv
   .next hc=>cases hv;exact EF (tabq (f:=tySz prog) pD hT) ha hx hc t' hd hg
   .cases hv
theorem wlhS{t:TypeId}{cs cs':List Value}(hT:lookN wT t=some (m,true))(hx:e.ev x=.pointer (some (q.add j)))(ha:At h q cs)[s:Sub cs j m cs'](t':TO prog b n ops l k F (upd e d (.agg cs'.toArray)) ds X h L)(hd:Nat.blt d n=true:=by rfl)(hg:guardB ops e ⟨some d,.load t x,ty,pos,af,g⟩=true:=by rfl):TO prog b n ops (⟨some d,.load t x,ty,pos,af,g⟩::l) k F e ds X h L:=EF (tabq (f:=tySz prog) pD hT) ha hx s.pf t' hd hg
theorem wlh0{t:TypeId}{cs:List Value}(hT:lookN wT t=some (m,false))(hx:e.ev x=.pointer (some q))(ha:At h q (v::cs))(t':TO prog b n ops l k F (upd e d v) ds X h L)(hd:Nat.blt d n=true:=by rfl)(hg:guardB ops e ⟨some d,.load t x,ty,pos,af,g⟩=true:=by rfl):TO prog b n ops (⟨some d,.load t x,ty,pos,af,g⟩::l) k F e ds X h L:=eJ (tabq (f:=tySz prog) pD hT) ha hx t' hd hg
theorem wlhs{t:TypeId}{cs:List Value}(hT:lookN wT t=some (m,true))(hx:e.ev x=.pointer (some q))(ha:At h q cs)(hm:cs.length=m)(t':TO prog b n ops l k F (upd e d (.agg cs.toArray)) ds X h L)(hd:Nat.blt d n=true:=by rfl)(hg:guardB ops e ⟨some d,.load t x,ty,pos,af,g⟩=true:=by rfl):TO prog b n ops (⟨some d,.load t x,ty,pos,af,g⟩::l) k F e ds X h L:=eU (tabq (f:=tySz prog) pD hT) ha hm hx t' hd hg
theorem wsW{t:TypeId}{y:Operand}(hT:lookN wT t=some (m,a))(hx:e.ev x=.pointer (some ⟨bk,0,none⟩))(hv:e.ev y=.agg vs.toArray)(hL:nth L i=some (bk,.cells cl.toArray T (0,0)))(hm:vs.length=m)(hc:cl.length=m)(h1:vs.all one=true)(t':TO prog b n ops l k F e ds X h (setNth L i (bk,.cells vs.toArray T (0,0))))(hg:guardB ops e ⟨none,.store t x y,ty,pos,af,g⟩=true:=by rfl):TO prog b n ops (⟨none,.store t x y,ty,pos,af,g⟩::l) k F e ds X h L:=bE i (tabq (f:=tySz prog) pD hT) hx hL hv hm hc h1 t' hg
theorem wst{t:TypeId}{y:Operand}{off:Nat}(hT:lookN wT t=some (m,a))(hx:e.ev x=.pointer (some ⟨bk,off,none⟩))(hL:nth L i=some (bk,.cells cl.toArray T (0,0)))(hv:vcells (e.ev y)=vs)(hm:vs.length=m)(de:Nat.ble (off+vs.length) cl.length=true)(h1:vs.all one=true)(t':TO prog b n ops l k F e ds X h (setNth L i (bk,.cells (splice cl off vs).toArray T (0,0))))(hg:guardB ops e ⟨none,.store t x y,ty,pos,af,g⟩=true:=by rfl):TO prog b n ops (⟨none,.store t x y,ty,pos,af,g⟩::l) k F e ds X h L:=cW i (tabq (f:=tySz prog) pD hT) hx hL hv hm de h1 t' hg
theorem wix{t:TypeId}{ix:Operand}{z:Int}(hT:lookN wS t=some E)(hx:e.ev x=.slice base m cap)(hix:e.ev ix=.int .i64 z)(hm:m=xs.length)(hR:SlC R h base cap xs)(hS:lookN wT E=some (R.sz,a))(hz:0<=z/\z<(xs.length:Int))(hj:xs[z.toNat]? = some y)(t':∀q cs,At h q cs->cs.length=R.sz->R.rep h cs y->TO prog b n ops l k F (upd e d (.pointer (some q))) ds X h L)(hd:Nat.blt d n=true:=by rfl)(hg:guardB ops e ⟨some d,.indexAddr t x ix,ty,pos,af,g⟩=true:=by rfl):TO prog b n ops (⟨some d,.indexAddr t x ix,ty,pos,af,g⟩::l) k F e ds X h L:=
 aI (MJ (xl (tabq (f:=sliceE prog) Mc hT)) (tabq (f:=tySz prog) pD hS) hR.1 hz hj hx hm hix t' hg) rfl hd
theorem wixw{t:TypeId}{ix:Operand}{z:Int}(hT:lookN wS t=some E)(hx:e.ev x=.slice base m cap)(hix:e.ev ix=.int .i64 (IntKind.i64.wrap z))(hm:m=xs.length)(hR:SlC R h base cap xs)(hS:lookN wT E=some (R.sz,a))(hz:0<=z/\z<(xs.length:Int))(hj:xs[z.toNat]? = some y)(t':∀q cs,At h q cs->cs.length=R.sz->R.rep h cs y->TO prog b n ops l k F (upd e d (.pointer (some q))) ds X h L)(hd:Nat.blt d n=true:=by rfl)(hg:guardB ops e ⟨some d,.indexAddr t x ix,ty,pos,af,g⟩=true:=by rfl):TO prog b n ops (⟨some d,.indexAddr t x ix,ty,pos,af,g⟩::l) k F e ds X h L:=
 wix hT hx (hix.trans (lv (by have:=hR.1.1;omega))) hm hR hS hz hj t' hd hg
theorem wcv{t:TypeId}{ik S yk:IntKind}{a:Int}(hS:lookN wI t=some S)(hT:lookN wI u=some ik)(hx:e.ev x=.int yk a)(t':TO prog b n ops l k F (upd e d (.int ik (ik.wrap a))) ds X h L)(hd:Nat.blt d n=true:=by rfl)(hg:guardB ops e ⟨some d,.convert t u x,ty,pos,af,g⟩=true:=by rfl):TO prog b n ops (⟨some d,.convert t u x,ty,pos,af,g⟩::l) k F e ds X h L:=
 wcvP (P1 (tabq (f:=intK prog) Uy hS)) (P1 (tabq (f:=intK prog) Uy hT)) hx t' hd hg
theorem wbf{t:TypeId}[i:RpT E R]{len sz:Nat}{parts:List (Nat×Operand)}(hT:lookN wS t=some E)(hS:lookN wT E=some (sz,a))(hz:lookN wZ E=some zs)(hc1:cS R h (litC e parts) xs)(hl:len=xs.length)(hM:X.M=[])(t':∀bk h',h.le h'->SlC R h' (some ⟨bk,0,none⟩) xs.length xs->TO prog b n ops l k F (upd e d (.slice (some ⟨bk,0,none⟩) xs.length xs.length)) ds X h' L)(de:xs.length<=9223372036854775807:=by simp)(hpos:Nat.blt 0 (len*sz)=true:=by rfl)(hlt:Nat.ble (len*sz) 16777216=true:=by rfl)(hc:Instr.fill (λi=>some (i*sz,sz)) ((Array.range (len*sz)).map (zs.toArray[·%zs.toArray.size]!)) (parts.map λp=>(p.1,e.ev p.2))=some (litC e parts).toArray:=by kernel_rfl)(hd:Nat.blt d n=true:=by rfl)(hg:guardB ops e ⟨some d,.buildSlice t len ⟨parts⟩,ty,pos,af,g⟩=true:=by rfl):TO prog b n ops (⟨some d,.buildSlice t len ⟨parts⟩,ty,pos,af,g⟩::l) k F e ds X h L:=by
 refine aI (bN (xl (tabq (f:=sliceE prog) Mc hT)) (tabq (f:=tySz prog) pD hS) (tabq (f:=zeroC prog) Pb hz) hpos hlt hc (λbk=>?_) hg) rfl hd
 refine cz 0 rfl hM (λh2 h1 hb=>?_)
 have:=t' bk h2 h1 (slL hb (kH _) (hc1.mono i.pf.mono h1) de (kE _))
 subst hl
 exact this
theorem wap{t:TypeId}[i:RpT E R]{s y:Operand}{ys:List α}{base2:Option Addr}{cap2:Nat}{Q:LH}{vx:Nat}(hT:lookN wS t=some E)(hx:e.ev s=.slice base m cap)(hG:cN R E h xs base cap G)(hm:m=xs.length)(hp:L.Perm (Q++G))(hy:e.ev y=.slice base2 ys.length cap2)(hs2:SlC R h base2 cap2 ys)(hS:lookN wT E=some (R.sz,a))(hz:lookN wZ E=some zs)(hzl:zs.length=R.sz)(hby:lookN wB E=some vx)(hb:(xs.length+ys.length)*vx<=140737488355328)(hb2:xs.length+ys.length<=9223372036854775807)(t':∀base' cap' G',cN R E h (xs++ys) base' cap' G'->TO prog b n ops l k F (upd e d (.slice base' (xs++ys).length cap')) ds X h (Q++G'))(hd:Nat.blt d n=true:=by rfl)(hg:guardB ops e ⟨some d,.call ⟨.builtin .append,#[s,y],#[t,t]⟩,ty,pos,af,g⟩=true:=by rfl):TO prog b n ops (⟨some d,.call ⟨.builtin .append,#[s,y],#[t,t]⟩,ty,pos,af,g⟩::l) k F e ds X h L:=
 qZ (hp.trans xG) (aI (eB i.pf [] Q (λG'=>Q++G') rfl (λ_=>rfl) (xl (tabq (f:=sliceE prog) Mc hT)) (tabq (f:=tySz prog) pD hS) (tabq (f:=zeroC prog) Pb hz) hzl (tabq (f:=bytesOf prog) Vy hby) hG hx hm (by rw[hy];exact km hs2.1) hb hb2
  t' hg) rfl hd)
theorem wsx{t:TypeId}{ix:Operand}{i:Int}(hT:lookN wL t=some false)(hx:e.ev x=.string s)(hix:e.ev ix=.int .i64 i)(hi:0<=i/\i<(s.size:Int))(t':TO prog b n ops l k F (upd e d (.int .u8 ((s.data.getD i.toNat 0).toNat:Nat))) ds X h L)(hd:Nat.blt d n=true:=by rfl)(hg:guardB ops e ⟨some d,.index t x ix,ty,pos,af,g⟩=true:=by rfl):TO prog b n ops (⟨some d,.index t x ix,ty,pos,af,g⟩::l) k F e ds X h L:=aI (eG (Ow (SD (tabq (f:=lenK prog) GA hT)) hx hix hi) t' hg) rfl hd
section
variable {K:Env->HF->LH->Prop} {q:Option Nat}
theorem wcR[i:Ct f](hvs:ass.toList.map e.ev=vs)(hs:i.p->Ret prog f vs h v)(t':K (upd e d v) h L)(hg:guardB ops e ⟨some d,.call ⟨.value (.func f),ass,ats⟩,ty,pos,af,g⟩=true:=by rfl):Stp prog b n ops F ds X ⟨some d,.call ⟨.value (.func f),ass,ats⟩,ty,pos,af,g⟩ e h L K:=gi i.call (hs i.pf) hvs t' hg
theorem wcH{φ:Value->HF->Prop}[i:Ct f](hvs:ass.toList.map e.ev=vs)(hs:i.p->j6 prog f vs h φ)(t':∀v h',h.le h'->φ v h'->K (pute e q v) h' L)(hg:guardB ops e ⟨q,.call ⟨.value (.func f),ass,ats⟩,ty,pos,af,g⟩=true:=by rfl):Stp prog b n ops F ds X ⟨q,.call ⟨.value (.func f),ass,ats⟩,ty,pos,af,g⟩ e h L K:=cx i.call (hs i.pf) hvs t' hg
theorem wcV{t:Nat}(hf:e t=fv)(hvs:ass.toList.map e.ev=vs)(hs:qX prog fv vs h [] v)(t':K (pute e q v) h L)(hg:guardB ops e ⟨q,.call ⟨.value (.tmp t),ass,ats⟩,ty,pos,af,g⟩=true:=by rfl):Stp prog b n ops F ds X ⟨q,.call ⟨.value (.tmp t),ass,ats⟩,ty,pos,af,g⟩ e h L K:=ka [] (List.nil_sublist _) hs hf hvs t' hg
theorem wmf{first:List Operand}(t':K (pute e q (.func fn (first.map e.ev).toArray (captured.map e.ev).toArray)) h L)(hg:guardB ops e ⟨q,.makeFunc fn ⟨first⟩ ⟨captured⟩,ty,pos,af,g⟩=true:=by rfl):Stp prog b n ops F ds X ⟨q,.makeFunc fn ⟨first⟩ ⟨captured⟩,ty,pos,af,g⟩ e h L K:=gM rfl rfl t' hg
theorem wal{t:TypeId}(hz:lookN wZ t=some zs)(t':∀bk,K (upd e d (.pointer (some ⟨bk,0,none⟩))) h ((bk,.cells zs.toArray t (0,0))::L))(hg:guardB ops e ⟨some d,.alloc t,ty,pos,af,g⟩=true:=by rfl):Stp prog b n ops F ds X ⟨some d,.alloc t,ty,pos,af,g⟩ e h L K:=Bp (tabq (f:=zeroC prog) Pb hz) t' hg
theorem wbs0{t:TypeId}{sz:Nat}(hT:lookN wS t=some E)(hS:lookN wT E=some (sz,a))(t':∀bk,K (upd e d (.slice (some ⟨bk,0,none⟩) 0 0)) h ((bk,.cells [].toArray E (0,0))::L))(hg:guardB ops e ⟨some d,.buildSlice t 0 #[],ty,pos,af,g⟩=true:=by rfl):Stp prog b n ops F ds X ⟨some d,.buildSlice t 0 #[],ty,pos,af,g⟩ e h L K:=
 pw (xl (tabq (f:=sliceE prog) Mc hT)) (tabq (f:=tySz prog) pD hS) t' hg
theorem wbd{t:TypeId}{parts:List (Nat×Operand)}{cells:List Value}(hT:lookN wP t=some pl)(hz:lookN wZ t=some zs)(hcl:litB pl e parts zs=cells)(t':K (upd e d (.agg cells.toArray)) h L)(hc:Instr.fill (λi=>pl.toArray[i]?) zs.toArray (parts.map λp=>(p.1,e.ev p.2))=some cells.toArray:=by kernel_rfl)(hg:guardB ops e ⟨some d,.build t ⟨parts⟩,ty,pos,af,g⟩=true:=by rfl):Stp prog b n ops F ds X ⟨some d,.build t ⟨parts⟩,ty,pos,af,g⟩ e h L K:=
 let ⟨_,a,c⟩:=T6 (tabq (f:=plcs prog) Vx hT)
 ie a (tabq (f:=zeroC prog) Pb hz) c hc t' hg
theorem wcRr[i:Cl f](hvs:ass.toList.map e.ev=vs)(hs:Ret prog f vs h v)(t':K (upd e d v) h L)(hg:guardB ops e ⟨some d,.call ⟨.value (.func f),ass,ats⟩,ty,pos,af,g⟩=true:=by rfl):Stp prog b n ops F ds X ⟨some d,.call ⟨.value (.func f),ass,ats⟩,ty,pos,af,g⟩ e h L K:=gi i.call hs hvs t' hg
end
section
variable {K:Env->HF->LH->Prop} {q:Option Nat}
theorem wcX{f0:FuncId}{fn:Func}{σ:Type}{fv:ρ->Value}{fz:σ->Value}{x:Except Int ρ}{z:Except Int σ}{kk:ρ->Except Int σ}[i:Ct f](hvs:ass.toList.map e.ev=vs)(hs:i.p->IY prog f vs h (exW pe fv x))(hz:z=exi x kk)(hf:prog.funcs[f0]? = some fn)(hX:X.h0=hh)(t':∀r,x=.ok r->z=kk r->K (pute e q (fv r)) h L)(hg:guardB ops e ⟨q,.call ⟨.value (.func f),ass,ats⟩,ty,pos,af,g⟩=true:=by rfl):
  Stp prog (bodyFrame f0) n ops (mV prog X (XR (exW pe fz z) hh)) [] X ⟨q,.call ⟨.value (.func f),ass,ats⟩,ty,pos,af,g⟩ e h L K:=
 pu i.call (hs i.pf) hvs (λu hu=>by obtain⟨r,hr,rfl⟩:=sn hu;exact t' r hr (hz.trans (xa hr)))
  (λp hp e'=>by obtain⟨r,hr,rfl⟩:=pz hp;exact iY (qY [] hf hX (by rw[hz,pV hr];rfl))) hg
end
section
variable {m:Nat} {dn:List Nat} {l:List Oper} {i:Nat} {gk:List Nat} {t:TypeId} {x:Operand}
theorem wdq(hp:passD wF wL l gk 0 l m dn e=(m',dn',e'))(hlt:zJ m' m=true)(q:TD gk prog b n l k F ds X m' dn' e' h L):TD gk prog b n l k F ds X m dn e h L:=wdqP JL GA hp q
theorem wdl{off:Nat}(hT:lookN wT t=some (mm,a))(hx:e.ev x=.pointer (some ⟨bk,off,none⟩))(hL:nth L j=some (bk,.cells cl.toArray T fz))(hv:ldV a mm cl off=some v)(q:TD gk prog b n l k F ds X m (i::dn) (upd e d v) h L)(hg:guardB l.toArray e ⟨some d,.load t x,ty,pos,af,g⟩=true:=by rfl):TX gk prog b n l k F ds X m dn i ⟨some d,.load t x,ty,pos,af,g⟩ e h L:=by
 refine wdf rfl hg (λh' L' hj w hw=>?_) q
 cases a with
 |false=>exact vX (tabq (f:=tySz prog) pD hT) hx (hj.nth hL) hv w hw
 |true=>
  unfold ldV at hv;split at hv
  .next h1=>cases h1
  .split at hv
   .next hc=>cases hv;exact lO (tabq (f:=tySz prog) pD hT) hx (hj.nth hL) hc w hw
   .cases hv
theorem wdh{p:Addr}{cs:List Value}(hT:lookN wT t=some (mm,a))(hx:e.ev x=.pointer (some (p.add j)))(ha:At h p cs)(hv:ldV a mm cs j=some v)(q:TD gk prog b n l k F ds X m (i::dn) (upd e d v) h L)(hg:guardB l.toArray e ⟨some d,.load t x,ty,pos,af,g⟩=true:=by rfl):TX gk prog b n l k F ds X m dn i ⟨some d,.load t x,ty,pos,af,g⟩ e h L:=by
 refine wdf rfl hg (λh' L' hj w hw=>?_) q
 cases a with
 |false=>exact Se j (tabq (f:=tySz prog) pD hT) (ha.mono hj.1) hx hv w hw
 |true=>
  unfold ldV at hv;split at hv
  .next h1=>cases h1
  .split at hv
   .next hc=>cases hv;exact Oz j (tabq (f:=tySz prog) pD hT) (ha.mono hj.1) hx hc w hw
   .cases hv
theorem wdhS{p:Addr}{cs cs':List Value}(hT:lookN wT t=some (mm,true))(hx:e.ev x=.pointer (some (p.add j)))(ha:At h p cs)[s:Sub cs j mm cs'](q:TD gk prog b n l k F ds X m (i::dn) (upd e d (.agg cs'.toArray)) h L)(hg:guardB l.toArray e ⟨some d,.load t x,ty,pos,af,g⟩=true:=by rfl):TX gk prog b n l k F ds X m dn i ⟨some d,.load t x,ty,pos,af,g⟩ e h L:=
 wdf rfl hg (λh' L' hj w hw=>Oz j (tabq (f:=tySz prog) pD hT) (ha.mono hj.1) hx s.pf w hw) q
theorem wdh0{p:Addr}{cs:List Value}(hT:lookN wT t=some (mm,false))(hx:e.ev x=.pointer (some p))(ha:At h p (v::cs))(q:TD gk prog b n l k F ds X m (i::dn) (upd e d v) h L)(hg:guardB l.toArray e ⟨some d,.load t x,ty,pos,af,g⟩=true:=by rfl):TX gk prog b n l k F ds X m dn i ⟨some d,.load t x,ty,pos,af,g⟩ e h L:=
 wdf rfl hg (λh' L' hj w hw=>Sd (tabq (f:=tySz prog) pD hT) (ha.mono hj.1) hx w hw) q
theorem wdhs{p:Addr}{cs:List Value}(hT:lookN wT t=some (mm,true))(hx:e.ev x=.pointer (some p))(ha:At h p cs)(hm:cs.length=mm)(q:TD gk prog b n l k F ds X m (i::dn) (upd e d (.agg cs.toArray)) h L)(hg:guardB l.toArray e ⟨some d,.load t x,ty,pos,af,g⟩=true:=by rfl):TX gk prog b n l k F ds X m dn i ⟨some d,.load t x,ty,pos,af,g⟩ e h L:=
 wdf rfl hg (λh' L' hj w hw=>mW (tabq (f:=tySz prog) pD hT) (ha.mono hj.1) hm hx w hw) q
theorem wdi{ix:Operand}{z:Int}(hT:lookN wS t=some E)(hx:e.ev x=.slice base mm cap)(hix:e.ev ix=.int .i64 z)(hm:mm=xs.length)(hR:SlC R h base cap xs)(hS:lookN wT E=some (R.sz,a))(hz:0<=z/\z<(xs.length:Int))(hj:xs[z.toNat]? = some y)(q:∀p cs,At h p cs->cs.length=R.sz->R.rep h cs y->TD gk prog b n l k F ds X m (i::dn) (upd e d (.pointer (some p))) h L)(hg:guardB l.toArray e ⟨some d,.indexAddr t x ix,ty,pos,af,g⟩=true:=by rfl):TX gk prog b n l k F ds X m dn i ⟨some d,.indexAddr t x ix,ty,pos,af,g⟩ e h L:=
 λhi hy hs=>oK i hs (Jst.start h L) (xl (tabq (f:=sliceE prog) Mc hT)) (tabq (f:=tySz prog) pD hS) hR.1 hz hj hx hm hix hi (Dz hi hy) (λp cs a b c=>q p cs a b c hs) hg
theorem wdiw{ix:Operand}{z:Int}(hT:lookN wS t=some E)(hx:e.ev x=.slice base mm cap)(hix:e.ev ix=.int .i64 (IntKind.i64.wrap z))(hm:mm=xs.length)(hR:SlC R h base cap xs)(hS:lookN wT E=some (R.sz,a))(hz:0<=z/\z<(xs.length:Int))(hj:xs[z.toNat]? = some y)(q:∀p cs,At h p cs->cs.length=R.sz->R.rep h cs y->TD gk prog b n l k F ds X m (i::dn) (upd e d (.pointer (some p))) h L)(hg:guardB l.toArray e ⟨some d,.indexAddr t x ix,ty,pos,af,g⟩=true:=by rfl):TX gk prog b n l k F ds X m dn i ⟨some d,.indexAddr t x ix,ty,pos,af,g⟩ e h L:=
 wdi hT hx (hix.trans (lv (by have:=hR.1.1;omega))) hm hR hS hz hj q hg
end
end
theorem wrv[i:Ct f]{args cap:List Value}(hs:i.p->Ret prog f (args++cap) h v):qX prog (.func (.func f) #[] cap.toArray) args h [] v:=iA i.call (hs i.pf)
theorem wit[i:CtI f]{cap:List Value}(hs:i.p->Itr prog (.func (.func f) #[] cap.toArray) val xs h):Itr prog (.func (.func f) #[] cap.toArray) val xs h:=hs i.pf
theorem wrc{L:LH}{a ty:Nat}{q:Bool}(ha:e a=.pointer (some ⟨bk,0,none⟩))(hL:nth L i=some (bk,.cells cl.toArray T fz))(hT:lookN wT ty=some (m,q))(hm:cl.length=m)(hv:(bif q then some (.agg cl.toArray)else nth cl 0)=some v)(h1:(q||jW m 1)=true):
  ∃i bk cl T fz,nth L i=some (bk,.cells (xB cl) T fz)/\e a=.pointer (some ⟨bk,0,none⟩)/\((tySz prog ty=some (cl.length,true)/\v=.agg cl.toArray)\/∃m,tySz prog ty=some (m,false)/\cl=[v]):=by
 have ht:=tabq (f:=tySz prog) pD hT
 refine⟨i,bk,cl,T,fz,hL,ha,?_⟩
 cases q with
 |true=>left;subst hm;simp only[cond_true,zP]at hv;exact⟨ht,hv.symm⟩
 |false=>
  right
  refine⟨m,ht,?_⟩
  have:m=1:=qM (by simpa using h1)
  rw[this]at hm
  obtain⟨y,rfl⟩:=List.length_eq_one_iff.1 hm
  simp only[cond_false]at hv
  cases hv;rfl
end
section
theorem lnS{b:Option Addr}{c:Nat}(a:SlC R h b c xs):xs.length<=9223372036854775807:=a.1.1
theorem nthA(h:p:=by first|exact(rfl:nth _ 0=_)|exact(rfl:nth _ 1=_)|exact(rfl:nth _ 2=_)|exact(rfl:nth _ 3=_)|exact(rfl:nth _ 4=_)|exact(rfl:nth _ 5=_)|exact(rfl:nth _ 6=_)|fail):p:=h
theorem rdR(h:p:=by first|exact trivial|((repeat (first|exact trivial|refine⟨rfl,?_⟩|refine⟨wrc rfl nthA rfl rfl rfl rfl,?_⟩|fail));all_goals fail)|fail):p:=h
theorem slm[i:RpG R]{b:Option Addr}{c:Nat}(a:SlC R h b c xs)(hl:h.le h'):SlC R h' b c xs:=a.mono i.good.mono hl
theorem atm{cs:List Value}(a:At h q cs)(hl:h.le h'):At h' q cs:=a.mono hl
theorem ok0(h:p:=by first|assumption|exact fC.ok.mono (by assumption) leA|exact aw.ok.mono (by assumption) leA|exact aE.ok.mono (by assumption) leA|exact ao.ok.mono (by assumption) leA|exact Register.ok.mono (by assumption) leA|exact fN.ok.mono (by assumption) leA|exact iE.ok.mono (by assumption) leA|exact bj.ok.mono (by assumption) leA|exact gG.ok.mono (by assumption) leA|exact iq.ok.mono (by assumption) leA|exact fh.ok.mono (by assumption) leA|exact bU.ok.mono (by assumption) leA|exact aj.ok.mono (by assumption) leA|fail):p:=h
theorem ok1(h:p:=by first|exact ok0|((with_reducible refine fC.ok.aj ?_);exact ok0)|((with_reducible refine aw.ok.aO ?_);exact ok0)|((with_reducible refine aE.ok.aw ?_);exact ok0)|((with_reducible refine gG.ok.x ?_);exact ok0)|((with_reducible refine fh.ok.shelf ?_);exact ok0)|((with_reducible refine bU.ok.Register ?_);exact ok0)|((with_reducible refine bU.ok.aV ?_);exact ok0)|fail):p:=h
theorem okA(h:p:=by first|exact ok0|((with_reducible refine fC.ok.aj ?_);exact ok1)|((with_reducible refine aw.ok.aO ?_);exact ok1)|((with_reducible refine aE.ok.aw ?_);exact ok1)|((with_reducible refine gG.ok.x ?_);exact ok1)|((with_reducible refine fh.ok.shelf ?_);exact ok1)|((with_reducible refine bU.ok.Register ?_);exact ok1)|((with_reducible refine bU.ok.aV ?_);exact ok1)|fail):p:=h
theorem rpA(h:p:=by first|rfl|exact⟨_,rfl,okA⟩|exact⟨_,_,rfl,slm (by assumption) leA⟩|fail):p:=h
theorem ceA(h:p:=by first|exact cNi|exact cCo rpA rfl cNi|exact cCo rpA rfl (cCo rpA rfl cNi)|exact cCo rpA rfl (cCo rpA rfl (cCo rpA rfl cNi))|exact cCo rpA rfl (cCo rpA rfl (cCo rpA rfl (cCo rpA rfl cNi)))|exact cCo rpA rfl (cCo rpA rfl (cCo rpA rfl (cCo rpA rfl (cCo rpA rfl cNi))))|exact cCo rpA rfl (cCo rpA rfl (cCo rpA rfl (cCo rpA rfl (cCo rpA rfl (cCo rpA rfl cNi)))))|exact cCo rpA rfl (cCo rpA rfl (cCo rpA rfl (cCo rpA rfl (cCo rpA rfl (cCo rpA rfl (cCo rpA rfl cNi))))))|exact cCo rpA rfl (cCo rpA rfl (cCo rpA rfl (cCo rpA rfl (cCo rpA rfl (cCo rpA rfl (cCo rpA rfl (cCo rpA rfl cNi)))))))|fail):p:=h
theorem slA(h:p:=by first
 |assumption
 |exact slm (by assumption) leA
 |exact SlC.nil
 |exact aw.ok.dN okA
 |exact aw.ok.aA okA
 |exact aw.ok.dp okA
 |exact ao.ok.lh okA
 |exact aj.ok.list okA
 |exact ao.ok.fe okA
 |exact ao.ok.fp okA
 |exact Register.ok.dF okA
 |exact Register.ok.ga okA
 |exact Register.ok.er okA
 |exact Register.ok.dH okA
 |exact Register.ok.Versions okA
 |exact Register.ok.cd okA
 |exact Register.ok.dC okA
 |exact fN.ok.Versions okA
 |exact fN.ok.Who okA
 |exact iE.ok.path okA
 |exact bj.ok.da okA
 |exact bj.ok.kU okA
 |exact iq.ok.docs okA
 |exact fh.ok.signed okA
 |exact fh.ok.done okA
 |exact fh.ok.lacks okA|fail):p:=h
theorem fc0{p:Prop}(h:p:=by first
 |assumption
 |((with_reducible refine gSl ?_);exact slA)
 |((with_reducible refine gAt ?_);exact atm (by assumption) leA)
 |((with_reducible refine gIt ?_);first|exact itm (by assumption) leA|exact wit (λc=>by first|(apply c<;>exact fc0)|fail)|fail)
 |((with_reducible refine gAn ?_);exact ob)
 |exact okA
 |exact gSl slA
 |exact gAt (atm (by assumption) leA)
 |exact aj.lj (hZ (by assumption))|fail):p:=h
theorem fcA(h:p:=by first|exact fc0|(intro h a de;exact wrv (λc=>by first|(apply c<;>exact fc0)|fail))|(intro h a b de;exact wrv (λc=>by first|(apply c<;>exact fc0)|fail))|fail):p:=h
theorem lnA(h:xs.length<=m:=by first|exact ob|exact lnS (by assumption)|exact lnS slA|fail):xs.length<=m:=h
theorem rvA(h:p:=by first|assumption|(apply_assumption<;>exact leA)|fail):p:=h
theorem vlA(h:p:=by first|exact rfl|exact⟨_,rfl,fcA⟩|exact⟨_,_,rfl,fcA⟩|fail):p:=h
theorem grA(h:p:=by first|assumption|exact grm (by assumption) leA|exact cN.nil|exact cN.lit cNi rfl|fail):p:=h
theorem ndW(h:p:=by first
 |(intro i g hd hf hx e;refine wtt rfl ?_;refine wcF rfl hf ?_;exact kW rfl (hx _ rdd))
 |(intro i hd hf hx e;refine wtt rfl ?_;refine wcF rfl hf ?_;exact kW rfl (hx _ rdd))
 |(intro i g hd hf hx e;(repeat (first|refine wtt rfl ?_|refine wto rfl ?_|refine woo rfl ?_|refine wot rfl ?_|refine wld rfl rfl nthA rfl ?_|refine wlh rfl rfl fcA rfl ?_|fail));refine wcF rfl hf ?_;exact kW rfl (hx _ rdd))
 |(intro i hd hf hx e;(repeat (first|refine wtt rfl ?_|refine wto rfl ?_|refine woo rfl ?_|refine wot rfl ?_|refine wld rfl rfl nthA rfl ?_|refine wlh rfl rfl fcA rfl ?_|fail));refine wcF rfl hf ?_;exact kW rfl (hx _ rdd))|fail):p:=h
theorem rn{q:Prop}(k:q)(h:q->p:=by first|exact λk=>wto rfl k|exact λk=>wtt rfl k|exact λk=>woo rfl k|exact λk=>wot rfl k|fail):p:=h k
theorem Wi{p:Prop}(h:p:=by
 repeat' (first
  |((with_reducible refine gO ?_);first
   |refine woo rfl ?_
   |refine wot rfl ?_
   |((with_reducible refine gLd ?_);first
    |refine wld rfl rfl nthA rfl ?_
    |refine wlh0 rfl rfl fcA ?_
    |refine wlhs rfl rfl fcA rfl ?_
    |refine wlhS rfl rfl fcA ?_
    |refine wlh rfl rfl fcA rfl ?_
    |fail)
   |((with_reducible refine gBx ?_);refine eO (λb=>?_))
   |((with_reducible refine gAl ?_);refine aI (wal rfl (λb=>?_)))
   |((with_reducible refine gSt ?_);first
    |refine wsW rfl rfl rfl nthA rfl rfl rfl ?_
    |refine wst rfl rfl nthA rfl rfl rfl rfl ?_
    |fail)
   |((with_reducible refine gCf ?_);first
    |(refine aI ?_;first
     |refine wcRr rfl (by first|(apply hrec<;>exact fcA)|fail) ?_
     |refine wcR rfl (λc=>by first|(apply c<;>exact fcA)|fail) ?_
     |((refine wcHr rfl (by first|(apply hrec<;>exact fcA)|fail) (λv h de hp=>?_));(first|obtain⟨_,_,rfl,hp⟩:=hp|obtain⟨_,rfl,hp⟩:=hp|fail))
     |((refine wcX rfl (λc=>by first|(apply c<;>exact fcA)|fail) hs hF hX (λr hr hs=>?_));try dsimp only at hs)
     |((refine wcH rfl (λc=>by first|(apply c<;>exact fcA)|fail) (λv h de hp=>?_));(first|obtain⟨_,_,rfl,hp⟩:=hp|obtain⟨_,rfl,hp⟩:=hp|fail))
     |fail)
    |refine wfgo (by assumption:cN _ _ _ _ _ _ _) pmA hM (λh de sl=>?_)
    |fail)
   |((with_reducible refine gAp ?_);refine wap rfl rfl grA rfl pmA rfl slA rfl rfl rfl rfl ob ob (λbs cp G hG=>?_))
   |((with_reducible refine gCt ?_);first|refine aI (wcV rfl rfl rvA ?_)|fail)
   |((with_reducible refine gMf ?_);first
    |refine wmz 0 rfl rfl nthA hM (λh de at_=>?_)
    |refine wmz 1 rfl rfl nthA hM (λh de at_=>?_)
    |refine wmz 2 rfl rfl nthA hM (λh de at_=>?_)
    |refine wmz 3 rfl rfl nthA hM (λh de at_=>?_)
    |refine wmz 4 rfl rfl nthA hM (λh de at_=>?_)
    |refine aI (wmf ?_)
    |fail)
   |((with_reducible refine gIx ?_);(first
    |refine wix rfl rfl rfl rfl slA rfl (nthZ (by assumption)) (gI (by assumption)) (λq cs hA hl hr=>?_)
    |refine wixw rfl rfl rfl rfl slA rfl ob (di ob) (λq cs hA hl hr=>?_)
    |refine wix rfl rfl rfl rfl slA rfl ob (di ob) (λq cs hA hl hr=>?_)
    |fail);(first|(obtain⟨_,_,rfl,hr⟩:=hr)|(obtain⟨_,rfl,hr⟩:=hr)|(have hr:=(hr:cs=_);subst hr)|fail))
   |((with_reducible refine gSx ?_);refine wsx rfl rfl rfl ob ?_)
   |((with_reducible refine gBs ?_);first
    |refine wbf rfl rfl rfl ceA rfl hM (λb h de sl=>?_)
    |refine aI (wbs0 rfl rfl (λb=>?_))
    |fail)
   |((with_reducible refine gBi ?_);first|refine wshr rfl rfl ob ?_|refine wband rfl rfl ?_|refine wshl rfl rfl ob ?_|fail)
   |((with_reducible refine gCv ?_);refine wcv rfl rfl rfl ?_)
   |((with_reducible refine gBd ?_);refine aI (wbd rfl rfl rfl ?_))
   |((with_reducible refine gPk ?_);refine wgo rfl ?_;first|exact hk _ rfl|exact wso (hk _ rfl) jsA leA hX leA|fail)
   |((with_reducible refine gGu ?_);first
    |refine wgo rfl ?_
    |((refine gOr false rfl ?_);refine wor _ rfl rfl rfl (λc hk=>Wi) (λe=>?_))
    |((refine gOr true rfl ?_);refine wand _ rfl rfl rfl (λc hk=>Wi) (λe=>?_))
    |fail))
  |fail)
 all_goals fail):p:=h
theorem W(h:p:=by
 repeat' (first
  |((with_reducible refine gO ?_);first
   |refine woo rfl ?_
   |refine wot rfl ?_
   |((with_reducible refine gLd ?_);first
    |refine wld rfl rfl nthA rfl ?_
    |refine wlh0 rfl rfl fcA ?_
    |refine wlhs rfl rfl fcA rfl ?_
    |refine wlhS rfl rfl fcA ?_
    |refine wlh rfl rfl fcA rfl ?_
    |fail)
   |((with_reducible refine gBx ?_);refine eO (λb=>?_))
   |((with_reducible refine gAl ?_);refine aI (wal rfl (λb=>?_)))
   |((with_reducible refine gSt ?_);first
    |refine wsW rfl rfl rfl nthA rfl rfl rfl ?_
    |refine wst rfl rfl nthA rfl rfl rfl rfl ?_
    |fail)
   |((with_reducible refine gCf ?_);first
    |(refine aI ?_;first
     |refine wcRr rfl (by first|(apply hrec<;>exact fcA)|fail) ?_
     |refine wcR rfl (λc=>by first|(apply c<;>exact fcA)|fail) ?_
     |((refine wcHr rfl (by first|(apply hrec<;>exact fcA)|fail) (λv h de hp=>?_));(first|obtain⟨_,_,rfl,hp⟩:=hp|obtain⟨_,rfl,hp⟩:=hp|fail))
     |((refine wcX rfl (λc=>by first|(apply c<;>exact fcA)|fail) hs hF hX (λr hr hs=>?_));try dsimp only at hs)
     |((refine wcH rfl (λc=>by first|(apply c<;>exact fcA)|fail) (λv h de hp=>?_));(first|obtain⟨_,_,rfl,hp⟩:=hp|obtain⟨_,rfl,hp⟩:=hp|fail))
     |fail)
    |refine wfgo (by assumption:cN _ _ _ _ _ _ _) pmA hM (λh de sl=>?_)
    |fail)
   |((with_reducible refine gAp ?_);refine wap rfl rfl grA rfl pmA rfl slA rfl rfl rfl rfl ob ob (λbs cp G hG=>?_))
   |((with_reducible refine gCt ?_);first|refine aI (wcV rfl rfl rvA ?_)|fail)
   |((with_reducible refine gMf ?_);first
    |refine wmz 0 rfl rfl nthA hM (λh de at_=>?_)
    |refine wmz 1 rfl rfl nthA hM (λh de at_=>?_)
    |refine wmz 2 rfl rfl nthA hM (λh de at_=>?_)
    |refine wmz 3 rfl rfl nthA hM (λh de at_=>?_)
    |refine wmz 4 rfl rfl nthA hM (λh de at_=>?_)
    |refine aI (wmf ?_)
    |fail)
   |((with_reducible refine gIx ?_);(first
    |refine wix rfl rfl rfl rfl slA rfl (nthZ (by assumption)) (gI (by assumption)) (λq cs hA hl hr=>?_)
    |refine wixw rfl rfl rfl rfl slA rfl ob (di ob) (λq cs hA hl hr=>?_)
    |refine wix rfl rfl rfl rfl slA rfl ob (di ob) (λq cs hA hl hr=>?_)
    |fail);(first|(obtain⟨_,_,rfl,hr⟩:=hr)|(obtain⟨_,rfl,hr⟩:=hr)|(have hr:=(hr:cs=_);subst hr)|fail))
   |((with_reducible refine gSx ?_);refine wsx rfl rfl rfl ob ?_)
   |((with_reducible refine gBs ?_);first
    |refine wbf rfl rfl rfl ceA rfl hM (λb h de sl=>?_)
    |refine aI (wbs0 rfl rfl (λb=>?_))
    |fail)
   |((with_reducible refine gBi ?_);first|refine wshr rfl rfl ob ?_|refine wband rfl rfl ?_|refine wshl rfl rfl ob ?_|fail)
   |((with_reducible refine gCv ?_);refine wcv rfl rfl rfl ?_)
   |((with_reducible refine gBd ?_);refine aI (wbd rfl rfl rfl ?_))
   |((with_reducible refine gGu ?_);first
    |refine wgo rfl ?_
    |((refine gOr false rfl ?_);refine wor _ rfl rfl rfl (λc hk=>Wi) (λe=>?_))
    |((refine gOr true rfl ?_);refine wand _ rfl rfl rfl (λc hk=>Wi) (λe=>?_))
    |fail))
  |((with_reducible refine gX ?_);first
   |((with_reducible refine gXl ?_);first
    |refine wdl rfl rfl nthA rfl ?_
    |refine wdh0 rfl rfl fcA ?_
    |refine wdhs rfl rfl fcA rfl ?_
    |refine wdhS rfl rfl fcA ?_
    |refine wdh rfl rfl fcA rfl ?_
    |fail)
   |((with_reducible refine gXi ?_);(first
    |refine wdi rfl rfl rfl rfl slA rfl (nthZ (by assumption)) (gI (by assumption)) (λq cs hA hl hr=>?_)
    |refine wdiw rfl rfl rfl rfl slA rfl ob (di ob) (λq cs hA hl hr=>?_)
    |refine wdi rfl rfl rfl rfl slA rfl ob (di ob) (λq cs hA hl hr=>?_)
    |fail);(first|(obtain⟨_,_,rfl,hr⟩:=hr)|(obtain⟨_,rfl,hr⟩:=hr)|(have hr:=(hr:cs=_);subst hr)|fail))
   |refine wdlr true rfl rfl rfl ?_
   |refine wdlr false rfl rfl rfl ?_|refine wdlu rfl rfl rfl ?_
   |refine wdsp rfl rfl rfl (λc=>?_) (λc=>?_)
   |fail)
  |((with_reducible refine gD ?_);first
   |refine wdq rfl rfl ?_
   |refine wdx 0 rfl ?_
   |((refine wdx 1 rfl ?_);first|refine wdlr true rfl rfl rfl ?_|refine wdlr false rfl rfl rfl ?_|refine wdlu rfl rfl rfl ?_|refine wdsp rfl rfl rfl (λc=>?_) (λc=>?_)|fail)
   |refine wd0 rfl ?_
   |refine wd1 rfl rfl ?_
   |fail)
  |((with_reducible refine gJ ?_);refine⟨leA,jsA,?_⟩)
  |((with_reducible refine gS ?_);first
   |first
     |refine wcRr rfl (by first|(apply hrec<;>exact fcA)|fail) ?_
     |refine wcR rfl (λc=>by first|(apply c<;>exact fcA)|fail) ?_
     |((refine wcHr rfl (by first|(apply hrec<;>exact fcA)|fail) (λv h de hp=>?_));(first|obtain⟨_,_,rfl,hp⟩:=hp|obtain⟨_,rfl,hp⟩:=hp|fail))
     |((refine wcX rfl (λc=>by first|(apply c<;>exact fcA)|fail) hs hF hX (λr hr hs=>?_));try dsimp only at hs)
     |((refine wcH rfl (λc=>by first|(apply c<;>exact fcA)|fail) (λv h de hp=>?_));(first|obtain⟨_,_,rfl,hp⟩:=hp|obtain⟨_,rfl,hp⟩:=hp|fail))
     |fail
   |refine wcV rfl rfl rvA ?_
   |refine wmf ?_
   |refine wal rfl (λb=>?_)
   |refine wbd rfl rfl rfl ?_
   |refine wbs0 rfl rfl (λb=>?_)
   |fail)
  |((with_reducible refine gT ?_);first
   |refine wtt rfl ?_
   |refine wto rfl ?_
   |((with_reducible refine gLo ?_);first
    |refine lpkY hv hC m1 leA pmA (by first|with_reducible exact hs0 HA hs|fail) (by exact rfl) lnA rfl (λi dn A hh v hil hs hv hC de e=>?_) (λi dn A hh v y r hd hlt hget hltp hbd hs hv hC de hx ag e=>?_)
    |refine lpk0 (by first|with_reducible exact hs0 HA hs|fail) lnA rfl (λi hil hs e=>?_) (λi y r hd hlt hget hltp hbd hs hx ag e=>?_)
    |refine lpn0 (by first|with_reducible exact hs0 HA hs|fail) ob rfl (λi hil hs e=>?_) (λi r hd hlt hltp hs hx ag e=>?_)
    |refine lpkG (by first|with_reducible exact hsG HA hs|fail) lnA rdd grA pmA (λi l bs cp G hh hil hs de hG hn e=>?_) (λi l bs cp G hh y r hd hlt hget hltp hbd hs de hG hn hx ag e=>?_)
    |refine lpk1 (by first|with_reducible exact hs1 _ HA hs|fail) lnA rdd (λi w hil hs e=>?_) (λi w y r hd hlt hget hltp hbd hs hx ag e=>?_)
    |refine lpk1 (by first|with_reducible exact hs1 (_,_) HA hs|fail) lnA rdd (λi w hil hs e=>?_) (λi w y r hd hlt hget hltp hbd hs hx ag e=>?_)
    |refine lpk1 (by first|with_reducible exact hs1 (_,_,_) HA hs|fail) lnA rdd (λi w hil hs e=>?_) (λi w y r hd hlt hget hltp hbd hs hx ag e=>?_)
    |refine lpkY hv hC m1 leA pmA (by first|with_reducible exact hs0 (HA _) hs|fail) (by exact rfl) lnA rfl (λi dn A hh v hil hs hv hC de e=>?_) (λi dn A hh v y r hd hlt hget hltp hbd hs hv hC de hx ag e=>?_)
    |refine lpk0 (by first|with_reducible exact hs0 (HA _) hs|fail) lnA rfl (λi hil hs e=>?_) (λi y r hd hlt hget hltp hbd hs hx ag e=>?_)
    |refine lpn0 (by first|with_reducible exact hs0 (HA _) hs|fail) ob rfl (λi hil hs e=>?_) (λi r hd hlt hltp hs hx ag e=>?_)
    |refine lpkG (by first|with_reducible exact hsG (HA _) hs|fail) lnA rdd grA pmA (λi l bs cp G hh hil hs de hG hn e=>?_) (λi l bs cp G hh y r hd hlt hget hltp hbd hs de hG hn hx ag e=>?_)
    |refine lpk1 (by first|with_reducible exact hs1 _ (HA _) hs|fail) lnA rdd (λi w hil hs e=>?_) (λi w y r hd hlt hget hltp hbd hs hx ag e=>?_)
    |refine lpk1 (by first|with_reducible exact hs1 (_,_) (HA _) hs|fail) lnA rdd (λi w hil hs e=>?_) (λi w y r hd hlt hget hltp hbd hs hx ag e=>?_)
    |refine lpk1 (by first|with_reducible exact hs1 (_,_,_) (HA _) hs|fail) lnA rdd (λi w hil hs e=>?_) (λi w y r hd hlt hget hltp hbd hs hx ag e=>?_)
    |refine lpkY hv hC m1 leA pmA (by first|with_reducible exact hs0 (HA _ _) hs|fail) (by exact rfl) lnA rfl (λi dn A hh v hil hs hv hC de e=>?_) (λi dn A hh v y r hd hlt hget hltp hbd hs hv hC de hx ag e=>?_)
    |refine lpk0 (by first|with_reducible exact hs0 (HA _ _) hs|fail) lnA rfl (λi hil hs e=>?_) (λi y r hd hlt hget hltp hbd hs hx ag e=>?_)
    |refine lpn0 (by first|with_reducible exact hs0 (HA _ _) hs|fail) ob rfl (λi hil hs e=>?_) (λi r hd hlt hltp hs hx ag e=>?_)
    |refine lpkG (by first|with_reducible exact hsG (HA _ _) hs|fail) lnA rdd grA pmA (λi l bs cp G hh hil hs de hG hn e=>?_) (λi l bs cp G hh y r hd hlt hget hltp hbd hs de hG hn hx ag e=>?_)
    |refine lpk1 (by first|with_reducible exact hs1 _ (HA _ _) hs|fail) lnA rdd (λi w hil hs e=>?_) (λi w y r hd hlt hget hltp hbd hs hx ag e=>?_)
    |refine lpk1 (by first|with_reducible exact hs1 (_,_) (HA _ _) hs|fail) lnA rdd (λi w hil hs e=>?_) (λi w y r hd hlt hget hltp hbd hs hx ag e=>?_)
    |refine lpk1 (by first|with_reducible exact hs1 (_,_,_) (HA _ _) hs|fail) lnA rdd (λi w hil hs e=>?_) (λi w y r hd hlt hget hltp hbd hs hx ag e=>?_)
    |refine lpkY hv hC m1 leA pmA (by first|with_reducible exact hs0 (HA _ _ _) hs|fail) (by exact rfl) lnA rfl (λi dn A hh v hil hs hv hC de e=>?_) (λi dn A hh v y r hd hlt hget hltp hbd hs hv hC de hx ag e=>?_)
    |refine lpk0 (by first|with_reducible exact hs0 (HA _ _ _) hs|fail) lnA rfl (λi hil hs e=>?_) (λi y r hd hlt hget hltp hbd hs hx ag e=>?_)
    |refine lpn0 (by first|with_reducible exact hs0 (HA _ _ _) hs|fail) ob rfl (λi hil hs e=>?_) (λi r hd hlt hltp hs hx ag e=>?_)
    |refine lpkG (by first|with_reducible exact hsG (HA _ _ _) hs|fail) lnA rdd grA pmA (λi l bs cp G hh hil hs de hG hn e=>?_) (λi l bs cp G hh y r hd hlt hget hltp hbd hs de hG hn hx ag e=>?_)
    |refine lpk1 (by first|with_reducible exact hs1 _ (HA _ _ _) hs|fail) lnA rdd (λi w hil hs e=>?_) (λi w y r hd hlt hget hltp hbd hs hx ag e=>?_)
    |refine lpk1 (by first|with_reducible exact hs1 (_,_) (HA _ _ _) hs|fail) lnA rdd (λi w hil hs e=>?_) (λi w y r hd hlt hget hltp hbd hs hx ag e=>?_)
    |refine lpk1 (by first|with_reducible exact hs1 (_,_,_) (HA _ _ _) hs|fail) lnA rdd (λi w hil hs e=>?_) (λi w y r hd hlt hget hltp hbd hs hx ag e=>?_)
    |refine lpkY hv hC m1 leA pmA (by first|with_reducible exact hs0 HB hs|fail) (by exact rfl) lnA rfl (λi dn A hh v hil hs hv hC de e=>?_) (λi dn A hh v y r hd hlt hget hltp hbd hs hv hC de hx ag e=>?_)
    |refine lpk0 (by first|with_reducible exact hs0 HB hs|fail) lnA rfl (λi hil hs e=>?_) (λi y r hd hlt hget hltp hbd hs hx ag e=>?_)
    |refine lpn0 (by first|with_reducible exact hs0 HB hs|fail) ob rfl (λi hil hs e=>?_) (λi r hd hlt hltp hs hx ag e=>?_)
    |refine lpkG (by first|with_reducible exact hsG HB hs|fail) lnA rdd grA pmA (λi l bs cp G hh hil hs de hG hn e=>?_) (λi l bs cp G hh y r hd hlt hget hltp hbd hs de hG hn hx ag e=>?_)
    |refine lpk1 (by first|with_reducible exact hs1 _ HB hs|fail) lnA rdd (λi w hil hs e=>?_) (λi w y r hd hlt hget hltp hbd hs hx ag e=>?_)
    |refine lpk1 (by first|with_reducible exact hs1 (_,_) HB hs|fail) lnA rdd (λi w hil hs e=>?_) (λi w y r hd hlt hget hltp hbd hs hx ag e=>?_)
    |refine lpk1 (by first|with_reducible exact hs1 (_,_,_) HB hs|fail) lnA rdd (λi w hil hs e=>?_) (λi w y r hd hlt hget hltp hbd hs hx ag e=>?_)
    |refine lpkY hv hC m1 leA pmA (by first|with_reducible exact hs0 (HB _) hs|fail) (by exact rfl) lnA rfl (λi dn A hh v hil hs hv hC de e=>?_) (λi dn A hh v y r hd hlt hget hltp hbd hs hv hC de hx ag e=>?_)
    |refine lpk0 (by first|with_reducible exact hs0 (HB _) hs|fail) lnA rfl (λi hil hs e=>?_) (λi y r hd hlt hget hltp hbd hs hx ag e=>?_)
    |refine lpn0 (by first|with_reducible exact hs0 (HB _) hs|fail) ob rfl (λi hil hs e=>?_) (λi r hd hlt hltp hs hx ag e=>?_)
    |refine lpkG (by first|with_reducible exact hsG (HB _) hs|fail) lnA rdd grA pmA (λi l bs cp G hh hil hs de hG hn e=>?_) (λi l bs cp G hh y r hd hlt hget hltp hbd hs de hG hn hx ag e=>?_)
    |refine lpk1 (by first|with_reducible exact hs1 _ (HB _) hs|fail) lnA rdd (λi w hil hs e=>?_) (λi w y r hd hlt hget hltp hbd hs hx ag e=>?_)
    |refine lpk1 (by first|with_reducible exact hs1 (_,_) (HB _) hs|fail) lnA rdd (λi w hil hs e=>?_) (λi w y r hd hlt hget hltp hbd hs hx ag e=>?_)
    |refine lpk1 (by first|with_reducible exact hs1 (_,_,_) (HB _) hs|fail) lnA rdd (λi w hil hs e=>?_) (λi w y r hd hlt hget hltp hbd hs hx ag e=>?_)
    |refine lpkY hv hC m1 leA pmA (by first|with_reducible exact hs0 (HB _ _) hs|fail) (by exact rfl) lnA rfl (λi dn A hh v hil hs hv hC de e=>?_) (λi dn A hh v y r hd hlt hget hltp hbd hs hv hC de hx ag e=>?_)
    |refine lpk0 (by first|with_reducible exact hs0 (HB _ _) hs|fail) lnA rfl (λi hil hs e=>?_) (λi y r hd hlt hget hltp hbd hs hx ag e=>?_)
    |refine lpn0 (by first|with_reducible exact hs0 (HB _ _) hs|fail) ob rfl (λi hil hs e=>?_) (λi r hd hlt hltp hs hx ag e=>?_)
    |refine lpkG (by first|with_reducible exact hsG (HB _ _) hs|fail) lnA rdd grA pmA (λi l bs cp G hh hil hs de hG hn e=>?_) (λi l bs cp G hh y r hd hlt hget hltp hbd hs de hG hn hx ag e=>?_)
    |refine lpk1 (by first|with_reducible exact hs1 _ (HB _ _) hs|fail) lnA rdd (λi w hil hs e=>?_) (λi w y r hd hlt hget hltp hbd hs hx ag e=>?_)
    |refine lpk1 (by first|with_reducible exact hs1 (_,_) (HB _ _) hs|fail) lnA rdd (λi w hil hs e=>?_) (λi w y r hd hlt hget hltp hbd hs hx ag e=>?_)
    |refine lpk1 (by first|with_reducible exact hs1 (_,_,_) (HB _ _) hs|fail) lnA rdd (λi w hil hs e=>?_) (λi w y r hd hlt hget hltp hbd hs hx ag e=>?_)
    |refine lpkY hv hC m1 leA pmA (by first|with_reducible exact hs0 (HB _ _ _) hs|fail) (by exact rfl) lnA rfl (λi dn A hh v hil hs hv hC de e=>?_) (λi dn A hh v y r hd hlt hget hltp hbd hs hv hC de hx ag e=>?_)
    |refine lpk0 (by first|with_reducible exact hs0 (HB _ _ _) hs|fail) lnA rfl (λi hil hs e=>?_) (λi y r hd hlt hget hltp hbd hs hx ag e=>?_)
    |refine lpn0 (by first|with_reducible exact hs0 (HB _ _ _) hs|fail) ob rfl (λi hil hs e=>?_) (λi r hd hlt hltp hs hx ag e=>?_)
    |refine lpkG (by first|with_reducible exact hsG (HB _ _ _) hs|fail) lnA rdd grA pmA (λi l bs cp G hh hil hs de hG hn e=>?_) (λi l bs cp G hh y r hd hlt hget hltp hbd hs de hG hn hx ag e=>?_)
    |refine lpk1 (by first|with_reducible exact hs1 _ (HB _ _ _) hs|fail) lnA rdd (λi w hil hs e=>?_) (λi w y r hd hlt hget hltp hbd hs hx ag e=>?_)
    |refine lpk1 (by first|with_reducible exact hs1 (_,_) (HB _ _ _) hs|fail) lnA rdd (λi w hil hs e=>?_) (λi w y r hd hlt hget hltp hbd hs hx ag e=>?_)
    |refine lpk1 (by first|with_reducible exact hs1 (_,_,_) (HB _ _ _) hs|fail) lnA rdd (λi w hil hs e=>?_) (λi w y r hd hlt hget hltp hbd hs hx ag e=>?_)
    |refine lpkY hv hC m1 leA pmA (by first|with_reducible exact hs0 HC hs|fail) (by exact rfl) lnA rfl (λi dn A hh v hil hs hv hC de e=>?_) (λi dn A hh v y r hd hlt hget hltp hbd hs hv hC de hx ag e=>?_)
    |refine lpk0 (by first|with_reducible exact hs0 HC hs|fail) lnA rfl (λi hil hs e=>?_) (λi y r hd hlt hget hltp hbd hs hx ag e=>?_)
    |refine lpn0 (by first|with_reducible exact hs0 HC hs|fail) ob rfl (λi hil hs e=>?_) (λi r hd hlt hltp hs hx ag e=>?_)
    |refine lpkG (by first|with_reducible exact hsG HC hs|fail) lnA rdd grA pmA (λi l bs cp G hh hil hs de hG hn e=>?_) (λi l bs cp G hh y r hd hlt hget hltp hbd hs de hG hn hx ag e=>?_)
    |refine lpk1 (by first|with_reducible exact hs1 _ HC hs|fail) lnA rdd (λi w hil hs e=>?_) (λi w y r hd hlt hget hltp hbd hs hx ag e=>?_)
    |refine lpk1 (by first|with_reducible exact hs1 (_,_) HC hs|fail) lnA rdd (λi w hil hs e=>?_) (λi w y r hd hlt hget hltp hbd hs hx ag e=>?_)
    |refine lpk1 (by first|with_reducible exact hs1 (_,_,_) HC hs|fail) lnA rdd (λi w hil hs e=>?_) (λi w y r hd hlt hget hltp hbd hs hx ag e=>?_)
    |refine lpkY hv hC m1 leA pmA (by first|with_reducible exact hs0 (HC _) hs|fail) (by exact rfl) lnA rfl (λi dn A hh v hil hs hv hC de e=>?_) (λi dn A hh v y r hd hlt hget hltp hbd hs hv hC de hx ag e=>?_)
    |refine lpk0 (by first|with_reducible exact hs0 (HC _) hs|fail) lnA rfl (λi hil hs e=>?_) (λi y r hd hlt hget hltp hbd hs hx ag e=>?_)
    |refine lpn0 (by first|with_reducible exact hs0 (HC _) hs|fail) ob rfl (λi hil hs e=>?_) (λi r hd hlt hltp hs hx ag e=>?_)
    |refine lpkG (by first|with_reducible exact hsG (HC _) hs|fail) lnA rdd grA pmA (λi l bs cp G hh hil hs de hG hn e=>?_) (λi l bs cp G hh y r hd hlt hget hltp hbd hs de hG hn hx ag e=>?_)
    |refine lpk1 (by first|with_reducible exact hs1 _ (HC _) hs|fail) lnA rdd (λi w hil hs e=>?_) (λi w y r hd hlt hget hltp hbd hs hx ag e=>?_)
    |refine lpk1 (by first|with_reducible exact hs1 (_,_) (HC _) hs|fail) lnA rdd (λi w hil hs e=>?_) (λi w y r hd hlt hget hltp hbd hs hx ag e=>?_)
    |refine lpk1 (by first|with_reducible exact hs1 (_,_,_) (HC _) hs|fail) lnA rdd (λi w hil hs e=>?_) (λi w y r hd hlt hget hltp hbd hs hx ag e=>?_)
    |refine lpkY hv hC m1 leA pmA (by first|with_reducible exact hs0 (HC _ _) hs|fail) (by exact rfl) lnA rfl (λi dn A hh v hil hs hv hC de e=>?_) (λi dn A hh v y r hd hlt hget hltp hbd hs hv hC de hx ag e=>?_)
    |refine lpk0 (by first|with_reducible exact hs0 (HC _ _) hs|fail) lnA rfl (λi hil hs e=>?_) (λi y r hd hlt hget hltp hbd hs hx ag e=>?_)
    |refine lpn0 (by first|with_reducible exact hs0 (HC _ _) hs|fail) ob rfl (λi hil hs e=>?_) (λi r hd hlt hltp hs hx ag e=>?_)
    |refine lpkG (by first|with_reducible exact hsG (HC _ _) hs|fail) lnA rdd grA pmA (λi l bs cp G hh hil hs de hG hn e=>?_) (λi l bs cp G hh y r hd hlt hget hltp hbd hs de hG hn hx ag e=>?_)
    |refine lpk1 (by first|with_reducible exact hs1 _ (HC _ _) hs|fail) lnA rdd (λi w hil hs e=>?_) (λi w y r hd hlt hget hltp hbd hs hx ag e=>?_)
    |refine lpk1 (by first|with_reducible exact hs1 (_,_) (HC _ _) hs|fail) lnA rdd (λi w hil hs e=>?_) (λi w y r hd hlt hget hltp hbd hs hx ag e=>?_)
    |refine lpk1 (by first|with_reducible exact hs1 (_,_,_) (HC _ _) hs|fail) lnA rdd (λi w hil hs e=>?_) (λi w y r hd hlt hget hltp hbd hs hx ag e=>?_)
    |refine lpkY hv hC m1 leA pmA (by first|with_reducible exact hs0 (HC _ _ _) hs|fail) (by exact rfl) lnA rfl (λi dn A hh v hil hs hv hC de e=>?_) (λi dn A hh v y r hd hlt hget hltp hbd hs hv hC de hx ag e=>?_)
    |refine lpk0 (by first|with_reducible exact hs0 (HC _ _ _) hs|fail) lnA rfl (λi hil hs e=>?_) (λi y r hd hlt hget hltp hbd hs hx ag e=>?_)
    |refine lpn0 (by first|with_reducible exact hs0 (HC _ _ _) hs|fail) ob rfl (λi hil hs e=>?_) (λi r hd hlt hltp hs hx ag e=>?_)
    |refine lpkG (by first|with_reducible exact hsG (HC _ _ _) hs|fail) lnA rdd grA pmA (λi l bs cp G hh hil hs de hG hn e=>?_) (λi l bs cp G hh y r hd hlt hget hltp hbd hs de hG hn hx ag e=>?_)
    |refine lpk1 (by first|with_reducible exact hs1 _ (HC _ _ _) hs|fail) lnA rdd (λi w hil hs e=>?_) (λi w y r hd hlt hget hltp hbd hs hx ag e=>?_)
    |refine lpk1 (by first|with_reducible exact hs1 (_,_) (HC _ _ _) hs|fail) lnA rdd (λi w hil hs e=>?_) (λi w y r hd hlt hget hltp hbd hs hx ag e=>?_)
    |refine lpk1 (by first|with_reducible exact hs1 (_,_,_) (HC _ _ _) hs|fail) lnA rdd (λi w hil hs e=>?_) (λi w y r hd hlt hget hltp hbd hs hx ag e=>?_)
    |refine lpkY hv hC m1 leA pmA (by first|with_reducible exact hs0 HD hs|fail) (by exact rfl) lnA rfl (λi dn A hh v hil hs hv hC de e=>?_) (λi dn A hh v y r hd hlt hget hltp hbd hs hv hC de hx ag e=>?_)
    |refine lpk0 (by first|with_reducible exact hs0 HD hs|fail) lnA rfl (λi hil hs e=>?_) (λi y r hd hlt hget hltp hbd hs hx ag e=>?_)
    |refine lpn0 (by first|with_reducible exact hs0 HD hs|fail) ob rfl (λi hil hs e=>?_) (λi r hd hlt hltp hs hx ag e=>?_)
    |refine lpkG (by first|with_reducible exact hsG HD hs|fail) lnA rdd grA pmA (λi l bs cp G hh hil hs de hG hn e=>?_) (λi l bs cp G hh y r hd hlt hget hltp hbd hs de hG hn hx ag e=>?_)
    |refine lpk1 (by first|with_reducible exact hs1 _ HD hs|fail) lnA rdd (λi w hil hs e=>?_) (λi w y r hd hlt hget hltp hbd hs hx ag e=>?_)
    |refine lpk1 (by first|with_reducible exact hs1 (_,_) HD hs|fail) lnA rdd (λi w hil hs e=>?_) (λi w y r hd hlt hget hltp hbd hs hx ag e=>?_)
    |refine lpk1 (by first|with_reducible exact hs1 (_,_,_) HD hs|fail) lnA rdd (λi w hil hs e=>?_) (λi w y r hd hlt hget hltp hbd hs hx ag e=>?_)
    |refine lpkY hv hC m1 leA pmA (by first|with_reducible exact hs0 (HD _) hs|fail) (by exact rfl) lnA rfl (λi dn A hh v hil hs hv hC de e=>?_) (λi dn A hh v y r hd hlt hget hltp hbd hs hv hC de hx ag e=>?_)
    |refine lpk0 (by first|with_reducible exact hs0 (HD _) hs|fail) lnA rfl (λi hil hs e=>?_) (λi y r hd hlt hget hltp hbd hs hx ag e=>?_)
    |refine lpn0 (by first|with_reducible exact hs0 (HD _) hs|fail) ob rfl (λi hil hs e=>?_) (λi r hd hlt hltp hs hx ag e=>?_)
    |refine lpkG (by first|with_reducible exact hsG (HD _) hs|fail) lnA rdd grA pmA (λi l bs cp G hh hil hs de hG hn e=>?_) (λi l bs cp G hh y r hd hlt hget hltp hbd hs de hG hn hx ag e=>?_)
    |refine lpk1 (by first|with_reducible exact hs1 _ (HD _) hs|fail) lnA rdd (λi w hil hs e=>?_) (λi w y r hd hlt hget hltp hbd hs hx ag e=>?_)
    |refine lpk1 (by first|with_reducible exact hs1 (_,_) (HD _) hs|fail) lnA rdd (λi w hil hs e=>?_) (λi w y r hd hlt hget hltp hbd hs hx ag e=>?_)
    |refine lpk1 (by first|with_reducible exact hs1 (_,_,_) (HD _) hs|fail) lnA rdd (λi w hil hs e=>?_) (λi w y r hd hlt hget hltp hbd hs hx ag e=>?_)
    |refine lpkY hv hC m1 leA pmA (by first|with_reducible exact hs0 (HD _ _) hs|fail) (by exact rfl) lnA rfl (λi dn A hh v hil hs hv hC de e=>?_) (λi dn A hh v y r hd hlt hget hltp hbd hs hv hC de hx ag e=>?_)
    |refine lpk0 (by first|with_reducible exact hs0 (HD _ _) hs|fail) lnA rfl (λi hil hs e=>?_) (λi y r hd hlt hget hltp hbd hs hx ag e=>?_)
    |refine lpn0 (by first|with_reducible exact hs0 (HD _ _) hs|fail) ob rfl (λi hil hs e=>?_) (λi r hd hlt hltp hs hx ag e=>?_)
    |refine lpkG (by first|with_reducible exact hsG (HD _ _) hs|fail) lnA rdd grA pmA (λi l bs cp G hh hil hs de hG hn e=>?_) (λi l bs cp G hh y r hd hlt hget hltp hbd hs de hG hn hx ag e=>?_)
    |refine lpk1 (by first|with_reducible exact hs1 _ (HD _ _) hs|fail) lnA rdd (λi w hil hs e=>?_) (λi w y r hd hlt hget hltp hbd hs hx ag e=>?_)
    |refine lpk1 (by first|with_reducible exact hs1 (_,_) (HD _ _) hs|fail) lnA rdd (λi w hil hs e=>?_) (λi w y r hd hlt hget hltp hbd hs hx ag e=>?_)
    |refine lpk1 (by first|with_reducible exact hs1 (_,_,_) (HD _ _) hs|fail) lnA rdd (λi w hil hs e=>?_) (λi w y r hd hlt hget hltp hbd hs hx ag e=>?_)
    |refine lpkY hv hC m1 leA pmA (by first|with_reducible exact hs0 (HD _ _ _) hs|fail) (by exact rfl) lnA rfl (λi dn A hh v hil hs hv hC de e=>?_) (λi dn A hh v y r hd hlt hget hltp hbd hs hv hC de hx ag e=>?_)
    |refine lpk0 (by first|with_reducible exact hs0 (HD _ _ _) hs|fail) lnA rfl (λi hil hs e=>?_) (λi y r hd hlt hget hltp hbd hs hx ag e=>?_)
    |refine lpn0 (by first|with_reducible exact hs0 (HD _ _ _) hs|fail) ob rfl (λi hil hs e=>?_) (λi r hd hlt hltp hs hx ag e=>?_)
    |refine lpkG (by first|with_reducible exact hsG (HD _ _ _) hs|fail) lnA rdd grA pmA (λi l bs cp G hh hil hs de hG hn e=>?_) (λi l bs cp G hh y r hd hlt hget hltp hbd hs de hG hn hx ag e=>?_)
    |refine lpk1 (by first|with_reducible exact hs1 _ (HD _ _ _) hs|fail) lnA rdd (λi w hil hs e=>?_) (λi w y r hd hlt hget hltp hbd hs hx ag e=>?_)
    |refine lpk1 (by first|with_reducible exact hs1 (_,_) (HD _ _ _) hs|fail) lnA rdd (λi w hil hs e=>?_) (λi w y r hd hlt hget hltp hbd hs hx ag e=>?_)
    |refine lpk1 (by first|with_reducible exact hs1 (_,_,_) (HD _ _ _) hs|fail) lnA rdd (λi w hil hs e=>?_) (λi w y r hd hlt hget hltp hbd hs hx ag e=>?_)
    |fail)
   |((with_reducible refine gRg ?_);refine wany rfl ?_)
   |((with_reducible refine gIl ?_);first
    |exact wsb (ag hs (hr:=rdw)) jsA leA hX leA
    |exact wsb (ag _ hs (hr:=rdw)) jsA leA hX leA
    |exact wsb (ag (_,_) hs (hr:=rdw)) jsA leA hX leA
    |exact wsb (ag (_,_,_) hs (hr:=rdw)) jsA leA hX leA
    |exact wsb (ag (_,_,_,_) hs (hr:=rdw)) jsA leA hX leA
    |exact wsb (ag hs (by assumption) leA ob (hr:=rdw)) jsA leA hX leA
    |exact wsb (ag hs hv hC leA (hr:=rdw)) jsA leA hX leA
    |fail)
   |((with_reducible refine gCo ?_);first
    |refine wcT rfl (by assumption) ?_
    |refine wcF rfl (by assumption) ?_
    |refine wcoT rfl hs bP (λhs=>?_)
    |refine wcoF rfl hs bP (λhs=>?_)
    |refine mC rfl ?_
    |refine ot rfl ?_
    |refine wcond rfl hs (λc hs=>?_) (λc hs=>?_)
    |refine wcoN rfl hs bP (λc hs=>?_) (λc hs=>?_)
    |fail)
   |((with_reducible refine gRe ?_);first
    |((first|refine wrP [_] hF rfl rdR hX ?_|refine wrP [_,_] hF rfl rdR hX ?_|refine wrP [_,_,_] hF rfl rdR hX ?_|refine wrP [_,_,_,_] hF rfl rdR hX ?_|refine wrP [_,_,_,_,_] hF rfl rdR hX ?_|refine wrP [] hF rfl rdR hX ?_|fail);(first|(subst hs;rfl)|rfl|exact hs▸rfl|fail))
    |((first|refine wrH [_] hF rfl rdR ?_|refine wrH [_,_] hF rfl rdR ?_|refine wrH [_,_,_] hF rfl rdR ?_|fail);(first|subst hs|rw[hs]|skip);(first|exact⟨_,_,rfl,fcA⟩|exact⟨_,rfl,fcA⟩|fail))
    |refine wfg (by assumption:cN _ _ _ _ _ _ _) pmA hM (λh de sl=>?_)
    |fail)
   |((with_reducible refine gNi ?_);first
    |refine weX hs [] hF rfl hX rdR rfl
    |((first|refine weH [_] hF rfl rdR ?_|refine weH [_,_] hF rfl rdR ?_|refine weH [_,_,_] hF rfl rdR ?_|fail);(first|subst hs|rw[hs]|skip);(first|exact⟨_,_,rfl,fcA⟩|exact⟨_,rfl,fcA⟩|fail))
    |fail)
   |fail)
  |fail)
 all_goals fail):p:=h
end
section
open Go.Proofs Go.Proofs.Tryz
set_option maxHeartbeats 2000000
theorem jf(h Vo)  : IY prog 25 [I Vo] h (exW errV (λr:Unit=>(.tuple #[]:Value)) (nm Vo)):=by
 refine cX func25 U ntmps25 U λX hM hX=>?_
 have hs0:=@rfl _ (nm Vo)
 refine qT 5 U (aH hs0 U (λc1 hs1=>?_) (λc1 hs2=>?_))
 .exact bJ (bp (aI (eG (Gq RL U U) (aI (Gl U Bq (λe=>iY (qY [] func25 hX (congrArg (exW errV (λr:Unit=>(.tuple #[]:Value))) hs1))))))))
 refine bL ?_
 have hs3:nm Vo=(Except.ok ()):=hs2
 exact dR (Bn [] [] func25 U hX trivial (congrArg (exW errV (λr:Unit=>(.tuple #[]:Value))) hs3))
theorem qn(h s pS pK)(f:(Int->Bool))(f_v)(hs:SlC jB h pS pK s)(hf:∀(h':HF)(el:Int),xJ h h'->qX prog f_v [I el] h' [] (.bool (f el))):Ret prog 97 [.slice pS s.length pK,f_v] h (I (cQ s f)):=by
 refine sT func97 U ntmps97 U λX hM hX hF=>?_
 generalize hz:(cQ s f)=z;have hs:=hz.symm
 have HA:=h0 [0,1,7] 8 (λs1 i=>(cQ.L1 f (cQ.K1)) s1 i)
 exact W
instance kC97:Ct 97:=⟨_,call97,@qn⟩
theorem mR(h s pS pK)(f:(Int->Bool))(f_v)(hs:SlC jB h pS pK s)(hf:∀(h':HF)(el:Int),xJ h h'->qX prog f_v [I el] h' [] (.bool (f el))):Ret prog 40 [.slice pS s.length pK,f_v] h (.bool (eF s f)):=by
 refine sT func40 U ntmps40 U λX hM hX hF=>?_
 generalize hz:(eF s f)=z;have hs:=hz.symm
 exact W
instance kC40:Ct 40:=⟨_,call40,@mR⟩
theorem zz(h gF v0 v0_q)(av0:At h v0_q [I v0]):Ret prog 164 [I gF,.pointer (some v0_q)] h (.bool (lk gF v0)):=by
 refine sT func164 U ntmps164 U λX hM hX hF=>?_
 generalize hz:(lk gF v0)=z;have hs:=hz.symm
 exact W
instance kC164:Ct 164:=⟨_,call164,@zz⟩
theorem pI(h most l fo fm)(hl:SlC jB h fo fm l):Ret prog 99 [I most,.slice fo l.length fm] h (.bool (fM most l)):=by
 refine sT func99 U ntmps99 U λX hM hX hF=>?_
 generalize hz:(fM most l)=z;have hs:=hz.symm
 exact W
instance kC99:Ct 99:=⟨_,call99,@pI⟩
theorem C4(h)(x:ay)  : Ret prog 49 [.agg (ay.cells x).toArray] h (.bool (lg x)):=by
 refine sT func49 U ntmps49 U λX hM hX hF=>?_
 generalize hz:(lg x)=z;have hs:=hz.symm
 exact W
instance kC49:Ct 49:=⟨_,call49,@C4⟩
theorem vz(h l fo fm)(hl:SlC ay.rp h fo fm l):Ret prog 45 [.slice fo l.length fm] h (I (cj l)):=by
 refine sT func45 U ntmps45 U λX hM hX hF=>?_
 generalize hz:(cj l)=z;have hs:=hz.symm
 have HA:=h1 [9,10] 11 (λw=>[(3,I w)]) (λs1 i w=>(cj.L1 (cj.K1)) s1 w)
 exact W
theorem DE(h gF low high)  : Ret prog 211 [I gF,I low,I high] h (.bool (ij gF low high)):=by
 refine sT func211 U ntmps211 U λX hM hX hF=>?_
 generalize hz:(ij gF low high)=z;have hs:=hz.symm
 exact W
instance kC211:Ct 211:=⟨_,call211,@DE⟩
theorem pH(h gF)  : Ret prog 186 [I gF] h (.bool (i7 gF)):=by
 refine sT func186 U ntmps186 U λX hM hX hF=>?_
 generalize hz:(i7 gF)=z;have hs:=hz.symm
 exact W
instance kC186:Ct 186:=⟨_,call186,@pH⟩
theorem tP(h gF)  : Ret prog 187 [I gF] h (.bool (kd gF)):=by
 refine sT func187 U ntmps187 U λX hM hX hF=>?_
 generalize hz:(kd gF)=z;have hs:=hz.symm
 exact W
instance kC187:Ct 187:=⟨_,call187,@tP⟩
theorem nf(h gF)  : Ret prog 188 [I gF] h (.bool (fJ gF)):=by
 refine sT func188 U ntmps188 U λX hM hX hF=>?_
 generalize hz:(fJ gF)=z;have hs:=hz.symm
 exact W
instance kC188:Ct 188:=⟨_,Pt,@nf⟩
theorem EE(h)(x:aK)  : Ret prog 141 [.agg (aK.cells x).toArray] h (.bool (pO x)):=by
 refine sT func141 U ntmps141 U λX hM hX hF=>?_
 generalize hz:(pO x)=z;have hs:=hz.symm
 exact W
instance kC141:Ct 141:=⟨_,call141,@EE⟩
theorem se(h l fo fm)(hl:SlC aK.rp h fo fm l):Ret prog 72 [.slice fo l.length fm] h (I (dD l)):=by
 refine sT func72 U ntmps72 U λX hM hX hF=>?_
 generalize hz:(dD l)=z;have hs:=hz.symm
 have HA:=h1 [9,10] 11 (λw=>[(3,I w)]) (λs1 i w=>(dD.L1 (dD.K1)) s1 w)
 exact W
theorem CZ(h gF low high)  : Ret prog 212 [I gF,I low,I high] h (.bool (eS gF low high)):=by
 refine sT func212 U ntmps212 U λX hM hX hF=>?_
 generalize hz:(eS gF low high)=z;have hs:=hz.symm
 exact W
instance kC212:Ct 212:=⟨_,call212,@CZ⟩
theorem C0(h gF)  : Ret prog 213 [I gF] h (.bool (ld gF)):=by
 refine sT func213 U ntmps213 U λX hM hX hF=>?_
 generalize hz:(ld gF)=z;have hs:=hz.symm
 exact W
instance kC213:Ct 213:=⟨_,call213,@C0⟩
theorem Bd(h gF)  : Ret prog 214 [I gF] h (.bool (j0 gF)):=by
 refine sT func214 U ntmps214 U λX hM hX hF=>?_
 generalize hz:(j0 gF)=z;have hs:=hz.symm
 exact W
instance kC214:Ct 214:=⟨_,call214,@Bd⟩
theorem Eb(h)(x:bA)  : Ret prog 142 [.agg (bA.cells x).toArray] h (.bool (ph x)):=by
 refine sT func142 U ntmps142 U λX hM hX hF=>?_
 generalize hz:(ph x)=z;have hs:=hz.symm
 exact W
instance kC142:Ct 142:=⟨_,call142,@Eb⟩
theorem wC(h l fo fm)(hl:SlC bA.rp h fo fm l):Ret prog 73 [.slice fo l.length fm] h (I (dT l)):=by
 refine sT func73 U ntmps73 U λX hM hX hF=>?_
 generalize hz:(dT l)=z;have hs:=hz.symm
 have HA:=h1 [9,10] 11 (λw=>[(3,I w)]) (λs1 i w=>(dT.L1 (dT.K1)) s1 w)
 exact W
instance kC73:Ct 73:=⟨_,call73,@wC⟩
theorem BS(h gF dL)  : Ret prog 215 [I gF,I dL] h (.bool (fw gF dL)):=by
 refine sT func215 U ntmps215 U λX hM hX hF=>?_
 generalize hz:(fw gF dL)=z;have hs:=hz.symm
 exact W
instance kC215:Ct 215:=⟨_,call215,@BS⟩
theorem CQ(h)(x:aG)  : Ret prog 143 [.agg (aG.cells x).toArray] h (.bool (oy x)):=by
 refine sT func143 U ntmps143 U λX hM hX hF=>?_
 generalize hz:(oy x)=z;have hs:=hz.symm
 exact W
instance kC143:Ct 143:=⟨_,call143,@CQ⟩
theorem vp(h l fo fm)(hl:SlC aG.rp h fo fm l):Ret prog 74 [.slice fo l.length fm] h (I (du l)):=by
 refine sT func74 U ntmps74 U λX hM hX hF=>?_
 generalize hz:(du l)=z;have hs:=hz.symm
 have HA:=h1 [9,10] 11 (λw=>[(3,I w)]) (λs1 i w=>(du.L1 (du.K1)) s1 w)
 exact W
instance kC74:Ct 74:=⟨_,call74,@vp⟩
theorem Bk(h gF v0 v0_q v1 v1_q)(av0:At h v0_q [I v0])(av1:At h v1_q [I v1]):Ret prog 154 [I gF,.pointer (some v0_q),.pointer (some v1_q)] h (.bool (lI gF v0 v1)):=by
 refine sT func154 U ntmps154 U λX hM hX hF=>?_
 generalize hz:(lI gF v0 v1)=z;have hs:=hz.symm
 exact W
instance kC154:Ct 154:=⟨_,call154,@Bk⟩
theorem iL(h least most l fo fm)(hl:SlC jB h fo fm l):Ret prog 83 [I least,I most,.slice fo l.length fm] h (.bool (cg least most l)):=by
 refine sT func83 U ntmps83 U λX hM hX hF=>?_
 generalize hz:(cg least most l)=z;have hs:=hz.symm
 exact W
instance kC83:Ct 83:=⟨_,Dc,@iL⟩
theorem E1(h)(x:Budget)  : Ret prog 144 [.agg (Budget.cells x).toArray] h (.bool (mf x)):=by
 refine sT func144 U ntmps144 U λX hM hX hF=>?_
 generalize hz:(mf x)=z;have hs:=hz.symm
 exact W
instance kC144:Ct 144:=⟨_,call144,@E1⟩
end
section
open Go.Proofs Go.Proofs.Tryz
theorem ext282:Extern.find Tryz.f348=some Extern.BytealgIndexByte.indexByte:=by kernel_rfl
theorem ext282n:Extern.findNext Tryz.f348=none:=by kernel_rfl
theorem run282(s:ByteArray)(c:Int)(w:World):(Extern.BytealgIndexByte.indexByte #[.string s,.int .u8 c]).run prog w=.ok (.int .i64 (idxByte s c)) w:=by
 show(do
  let b ←Extern.Bytes.bytesOf (.string s)
  let c ←Extern.Bytes.asByte (.int .u8 c)
  match(vD b.size).find? λi=>b[i]! == c with
  |some i=>pure (goInt i)
  |none=>pure (goInt (-1)):Sem Value).run prog w=_
 simp only[Extern.Bytes.bytesOf,Extern.Bytes.asByte,jL,Sem.run_pure,jK,idxByte,goInt]
 cases hf:(vD s.size).find? (λi=>s[i]! == UInt8.ofNat c.toNat)with
 |none=>simp only[show c.toNat.toUInt8=UInt8.ofNat c.toNat from rfl,hf];simp
 |some i=>simp only[show c.toNat.toUInt8=UInt8.ofNat c.toNat from rfl,hf];simp
theorem call282(s:ByteArray)(c:Int)(w:World):(callFunc 348 #[.string s,.int .u8 c]).run prog w=.ok (.value (.int .i64 (idxByte s c))) w:=by
 have hb:Tryz.f348.body.isNone=true:=by kernel_rfl
 have hn : (Tryz.f348.name == "runtime.NumGoroutine") = false := by kernel_rfl
 simp only[callFunc,jL,run_program,jK,func348,hn,hb,ext282,ext282n]
 simp[run282]
theorem Si{L:LH}{y:Operand}{c:Int}(hx:e.ev x=.string s)(hy:e.ev y=.int .u8 c):
  ∀w,St X h L w->(execOp e.ev ⟨d,.call ⟨.value (.func 348),#[x,y],ats⟩,ty,pos,af,g⟩).run prog w=.ok (.value (.int .i64 (idxByte s c))) w:=
 λw _=>by
  have hf:e.ev (.func 348)=.func (.func 348) #[] #[]:=rfl
  simp[execOp,resolve,hf,xH,invoke,hx,hy,call282]
end
section
open Go.Proofs Go.Proofs.Tryz
set_option maxHeartbeats 2000000
theorem so(h l fo fm)(hl:SlC zR h fo fm l):Ret prog 75 [.slice fo l.length fm] h (I (bX l)):=by
 refine sT func75 U ntmps75 U λX hM hX hF=>?_
 generalize hz:(bX l)=z;have hs:=hz.symm
 have HA:=h1 [9,10] 11 (λw=>[(3,I w)]) (λs1 i w=>(bX.L1 (bX.K1)) s1 w)
 exact W
theorem li(h gF low high)  : Ret prog 145 [I gF,I low,I high] h (.bool (bh gF low high)):=by
 refine sT func145 U ntmps145 U λX hM hX hF=>?_
 generalize hz:(bh gF low high)=z;have hs:=hz.symm
 exact W
instance kC145:Ct 145:=⟨_,JQ,@li⟩
theorem Qz{n a b:Int}(h:bh n a b=true):a<=n/\n<=b:=by simpa[bh]using h
theorem Ay(rec:aj->Int->List gG)(h)(x:aj)(gR x_q)(depth:Int)(depth_q)(hrec:∀(h:HF)(qx:aj)(mz:eC)(qdepth:Int)(_:aj.ok h qx mz)(_:0<=qdepth/\qdepth+qx.dep<=2000000)(_:qx.dep<x.dep),j6 prog 283 [.agg (aj.cells qx mz).toArray,I qdepth] h (λv h'=>∃rv0:Value,v=rv0/\Itr prog rv0 xU (rec qx qdepth) h'))(hx:aj.ok h x gR)(ax:At h x_q (aj.cells x gR))(adepth:At h depth_q [I depth])(hb:0<=depth/\depth+x.dep<=2000000):Itr prog (.func (.func 314) #[] (xB [.pointer (some x_q),.pointer (some depth_q)])) xU (aQ.F rec x depth) h:=by
 refine sj call314 ?_
 intro yf ya yb C Sp Pn h1 A de m1 m2 m3 hC hy
 refine j1 JP U ntmps314 U λX hXM hX=>?_
 have hs0:aQ.F rec x depth=[]++aQ.F rec x depth:=rfl
 refine sr (eO (λb1=>qL 5 [0] U (eU ty59 (ax.mono de) U U (eJ ty3 (adepth.mono de) U (aI (ie (cells:=[I x.Kind,I x.N,I x.No,.string x.Name,.slice gR.oV x.L.length gR.pk,I depth]) (places:=[(0,5),(5,1)]) underlying320 zc320 kr kr ?_))))))
 have hx1:aQ.F rec x depth=[]++((gG.mk (aj.mk x.Kind x.N x.No x.Name x.L) depth)::((aQ.L1 rec depth (aQ.K1)) x.L)):=hs0
 let z1:Nat×Obj:=(b1,O [.func yf ya yb] 354)
 refine aI (mq ([z1]) A ap (hy [] (gG.mk (aj.mk x.Kind x.N x.No x.Name x.L) depth) _ _ _ _ hx1 lf hC ⟨(C7.mk (eC.mk gR.oV gR.pk)),U,(show gG.ok h1 (gG.mk (aj.mk x.Kind x.N x.No x.Name x.L) depth) (C7.mk (eC.mk gR.oV gR.pk))from⟨(show aj.ok h1 (aj.mk x.Kind x.N x.No x.Name x.L) (eC.mk gR.oV gR.pk)from aj.ok.of (hx.list.mono aj.aD de))⟩)⟩) U U (λh2 A1 hle1 hC1=>?_) (λh3 A2 hle2 hS1=>?_) (λch1 h4 A3 hle3 hP1 e=>iY (oJ [] (A:=A3) JP (List.sublist_append_right _ _) hP1)))
 .have hs1:aQ.F rec x depth=[(gG.mk (aj.mk x.Kind x.N x.No x.Name x.L) depth)]++(((aQ.L1 rec depth (aQ.K1)) x.L)):=hx1.trans ap
  refine qL 7 [] U (lQ (j:=4) ty57 (ax.mono (de.t hle1)) U U (qL 3 [] U (dR (bZ (L':=[z1]++(A1++(markB []))) ap ?_))))
  refine uN (ι:=Nat×List gG×LH×List Nat×HF) (λi=>[]) (λi=>marks i.2.2.2.1) (λi=>i.2.2.2.2) (λi=>[z1]++(i.2.2.1++(markB i.2.2.2.1))) (λi=>i.1<=x.L.length/\aQ.F rec x depth=i.2.1++((aQ.K1))/\C i.2.1 i.2.2.2.2 i.2.2.1/\xJ h2 i.2.2.2.2) ?_ (λhx1=>?_)
  .rintro⟨i1,dn1,A1_,rs1,hh1⟩ ⟨iP,hs2,hC1_,hl1⟩ e
   refine bZ (L':=([z1]++(A1_))++markB rs1) ap ?_
   have hs3:aQ.F rec x depth=dn1:=hs2.trans (List.append_nil _)
   exact sk rs1 (A:=A1_) JP U js (.inl (hs3▸hC1_))
  refine Ad (ι:=Nat×List gG×LH×List Nat×HF×List aj) (λi=>[(2,.pointer (some depth_q)),(3,Q b1),(14,.slice gR.oV x.L.length gR.pk),(15,I (x.L.length:Int)),(16,I (i.1:Int))]) (λi=>marks i.2.2.2.1) (λi=>i.2.2.2.2.1) (λi=>[z1]++(i.2.2.1++(markB i.2.2.2.1))) (λi=>x.L.drop i.1=i.2.2.2.2.2/\i.1<=x.L.length/\aQ.F rec x depth=i.2.1++((aQ.L1 rec depth (aQ.K1)) i.2.2.2.2.2)/\C i.2.1 i.2.2.2.2.1 i.2.2.1/\xJ h2 i.2.2.2.2.1) (λi=>i.2.2.2.2.2.length) (0,[(gG.mk (aj.mk x.Kind x.N x.No x.Name x.L) depth)],A1,[],h2,x.L) U rd sw ⟨U,zH _,hs1,hC1,lf⟩ ?_
  rintro⟨i1,dn1,A1_,rs1,hh1,s1⟩ ⟨hd1,iP,hs4,hC1_,hl1⟩ ag1 e
  rcases s1 with _|⟨y1,rz1⟩
  .have ml:=nF hd1
   exact sr (fO ml U (qO 4 U (hx1 (i1,dn1,A1_,rs1,hh1) _ ⟨iP,hs4,hC1_,hl1⟩ trivial)))
  have fY:=tc hd1
  have dz:=rJ hd1
  have iT:=ip hd1
  have mF:=(hx.list.mono aj.aD (de.t hle1)).1.1
  have hdy:=aj.lj (hZ hd1)
  refine sr (tO fY U (qO 8 U (aI (iR qI ty59 (hx.list.mono aj.aD ((de.t hle1).t hl1)).1 dz U U U (λ_ _ _ e=>e) (λq2 r2 A8 ok2=>eU ty59 A8 U U (bH zc59 (λb4=>bE 0 ty59 U U U U U U (jm (L':=[(b4,O (aj.cells y1 r2) 59),z1]++(A1_++(markB rs1))) U (qO 3 U (dy 0 ty59 U U U (eJ ty3 (adepth.mono ((de.t hle1).t hl1)) U (i8 (v':=I (depth+1)) U (lv ob) (aI (cx Ps (hrec _ _ _ (depth+1) ok2 ob (aj.lj (hZ hd1))) U (λv2 h9 hle8 hp2=>?_)))))))))))))))
  obtain⟨_,rfl,mo2⟩:=hp2
  refine qO 2 U ?_
  let z2:Nat×Obj:=(b4,O (aj.cells y1 r2) 59)
  refine bZ (L':=([z2,z1]++(A1_))++markB rs1) ap ?_
  refine j9 (it:=v2) (xs:=(rec y1 (depth+1))) (ι:=List gG×LH×HF) rs1 (λi=>i.2.2) (λi=>[z2,z1]++(i.2.1)) (λs i=>aQ.F rec x depth=i.1++((aQ.L3 ((aQ.L1 rec depth (aQ.K1) rz1))) s)/\C i.1 i.2.2 i.2.1/\xJ h9 i.2.2) (λi=>Sp i.2.2 i.2.1/\xJ h9 i.2.2) (λ_=>False) 0 (λch h L=>∃B,B.Sublist L/\Pn ch h B) (dn1,A1_,h9) JP U mo2 U pP (λ_ _ _ _ hl⟨B,hs,hp⟩=>⟨B,hs,m3 _ _ _ _ hl hp⟩) U (show[z2,z1]++(A1_)=_ from U) ⟨hs4,(m1 _ _ _ _ hle8 hC1_),lf⟩ ?_ ?_ ?_ ?_ ?_
  .rintro l3 dm3 lp3 y3 rz3 vs3 ⟨dn3,A3_,hh3⟩ hr3 X hFR3 ⟨hs6,hC3_,hl3⟩ hl03 hlr3 hv3 hX hXM hlp3 nx3 rt3 ex3 pn3
   obtain⟨rr3_0,rfl,ok3_0⟩:=hv3
   let z3:Nat×Obj:=(dm3,.deferred (some []))
   refine bZ (L':=[(l3,.loop lp3),z3,z2,z1]++(A3_++(markB rs1))) ap (bJ (bH zc320 (λb6=>bE 0 ty320 U U U U U U (jm (L':=[(b6,O (gG.cells y3 rr3_0) 320),(l3,.loop lp3),z3,z2,z1]++(A3_++(markB rs1))) U (bo (kh 1 U hlp3 (qK 4 [4] U (dy 0 ty320 U U U ?_))))))))
   have hx4:aQ.F rec x depth=dn3++(y3::((aQ.L3 ((aQ.L1 rec depth (aQ.K1) rz1))) rz3)):=hs6
   let z4:Nat×Obj:=(l3,.loop { lp3 with state:=.busy })
   refine aI (R3 ([(b6,O (gG.cells y3 rr3_0) 320),z4,z3,z2,z1]) A3_ (markB rs1) ap (hy dn3 y3 _ _ _ _ hx4 ((((hle1.t hl1).t hle8).t hl3).t hlr3) (m1 _ _ _ _ hlr3 hC3_) ⟨rr3_0,U,ok3_0⟩) U U (λh13 A12 hle12 hC4=>?_) (λh14 A13 hle13 hS4=>?_) (λch4 h15 A14 hle14 hP4 e=>Cu (L':=[z4,z3]++(A14++(markB rs1))) js (pn3 _ _ _ A14 ⟨A14,List.Sublist.refl _,hP4⟩)))
   .have hs7:aQ.F rec x depth=(dn3++[y3])++(((aQ.L3 ((aQ.L1 rec depth (aQ.K1) rz1))) rz3)):=hx4.trans ap
    exact nB U (qO 4 U (cu (L':=[z4,z3,z2,z1]++(A12++(markB rs1))) js (bZ (L':=rdH l3 dm3 lp3 (([z2,z1]++(A12))++markB rs1)) ap (nx3 ((dn3++[y3]),A12,h13) _ _ ⟨hs7,hC4,((hl3.t hlr3).t hle12)⟩ lf))))
   exact nB U (qO 2 U (cu (L':=[z4,z3,z2,z1]++(A13++(markB rs1))) js (bZ (L':=rdH l3 dm3 lp3 (([z2,z1]++(A13))++markB rs1)) ap (rt3 (dn3,A13,h14) _ _ _ ⟨hS4,((hl3.t hlr3).t hle13)⟩ lf))))
  .rintro dm3 ⟨dn3,A3_,hh3⟩ hn3 ⟨hs8,hC3_,hl3⟩ hln3 hl03
   exact bZ (L':=[z2,z1]++(A3_++(markB (dm3::rs1)))) ap (qT 3 U (oi i1 U (qO 2 U (cu (L':=[z1]++(A3_++(markB (dm3::rs1)))) js (ag1 ((i1+1),dn3,A3_,(dm3::rs1),hn3,rz1) _ (Nat.lt_succ_self _) ⟨kx hd1,ip hd1,hs8,(m1 _ _ _ _ hln3 hC3_),(((hl1.t hle8).t hl3).t hln3)⟩ rd)))))
  .rintro dm3 ⟨dn3,A3_,hh3⟩ hn3 ⟨hS5,hl3⟩ hln3 hl03
   exact bZ (L':=[z2,z1]++(A3_++(markB (dm3::rs1)))) ap (bZ (L':=([z2,z1]++(A3_))++markB (dm3::rs1)) ap (n8 (dm3::rs1) (A:=A3_) JP U js (.inr (m2 _ _ _ hln3 hS5))))
  .exact xf
  rintro dm3 ch hn3 L0 ⟨B,hB,hp⟩ hl03
  exact oJ (dm3::rs1) JP hB hp
 exact nB U (qO 2 U (dR (n8 [] (A:=A2) JP U js (.inr hS1))))
theorem sR:∀(m:Nat)(h:HF)(x:aj)(gR:eC)(depth:Int)(_:aj.ok h x gR)(_:0<=depth/\depth+x.dep<=2000000)(_:x.dep<=m),j6 prog 283 [.agg (aj.cells x gR).toArray,I depth] h (λv h'=>∃rv0:Value,v=rv0/\Itr prog rv0 xU (aQ.go m x depth) h')
 |0,h,x,gR,depth,hx,hb,hd=>absurd hd (Nat.not_le.2 (aj.ni _))
 |m+1,h,x,gR,depth,hx,hb,hd=>by
  exact cX func283 U ntmps283 U λX hM hX=>sr (eO (λb1=>eO (λb2=>qO 4 U (cz 1 U hM (λh2 hle2 hb2=>cz 0 U hM (λh3 hle3 hb3=>aI (gM U U (an (lL [.func (.func 314) #[] #[Q b1,Q b2]] func283 U rd ⟨_,U,Ay (aQ.go m) h3 x gR ⟨b1,0,none⟩ depth ⟨b2,0,none⟩ (λh' y Wt d' hy hb' hl=>sR m h' y Wt d' hy hb' ob) (hx.mono (hle2.t hle3)) ((dO hb2).mono hle3) (dO hb3) hb⟩)))))))))
theorem oM(h x gR)(depth:Int)(hx:aj.ok h x gR)(hb:0<=depth/\depth+x.dep<=2000000):j6 prog 283 [.agg (aj.cells x gR).toArray,I depth] h (λv h'=>∃rv0:Value,v=rv0/\Itr prog rv0 xU (bz x depth) h'):=sR _ h x gR depth hx hb (kE _)
theorem i5(h ok Vn)  : IY prog 309 [.bool ok,I Vn] h (exW stopV (λr:Unit=>(.tuple #[]:Value)) (fD ok Vn)):=by
 refine cX func309 U ntmps309 U λX hM hX=>?_
 have hs0:=@rfl _ (fD ok Vn)
 refine qT 5 U (aH hs0 U (λc1 hs1=>?_) (λc1 hs2=>?_))
 .exact bJ (bp (aI (ie (cells:=[I Vn]) (places:=[(0,1)]) underlying347 zc347 kr kr (aI (eG (Gq underlying347 U U) (aI (Gl U Bq (λe=>iY (qY [] func309 hX (congrArg (exW stopV (λr:Unit=>(.tuple #[]:Value))) hs1))))))))))
 refine bL ?_
 have hs3:fD ok Vn=(Except.ok ()):=hs2
 exact dR (Bn [] [] func309 U hX trivial (congrArg (exW stopV (λr:Unit=>(.tuple #[]:Value))) hs3))
theorem QU{e:Int}{u:Unit}(h:fD c e=.ok u):c=true:=by
 cases c with
 |true=>rfl
 |false=>simp[fD]at h
theorem ny(h p jg)(hp:aw.ok h p jg)(hsz0:p.dp.length<=2000000):j6 prog 310 [.agg (aw.cells p jg).toArray] h (λv h'=>∃(rb0:Option Addr)(rc0:Nat),v=.slice rb0 (aF p).length rc0/\SlC aj.rp h' rb0 rc0 (aF p)):=by
 refine sT func310 U ntmps310 U λX hM hX hF=>?_
 generalize hz:(aF p)=z;have hs:=hz.symm
 have HA:=hG [1,6,7] 8 2 aj.rp 59 (λs1 i w=>(aF.L1 (aF.K1 p)) s1 w)
 exact W
theorem Qk(p:aw):∀(l:List fC)(g:List aj),aF.L1 (aF.K1 p) l g=g++(l.map (·.aj)++[p.aO])
 |[],g=>by simp[aF.L1,aF.K1]
 |y::l,g=>by simp[aF.L1,Qk p l]
theorem S6(p:aw):aF p=p.dp.map (·.aj)++[p.aO]:=by
 unfold aF;rw[Qk];simp
theorem D9{p:aw}(h:smP p){y:aj}(hy:y∈aF p):y.dep<=1500000:=by
 rw[S6]at hy
 rcases List.mem_append.1 hy with hy|hy
 .obtain⟨r,hr,rfl⟩:=List.mem_map.1 hy;exact h.2.1 r hr
 rw[List.mem_singleton.1 hy];exact h.2.2.1
theorem DA(h p jg)(hp:aw.ok h p jg)(hsm:smP p):IY prog 279 [.agg (aw.cells p jg).toArray] h (exW stopV (λr:Unit=>(.tuple #[]:Value)) (cI p)):=by
 refine cX Pr U ntmps279 U λX hM hX=>?_
 have hs0:=@rfl _ (cI p)
 have hsr:=hsm.rules
 have hsc:=hsm.change
 refine sr (eO (λb1=>qL 8 [0] U (kI 5 [10,11,12,13,14,15] 10 15 (decide ((p.dN.length:Int)<=16)) U (λc1 hk1=>?_) (λe=>?_))))
 .exact qL 5 [0] U (hk1 _ U)
 refine bp (kI 5 [16,17,18,19,20,21] 16 21 (decide ((p.dp.length:Int)<=16)) U (λc2 hk2=>?_) (λe=>?_))
 .exact qL 5 [0] U (hk2 _ U)
 refine aI (pu BW (i5 h ((decide ((p.aA.length:Int)<=32)&&decide ((p.dN.length:Int)<=16))&&decide ((p.dp.length:Int)<=16)) 2) U (λu1 hu1=>?_) (λpv1 hpv1 e=>?_))
 .obtain⟨rx1,hrx1,rfl⟩:=sn hu1
  have hs1:=hs0.trans (xa hrx1)
  cases rx1
  refine qO 3 U (dy 0 ty61 U U U (aI (cx call310 (ny _ _ _ hp ob) U (λv1 h1 hle1 hp1=>?_))))
  obtain⟨rb1,rc1,rfl,sl1⟩:=hp1
  refine qL 3 [] U (dR ?_)
  let z1:Nat×Obj:=(b1,O (aw.cells p jg) 61)
  refine bZ (L':=[z1]++(markB [])) ap ?_
  refine uN (ι:=Nat×List Nat×HF) (λi=>[]) (λi=>marks i.2.1) (λi=>i.2.2) (λi=>[z1]++(markB i.2.1)) (λi=>i.1<=(aF p).length/\cI p=((cI.K1))/\xJ h1 i.2.2) ?_ (λhx1=>?_)
  .rintro⟨i1,rs1,hh1⟩ ⟨iP,hs2,hl1⟩ e
   have hs3:cI p=(Except.ok ()):=hs2
   exact bZ (L':=([z1])++markB rs1) ap (Bn rs1 [] Pr U hX trivial (congrArg (exW stopV (λr:Unit=>(.tuple #[]:Value))) hs3))
  refine Ad (ι:=Nat×List Nat×HF×List aj) (λi=>[(24,.slice rb1 ((aF p).length) rc1),(25,I ((aF p).length:Int)),(26,I (i.1:Int))]) (λi=>marks i.2.1) (λi=>i.2.2.1) (λi=>[z1]++(markB i.2.1)) (λi=>(aF p).drop i.1=i.2.2.2/\i.1<=(aF p).length/\cI p=((cI.L1 (cI.K1)) i.2.2.2)/\xJ h1 i.2.2.1) (λi=>i.2.2.2.length) (0,[],h1,(aF p)) U rd sw ⟨U,zH _,hs1,lf⟩ ?_
  rintro⟨i1,rs1,hh1,s1⟩ ⟨hd1,iP,hs4,hl1⟩ ag1 e
  rcases s1 with _|⟨y1,rz1⟩
  .have ml:=nF hd1
   exact sr (fO ml U (qO 4 U (hx1 (i1,rs1,hh1) _ ⟨iP,hs4,hl1⟩ trivial)))
  have fY:=tc hd1
  have dz:=rJ hd1
  have iT:=ip hd1
  have mF:=sl1.1.1
  try have hsy:=D9 hsm (hZ hd1)
  refine sr (tO fY U (qO 8 U (aI (iR qI ty59 (sl1.mono aj.aD hl1).1 dz U U U (λ_ _ _ e=>e) (λq2 r2 A2 ok2=>eU ty59 A2 U U (bH zc59 (λb5=>bE 0 ty59 U U U U U U (qO 3 U (bH zc3 (λb6=>cW 0 ty3 U U U U U U (qO 3 U (dy 1 ty59 U U U (aI (cx Ps (oM _ _ _ 1 ok2 ob) U (λv3 h3 hle3 hp3=>?_)))))))))))))))
  obtain⟨_,rfl,mo2⟩:=hp3
  refine qO 2 U ?_
  let z2:Nat×Obj:=(b5,O (aj.cells y1 r2) 59)
  refine bZ (L':=([(b6,O [I 0] 3),z2,z1])++markB rs1) ap ?_
  refine j9 (it:=v3) (xs:=(bz y1 1)) (ι:=Int×HF) rs1 (λi=>i.2) (λi=>[(b6,O [I i.1] 3),z2,z1]) (λs i=>cI p=((cI.L3 (λzg3_b6_0=>(cI.L1 (cI.K1) rz1))) s i.1)/\xJ h3 i.2) (λ_=>False) (λ_=>False) 0 (λch _ _=>∃pv_,ch=[{ v:=stopV pv_,recovered:=false }]/\cI p=.error pv_) (0,h3) Pr U mo2 U pP (λ_ _ _ _ _ hq=>hq) U (show[(b6,O [I 0] 3),z2,z1]=_ from U) ⟨hs4,lf⟩ ?_ ?_ ?_ ?_ ?_
  .rintro l3 dm3 lp3 y3 rz3 vs3 ⟨sE,hh3⟩ hr3 X hFR3 ⟨hs6,hl3⟩ hl03 hlr3 hv3 hX hXM hlp3 nx3 rt3 ex3 pn3
   obtain⟨rr3_0,rfl,ok3_0⟩:=hv3
   let z4:Nat×Obj:=(dm3,.deferred (some []))
   refine bZ (L':=[(l3,.loop lp3),z4,(b6,O [I sE] 3),z2,z1]++(markB rs1)) ap (bJ (bH zc320 (λb8=>bE 0 ty320 U U U U U U (bo (kh 1 U hlp3 (qK 5 [3] U (cW 3 ty3 U U U U U U (qL 5 [3] U (kI 4 [37,38,39,40,41] 37 41 (decide (y3.depth<=16)) U (λc3 hk3=>?_) (λe=>?_))))))))))
   .exact qL 4 [0] U (hk3 _ U)
   refine aI (pu BW (i5 hr3 (decide ((kB .i64 (sE+1))<=256)&&decide (y3.depth<=16)) 2) U (λu2 hu2=>?_) (λpv2 hpv2 e=>?_))
   .obtain⟨rx2,hrx2,rfl⟩:=sn hu2
    have hs7:=hs6.trans (xa hrx2)
    cases rx2
    refine qO 2 U ?_
    let z3:Nat×Obj:=(b6,O [I (kB .i64 (sE+1))] 3)
    exact cu (L':=[(l3,.loop { lp3 with state:=.busy }),z4,z3,z2,z1]++(markB rs1)) js (bZ (L':=rdH l3 dm3 lp3 (([z3,z2,z1])++markB rs1)) ap (nx3 ((kB .i64 (sE+1)),hr3) _ _ ⟨hs7,(hl3.t hlr3)⟩ lf))
   obtain⟨pv2e,hpv2e,rfl⟩:=pz hpv2
   have hs8:=hs6.trans (pV hpv2e)
   exact Cu (L':=[(l3,.loop { lp3 with state:=.busy }),z4]++(markB rs1)) js (pn3 _ _ _ [] ⟨_,U,hs8⟩)
  .rintro dm3 ⟨sE,hh3⟩ hn3 ⟨hs9,hl3⟩ hln3 hl03
   exact bZ (L':=[(b6,O [I sE] 3),z2,z1]++(markB (dm3::rs1))) ap (qT 3 U (oi i1 U (qO 2 U (cu (L':=[z1]++(markB (dm3::rs1))) js (ag1 ((i1+1),(dm3::rs1),hn3,rz1) _ (Nat.lt_succ_self _) ⟨kx hd1,ip hd1,hs9,(((hl1.t hle3).t hl3).t hln3)⟩ rd)))))
  .exact xf
  .exact xf
  rintro dm3 ch hn3 L0 ⟨pv_,rfl,hpv_⟩ hl03
  exact qY (dm3::rs1) Pr hX (congrArg (exW stopV (λr:Unit=>(.tuple #[]:Value))) hpv_)
 obtain⟨pv1e,hpv1e,rfl⟩:=pz hpv1
 have hs10:=hs0.trans (pV hpv1e)
 exact iY (qY [] Pr hX (congrArg (exW stopV (λr:Unit=>(.tuple #[]:Value))) hs10))
instance kC279:Ct 279:=⟨_,call279,@DA⟩
theorem pG(h x gR)(hx:aj.ok h x gR):Ret prog 284 [.agg (aj.cells x gR).toArray] h (.bool (dB x)):=by
 refine sT func284 U ntmps284 U λX hM hX hF=>?_
 generalize hz:(dB x)=z;have hs:=hz.symm
 exact W
theorem qU(h s c)  : Ret prog 347 [.string s,Y c] h (I (lY s c)):=by
 refine sT func347 U ntmps347 U λX hM hX hF=>?_
 have hs0:=@rfl _ (lY s c)
 exact sr (qO 6 U (aI (eG (Si U U) (an (nretP [I (idxByte s c)] (ci hs0))))))
instance kC347:Ct 347:=⟨_,call347,@qU⟩
theorem Af(h s c)  : Ret prog 345 [.string s,Y c] h (I (strings_IndexByte s c)):=by
 refine sT func345 U ntmps345 U λX hM hX hF=>?_
 generalize hz:(strings_IndexByte s c)=z;have hs:=hz.symm
 exact W
instance kC345:Ct 345:=⟨_,call345,@Af⟩
theorem DI(h c)  : Ret prog 340 [Y c] h (I (lX c)):=by
 refine sT func340 U ntmps340 U λX hM hX hF=>?_
 generalize hz:(lX c)=z;have hs:=hz.symm
 exact W
theorem jI(h s)  : Ret prog 329 [.string s] h (.bool (dX s)):=by
 refine sT func329 U ntmps329 U λX hM hX hF=>?_
 have hs0:=@rfl _ (dX s)
 refine qT 10 U (gy 4 [7,8,9,10,11] 7 11 (decide (32<(s.size:Int))) U (λc1 hk1=>?_) (λe=>?_))
 .exact bp (aI (eG (Oy RP U) (qO 2 U (hk1 _ U))))
 refine bp (gy 5 [12,13,14,15,16,17] 12 17 ((lX ((s.data.getD (0:Int).toNat 0).toNat:Int)) != 2) U (λc2 hk2=>?_) (λe=>?_))
 .refine bp ?_
  have ho1:0<=(0:Int)/\(0:Int)<(s.size:Int):=(by have:=TN (Bool.or_eq_false_iff.1 ob).1;omega)
  exact aI (eG (Ow RP U U ho1) (aS call340 (DI h ((s.data.getD (0:Int).toNat 0).toNat:Int)) U (qO 2 U (hk2 _ U))))
 refine bo (aH hs0 U (λc3 hs1=>?_) (λc3 hs2=>?_))
 .exact sr (an (nretP [.bool false] (cs hs1)))
 refine qT 5 U (aI (eG (Oy RP U) (qO 2 U ?_)))
 refine gB (ι:=Nat) (λi=>[]) (λi=>h) (λi=>[]) (λi=>i<=(vD s.size).length/\dX s=((dX.K1))) ?_ (λhx1=>?_)
 .rintro i1 ⟨iP,hs4⟩ e
  exact sr (an (nretP [.bool true] (cs hs4)))
 refine ju (ι:=Nat×List Nat) (λi=>[(0,.string s),(19,I (s.size:Int)),(20,I (i.1:Int))]) (λi=>h) (λi=>[]) (λi=>(vD s.size).drop i.1=i.2/\i.1<=(vD s.size).length/\dX s=((dX.L1 s (dX.K1)) i.2 i.1)) (λi=>i.2.length) (0,(vD s.size)) rd sw ⟨U,zH _,hs2⟩ ?_
 rintro⟨i1,s1⟩ ⟨hd1,iP,hs6⟩ ag1 e
 rcases s1 with _|⟨y1,rz1⟩
 .have ml:decide ((i1:Int)<(s.size:Int))=false:=by simpa using nF hd1
  exact sr (fO ml U (qO 4 U (hx1 i1 _ ⟨iP,hs6⟩ trivial)))
 have fY:decide ((i1:Int)<(s.size:Int))=true:=by simpa using tc hd1
 have iT:i1<s.size:=by simpa using ip hd1
 refine sr (tO fY U (qO 15 U ?_))
 have ho3:0<=((i1:Int):Int)/\((i1:Int):Int)<(s.size:Int):=ob
 refine aI (eG (Ow RP U U ho3) (aS call340 (DI h ((s.data.getD ((i1:Int):Int).toNat 0).toNat:Int)) U (qO 7 U (kI 3 [29,30,31,32] 29 32 ((lX ((s.data.getD ((i1:Int):Int).toNat 0).toNat:Int)) != 3) U (λc4 hk3=>?_) (λe=>?_)))))
 .exact bp (qO 2 U (hk3 _ U))
 refine bp (kI 3 [33,34,35,36] 33 36 ((lX ((s.data.getD ((i1:Int):Int).toNat 0).toNat:Int)) != 5) U (λc5 hk4=>?_) (λe=>?_))
 .exact bp (qO 2 U (hk4 _ U))
 refine bo (aH hs6 U (λc6 hs8=>?_) (λc6 hs9=>?_))
 .exact sr (an (nretP [.bool false] (cs hs8)))
 exact bL (qT 2 U (oi i1 U (qO 2 U (ag1 ((i1+1),rz1) _ (Nat.lt_succ_self _) ⟨kx hd1,ip hd1,hs9⟩ rd))))
theorem pZ(h s)  : Ret prog 311 [.string s] h (.bool (ec s)):=by
 refine sT func311 U ntmps311 U λX hM hX hF=>?_
 have hs0:=@rfl _ (ec s)
 refine qT 16 U (aH hs0 U (λc1 hs1=>?_) (λc1 hs2=>?_))
 .refine bL (aH hs1 U (λc2 hs3=>?_) (λc2 hs4=>?_))
  .exact sr (an (nretP [.bool false] (cs hs3)))
  exact bL (qT 4 U (aS Cq (jI h s) U (an (nretP [.bool (dX s)] (cs hs4)))))
 refine qT 5 U (aH hs2 U (λc3 hs7=>?_) (λc3 hs8=>?_))
 .refine bL (aH hs7 U (λc4 hs9=>?_) (λc4 hs10=>?_))
  .exact sr (an (nretP [.bool false] (cs hs9)))
  exact bL (qT 4 U (aS Cq (jI h s) U (an (nretP [.bool (dX s)] (cs hs10)))))
 refine qT 5 U (aH hs8 U (λc5 hs13=>?_) (λc5 hs14=>?_))
 .refine bL (aH hs13 U (λc6 hs15=>?_) (λc6 hs16=>?_))
  .exact sr (an (nretP [.bool false] (cs hs15)))
  exact bL (qT 4 U (aS Cq (jI h s) U (an (nretP [.bool (dX s)] (cs hs16)))))
 refine qT 5 U (aH hs14 U (λc7 hs19=>?_) (λc7 hs20=>?_))
 .refine bL (aH hs19 U (λc8 hs21=>?_) (λc8 hs22=>?_))
  .exact sr (an (nretP [.bool false] (cs hs21)))
  exact bL (qT 4 U (aS Cq (jI h s) U (an (nretP [.bool (dX s)] (cs hs22)))))
 refine qT 5 U (aH hs20 U (λc9 hs25=>?_) (λc9 hs26=>?_))
 .refine bL (aH hs25 U (λc10 hs27=>?_) (λc10 hs28=>?_))
  .exact sr (an (nretP [.bool false] (cs hs27)))
  exact bL (qT 4 U (aS Cq (jI h s) U (an (nretP [.bool (dX s)] (cs hs28)))))
 refine qT 5 U (aH hs26 U (λc11 hs31=>?_) (λc11 hs32=>?_))
 .refine bL (aH hs31 U (λc12 hs33=>?_) (λc12 hs34=>?_))
  .exact sr (an (nretP [.bool false] (cs hs33)))
  exact bL (qT 4 U (aS Cq (jI h s) U (an (nretP [.bool (dX s)] (cs hs34)))))
 refine qT 5 U (aH hs32 U (λc13 hs37=>?_) (λc13 hs38=>?_))
 .refine bL (aH hs37 U (λc14 hs39=>?_) (λc14 hs40=>?_))
  .exact sr (an (nretP [.bool false] (cs hs39)))
  exact bL (qT 4 U (aS Cq (jI h s) U (an (nretP [.bool (dX s)] (cs hs40)))))
 refine qT 5 U (aH hs38 U (λc15 hs43=>?_) (λc15 hs44=>?_))
 .refine bL (aH hs43 U (λc16 hs45=>?_) (λc16 hs46=>?_))
  .exact sr (an (nretP [.bool false] (cs hs45)))
  exact bL (qT 4 U (aS Cq (jI h s) U (an (nretP [.bool (dX s)] (cs hs46)))))
 refine qT 5 U (aH hs44 U (λc17 hs49=>?_) (λc17 hs50=>?_))
 .refine bL (aH hs49 U (λc18 hs51=>?_) (λc18 hs52=>?_))
  .exact sr (an (nretP [.bool false] (cs hs51)))
  exact bL (qT 4 U (aS Cq (jI h s) U (an (nretP [.bool (dX s)] (cs hs52)))))
 refine qT 5 U (aH hs50 U (λc19 hs55=>?_) (λc19 hs56=>?_))
 .refine bL (aH hs55 U (λc20 hs57=>?_) (λc20 hs58=>?_))
  .exact sr (an (nretP [.bool false] (cs hs57)))
  exact bL (qT 4 U (aS Cq (jI h s) U (an (nretP [.bool (dX s)] (cs hs58)))))
 refine qT 5 U (aH hs56 U (λc21 hs61=>?_) (λc21 hs62=>?_))
 .refine bL (aH hs61 U (λc22 hs63=>?_) (λc22 hs64=>?_))
  .exact sr (an (nretP [.bool false] (cs hs63)))
  exact bL (qT 4 U (aS Cq (jI h s) U (an (nretP [.bool (dX s)] (cs hs64)))))
 refine qT 5 U (aH hs62 U (λc23 hs67=>?_) (λc23 hs68=>?_))
 .refine bL (aH hs67 U (λc24 hs69=>?_) (λc24 hs70=>?_))
  .exact sr (an (nretP [.bool false] (cs hs69)))
  exact bL (qT 4 U (aS Cq (jI h s) U (an (nretP [.bool (dX s)] (cs hs70)))))
 refine qT 5 U (aH hs68 U (λc25 hs73=>?_) (λc25 hs74=>?_))
 .refine bL (aH hs73 U (λc26 hs75=>?_) (λc26 hs76=>?_))
  .exact sr (an (nretP [.bool false] (cs hs75)))
  exact bL (qT 4 U (aS Cq (jI h s) U (an (nretP [.bool (dX s)] (cs hs76)))))
 refine qT 5 U (aH hs74 U (λc27 hs79=>?_) (λc27 hs80=>?_))
 .refine bL (aH hs79 U (λc28 hs81=>?_) (λc28 hs82=>?_))
  .exact sr (an (nretP [.bool false] (cs hs81)))
  exact bL (qT 4 U (aS Cq (jI h s) U (an (nretP [.bool (dX s)] (cs hs82)))))
 refine qT 5 U (aH hs80 U (λc29 hs85=>?_) (λc29 hs86=>?_))
 .refine bL (aH hs85 U (λc30 hs87=>?_) (λc30 hs88=>?_))
  .exact sr (an (nretP [.bool false] (cs hs87)))
  exact bL (qT 4 U (aS Cq (jI h s) U (an (nretP [.bool (dX s)] (cs hs88)))))
 refine qT 4 U (aH hs86 U (λc31 hs91=>?_) (λc31 hs92=>?_))
 .exact sr (an (nretP [.bool false] (cs hs91)))
 exact bL (qT 4 U (aS Cq (jI h s) U (an (nretP [.bool (dX s)] (cs hs92)))))
theorem nT(h s pS pK v)(hs:SlC WN h pS pK s):Ret prog 285 [.slice pS s.length pK,.string v] h (I (bB s v)):=by
 refine sT func285 U ntmps285 U λX hM hX hF=>?_
 generalize hz:(bB s v)=z;have hs:=hz.symm
 have HA:=h0 [0,1,7] 8 (λs1 i=>(bB.L1 v (bB.K1)) s1 i)
 exact W
instance kC285:Ct 285:=⟨_,call285,@nT⟩
theorem oN(h l fo fm)(ok:(ByteArray->Bool))(ok_v)(hl:SlC WN h fo fm l)(hok:∀(h':HF)(el:ByteArray),xJ h h'->qX prog ok_v [.string el] h' [] (.bool (ok el))):Ret prog 312 [.slice fo l.length fm,ok_v] h (.bool (bQ l ok)):=by
 refine sT func312 U ntmps312 U λX hM hX hF=>?_
 generalize hz:(bQ l ok)=z;have hs:=hz.symm
 have HA:=h0 [0,1,7,8] 9 (λs1 i=>(bQ.L1 l ok (bQ.K1)) s1 i)
 exact W
theorem vW(h s pS pK v)(hs:SlC WN h pS pK s):Ret prog 313 [.slice pS s.length pK,.string v] h (.bool (dq s v)):=by
 refine sT func313 U ntmps313 U λX hM hX hF=>?_
 generalize hz:(dq s v)=z;have hs:=hz.symm
 exact W
theorem DB(h p jg)(hp:aw.ok h p jg)(hsm:smP p):IY prog 280 [.agg (aw.cells p jg).toArray] h (exW stopV (λr:Unit=>(.tuple #[]:Value)) (cJ p)):=by
 refine cX Pq U ntmps280 U λX hM hX=>?_
 have hs0:=@rfl _ (cJ p)
 have hsr:=hsm.rules
 refine sr (eO (λb1=>qL 5 [0] U (aS call311 (pZ h p.Name) U (bp (kI 4 [8,9,10,11,12] 8 12 (bQ p.aA ec) U (λc1 hk1=>?_) (λe=>?_))))))
 .exact qL 2 [0] U (aS call312 (oN _ _ _ _ ec (.func (.func 311) #[] #[]) hp.aA (λh' el de=>iA call311 (pZ h' el))) U (mY U (hk1 _ U)))
 refine bp (kI 4 [13,14,15,16,17] 13 17 (bQ p.dN ec) U (λc2 hk2=>?_) (λe=>?_))
 .exact qL 2 [0] U (aS call312 (oN _ _ _ _ ec (.func (.func 311) #[] #[]) hp.dN (λh' el de=>iA call311 (pZ h' el))) U (mY U (hk2 _ U)))
 refine aI (pu BW (i5 h (((ec p.Name)&&(bQ p.aA ec))&&(bQ p.dN ec)) 201) U (λu1 hu1=>?_) (λpv1 hpv1 e=>?_))
 .obtain⟨rx1,hrx1,rfl⟩:=sn hu1
  have hs1:=hs0.trans (xa hrx1)
  cases rx1
  refine qO 3 U (dy 0 ty61 U U U (aI (cx call310 (ny _ _ _ hp ob) U (λv1 h1 hle1 hp1=>?_))))
  obtain⟨rb1,rc1,rfl,sl1⟩:=hp1
  refine qL 3 [] U (dR ?_)
  let z1:Nat×Obj:=(b1,O (aw.cells p jg) 61)
  refine bZ (L':=[z1]++(markB [])) ap ?_
  refine uN (ι:=Nat×List Nat×HF) (λi=>[]) (λi=>marks i.2.1) (λi=>i.2.2) (λi=>[z1]++(markB i.2.1)) (λi=>i.1<=(aF p).length/\cJ p=((cJ.K1))/\xJ h1 i.2.2) ?_ (λhx1=>?_)
  .rintro⟨i1,rs1,hh1⟩ ⟨iP,hs2,hl1⟩ e
   have hs3:cJ p=(Except.ok ()):=hs2
   exact bZ (L':=([z1])++markB rs1) ap (Bn rs1 [] Pq U hX trivial (congrArg (exW stopV (λr:Unit=>(.tuple #[]:Value))) hs3))
  refine Ad (ι:=Nat×List Nat×HF×List aj) (λi=>[(1,Q b1),(20,.slice rb1 ((aF p).length) rc1),(21,I ((aF p).length:Int)),(22,I (i.1:Int))]) (λi=>marks i.2.1) (λi=>i.2.2.1) (λi=>[z1]++(markB i.2.1)) (λi=>(aF p).drop i.1=i.2.2.2/\i.1<=(aF p).length/\cJ p=((cJ.L1 p (cJ.K1)) i.2.2.2)/\xJ h1 i.2.2.1) (λi=>i.2.2.2.length) (0,[],h1,(aF p)) U rd sw ⟨U,zH _,hs1,lf⟩ ?_
  rintro⟨i1,rs1,hh1,s1⟩ ⟨hd1,iP,hs4,hl1⟩ ag1 e
  rcases s1 with _|⟨y1,rz1⟩
  .have ml:=nF hd1
   exact sr (fO ml U (qO 4 U (hx1 (i1,rs1,hh1) _ ⟨iP,hs4,hl1⟩ trivial)))
  have fY:=tc hd1
  have dz:=rJ hd1
  have iT:=ip hd1
  have mF:=sl1.1.1
  try have hsy:=D9 hsm (hZ hd1)
  refine sr (tO fY U (qO 8 U (aI (iR qI ty59 (sl1.mono aj.aD hl1).1 dz U U U (λ_ _ _ e=>e) (λq2 r2 A2 ok2=>eU ty59 A2 U U (bH zc59 (λb4=>bE 0 ty59 U U U U U U (qO 3 U (dy 0 ty59 U U U (aI (cx Ps (oM _ _ _ 1 ok2 ob) U (λv3 h3 hle3 hp3=>?_))))))))))))
  obtain⟨_,rfl,mo2⟩:=hp3
  refine qO 2 U ?_
  let z2:Nat×Obj:=(b4,O (aj.cells y1 r2) 59)
  refine bZ (L':=([z2,z1])++markB rs1) ap ?_
  refine j9 (it:=v3) (xs:=(bz y1 1)) (ι:=HF) rs1 (λi=>i) (λi=>[z2,z1]) (λs i=>cJ p=((cJ.L3 p ((cJ.L1 p (cJ.K1) rz1))) s)/\xJ h3 i) (λ_=>False) (λ_=>False) 0 (λch _ _=>∃pv_,ch=[{ v:=stopV pv_,recovered:=false }]/\cJ p=.error pv_) h3 Pq U mo2 U pP (λ_ _ _ _ _ hq=>hq) U (show[z2,z1]=_ from U) ⟨hs4,lf⟩ ?_ ?_ ?_ ?_ ?_
  .rintro l3 dm3 lp3 y3 rz3 vs3 hh3 hr3 X hFR3 ⟨hs6,hl3⟩ hl03 hlr3 hv3 hX hXM hlp3 nx3 rt3 ex3 pn3
   obtain⟨rr3_0,rfl,ok3_0⟩:=hv3
   let z3:Nat×Obj:=(dm3,.deferred (some []))
   refine bZ (L':=[(l3,.loop lp3),z3,z2,z1]++(markB rs1)) ap (bJ (bH zc320 (λb6=>bE 0 ty320 U U U U U U (bo (kh 1 U hlp3 (qK 3 [] U (dy 0 ty59 U U U (aS call284 (pG _ _ _ ok3_0.x) U (qO 2 U (gy 7 [33,34,35,36,37,38,39,40] 33 40 (dq p.aA y3.x.Name) U (λc3 hk3=>?_) (λe=>?_)))))))))))
   .exact qL 5 [4,0] U (aS call313 (vW _ _ _ _ y3.x.Name (hp.aA.mono Xl ((((hle1.t hl1).t hle3).t hl3).t hlr3))) U (mY U (hk3 _ U)))
   refine aI (pu BW (i5 hr3 ((!(dB y3.x))||(dq p.aA y3.x.Name)) 201) U (λu2 hu2=>?_) (λpv2 hpv2 e=>?_))
   .obtain⟨rx2,hrx2,rfl⟩:=sn hu2
    have hs7:=hs6.trans (xa hrx2)
    cases rx2
    exact bo (fW (cu (L':=[(l3,.loop { lp3 with state:=.busy }),z3,z2,z1]++(markB rs1)) js (bZ (L':=rdH l3 dm3 lp3 (([z2,z1])++markB rs1)) ap (nx3 hr3 _ _ ⟨hs7,(hl3.t hlr3)⟩ lf))))
   obtain⟨pv2e,hpv2e,rfl⟩:=pz hpv2
   have hs8:=hs6.trans (pV hpv2e)
   exact Cu (L':=[(l3,.loop { lp3 with state:=.busy }),z3]++(markB rs1)) js (pn3 _ _ _ [] ⟨_,U,hs8⟩)
  .rintro dm3 hh3 hn3 ⟨hs9,hl3⟩ hln3 hl03
   exact bZ (L':=[z2,z1]++(markB (dm3::rs1))) ap (qT 3 U (oi i1 U (qO 2 U (cu (L':=[z1]++(markB (dm3::rs1))) js (ag1 ((i1+1),(dm3::rs1),hn3,rz1) _ (Nat.lt_succ_self _) ⟨kx hd1,ip hd1,hs9,(((hl1.t hle3).t hl3).t hln3)⟩ rd)))))
  .exact xf
  .exact xf
  rintro dm3 ch hn3 L0 ⟨pv_,rfl,hpv_⟩ hl03
  exact qY (dm3::rs1) Pq hX (congrArg (exW stopV (λr:Unit=>(.tuple #[]:Value))) hpv_)
 obtain⟨pv1e,hpv1e,rfl⟩:=pz hpv1
 have hs10:=hs0.trans (pV hpv1e)
 exact iY (qY [] Pq hX (congrArg (exW stopV (λr:Unit=>(.tuple #[]:Value))) hs10))
instance kC280:Ct 280:=⟨_,call280,@DB⟩
theorem tM(h x0 Vw)(hx0:aj.ok h x0 Vw):Ret prog 365 [.agg (aj.cells x0 Vw).toArray] h (.bool (sd x0)):=by
 refine sT func365 U ntmps365 U λX hM hX hF=>?_
 generalize hz:(sd x0)=z;have hs:=hz.symm
 exact W
instance kC365:Ct 365:=⟨_,call365,@tM⟩
theorem tL(h x gR)(hx:aj.ok h x gR):Ret prog 366 [.agg (aj.cells x gR).toArray] h (.bool (lV x)):=by
 refine sT func366 U ntmps366 U λX hM hX hF=>?_
 generalize hz:(lV x)=z;have hs:=hz.symm
 exact W
instance kC366:Ct 366:=⟨_,call366,@tL⟩
theorem tK(h x gR)(hx:aj.ok h x gR):Ret prog 367 [.agg (aj.cells x gR).toArray] h (.bool (lU x)):=by
 refine sT func367 U ntmps367 U λX hM hX hF=>?_
 generalize hz:(lU x)=z;have hs:=hz.symm
 exact W
instance kC367:Ct 367:=⟨_,call367,@tK⟩
theorem tJ(h x gR)(hx:aj.ok h x gR):Ret prog 368 [.agg (aj.cells x gR).toArray] h (.bool (lT x)):=by
 refine sT func368 U ntmps368 U λX hM hX hF=>?_
 generalize hz:(lT x)=z;have hs:=hz.symm
 exact W
instance kC368:Ct 368:=⟨_,call368,@tJ⟩
theorem tI(h x gR)(hx:aj.ok h x gR):Ret prog 369 [.agg (aj.cells x gR).toArray] h (.bool (lm x)):=by
 refine sT func369 U ntmps369 U λX hM hX hF=>?_
 generalize hz:(lm x)=z;have hs:=hz.symm
 exact W
instance kC369:Ct 369:=⟨_,call369,@tI⟩
theorem OK(h)(i:Int)(hi:0<=i/\i<5)(x gR)(hx:aj.ok h x gR):qX prog (kfun i) [.agg (aj.cells x gR).toArray] h [] (.bool (kindsP i x)):=by
 have:i=0\/i=1\/i=2\/i=3\/i=4:=by omega
 rcases this with rfl|rfl|rfl|rfl|rfl
 .exact iA (cap:=[]) call365 (tM h x gR hx)
 .exact iA (cap:=[]) call366 (tL h x gR hx)
 .exact iA (cap:=[]) call367 (tK h x gR hx)
 .exact iA (cap:=[]) call368 (tJ h x gR hx)
 exact iA (cap:=[]) call369 (tI h x gR hx)
theorem PS(h:p:=by
  have hs9:=hs8.trans (xa hrx3)
  cases rx3
  exact bo (fW (cu (L':=[z4,z6,z5,z3,z1,z2]++(markB rs2)) js (bZ (L':=rdH l4 dm4 lp4 (([z5,z3,z1,z2])++markB rs2)) ap (nx4 hr4 _ _ ⟨hs9,(hl4.t hlr4)⟩ lf))))):p:=h
theorem PR(h:p:=by
  have hs18:=hs17.trans (xa hrx6)
  cases rx6
  exact⟨jn,(bO kr (qT 2 U (oi i1 U (qO 2 U (cu (L':=[z2]) js (ag2 hs18))))))⟩):p:=h
theorem EB(h p jg)(hp:aw.ok h p jg)(hsm:smP p)(hk:dN h):IY prog 281 [.agg (aw.cells p jg).toArray] h (exW stopV (λr:Unit=>(.tuple #[]:Value)) (bC p)):=by
 refine cX JO U ntmps281 U λX hM hX=>?_
 have hs0:=@rfl _ (bC p)
 have hsr:=hsm.rules
 refine sr (eO (λb1=>qL 8 [0] U (kI 8 [12,13,14,15,16,17,18,19,20] 12 20 ((p.dp.length:Int)==(p.dN.length:Int)) U (λc1 hk1=>?_) (λe=>?_))))
 .exact qL 8 [0,0] U (hk1 _ U)
 refine bp (kI 4 [21,22,23,24,25] 21 25 (bh p.Mode 1 4) U (λc2 hk2=>?_) (λe=>?_))
 .exact qL 2 [0] U (aS JQ (li h p.Mode 1 4) U (mY U (hk2 _ U)))
 refine aI (pu BW (i5 h ((decide (0<(p.dN.length:Int))&&((p.dp.length:Int)==(p.dN.length:Int)))&&(bh p.Mode 1 4)) 200) U (λu1 hu1=>?_) (λpv1 hpv1 e=>?_))
 .obtain⟨rx1,hrx1,rfl⟩:=sn hu1
  have hs1:=hs0.trans (xa hrx1)
  cases rx1
  refine qL 9 [0] U ?_
  let z2:Nat×Obj:=(b1,O (aw.cells p jg) 61)
  refine lp0 p.dp (λi=>[(1,Q b1),(28,.slice jg.pB p.dp.length jg.pA),(29,I (p.dp.length:Int)),(30,I (i:Int))]) ([z2]) (λs1 i=>(bC.L1 p (bC.K1 p)) s1 i) hp.dp.1.1 hs1 ?_ ?_
  .rintro i1 iP hs2 e
   refine sr (dy 0 ty61 U U U (aI (cx call310 (ny _ _ _ hp ob) U (λv1 h1 hle1 hp1=>?_))))
   obtain⟨rb1,rc1,rfl,sl1⟩:=hp1
   refine bH zc57 (λb3=>cW 0 ty57 U U U U U U (qL 7 [0] U (dR ?_)))
   let z1:Nat×Obj:=(b3,O [.slice rb1 ((aF p).length) rc1] 57)
   refine bZ (L':=[z1,z2]++(markB [])) ap ?_
   refine uN (ι:=Nat×List Nat×HF) (λi=>[]) (λi=>marks i.2.1) (λi=>i.2.2) (λi=>[z1,z2]++(markB i.2.1)) (λi=>i.1<=(aF p).length/\bC p=((bC.K2))/\xJ h1 i.2.2) ?_ (λhx2=>?_)
   .rintro⟨i2,rs2,hh2⟩ ⟨DP,hs3,hl2⟩ e
    have hs4:bC p=(Except.ok ()):=hs3
    exact bZ (L':=([z1,z2])++markB rs2) ap (Bn rs2 [] JO U hX trivial (congrArg (exW stopV (λr:Unit=>(.tuple #[]:Value))) hs4))
   refine Ad (ι:=Nat×List Nat×HF×List aj) (λi=>[(4,Q b3),(52,.slice rb1 ((aF p).length) rc1),(53,I ((aF p).length:Int)),(54,I (i.1:Int))]) (λi=>marks i.2.1) (λi=>i.2.2.1) (λi=>[z1,z2]++(markB i.2.1)) (λi=>(aF p).drop i.1=i.2.2.2/\i.1<=(aF p).length/\bC p=((bC.L2 p (bC.K2)) i.2.2.2 i.1)/\xJ h1 i.2.2.1) (λi=>i.2.2.2.length) (0,[],h1,(aF p)) U rd sw ⟨U,zH _,hs2,lf⟩ ?_
   rintro⟨i2,rs2,hh2,s2⟩ ⟨hd2,DP,hs5,hl2⟩ ag1 e
   rcases s2 with _|⟨y2,rz2⟩
   .have SI:=nF hd2
    exact sr (fO SI U (qO 4 U (hx2 (i2,rs2,hh2) _ ⟨DP,hs5,hl2⟩ trivial)))
   have zy:=tc hd2
   have tR:=rJ hd2
   have Ib:=ip hd2
   have OP:=sl1.1.1
   try have hsy:=D9 hsm (hZ hd2)
   refine sr (tO zy U (qO 9 U (aI (iR qI ty59 (sl1.mono aj.aD hl2).1 tR U U U (λ_ _ _ e=>e) (λq4 r3 A5 ok3=>eU ty59 A5 U U (bH zc3 (λb7=>bH zc59 (λb8=>cW 1 ty3 U U U U U U (bE 0 ty59 U U U U U U (qO 3 U (dy 0 ty59 U U U (aI (cx Ps (oM _ _ _ 1 ok3 ob) U (λv3 h3 hle3 hp3=>?_))))))))))))))
   obtain⟨_,rfl,mo2⟩:=hp3
   refine qO 2 U ?_
   let z3:Nat×Obj:=(b7,O [I (i2:Int)] 3)
   let z5:Nat×Obj:=(b8,O (aj.cells y2 r3) 59)
   refine bZ (L':=([z5,z3,z1,z2])++markB rs2) ap ?_
   refine j9 (it:=v3) (xs:=(bz y2 1)) (ι:=HF) rs2 (λi=>i) (λi=>[z5,z3,z1,z2]) (λs i=>bC p=((bC.L4 p i2 ((bC.L2 p (bC.K2) rz2 (i2+1)))) s)/\xJ h3 i) (λ_=>False) (λ_=>False) 0 (λch _ _=>∃pv_,ch=[{ v:=stopV pv_,recovered:=false }]/\bC p=.error pv_) h3 JO U mo2 U pP (λ_ _ _ _ _ hq=>hq) U (show[z5,z3,z1,z2]=_ from U) ⟨hs5,lf⟩ ?_ ?_ ?_ ?_ ?_
   .rintro l4 dm4 lp4 y4 rz4 vs4 hh4 hr4 X hFR4 ⟨hs7,hl4⟩ hl04 hlr4 hv4 hX hXM hlp4 nx4 rt4 ex4 pn4
    obtain⟨rr4_0,rfl,ok4_0⟩:=hv4
    let z6:Nat×Obj:=(dm4,.deferred (some []))
    refine bZ (L':=[(l4,.loop lp4),z6,z5,z3,z1,z2]++(markB rs2)) ap (bJ (bH zc320 (λb10=>bE 0 ty320 U U U U U U (bo (kh 1 U hlp4 (qT 2 U ?_))))))
    let z4:Nat×Obj:=(l4,.loop { lp4 with state:=.busy })
    let z8:Nat×Obj:=(b10,O (gG.cells y4 rr4_0) 320)
    refine eY ([z8,z4,z6,z5,z3,z1,z2]) mixed kr jn (λgK _=>?_)
    refine qB [0,1] U (tf 2 U U (rj 0 ty3 U U U) (tn 3 U (gi JQ (li hr4 y4.x.Kind 1 4) U (⟨jn,tm 4 U ?_⟩))))
    refine fE 66 U (λc3=>?_) (λc3=>?_)
    .refine qB [5,6] U (tf 7 U U (rj 0 ty3 U U U) ?_)
     have ho4:0<=(y4.x.Kind:Int)/\(y4.x.Kind:Int)<5:=(by have:=Qz ob;omega)
     have A7:=(hk.mono ((((hle1.t hl2).t hle3).t hl4).t hlr4)).at ho4
     refine tf 8 U U (λ_ _ _=>Sf underlying353 ty237 U U ho4) (tf 9 U U (rh ty237 A7 U) (qB [10] U (tf 11 U U (λ_ _ hj=>lO ty59 U (hj.nth (i:=0) U) U) (tn 12 U (ka (v:=.bool (kindsP y4.x.Kind y4.x)) [] (List.nil_sublist _) (OK hr4 y4.x.Kind ho4 y4.x rr4_0.x ok4_0.x) U U (⟨jn,tf 13 U U (λ_ _ _=>px U (cb (show(kindsP y4.x.Kind y4.x)=((bh y4.x.Kind 1 4)&&(kindsP y4.x.Kind y4.x))from by first|(rw[c3];rfl)|(rw[c3];rfl)|simp[c3]))) ?_⟩))))))
     refine tn 14 U (pu BW (i5 hr4 ((bh y4.x.Kind 1 4)&&(kindsP y4.x.Kind y4.x)) 200) U (λu2 hu2=>?_) (λpv2 hpv2 e=>?_))
     .obtain⟨rx2,hrx2,rfl⟩:=sn hu2
      have hs8:=hs7.trans (xa hrx2)
      cases rx2
      refine⟨jn,bO kr (qK 7 [4,5] U (gy 5 [82,83,84,85,86,87] 82 87 (y4.x.Kind != 4) U (λc4 hk3=>?_) (λe=>?_)))⟩
      .exact qL 5 [0] U (hk3 _ U)
      refine aI (pu BW (i5 hr4 (decide ((i2:Int)<(kB .i64 (((aF p).length:Int)-1)))||(y4.x.Kind != 4)) 200) U (λu3 hu3=>?_) (λpv3 hpv3 e=>?_))
      .obtain⟨rx3,hrx3,rfl⟩:=sn hu3
       exact PS
      obtain⟨pv3e,hpv3e,rfl⟩:=pz hpv3
      have hs10:=hs8.trans (pV hpv3e)
      exact Cu (L':=[z4,z6]++(markB rs2)) js (pn4 _ _ _ [] ⟨_,U,hs10⟩)
     obtain⟨pv2e,hpv2e,rfl⟩:=pz hpv2
     have hs11:=hs7.trans (pV hpv2e)
     exact Cu (L':=[z4,z6]++(markB rs2)) js (pn4 _ _ _ [] ⟨_,U,hs11⟩)
    refine qR 5 8 U (tf 13 U U (λ_ _ _=>px U (cb (show false=((bh y4.x.Kind 1 4)&&(kindsP y4.x.Kind y4.x))from by first|(rw[c3];rfl)|(rw[c3];rfl)|simp[c3]))) ?_)
    refine tn 14 U (pu BW (i5 hr4 ((bh y4.x.Kind 1 4)&&(kindsP y4.x.Kind y4.x)) 200) U (λu4 hu4=>?_) (λpv4 hpv4 e=>?_))
    .obtain⟨rx4,hrx4,rfl⟩:=sn hu4
     have hs8:=hs7.trans (xa hrx4)
     cases rx4
     refine⟨jn,bO kr (qK 7 [4,5] U (gy 5 [82,83,84,85,86,87] 82 87 (y4.x.Kind != 4) U (λc5 hk4=>?_) (λe=>?_)))⟩
     .exact qL 5 [0] U (hk4 _ U)
     refine aI (pu BW (i5 hr4 (decide ((i2:Int)<(kB .i64 (((aF p).length:Int)-1)))||(y4.x.Kind != 4)) 200) U (λu5 hu5=>?_) (λpv5 hpv5 e=>?_))
     .obtain⟨rx3,hrx3,rfl⟩:=sn hu5
      exact PS
     obtain⟨pv5e,hpv5e,rfl⟩:=pz hpv5
     have hs14:=hs8.trans (pV hpv5e)
     exact Cu (L':=[z4,z6]++(markB rs2)) js (pn4 _ _ _ [] ⟨_,U,hs14⟩)
    obtain⟨pv4e,hpv4e,rfl⟩:=pz hpv4
    have hs15:=hs7.trans (pV hpv4e)
    exact Cu (L':=[z4,z6]++(markB rs2)) js (pn4 _ _ _ [] ⟨_,U,hs15⟩)
   .rintro dm4 hh4 hn4 ⟨hs16,hl4⟩ hln4 hl04
    exact bZ (L':=[z5,z3,z1,z2]++(markB (dm4::rs2))) ap (qT 3 U (oi i2 U (qO 2 U (cu (L':=[z1,z2]++(markB (dm4::rs2))) js (ag1 ((i2+1),(dm4::rs2),hn4,rz2) _ (Nat.lt_succ_self _) ⟨kx hd2,ip hd2,hs16,(((hl2.t hle3).t hl4).t hln4)⟩ rd)))))
   .exact xf
   .exact xf
   rintro dm4 ch hn4 L0 ⟨pv_,rfl,hpv_⟩ hl04
   exact qY (dm4::rs2) JO hX (congrArg (exW stopV (λr:Unit=>(.tuple #[]:Value))) hpv_)
  rintro i1 y1 rz1 hd1 fY dz iT mF hs17 hx1 ag2 e
  try have hsy:=D9 hsm (hZ hd1)
  refine sr (tO fY U (qO 9 U (aI (iR GB ty65 hp.dp.1 dz U U U (λ_ _ _ e=>e) (λq5 r4 A8 ok4=>eU ty65 A8 U U (bH zc65 (λb11=>iu (bE 0 ty65 U U U U U U (bo ?_)))))))))
  let z7:Nat×Obj:=(b11,O (fC.cells y1 r4) 65)
  refine eY ([z7,z2]) mixed kr jn (λlZ _=>?_)
  refine qB [0] U (tf 1 U U (rj 0 ty9 U U U) (qB [2] U (tf 3 U U (rj 1 ty55 U U U) (tm 4 U ?_))))
  have ho5:0<=((i1:Int):Int)/\((i1:Int):Int)<((p.dN).length:Int):=(by have hm:=QU hrx1;simp only[decide_eq_true_eq,decide_eq_false_iff_not,Bool.and_eq_true,Bool.or_eq_true,Bool.not_eq_true',Bool.not_eq_false',Bool.and_eq_false_iff,Bool.or_eq_false_iff,beq_iff_eq,beq_eq_false_iff_ne,bne_iff_ne,bne_eq_false_iff_eq,List.length_append,zA,zB,List.length_drop]at hm;omega)
  refine ir 5 (enc:=λy=>[.string y]) lZ jn ei Px ty9 hp.dN.1 ho5 (di ho5) U U U U kr (λq6 A9=>tf 6 U U (rh ty9 A9 U) (qA [7,8] U ?_))
  refine fE 43 U (λc6=>?_) (λc6=>?_)
  .refine qB [9] U (tf 10 U U (rj 0 ty3 U U U) (tn 11 U (gi JQ (li h y1.iV 0 1099511627775) U (⟨jn,tf 12 U U (λ_ _ _=>px U (cb (show(bh y1.iV 0 1099511627775)=((y1.Kind.toList==(nthI p.dN (i1:Int)).toList)&&(bh y1.iV 0 1099511627775))from by first|(rw[c6];rfl)|(rw[c6];rfl)|simp[c6]))) ?_⟩))))
   refine tn 13 U (pu BW (i5 h ((y1.Kind.toList==(nthI p.dN (i1:Int)).toList)&&(bh y1.iV 0 1099511627775)) 200) U (λu6 hu6=>?_) (λpv6 hpv6 e=>?_))
   .obtain⟨rx6,hrx6,rfl⟩:=sn hu6
    exact PR
   obtain⟨pv6e,hpv6e,rfl⟩:=pz hpv6
   have hs19:=hs17.trans (pV hpv6e)
   exact iY (qY [] JO hX (congrArg (exW stopV (λr:Unit=>(.tuple #[]:Value))) hs19))
  refine qR 9 3 U (tf 12 U U (λ_ _ _=>px U (cb (show false=((y1.Kind.toList==(nthI p.dN (i1:Int)).toList)&&(bh y1.iV 0 1099511627775))from by first|(rw[c6];rfl)|(rw[c6];rfl)|simp[c6]))) ?_)
  refine tn 13 U (pu BW (i5 h ((y1.Kind.toList==(nthI p.dN (i1:Int)).toList)&&(bh y1.iV 0 1099511627775)) 200) U (λu7 hu7=>?_) (λpv7 hpv7 e=>?_))
  .obtain⟨rx6,hrx6,rfl⟩:=sn hu7
   exact PR
  obtain⟨pv7e,hpv7e,rfl⟩:=pz hpv7
  have hs21:=hs17.trans (pV hpv7e)
  exact iY (qY [] JO hX (congrArg (exW stopV (λr:Unit=>(.tuple #[]:Value))) hs21))
 obtain⟨pv1e,hpv1e,rfl⟩:=pz hpv1
 have hs22:=hs0.trans (pV hpv1e)
 exact iY (qY [] JO hX (congrArg (exW stopV (λr:Unit=>(.tuple #[]:Value))) hs22))
instance kC281:Ct 281:=⟨_,call281,@EB⟩
theorem zo(h p jg p_q)(hp:aw.ok h p jg)(ap_z:At h p_q (aw.cells p jg))(hsm:smP p)(hk:dN h):IY prog 278 [.pointer (some p_q)] h (exW stopV (λr:Unit=>(.tuple #[]:Value)) (fj p)):=by
 refine sT func278 U ntmps278 U λX hM hX hF=>?_
 generalize hz:(fj p)=z;have hs:=hz.symm
 exact W
theorem Lu(h:p:=by
  let z12:Nat×Obj:=(b6,O [I ((rec aC y1).Kind),I ((rec aC y1).N),I ((rec aC y1).No),.string ((rec aC y1).Name),.slice rr4.oV ((rec aC y1).L.length) rr4.pk] 59)
  exact tn 6 U (eB aj.dg ([z12,z8,z1,z4]) ([]) (λG=>[z12,z8,z1,z4]++G) ap (λ_=>ap) qI ty59 zc59 U bytes59 (Bc.mono aj.aD hle4) U U (ic 0 U (cE (R:=aj.rp) (rec aC y1) U ⟨rr4,U,ok4⟩)) lo lo (λob2 oc2 G2 gr2=>⟨jn,qB [7] U (tn 8 U (lM 3 ty57 U U U U U U (⟨jn,bO kr (qT 2 U (oi i1 U (qO 2 U (cu (L':=[z1,(b1,O [I x.Kind,I x.N,I (bB aC x.Name),.string x.Name,.slice ob2 ((od++[(rec aC y1)]).length) oc2] 59)]++G2) js (ag1 ((od++[(rec aC y1)]),ob2,oc2,G2,h4) hs5 ⟨gr2,lo,(hl1.t hle4)⟩)))))⟩)))⟩))):p:=h
theorem Lt(h:p:=by
  let z11:Nat×Obj:=(b12,O [I ((rec aC y2).Kind),I ((rec aC y2).N),I ((rec aC y2).No),.string ((rec aC y2).Name),.slice rr9.oV ((rec aC y2).L.length) rr9.pk] 59)
  exact tn 6 U (eB aj.dg ([z11,z7,z2,z6]) ([]) (λG=>[z11,z7,z2,z6]++G) ap (λ_=>ap) qI ty59 zc59 U bytes59 (AW.mono aj.aD hle9) U U (ic 0 U (cE (R:=aj.rp) (rec aC y2) U ⟨rr9,U,ok9⟩)) lo lo (λob6 oc6 G6 gr6=>⟨jn,qB [7] U (tn 8 U (lM 3 ty57 U U U U U U (⟨jn,bO kr (qT 2 U (oi i2 U (qO 2 U (cu (L':=[z2,(b1,O [I x.Kind,I x.N,I 0,.string x.Name,.slice ob6 ((oa++[(rec aC y2)]).length) oc6] 59)]++G6) js (ag2 ((oa++[(rec aC y2)]),ob6,oc6,G6,h9) hs8 ⟨gr6,lo,(hl2.t hle9)⟩)))))⟩)))⟩))):p:=h
theorem Aw(rec:List ByteArray->aj->aj)(h aC dQ dP)(x:aj)(gR)(hrec:∀(h:HF)(qoffices:List ByteArray)(lC:Option Addr)(lB:Nat)(qx:aj)(mz:eC)(hqoffices:SlC WN h lC lB qoffices)(hqx:aj.ok h qx mz)(hsz:qx.dep<=2000000)(_:qx.dep<x.dep),j6 prog 282 [.slice lC qoffices.length lB,.agg (aj.cells qx mz).toArray] h (λv h'=>∃(rr0:eC),v=.agg (aj.cells (rec qoffices qx) rr0).toArray/\aj.ok h' (rec qoffices qx) rr0))(gY:SlC WN h dQ dP aC)(hx:aj.ok h x gR)(hsz:x.dep<=2000000):j6 prog 282 [.slice dQ aC.length dP,.agg (aj.cells x gR).toArray] h (λv h'=>∃(rr0:eC),v=.agg (aj.cells (aB.F rec aC x) rr0).toArray/\aj.ok h' (aB.F rec aC x) rr0):=by
 refine cX func282 U ntmps282 U λX hM hX=>?_
 have hs0:=@rfl _ (aB.F rec aC x)
 have hln:=aj.OI x
 refine sr (eO (λb1=>bH zc59 (λb2=>qL 4 [] U (cW 1 ty3 U U U U U U (qO 4 U (dy 1 ty59 U U U (aS call284 (pG _ _ _ (show aj.ok h (aj.mk x.Kind x.N 0 x.Name x.L) (eC.mk gR.oV gR.pk)from aj.ok.of hx.list)) U (bo (aH hs0 U (λc1 hs1=>?_) (λc1 hs2=>?_))))))))))
 .refine qK 4 [1] U (aS call285 (nT _ _ _ _ x.Name gY) U (qL 1 [] U (cW 1 ty3 U U U U U U (qL 10 [1] U (cW 1 ty57 U U U U U U (qL 8 [] U ?_))))))
  let z1:Nat×Obj:=(b2,O [I 0,I 0,I 0,.string (⟨#[]⟩:ByteArray),zSN] 59)
  refine lp2 x.L (λi w=>[(0,.slice dQ aC.length dP),(3,Q b1),(4,Q b2),(19,.slice gR.oV x.L.length gR.pk),(20,I (x.L.length:Int)),(21,I (i:Int))]) (λw=>w.2.2.2.2) (λw=>[z1,(b1,O [I x.Kind,I x.N,I (bB aC x.Name),.string x.Name,.slice w.2.1 w.1.length w.2.2.1] 59)]++(w.2.2.2.1)) (λi w=>cN aj.rp 59 w.2.2.2.2 w.1 w.2.1 w.2.2.1 w.2.2.2.1/\w.1.length<=0+i/\xJ h w.2.2.2.2) (λs1 i w=>(aB.L1 rec aC (aB.K1 aC x)) s1 w.1) ([],none,0,[],h) hx.list.1.1 hs1 ⟨cN.nil,lo,lf⟩ ?_ ?_
  .rintro i1 ⟨od,s9,s8,D2,hh1⟩ iP hs3 ⟨Bc,Iv,hl1⟩ e
   try dsimp only at Bc Iv hl1
   let z3:Nat×Obj:=(b1,O [I x.Kind,I x.N,I (bB aC x.Name),.string x.Name,.slice s9 od.length s8] 59)
   let z15:Nat×Obj:=(b2,O [I x.Kind,I x.N,I (bB aC x.Name),.string x.Name,.slice s9 od.length s8] 59)
   refine sr (dy 1 ty59 U U U (bE 0 ty59 U U U U U U (jm (L':=[z15,z3]++(D2)) U (bo (fQ aj.aD ([z15,z3]) D2 ([]) ap hM Bc (λh3 hle3 sl2=>?_))))))
   have hs4:aB.F rec aC x=(aj.mk x.Kind x.N (bB aC x.Name) x.Name od):=hs3
   exact lL [.agg (xB [I x.Kind,I x.N,I (bB aC x.Name),.string x.Name,.slice s9 od.length s8])] func282 U ⟨⟨0,_,_,_,_,U,U,.inl ⟨ty59,U⟩⟩,trivial⟩ ⟨(eC.mk s9 s8),congrArg (λr:aj=>(.agg (aj.cells r (eC.mk s9 s8)).toArray:Value)) hs4.symm,(by rw[hs4];exact(show aj.ok h3 (aj.mk x.Kind x.N (bB aC x.Name) x.Name od) (eC.mk s9 s8)from aj.ok.of sl2))⟩
  rintro i1 ⟨od,s9,s8,D2,hh1⟩ y1 rz1 hd1 fY dz iT mF hs5 ⟨Bc,Iv,hl1⟩ hx1 ag1 e
  try dsimp only at Bc Iv hl1
  have hdy:=aj.lj (hZ hd1)
  refine sr (tO fY U (qO 8 U (aI (iR qI ty59 (hx.list.mono aj.aD hl1).1 dz U U U (λ_ _ _ e=>e) (λq2 r2 A2 ok3=>?_)))))
  let z4:Nat×Obj:=(b1,O [I x.Kind,I x.N,I (bB aC x.Name),.string x.Name,.slice s9 od.length s8] 59)
  refine eU ty59 A2 U U (bH zc59 (λb5=>bE 0 ty59 U U U U U U (jm (L':=[(b5,O (aj.cells y1 r2) 59),z1,z4]++(D2)) U (bo ?_))))
  let z8:Nat×Obj:=(b5,O (aj.cells y1 r2) 59)
  refine eY ([z8,z1]) mixed kr jn (λgK _=>?_)
  refine qB [0,2] U (tf 3 U U (λ_ _ hj=>lO ty59 U (hj.nth (i:=0) U) U) ?_)
  refine nk 1 4 kr U U ?_ ?_ 
  .refine eG (vX ty57 U (pT (i:=2) U) U) (⟨jn,tn 4 U (cx Mn (hrec _ _ _ _ _ _ (gY.mono Xl hl1) ok3 ob (aj.lj (hZ hd1))) U (λv2 h4 hle4 hp2=>?_))⟩)
   obtain⟨rr4,rfl,ok4⟩:=hp2
   refine⟨jl hle4,tu hle4 (tn 5 U (bN (cells:=[I ((rec aC y1).Kind),I ((rec aC y1).N),I ((rec aC y1).No),.string ((rec aC y1).Name),.slice rr4.oV ((rec aC y1).L.length) rr4.pk]) qI ty59 zc59 U U kr (λb6=>⟨jn,?_⟩)))⟩
   exact Lu
  refine cx Mn (hrec _ _ _ _ _ _ (gY.mono Xl hl1) ok3 ob (aj.lj (hZ hd1))) U (λv3 h4 hle4 hp3=>?_)
  obtain⟨rr4,rfl,ok4⟩:=hp3
  refine⟨jl hle4,tu hle4 ?_⟩
  refine nk 1 5 kr U U ?_ ?_ 
  .refine eG (vX ty57 U (pT (i:=2) U) U) (⟨jn,tn 5 U (bN (cells:=[I ((rec aC y1).Kind),I ((rec aC y1).N),I ((rec aC y1).No),.string ((rec aC y1).Name),.slice rr4.oV ((rec aC y1).L.length) rr4.pk]) qI ty59 zc59 U U kr (λb6=>⟨jn,?_⟩))⟩)
   exact Lu
  refine bN (cells:=[I ((rec aC y1).Kind),I ((rec aC y1).N),I ((rec aC y1).No),.string ((rec aC y1).Name),.slice rr4.oV ((rec aC y1).L.length) rr4.pk]) qI ty59 zc59 U U kr (λb6=>⟨jn,tn 1 U (eG (vX ty57 U (pT (i:=3) U) U) (⟨jn,?_⟩))⟩)
  exact Lu
 refine qK 10 [1] U (cW 1 ty57 U U U U U U (qL 8 [] U ?_))
 let z2:Nat×Obj:=(b2,O [I 0,I 0,I 0,.string (⟨#[]⟩:ByteArray),zSN] 59)
 refine lp2 x.L (λi w=>[(0,.slice dQ aC.length dP),(3,Q b1),(4,Q b2),(19,.slice gR.oV x.L.length gR.pk),(20,I (x.L.length:Int)),(21,I (i:Int))]) (λw=>w.2.2.2.2) (λw=>[z2,(b1,O [I x.Kind,I x.N,I 0,.string x.Name,.slice w.2.1 w.1.length w.2.2.1] 59)]++(w.2.2.2.1)) (λi w=>cN aj.rp 59 w.2.2.2.2 w.1 w.2.1 w.2.2.1 w.2.2.2.1/\w.1.length<=0+i/\xJ h w.2.2.2.2) (λs2 i w=>(aB.L2 rec aC (aB.K2 x)) s2 w.1) ([],none,0,[],h) hx.list.1.1 hs2 ⟨cN.nil,lo,lf⟩ ?_ ?_
 .rintro i2 ⟨oa,s5,sZ,DW,hh2⟩ DP hs6 ⟨AW,Im,hl2⟩ e
  try dsimp only at AW Im hl2
  let z5:Nat×Obj:=(b1,O [I x.Kind,I x.N,I 0,.string x.Name,.slice s5 oa.length sZ] 59)
  let z16:Nat×Obj:=(b2,O [I x.Kind,I x.N,I 0,.string x.Name,.slice s5 oa.length sZ] 59)
  refine sr (dy 1 ty59 U U U (bE 0 ty59 U U U U U U (jm (L':=[z16,z5]++(DW)) U (bo (fQ aj.aD ([z16,z5]) DW ([]) ap hM AW (λh8 hle8 sl4=>?_))))))
  have hs7:aB.F rec aC x=(aj.mk x.Kind x.N 0 x.Name oa):=hs6
  exact lL [.agg (xB [I x.Kind,I x.N,I 0,.string x.Name,.slice s5 oa.length sZ])] func282 U ⟨⟨0,_,_,_,_,U,U,.inl ⟨ty59,U⟩⟩,trivial⟩ ⟨(eC.mk s5 sZ),congrArg (λr:aj=>(.agg (aj.cells r (eC.mk s5 sZ)).toArray:Value)) hs7.symm,(by rw[hs7];exact(show aj.ok h8 (aj.mk x.Kind x.N 0 x.Name oa) (eC.mk s5 sZ)from aj.ok.of sl4))⟩
 rintro i2 ⟨oa,s5,sZ,DW,hh2⟩ y2 rz2 hd2 zy tR Ib OP hs8 ⟨AW,Im,hl2⟩ hx2 ag2 e
 try dsimp only at AW Im hl2
 have hdy:=aj.lj (hZ hd2)
 refine sr (tO zy U (qO 8 U (aI (iR qI ty59 (hx.list.mono aj.aD hl2).1 tR U U U (λ_ _ _ e=>e) (λq4 r4 A4 ok8=>?_)))))
 let z6:Nat×Obj:=(b1,O [I x.Kind,I x.N,I 0,.string x.Name,.slice s5 oa.length sZ] 59)
 refine eU ty59 A4 U U (bH zc59 (λb11=>bE 0 ty59 U U U U U U (jm (L':=[(b11,O (aj.cells y2 r4) 59),z2,z6]++(DW)) U (bo ?_))))
 let z7:Nat×Obj:=(b11,O (aj.cells y2 r4) 59)
 refine eY ([z7,z2]) mixed kr jn (λlZ _=>?_)
 refine qB [0,2] U (tf 3 U U (λ_ _ hj=>lO ty59 U (hj.nth (i:=0) U) U) ?_)
 refine nk 1 4 kr U U ?_ ?_ 
 .refine eG (vX ty57 U (pT (i:=2) U) U) (⟨jn,tn 4 U (cx Mn (hrec _ _ _ _ _ _ (gY.mono Xl hl2) ok8 ob (aj.lj (hZ hd2))) U (λv5 h9 hle9 hp5=>?_))⟩)
  obtain⟨rr9,rfl,ok9⟩:=hp5
  refine⟨jl hle9,tu hle9 (tn 5 U (bN (cells:=[I ((rec aC y2).Kind),I ((rec aC y2).N),I ((rec aC y2).No),.string ((rec aC y2).Name),.slice rr9.oV ((rec aC y2).L.length) rr9.pk]) qI ty59 zc59 U U kr (λb12=>⟨jn,?_⟩)))⟩
  exact Lt
 refine cx Mn (hrec _ _ _ _ _ _ (gY.mono Xl hl2) ok8 ob (aj.lj (hZ hd2))) U (λv6 h9 hle9 hp6=>?_)
 obtain⟨rr9,rfl,ok9⟩:=hp6
 refine⟨jl hle9,tu hle9 ?_⟩
 refine nk 1 5 kr U U ?_ ?_ 
 .refine eG (vX ty57 U (pT (i:=2) U) U) (⟨jn,tn 5 U (bN (cells:=[I ((rec aC y2).Kind),I ((rec aC y2).N),I ((rec aC y2).No),.string ((rec aC y2).Name),.slice rr9.oV ((rec aC y2).L.length) rr9.pk]) qI ty59 zc59 U U kr (λb12=>⟨jn,?_⟩))⟩)
  exact Lt
 refine bN (cells:=[I ((rec aC y2).Kind),I ((rec aC y2).N),I ((rec aC y2).No),.string ((rec aC y2).Name),.slice rr9.oV ((rec aC y2).L.length) rr9.pk]) qI ty59 zc59 U U kr (λb12=>⟨jn,tn 1 U (eG (vX ty57 U (pT (i:=3) U) U) (⟨jn,?_⟩))⟩)
 exact Lt
theorem ri:∀(m:Nat)(h:HF)(aC:List ByteArray)(dQ:Option Addr)(dP:Nat)(x:aj)(gR:eC)(_:x.dep<=m)(gY:SlC WN h dQ dP aC)(hx:aj.ok h x gR)(hsz:x.dep<=2000000),j6 prog 282 [.slice dQ aC.length dP,.agg (aj.cells x gR).toArray] h (λv h'=>∃(rr0:eC),v=.agg (aj.cells (aB.go m aC x) rr0).toArray/\aj.ok h' (aB.go m aC x) rr0)
 |0,h,aC,dQ,dP,x,gR,hd,gY,hx,hsz=>absurd hd (Nat.not_le.2 (aj.ni _))
 |m+1,h,aC,dQ,dP,x,gR,hd,gY,hx,hsz=>Aw (aB.go m) h aC dQ dP x gR (λqh_ qoffices lC lB qx mz qhoffices qhx qhsz qd=>ri m qh_ qoffices lC lB qx mz ob qhoffices qhx qhsz) gY hx hsz
theorem tH(h aC dQ dP x gR)(gY:SlC WN h dQ dP aC)(hx:aj.ok h x gR)(hsz:x.dep<=2000000):j6 prog 282 [.slice dQ aC.length dP,.agg (aj.cells x gR).toArray] h (λv h'=>∃(rr0:eC),v=.agg (aj.cells (aB aC x) rr0).toArray/\aj.ok h' (aB aC x) rr0):=ri _ h aC dQ dP x gR (kE _) gY hx hsz
end
section
open Go.Proofs Go.Proofs.Tryz
section runs
variable {P:Program} {e:Env} {X:Cx} {h:HF} {L:LH} {d:Option Nat} {ty:TypeId} {pos:String} {af:Array Edge} {g:Option (Nat×Bool)}
theorem TZ{t:TypeId}(hT:∃ms,P.underlying t=some (.interface ms))(hx:e.ev x=.nilIface):∀w,St X h L w->(execOp e.ev ⟨d,.binOp .neq t x (.const .nilIface) u,ty,pos,af,g⟩).run P w=.ok (.value (.bool false)) w:=
 λw _=>by
  obtain⟨ms,hT⟩:=hT
  have hc:e.ev (.const .nilIface)=.nilIface:=rfl
  have he:(Op.equal t .nilIface .nilIface).run P w=.ok true w:=by
   rw[Op.equal,Op.maxDepth,show(10000:Nat)=9999+1 from rfl,Op.equalIn];simp[run_underlying hT]
  simp[execOp,hx,hc,eqGuard,binOp,he]
theorem TY{t:TypeId}{T:TypeId}(hT:∃ms,P.underlying t=some (.interface ms))(hx:e.ev x=.iface T v):∀w,St X h L w->(execOp e.ev ⟨d,.binOp .neq t x (.const .nilIface) u,ty,pos,af,g⟩).run P w=.ok (.value (.bool true)) w:=
 λw _=>by
  obtain⟨ms,hT⟩:=hT
  have hc:e.ev (.const .nilIface)=.nilIface:=rfl
  have he:(Op.equal t (.iface T v) .nilIface).run P w=.ok false w:=by
   rw[Op.equal,Op.maxDepth,show(10000:Nat)=9999+1 from rfl,Op.equalIn];simp[run_underlying hT]
  simp[execOp,hx,hc,eqGuard,binOp,he]
theorem QM{xt T:TypeId}{fs:Array Field}(hT:P.underlying T=some (.struct fs))(hx:e.ev x=.iface T v):∀w,St X h L w->(execOp e.ev ⟨d,.typeAssert x xt T true,ty,pos,af,g⟩).run P w=.ok (.value (.tuple #[v,.bool true])) w:=
 λw _=>by simp[execOp,hx,Instr.typeAssert,run_underlying hT]
end runs
def bodyOf(f:Func):Code:=f.body.getD .skip
theorem Oo{t:Nat}(hf:e t=fv)(w:World):
  (execOp e.ev ⟨d,.call ⟨.value (.tmp t),#[],ats⟩,ty,pos,af,g⟩).run P w=(do let d ←xH fv #[];invoke d.target d.args:Sem Next).run P w:=by grind [execOp,resolve,Env.ev]
theorem JH(h:HF)(b1:Nat)(X':Cx):TT prog (deferFrame 308) 17 [.code (bodyOf Tryz.f308)] (I3 prog X' .returning (λh' B=>h'=h/\B=[(b1,jG (xB [.int .i64 0]) 36 (0,0))])) (envArgs [.pointer (some ⟨b1,0,none⟩)]) [] X' h [(b1,jG (xB [.int .i64 0]) 36 (0,0))]:=by
 refine ea (bJ (?_))
 refine E5 (λcs Φ⟨c,rest,hcs,hm,_⟩=>by subst hcs;simp[recoverD,hm]) ?_
 refine iu (bo (ea (bJ (bp (aI (eG (TZ ⟨_,RK⟩ rfl) (bo (?_))))))))
 exact ot rfl (bL (KQ RJ rfl ⟨rfl,rfl⟩))
theorem JI(h:HF)(b1:Nat)(ee:Int)(X':Cx):TT prog (deferFrame 308) 17 [.code (bodyOf Tryz.f308)]
  (λcs Φ=>∃c rest,cs=c::rest/\c.mode=.panicking [{ v:=stopV ee,recovered:=false }]/\I3 prog X' (.panicking [{ v:=stopV ee,recovered:=true }]) (λh' B=>h'=h/\∃B0,B=B0++[(b1,jG (xB [.int .i64 ee]) 36 (0,0))]) ({ c with mode:=(.panicking [{ v:=stopV ee,recovered:=true }]) }::rest) Φ)
  (envArgs [.pointer (some ⟨b1,0,none⟩)]) [] X' h [(b1,jG (xB [.int .i64 0]) 36 (0,0))]:=by
 refine ea (bJ (?_))
 refine GM (F':=I3 prog X' (.panicking [{ v:=stopV ee,recovered:=true }]) (λh' B=>h'=h/\∃B0,B=B0++[(b1,jG (xB [.int .i64 ee]) 36 (0,0))])) (stopV ee) (λcs Φ⟨c,rest,hcs,hm,hF⟩=>⟨_,by subst hcs;simp[recoverD,hm],hF⟩) ?_
 refine iu (bo (ea (bJ (bp (aI (eG (TY ⟨_,RK⟩ rfl) (bo (?_))))))))
 refine mC rfl (ea (bJ (bp (aI (eG (QM underlying347 rfl) (bp (qt rfl rfl (qt rfl rfl (bH zc347 (λb2=>?_))))))))))
 refine bE 0 ty347 rfl rfl rfl rfl rfl rfl (iu (bo (?_)))
 refine ea (ea (bJ (bp (nB rfl (bo (?_))))))
 refine ot rfl (bL (?_))
 refine bJ (lD SY rfl (?_))
 refine py 0 ty36 rfl rfl rfl (?_)
 refine cW 1 ty36 rfl rfl rfl rfl rfl rfl (bo (?_))
 exact KQ RJ rfl ⟨rfl,[(b2,_)],rfl⟩
theorem BM(h:HF)(fv:Value)(x:Except Int Unit)(hf:nQ prog fv #[] h [] (XR (exW stopV (λ_:Unit=>.tuple #[]) x) h)):Ret prog 277 [fv] h (.int .i64 (attR x)):=by
 refine cX func277 rfl ntmps277 rfl λX hM hX=>?_
 refine ea (bJ (bH zc36 (λb1=>bo (ea (bJ (aI (gM rfl rfl (RV rfl rfl (bo (ea (bJ (bp (?_)))))))))))))
 have fin:∀(r:Int)(B:LH),attR x=r->(∃B0,B=B0++[(b1,jG (xB [.int .i64 r]) 36 (0,0))])->∀(e:Env),e 2=.pointer (some ⟨b1,0,none⟩)->∀a:Act,envOf a=e->∀w,St X h (B++[]) w ->
   ∃v h2 B2,(results Tryz.f277 a.tmps).run prog w=.ok v w/\St X h2 B2 w/\v=.int .i64 (attR x)/\h2=h/\B2=[]:=by
  rintro r B hr ⟨B0,rfl⟩ e he a ha w hw
  have hw':=hw.sub (L':=[(b1,jG (xB [.int .i64 r]) 36 (0,0))]) (by simp)
  exact⟨_,h,[],oL (rs:=[.cell 2 36]) (vs:=[.int .i64 r]) rfl ⟨⟨0,b1,[.int .i64 r],36,(0,0),rfl,he,.inr ⟨_,ty36,rfl⟩⟩,trivial⟩ a ha w hw',hw'.sub (List.nil_sublist _),by rw[hr];rfl,rfl,rfl⟩
 refine KP rfl (by decide) rfl rfl (λw hw=>?_)
 have hpre:Pre h [] w:=(hw.sub (List.nil_sublist _)).pre
 obtain⟨nx,hrun,hcall⟩:=hf w hpre
 refine⟨nx,w,?_,hcall.mono ?_⟩
 .rw[←hrun];exact Oo rfl w
 rintro y w' ⟨h',B,hst,rfl,rfl,hv⟩
 have hw2:=St.after (A:=[]) (B:=[]) (F:=[(b1,jG (xB [.int .i64 0]) 36 (0,0))]) hw hst
 cases y with
 |outgrown=>trivial
 |returned v=>
  refine⟨h',_,hw2,?_⟩
  have hx:∃u,x=.ok u:=by cases x with
   |ok u=>exact⟨u,rfl⟩
   |error p=>simp[exW]at hv
  obtain⟨u,rfl⟩:=hx
  refine bo (ea (bJ (cW 0 ty36 rfl rfl rfl rfl rfl rfl (bo (?_)))))
  refine TE (c:=bodyOf Tryz.f308) (cap:=[.pointer (some ⟨b1,0,none⟩)]) (A:=[(b1,jG (xB [.int .i64 0]) 36 (0,0))]) (R':=λh'' B=>h''=h'/\B=[(b1,jG (xB [.int .i64 0]) 36 (0,0))]) func277 RJ rfl ntmps308 rfl call308 (λX' _=>JH h' b1 X') (Fr:=[]) rfl ?_
  rintro h'' B _ ⟨rfl,rfl⟩ a ha w hw
  obtain⟨v,h2,B2,h3,h4,rfl,rfl,rfl⟩:=fin 0 _ rfl ⟨[],rfl⟩ _ rfl a ha w hw
  exact⟨_,_,_,h3,h4,rfl,rfl,rfl⟩
 |panicked ch=>
  refine⟨h',_,hw2,?_⟩
  have hx:∃ee,x=.error ee:=by cases x with
   |ok u=>simp[exW]at hv
   |error p=>exact⟨p,rfl⟩
  obtain⟨ee,rfl⟩:=hx
  simp only[exW]at hv
  cases hv
  refine TI (c:=bodyOf Tryz.f308) (cap:=[.pointer (some ⟨b1,0,none⟩)]) (A:=[(b1,jG (xB [.int .i64 0]) 36 (0,0))]) (R':=λh'' B=>h''=h'/\∃B0,B=B0++[(b1,jG (xB [.int .i64 ee]) 36 (0,0))]) func277 RJ rfl ntmps308 rfl call308 (λX' _=>JI h' b1 ee X') (Fr:=[]) rfl ?_
  rintro h'' B _ ⟨rfl,hB⟩ a ha w hw
  obtain⟨v,h2,B2,h3,h4,rfl,rfl,rfl⟩:=fin ee _ rfl hB _ rfl a ha w hw
  exact⟨_,_,_,h3,h4,rfl,rfl,rfl⟩
end
section
open Go.Proofs Go.Proofs.Tryz
set_option maxHeartbeats 2000000
theorem BN(h p jg)(hp:aw.ok h p jg)(hsm:smP p)(hk:dN h):j6 prog 216 [.agg (aw.cells p jg).toArray] h (λv h'=>∃(rr0:jv),v=.tuple #[.agg (aw.cells ((eH p).1) rr0).toArray,I ((eH p).2)]/\aw.ok h' ((eH p).1) rr0):=by
 refine cX func216 U ntmps216 U λX hM hX=>?_
 have hs0:=@rfl _ (eH p)
 have hsc:=hsm.change
 have hsr:=hsm.rules
 refine sr (eO (λb1=>bH zc61 (λb2=>qO 4 U (cz 1 U hM (λh1 hle1 hb1=>aI (gM U U (aS (v:=I (attR (fj p))) call277 (BM h1 (.func (.func 278) #[] #[Q b1]) (fj p) (nv (args:=[]) (cap:=[Q b1]) call278 (zo h1 p jg ⟨b1,0,none⟩ (hp.mono hle1) (dO hb1) (by first|assumption|omega) (hk.mono hle1)))) U (qO 8 U (aH hs0 U (λc1 hs1=>?_) (λc1 hs2=>?_))))))))))
 .refine sr (dy 0 ty61 U U U (bp (bE 0 ty61 U U U U U U (an ?_))))
  have hs3:eH p=((aw.mk (⟨#[]⟩:ByteArray) ([]) ([]) ([]) (aj.mk 0 0 0 (⟨#[]⟩:ByteArray) ([])) 0),(attR (fj p))):=hs1
  exact lL [.agg (xB [.string (⟨#[]⟩:ByteArray),zSN,zSN,zSN,I 0,I 0,I 0,.string (⟨#[]⟩:ByteArray),zSN,I 0]),I (attR (fj p))] func216 U ⟨⟨0,_,_,_,_,U,U,.inl ⟨ty61,U⟩⟩,U,trivial⟩ ⟨(jv.mk none 0 none 0 none 0 (eC.mk none 0)),congrArg (λr:(aw×Int)=>(.tuple #[.agg (aw.cells r.1 (jv.mk none 0 none 0 none 0 (eC.mk none 0))).toArray,I r.2]:Value)) hs3.symm,(by rw[hs3];exact(show aw.ok h1 (aw.mk (⟨#[]⟩:ByteArray) ([]) ([]) ([]) (aj.mk 0 0 0 (⟨#[]⟩:ByteArray) ([])) 0) (jv.mk none 0 none 0 none 0 (eC.mk none 0))from⟨zG,zG,zG,(show aj.ok h1 (aj.mk 0 0 0 (⟨#[]⟩:ByteArray) ([])) (eC.mk none 0)from aj.ok.of zG)⟩))⟩
 refine qT 3 U (eU ty61 (dO hb1) U U (bE 0 ty61 U U U U U U (qL 4 [] U (cW 0 ty56 U U U U U U (qL 5 [] U (lQ (j:=3) ty56 (dO hb1) U U (qL 3 [] U ?_)))))))
 refine lp2 p.dp (λi w=>[(1,Q b1),(2,Q b2),(15,.slice jg.pB p.dp.length jg.pA),(16,I (p.dp.length:Int)),(17,I (i:Int))]) (λw=>w.2.2.2.2) (λw=>[(b2,O [.string p.Name,.slice jg.kg p.dN.length jg.ke,.slice jg.ib p.aA.length jg.ia,.slice w.2.1 w.1.length w.2.2.1,I p.aO.Kind,I p.aO.N,I p.aO.No,.string p.aO.Name,.slice jg.aO.oV p.aO.L.length jg.aO.pk,I p.Mode] 61)]++(w.2.2.2.1)) (λi w=>cN fC.rp 65 w.2.2.2.2 w.1 w.2.1 w.2.2.1 w.2.2.2.1/\w.1.length<=0+i/\xJ h1 w.2.2.2.2) (λs1 i w=>(eH.L1 p (eH.K1 p)) s1 i w.1) ([],none,0,[],h1) ((hp.dp.mono fC.aD hle1).1.1) hs2 ⟨cN.nil,lo,lf⟩ ?_ ?_
 .rintro i1 ⟨oT,vt,vq,D1,hh1⟩ iP hs4 ⟨Bb,It,hl1⟩ e
  try dsimp only at Bb It hl1
  refine qK 3 [] U (lQ (j:=2) ty55 ((dO hb1).mono hl1) U U (qL 1 [] U (EF (j:=4) ty59 ((dO hb1).mono hl1) U U (aI (cx Mn (tH _ _ _ _ _ _ (hp.aA.mono Xl (hle1.t hl1)) (hp.aO.mono (hle1.t hl1)) ob) U (λv3 h5 hle5 hp3=>?_))))))
  obtain⟨rr4,rfl,ok4⟩:=hp3
  let z2:Nat×Obj:=(b2,O [.string p.Name,.slice jg.kg p.dN.length jg.ke,.slice jg.ib p.aA.length jg.ia,.slice vt oT.length vq,I ((aB p.aA p.aO).Kind),I ((aB p.aA p.aO).N),I ((aB p.aA p.aO).No),.string ((aB p.aA p.aO).Name),.slice rr4.oV ((aB p.aA p.aO).L.length) rr4.pk,I p.Mode] 61)
  refine qL 1 [] U (cW 0 ty59 U U U U U U (qO 3 U (dy 0 ty61 U U U (bE 0 ty61 U U U U U U (jm (L':=[z2]++(D1)) U (an (fQ fC.aD ([z2]) D1 ([]) ap hM (Bb.mono fC.aD hle5) (λh6 hle6 sl2=>?_))))))))
  have hs5:eH p=((aw.mk p.Name p.dN p.aA oT (aj.mk ((aB p.aA p.aO).Kind) ((aB p.aA p.aO).N) ((aB p.aA p.aO).No) ((aB p.aA p.aO).Name) ((aB p.aA p.aO).L)) p.Mode),0):=hs4
  exact lL [.agg (aw.cells (aw.mk p.Name p.dN p.aA oT (aj.mk ((aB p.aA p.aO).Kind) ((aB p.aA p.aO).N) ((aB p.aA p.aO).No) ((aB p.aA p.aO).Name) ((aB p.aA p.aO).L)) p.Mode) (jv.mk jg.kg jg.ke jg.ib jg.ia vt vq (eC.mk rr4.oV rr4.pk))).toArray,I 0] func216 U ⟨⟨0,_,_,_,_,U,U,.inl ⟨ty61,U⟩⟩,U,trivial⟩ ⟨(jv.mk jg.kg jg.ke jg.ib jg.ia vt vq (eC.mk rr4.oV rr4.pk)),congrArg (λr:(aw×Int)=>(.tuple #[.agg (aw.cells r.1 (jv.mk jg.kg jg.ke jg.ib jg.ia vt vq (eC.mk rr4.oV rr4.pk))).toArray,I r.2]:Value)) hs5.symm,(by rw[hs5];exact(show aw.ok h6 (aw.mk p.Name p.dN p.aA oT (aj.mk ((aB p.aA p.aO).Kind) ((aB p.aA p.aO).N) ((aB p.aA p.aO).No) ((aB p.aA p.aO).Name) ((aB p.aA p.aO).L)) p.Mode) (jv.mk jg.kg jg.ke jg.ib jg.ia vt vq (eC.mk rr4.oV rr4.pk))from⟨(hp.dN.mono Xl (((hle1.t hl1).t hle5).t hle6)),(hp.aA.mono Xl (((hle1.t hl1).t hle5).t hle6)),sl2,(show aj.ok h6 (aj.mk ((aB p.aA p.aO).Kind) ((aB p.aA p.aO).N) ((aB p.aA p.aO).No) ((aB p.aA p.aO).Name) ((aB p.aA p.aO).L)) (eC.mk rr4.oV rr4.pk)from aj.ok.of (ok4.list.mono aj.aD hle6))⟩))⟩
 rintro i1 ⟨oT,vt,vq,D1,hh1⟩ y1 rz1 hd1 fY dz iT mF hs6 ⟨Bb,It,hl1⟩ hx1 ag1 e
 try dsimp only at Bb It hl1
 have hsy:=hsm.2.1 y1 (hZ hd1)
 refine sr (tO fY U (qO 9 U (aI (iR GB ty65 (hp.dp.mono fC.aD (hle1.t hl1)).1 dz U U U (λ_ _ _ e=>e) (λq2 r2 A2 ok5=>?_)))))
 let z1:Nat×Obj:=(b2,O [.string p.Name,.slice jg.kg p.dN.length jg.ke,.slice jg.ib p.aA.length jg.ia,.slice vt oT.length vq,I p.aO.Kind,I p.aO.N,I p.aO.No,.string p.aO.Name,.slice jg.aO.oV p.aO.L.length jg.aO.pk,I p.Mode] 61)
 refine eU ty65 A2 U U (bH zc65 (λb5=>iu (bE 0 ty65 U U U U U U (jm (L':=[(b5,O (fC.cells y1 r2) 65),z1]++(D1)) U (qL 5 [] U (lQ (j:=2) ty55 ((dO hb1).mono hl1) U U (qL 1 [] U (dy 0 ty59 U U U (aI (cx Mn (tH _ _ _ _ _ _ (hp.aA.mono Xl (hle1.t hl1)) ok5.aj ob) U (λv4 h7 hle7 hp4=>?_)))))))))))
 obtain⟨rr6,rfl,ok6⟩:=hp4
 refine qL 1 [] U (cW 0 ty3 U U U U U U (qL 1 [] U (cW 0 ty59 U U U U U U (qL 4 [1] U (dy 0 ty65 U U U (aI (bN (cells:=[.string y1.Kind,I (i1:Int),I y1.iV,I ((aB p.aA y1.aj).Kind),I ((aB p.aA y1.aj).N),I ((aB p.aA y1.aj).No),.string ((aB p.aA y1.aj).Name),.slice rr6.oV ((aB p.aA y1.aj).L.length) rr6.pk]) GB ty65 zc65 U U kr (λb6=>?_))))))))
 let z3:Nat×Obj:=(b6,O [.string y1.Kind,I (i1:Int),I y1.iV,I ((aB p.aA y1.aj).Kind),I ((aB p.aA y1.aj).N),I ((aB p.aA y1.aj).No),.string ((aB p.aA y1.aj).Name),.slice rr6.oV ((aB p.aA y1.aj).L.length) rr6.pk] 65)
 let z4:Nat×Obj:=(b5,O [.string y1.Kind,I (i1:Int),I y1.iV,I ((aB p.aA y1.aj).Kind),I ((aB p.aA y1.aj).N),I ((aB p.aA y1.aj).No),.string ((aB p.aA y1.aj).Name),.slice rr6.oV ((aB p.aA y1.aj).L.length) rr6.pk] 65)
 refine aI (eB fC.dg ([z3,z4,z1]) ([]) (λG=>[z3,z4,z1]++G) ap (λ_=>ap) GB ty65 zc65 U bytes65 (Bb.mono fC.aD hle7) U U (ic 0 U (cE (R:=fC.rp) (fC.mk y1.Kind (i1:Int) y1.iV (aj.mk ((aB p.aA y1.aj).Kind) ((aB p.aA y1.aj).N) ((aB p.aA y1.aj).No) ((aB p.aA y1.aj).Name) ((aB p.aA y1.aj).L))) U ⟨(Co.mk (eC.mk rr6.oV rr6.pk)),U,(show fC.ok h7 (fC.mk y1.Kind (i1:Int) y1.iV (aj.mk ((aB p.aA y1.aj).Kind) ((aB p.aA y1.aj).N) ((aB p.aA y1.aj).No) ((aB p.aA y1.aj).Name) ((aB p.aA y1.aj).L))) (Co.mk (eC.mk rr6.oV rr6.pk))from⟨(show aj.ok h7 (aj.mk ((aB p.aA y1.aj).Kind) ((aB p.aA y1.aj).N) ((aB p.aA y1.aj).No) ((aB p.aA y1.aj).Name) ((aB p.aA y1.aj).L)) (eC.mk rr6.oV rr6.pk)from aj.ok.of ok6.list)⟩)⟩)) lo lo (λob2 oc2 G2 gr2=>qL 1 [] U (cW 2 ty56 U U U U U U (qO 3 U (oi i1 U (qO 2 U (cu (L':=[(b2,O [.string p.Name,.slice jg.kg p.dN.length jg.ke,.slice jg.ib p.aA.length jg.ia,.slice ob2 ((oT++[(fC.mk y1.Kind (i1:Int) y1.iV (aj.mk ((aB p.aA y1.aj).Kind) ((aB p.aA y1.aj).N) ((aB p.aA y1.aj).No) ((aB p.aA y1.aj).Name) ((aB p.aA y1.aj).L)))]).length) oc2,I p.aO.Kind,I p.aO.N,I p.aO.No,.string p.aO.Name,.slice jg.aO.oV p.aO.L.length jg.aO.pk,I p.Mode] 61)]++G2) js ?_)))))))
 exact ag1 ((oT++[(fC.mk y1.Kind (i1:Int) y1.iV (aj.mk ((aB p.aA y1.aj).Kind) ((aB p.aA y1.aj).N) ((aB p.aA y1.aj).No) ((aB p.aA y1.aj).Name) ((aB p.aA y1.aj).L)))]),ob2,oc2,G2,h7) hs6 ⟨gr2,lo,(hl1.t hle7)⟩
theorem sQ(h aC dQ dP x gR)(gY:SlC WN h dQ dP aC)(hx:aj.ok h x gR)(hsz:x.dep<=1500000):Ret prog 217 [.slice dQ aC.length dP,.agg (aj.cells x gR).toArray] h (.bool (cm aC x)):=by
 refine cX RI U ntmps217 U λX hM hX=>?_
 have hs0:=@rfl _ (cm aC x)
 refine sr (eO (λb1=>eO (λb2=>bH zc4 (λb3=>qO 4 U (dy 1 ty59 U U U (aI (cx Ps (oM _ _ _ 1 hx ob) U (λv1 h1 hle1 hp1=>?_))))))))
 obtain⟨_,rfl,mo1⟩:=hp1
 refine qO 2 U (dR ?_)
 let z1:Nat×Obj:=(b1,O [.slice dQ aC.length dP] 55)
 let z2:Nat×Obj:=(b2,O (aj.cells x gR) 59)
 refine bZ (L':=([(b3,O [.bool false] 4),z2,z1])++markB []) ap ?_
 refine j9 (it:=v1) (xs:=(bz x 1)) (ι:=HF) [] (λi=>i) (λi=>[(b3,O [.bool false] 4),z2,z1]) (λs i=>cm aC x=((cm.L1 aC (cm.K1)) s)/\xJ h1 i) (λi=>cm aC x=false/\xJ h1 i) (λ_=>False) 0 (λ_ _ _=>False) h1 RI U mo1 U pP (λ_ _ _ _ _ hq=>hq) U (show[(b3,O [.bool false] 4),z2,z1]=_ from U) ⟨hs0,lf⟩ ?_ ?_ ?_ ?_ ?_
 .rintro l1 dm1 lp1 y1 rz1 vs1 hh1 hr1 X hFR1 ⟨hs1,hl1⟩ hl01 hlr1 hv1 hX hXM hlp1 nx1 rt1 ex1 pn1
  try dsimp only at hl1 hlr1
  obtain⟨rr1_0,rfl,ok1_0⟩:=hv1
  let z3:Nat×Obj:=(dm1,.deferred (some []))
  refine bZ (L':=[(l1,.loop lp1),z3,(b3,O [.bool false] 4),z2,z1]++(markB [])) ap (bJ (bH zc320 (λb5=>bE 0 ty320 U U U U U U (bo (kh 1 U hlp1 (qK 9 [] U (dy 0 ty59 U U U (aS call284 (pG _ _ _ ok1_0.x) U (bo (aH hs1 U (λc4 hs2=>?_) (λc4 hs3=>?_)))))))))))
  .refine qK 5 [5,0] U (aS call285 (nT _ _ _ _ y1.x.Name (gY.mono Xl ((hle1.t hl1).t hlr1))) U (qL 10 [0] U (aH hs2 U (λc5 hs4=>?_) (λc5 hs5=>?_))))
   .exact sr (cW 3 ty4 U U U U U U (bo (cu (L':=[(l1,.loop { lp1 with state:=.busy }),z3,(b3,O [.bool false] 4),z2,z1]++(markB [])) js (bZ (L':=rdH l1 dm1 lp1 (([(b3,O [.bool false] 4),z2,z1])++markB [])) ap (rt1 hr1 _ _ _ ⟨hs4,(hl1.t hlr1)⟩ lf)))))
   exact bL (fW (cu (L':=[(l1,.loop { lp1 with state:=.busy }),z3,(b3,O [.bool false] 4),z2,z1]++(markB [])) js (bZ (L':=rdH l1 dm1 lp1 (([(b3,O [.bool false] 4),z2,z1])++markB [])) ap (nx1 hr1 _ _ ⟨hs5,(hl1.t hlr1)⟩ lf))))
  refine qK 9 [0] U (aH hs3 U (λc6 hs6=>?_) (λc6 hs7=>?_))
  .exact sr (cW 3 ty4 U U U U U U (bo (cu (L':=[(l1,.loop { lp1 with state:=.busy }),z3,(b3,O [.bool false] 4),z2,z1]++(markB [])) js (bZ (L':=rdH l1 dm1 lp1 (([(b3,O [.bool false] 4),z2,z1])++markB [])) ap (rt1 hr1 _ _ _ ⟨hs6,(hl1.t hlr1)⟩ lf)))))
  exact bL (fW (cu (L':=[(l1,.loop { lp1 with state:=.busy }),z3,(b3,O [.bool false] 4),z2,z1]++(markB [])) js (bZ (L':=rdH l1 dm1 lp1 (([(b3,O [.bool false] 4),z2,z1])++markB [])) ap (nx1 hr1 _ _ ⟨hs7,(hl1.t hlr1)⟩ lf))))
 .rintro dm1 hh1 hn1 ⟨hs8,hl1⟩ hln1 hl01
  try dsimp only at hl1 hln1
  refine bZ (L':=[(b3,O [.bool false] 4),z2,z1]++(markB (dm1::[]))) ap (qT 3 U (cW 0 ty4 U U U U U U (bo ?_)))
  have hs9:cm aC x=true:=hs8
  exact bZ (L':=([(b3,O [.bool true] 4),z2,z1])++markB (dm1::[])) ap (uL (dm1::[]) [.bool true] RI U hX ⟨⟨0,_,_,_,_,U,U,.inr ⟨_,ty4,U⟩⟩,trivial⟩ (cs hs9))
 .rintro dm1 hh1 hn1 ⟨hs10,hl1⟩ hln1 hl01
  try dsimp only at hl1 hln1
  refine bZ (L':=[(b3,O [.bool false] 4),z2,z1]++(markB (dm1::[]))) ap ?_
  have hs11:cm aC x=false:=hs10
  exact bZ (L':=([(b3,O [.bool false] 4),z2,z1])++markB (dm1::[])) ap (uL (dm1::[]) [.bool false] RI U hX ⟨⟨0,_,_,_,_,U,U,.inr ⟨_,ty4,U⟩⟩,trivial⟩ (cs hs11))
 .exact xf
 exact xf
theorem wo(h p jg)(hp:aw.ok h p jg)(hsm:smP p)(hk:dN h):Ret prog 146 [.agg (aw.cells p jg).toArray] h (I (dh p)):=by
 refine sT func146 U ntmps146 U λX hM hX hF=>?_
 have hs0:=@rfl _ (dh p)
 have hsc:=hsm.change
 refine sr (eO (λb1=>qO 5 U (dy 0 ty61 U U U (aI (cx call216 (BN _ _ _ hp ob hk) U (λv1 h1 hle1 hp1=>?_))))))
 obtain⟨rr1,rfl,ok1⟩:=hp1
 refine qO 10 U (aH hs0 U (λc1 hs1=>?_) (λc1 hs2=>?_))
 .exact sr (qO 3 U (nretP [I ((eH p).2)] (ci hs1)))
 refine qK 9 [0] U ?_
 refine lp0 p.dp (λi=>[(1,Q b1),(14,.slice jg.pB p.dp.length jg.pA),(15,I (p.dp.length:Int)),(16,I (i:Int))]) ([(b1,O (aw.cells p jg) 61)]) (λs1 i=>(dh.L1 p (dh.K1 p)) s1 i) ((hp.dp.mono fC.aD hle1).1.1) hs2 ?_ ?_
 .rintro i1 iP hs4 e
  refine qK 6 [0] U (dy 0 ty59 U U U (aS call217 (sQ _ _ _ _ _ _ (hp.aA.mono Xl hle1) (hp.aO.mono hle1) ob) U (qO 2 U (aH hs4 U (λc2 hs5=>?_) (λc2 hs6=>?_)))))
  .exact sr (an (nretP [I 200] (ci hs5)))
  exact bL (qT 4 U (nretP [I 0] (ci hs6)))
 rintro i1 y1 rz1 hd1 fY dz iT mF hs9 hx1 ag1 e
 have hsy:=hsm.2.1 y1 (hZ hd1)
 refine sr (tO fY U (qO 9 U (aI (iR GB ty65 (hp.dp.mono fC.aD hle1).1 dz U U U (λ_ _ _ e=>e) (λq2 r2 A2 ok3=>eU ty65 A2 U U (bH zc65 (λb3=>iu (bE 0 ty65 U U U U U U (qL 8 [0] U (gy 7 [25,26,27,28,29,30,31,32] 25 32 (!(cm p.aA y1.aj)) U (λc3 hk1=>?_) (λe=>?_)))))))))))
 .exact qL 3 [1] U (dy 0 ty59 U U U (aS call217 (sQ _ _ _ _ _ _ (hp.aA.mono Xl hle1) ok3.aj ob) U (qO 2 U (hk1 _ U))))
 refine bo (aH hs9 U (λc4 hs10=>?_) (λc4 hs11=>?_))
 .exact sr (an (nretP [I 200] (ci hs10)))
 exact bL (qT 2 U (oi i1 U (qO 2 U (cu (L':=[(b1,O (aw.cells p jg) 61)]) js (ag1 hs11)))))
theorem sS(h l fo fm)(hl:SlC aE.rp h fo fm l)(hsm:smV l)(hk:dN h):Ret prog 76 [.slice fo l.length fm] h (I (bR l)):=by
 refine sT func76 U ntmps76 U λX hM hX hF=>?_
 have hs0:=@rfl _ (bR l)
 have hsl:=hsm.len
 refine qK 11 [] U (aH hs0 U (λc1 hs1=>?_) (λc1 hs2=>?_))
 .have c1p:=of_decide_eq_true c1
  exact sr (an (nretP [I 2] (ci hs1)))
 have c1p:=of_decide_eq_false c1
 refine qK 12 [] U ?_
 refine lp1 l (λi w=>[(3,I w),(9,.slice fo l.length fm),(10,I (l.length:Int)),(11,I (i:Int))]) ([]) (λs1 i w=>(bR.L1 (bR.K1)) s1 w) (-1) hl.1.1 hs2 ?_ ?_
 .rintro i1 lG iP hs4 e
  exact sr (an (nretP [I 0] (ci hs4)))
 rintro i1 lG y1 rz1 hd1 fY dz iT mF hs6 hx1 ag1 e
 have hsy:=hsm.2 y1 (hZ hd1)
 refine sr (tO fY U (qO 8 U (aI (iR Cr ty63 hl.1 dz U U U (λ_ _ _ e=>e) (λq2 r2 A2 ok2=>eU ty63 A2 U U (bH zc63 (λb2=>bE 0 ty63 U U U U U U (qL 8 [0] U (aS JQ (li h y1.No (kB .i64 (lG+1)) 1048576) U (qO 2 U (gy 5 [21,22,23,24,25,26] 21 26 (!(bh y1.At 0 1099511627775)) U (λc2 hk1=>?_) (λe=>?_))))))))))))
 .exact qL 2 [0] U (aS JQ (li h y1.At 0 1099511627775) U (qO 2 U (hk1 _ U)))
 refine bp (gy 5 [27,28,29,30,31,32] 27 32 (!(bh y1.dY 0 1099511627775)) U (λc3 hk2=>?_) (λe=>?_))
 .exact qL 2 [0] U (aS JQ (li h y1.dY 0 1099511627775) U (qO 2 U (hk2 _ U)))
 refine bp (gy 5 [33,34,35,36,37,38] 33 38 ((dh y1.aw) != 0) U (λc4 hk3=>?_) (λe=>?_))
 .exact qL 1 [] U (dy 0 ty61 U U U (aS call146 (wo _ _ _ ok2.aw ob hk) U (qO 2 U (hk3 _ U))))
 refine bo (aH hs6 U (λc5 hs7=>?_) (λc5 hs8=>?_))
 .exact sr (an (nretP [I 200] (ci hs7)))
 exact qK 8 [0] U (oi i1 U (qO 2 U (cu (L':=[]) js (ag1 y1.No hs8))))
theorem rW(h l fo fm)(hl:SlC ao.rp h fo fm l):j6 prog 147 [.slice fo l.length fm] h (λv h'=>∃(rr0:rM),v=.agg (iq.cells (aJ l) rr0).toArray/\iq.ok h' (aJ l) rr0):=by
 refine cX func147 U ntmps147 U λX hM hX=>?_
 have hs0:=@rfl _ (aJ l)
 refine sr (bH zc212 (λb1=>qO 4 U (aI (pq (λb2=>aI (ie (cells:=[.slice fo l.length fm,.map (some b2)]) (places:=[(0,1),(1,1)]) underlying212 zc212 kr kr (bH zc212 (λb3=>bE 0 ty212 U U U U U U (qL 8 [] U ?_)))))))))
 let z1:Nat×Obj:=(b3,O [.slice fo l.length fm,.map (some b2)] 212)
 refine lp2 l (λi w=>[(2,Q b1),(3,Q b3),(9,.slice fo l.length fm),(10,I (l.length:Int)),(11,I (i:Int))]) (λ_=>h) (λw=>[z1,(b2,w.2),(b1,O [zSN,.map none] 212)]) (λi w=>lr (zC .i64) yP h w.2 w.1/\w.1.length<=0+i) (λs1 i w=>(aJ.L1 (aJ.K1 l)) s1 i w.1) ([],.map #[] 0) hl.1.1 hs0 ⟨(lr.nil (enc:=(zC .i64)) (V:=yP) (h:=h)),lc⟩ ?_ ?_
 .rintro i1 ⟨ck,eI⟩ iP hs1 ⟨iO,Iu⟩ e
  refine sr (dy 0 ty212 U U U (bE 2 ty212 U U U U U U (bo (gE 1 U hM (λh2 hle2 hb2=>?_)))))
  have mc2:wa (zC .i64) yP h2 b2 ck:=⟨_,hb2,iO.mono yP.mono hle2⟩
  have hs2:aJ l=(iq.mk l ck):=hs1
  exact lL [.agg (xB [.slice fo l.length fm,.map (some b2)])] func147 U ⟨⟨1,_,_,_,_,U,U,.inl ⟨ty212,U⟩⟩,trivial⟩ ⟨(rM.mk fo fm b2),congrArg (λr:iq=>(.agg (iq.cells r (rM.mk fo fm b2)).toArray:Value)) hs2.symm,(by rw[hs2];exact(show iq.ok h2 (iq.mk l ck) (rM.mk fo fm b2)from⟨(hl.mono ao.aD hle2),mc2⟩))⟩
 rintro i1 ⟨ck,eI⟩ y1 rz1 hd1 fY dz iT mF hs3 ⟨iO,Iu⟩ hx1 ag1 e
 exact sr (tO fY U (qO 9 U (aI (iR xh ty54 hl.1 dz U U U (λ_ _ _ e=>e) (λq2 r2 A2 ok2=>eU ty54 A2 U U (bH zc54 (λb5=>iu (bE 0 ty54 U U U U U U (qL 7 [1,0] U (aI (mS 2 (k:=y1.No) (x:=(i1:Int)) Db (gx nI) U iO U U U (λmo2 hm2=>qO 3 U (oi i1 U (qO 2 U (cu (L':=[z1,(b2,mo2),(b1,O [zSN,.map none] 212)]) js (ag1 ((mput ck y1.No (i1:Int)),mo2) hs3 ⟨hm2,(by have:=ox ck y1.No (i1:Int);first|omega|(simp only[zB,zA]at *;omega))⟩))))))))))))))))
instance kC147:Ct 147:=⟨_,call147,@rW⟩
theorem rI(h t)  : Ret prog 79 [I t] h (.bool (jt t)):=by
 refine sT func79 U ntmps79 U λX hM hX hF=>?_
 generalize hz:(jt t)=z;have hs:=hz.symm
 exact W
instance kC79:Ct 79:=⟨_,call79,@rI⟩
theorem Ea(h l fo fm dL)(hl:SlC jB h fo fm l):Ret prog 218 [.slice fo l.length fm,I dL] h (.bool (fx l dL)):=by
 refine sT func218 U ntmps218 U λX hM hX hF=>?_
 generalize hz:(fx l dL)=z;have hs:=hz.symm
 have HA:=h1 [0,1,8,9] 10 (λw=>[(5,I w)]) (λs1 i w=>(fx.L1 dL (fx.K1 l)) s1 w)
 exact W
instance kC218:Ct 218:=⟨_,call218,@Ea⟩
theorem CY(h d Be)(hd:ao.ok h d Be):Ret prog 148 [.agg (ao.cells d Be).toArray] h (.bool (mB d)):=by
 refine sT func148 U ntmps148 U λX hM hX hF=>?_
 generalize hz:(mB d)=z;have hs:=hz.symm
 exact W
instance kC148:Ct 148:=⟨_,call148,@CY⟩
end
end Go.Sg
