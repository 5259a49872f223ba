import Derived.Test.YtknehchipcogdaaGreatDoorProg
import Derived.ChangeArms
import Derived.OpenShut
import Derived.Test.YtknehchipcogdaaGreatDoorRows
import Derived.LaidHandle
import Derived.WordedOn
import Derived.ChangeSame
import Derived.Carry
import Derived.Test.YtknehchipcogdaaGreatDoorJ4
/- A part of the proof of JudgeSpec. -/
set_option linter.unusedVariables false
set_option linter.unusedSimpArgs false
set_option maxRecDepth 100000
open List renaming length_cons→xA,not_mem_nil→vA,length_append→kA,mem_cons_self→zB,length_nil→xB,toArray→vB,mem_cons_of_mem→qC,append_assoc→zC,mem_cons→vC,nil_append→qD,perm_append_comm→zD,mem_append→qE,range→xF,map_cons→jG,cons_append→jK,all_eq_true→qP,ext_getElem?→YA
open Bool renaming and_eq_true→jA,eq_iff_iff→jF
open Go.Value renaming int→jC,bool→vT
open Go.Sg.HF renaming le_trans→xD,le_refl→vF
open Nat renaming le_refl→zE,blt→kH,zero_le→kJ,eq_of_beq_eq_true→xL,lt_or_ge→vR,beq→kV,ble→YE
open Go.Sg.OSeat renaming cells→jE,enc→jS
open Go.Obj renaming cells→vG
open Option.some renaming injEq→kN
open Go.Addr renaming add→jP
open Go.Frame renaming enter→xR
open Array renaming replicate→X4
open Go.Region renaming binds→Yz
open Prod.mk renaming injEq→Y8
open Go.RowKit renaming Below→ZQ

namespace Go.Sg
variable {l:List Oper}{op:Op}{ops:Array Oper}{v:Go.Value}
section
inductive Qs
 |tt (k:List Item) (e:Env)
 |to (ops:Array Oper) (l:List Oper) (k:List Item) (e:Env)
@[reducible] def Qs.holds (P:Program) (b:Frame) (n:Nat) (F:List Frame->(Machine->Prop)->Prop) (ds:List Deferred) (X:Cx) (h:HF) (L:LH):Qs->Prop
 |.tt k e=>TT P b n k F e ds X h L
 |.to ops l k e=>TO P b n ops l k F e ds X h L
def opQ(e:Env):Op->Option Value
 |.move x=>some (e.ev x)
 |.assign x=>some (e.ev x)
 |.pick c x y=>match e.ev c with
  |.bool s=>some (bif s then e.ev x else e.ev y)
  |_=>none
 |.extract x i=>match e.ev x with
  |.tuple ⟨vs⟩=>nth vs i
  |_=>none
 |.unOp .not _ x=>match e.ev x with
  |.bool s=>some (.bool !s)
  |_=>none
 |.binOp op _ x y _=>binV op (e.ev x) (e.ev y)
 |_=>none
def qstepO(n:Nat)(ops:Array Oper)(l:List Oper)(k:List Item)(e:Env):Option Qs:=
 match l with
 |[]=>some (.tt k e)
 |⟨some d,op,ty,pos,af,g⟩::l=>
  match kH d n with
  |false=>none
  |true=>match guardB ops e ⟨some d,op,ty,pos,af,g⟩with
   |false=>some (.to ops l k (upd e d undef))
   |true=>match opQ e op with
    |some v=>some (.to ops l k (upd e d v))
    |none=>none
 |_=>none
def qstepT(k:List Item)(e:Env):Option Qs:=
 match k with
 |.code .skip::k=>some (.tt k e)
 |.code (.seq x y)::k=>some (.tt (.code x::.code y::k) e)
 |.code (.block id c)::k=>some (.tt (.code c::.inBlock id::k) e)
 |.inBlock _::k=>some (.tt k e)
 |.code (.exit id)::k=>match exitTo id k with
  |some k'=>some (.tt k' e)
  |none=>none
 |.code (.cond c x y)::k=>match e.ev c with
  |.bool true=>some (.tt (.code x::k) e)
  |.bool false=>some (.tt (.code y::k) e)
  |_=>none
 |.code (.region _ ⟨l⟩ false)::k=>some (.to ⟨l⟩ l k e)
 |_=>none
def runQ(n:Nat):Nat->Qs->Option Qs
 |0,s=>some s
 |m+1,.tt k e=>match qstepT k e with
  |some s=>runQ n m s
  |none=>none
 |m+1,.to ops l k e=>match qstepO n ops l k e with
  |some s=>runQ n m s
  |none=>none
section
variable {P:Program} {b:Frame} {n:Nat} {k:List Item} {F:List Frame->(Machine->Prop)->Prop} {e:Env} {ds:List Deferred} {X:Cx} {h:HF} {L:LH}
theorem E1(hv:opQ e op=some v):noDefer op=true/\∀(d:Option Nat)(ty:TypeId)(pos:String)(af:Array Edge)(g:Option (Nat×Bool))w,(execOp e.ev ⟨d,op,ty,pos,af,g⟩).run P w=.ok (.value v) w:=by
 unfold opQ at hv
 split at hv
 .cases hv;exact⟨rfl,λ_ _ _ _ _ w=>by simp[execOp]⟩
 .cases hv;exact⟨rfl,λ_ _ _ _ _ w=>by simp[execOp]⟩
 .split at hv
  .next s hc=>cases hv;exact⟨rfl,λ_ _ _ _ _ w=>by cases s<;>simp[execOp,hc,asBool]⟩
  .cases hv
 .split at hv
  .next vs hx=>exact⟨rfl,λ_ _ _ _ _ w=>by rw[ja]at hv;simp[execOp,hx,Instr.extract,hv]⟩
  .cases hv
 .split at hv
  .next s hx=>cases hv;exact⟨rfl,λ_ _ _ _ _ w=>by simp[execOp,hx,Op.unary]⟩
  .cases hv
 .next op t x y u=>
  exact⟨rfl,λ_ _ _ _ _ w=>by
   have:=Ii (P:=P) (t:=t) (x:=x) (y:=y) hv w
   simp only[execOp,Sem.run_bind]at this ⊢
   simp[this]⟩
 .cases hv
theorem SH{s:Qs}(hs:qstepO n ops l k e=some s)(t:s.holds P b n F ds X h L):TO P b n ops l k F e ds X h L:=by
 unfold qstepO at hs
 split at hs
 .cases hs;exact ck t
 .split at hs
  .cases hs
  .next hd=>
   split at hs
   .next hg=>cases hs;exact I5 t hd hg
   .next hg=>
    split at hs
    .next v hv=>
     cases hs
     obtain⟨h1,h2⟩:=E1 (P:=P) hv
     exact vp v h1 (λw _=>h2 _ _ _ _ _ w) hd hg t
    .cases hs
 .cases hs
theorem LI{s:Qs}(hs:qstepT k e=some s)(t:s.holds P b n F ds X h L):TT P b n k F e ds X h L:=by
 unfold qstepT at hs
 split at hs
 .cases hs;exact jf t
 .cases hs;exact eI t
 .cases hs;exact nI t
 .cases hs;exact gU t
 .split at hs
  .next hx=>cases hs;exact jI hx t
  .cases hs
 .split at hs
  .next hc=>cases hs;exact rM hc t
  .next hc=>cases hs;exact pj hc t
  .cases hs
 .cases hs;exact cB t
 .cases hs
theorem Hn:∀(m:Nat)(a:Qs){s:Qs},runQ n m a=some s->s.holds P b n F ds X h L->a.holds P b n F ds X h L
 |0,_,_,hr,t=>by cases hr;exact t
 |m+1,.tt k e,s,hr,t=>by
  unfold runQ at hr
  split at hr
  .next s' hs=>exact LI hs (Hn m s' hr t)
  .cases hr
 |m+1,.to ops l k e,s,hr,t=>by
  unfold runQ at hr
  split at hr
  .next s' hs=>exact SH hs (Hn m s' hr t)
  .cases hr
theorem qT(m:Nat){s:Qs}(hr:runQ n m (.tt k e)=some s)(t:s.holds P b n F ds X h L):TT P b n k F e ds X h L:=Hn m (.tt k e) hr t
theorem qO(m:Nat){s:Qs}(hr:runQ n m (.to ops l k e)=some s)(t:s.holds P b n F ds X h L):TO P b n ops l k F e ds X h L:=Hn m (.to ops l k e) hr t
end
end
variable {A:LH}{P:Program}{a:Bool}{args:List Go.Value}{ass:Array Operand}{ats:Array TypeId}{c:Code}{fn:Func}{i id m n:Nat}{p:Prop}{x:Operand}{α γ ρ:Type}{x0:ρ}
section
section
variable {P:Program} {b:Frame} {n:Nat} {k:List Item} {F:List Frame->(Machine->Prop)->Prop} {e:Env} {ds:List Deferred} {X:Cx} {h:HF} {L:LH}
theorem rds(h:p:=by repeat (first|exact trivial|refine⟨rfl,?_⟩)):p:=h
theorem sws(h:p:=by first|exact λw hw=>hw|(intro w hw;first|simpa only[List.append_assoc,List.cons_append,List.nil_append,List.append_nil]using hw|(simp only[List.append_assoc,List.cons_append,List.nil_append,List.append_nil]at hw ⊢;exact hw))):p:=h
theorem ndA(h:p:=by(intro i g hd hf hx e;refine eI (cB (ls (v':=.bool false) rfl (congrArg Value.bool hf) (ck (eI (pj rfl (jI rfl (hx _ ?_)))))));exact rds)):p:=h
theorem ndB(h:p:=by(intro i hd hf hx e;refine eI (cB (ls (v':=.bool false) rfl (congrArg Value.bool hf) (ck (eI (pj rfl (jI rfl (hx _ ?_)))))));exact rds)):p:=h
theorem lpG(xs:List α)(sl:Nat->γ->List (Nat×Value))(hh:γ->HF)(LL:γ->LH)(J:Nat->γ->Prop)(Lf:List α->Nat->γ->ρ)(g0:γ)(hb:xs.length<=9223372036854775807)(hs:x0=Lf xs 0 g0)(hJ:J 0 g0)(h0:fT e (sl 0 g0))(hw:∀w,St X h L w->St X (hh g0) (LL g0) w)(after:∀i g,i<=xs.length->x0=Lf [] i g->J i g->∀e',TT P b n k F (upds e' (sl i g)) ds X (hh g) (LL g))(cons:∀i g y r,xs.drop i=y::r->decide ((i:Int)<(xs.length:Int))=true->xs[i]? = some y->i<xs.length->xs.length<=9223372036854775807->x0=Lf (y::r) i g->J i g ->
   (∀i' g' {e'},x0=Lf [] i' g'->J i' g'->i'<=xs.length->fT e' (sl i' g')->TT P b n k F e' ds X (hh g') (LL g')) ->
   (∀g' {e'},x0=Lf r (i+1) g'->J (i+1) g'->fT e' (sl (i+1) g')->TT P b n (.inLoop c::.inBlock id::k) F e' ds X (hh g') (LL g')) ->
   ∀e',TT P b n (.code c::.inLoop c::.inBlock id::k) F (upds e' (sl i g)) ds X (hh g) (LL g))(nil:∀i g,xs.drop i=[]->decide ((i:Int)<(xs.length:Int))=false->(∀e',fT e' (sl i g)->TT P b n k F e' ds X (hh g) (LL g)) ->
   ∀e',TT P b n (.code c::.inLoop c::.inBlock id::k) F (upds e' (sl i g)) ds X (hh g) (LL g)):
  TT P b n (.code (.block id (.loop c))::k) F e ds X h L:=by
 refine km (ι:=Nat×γ) (λi=>sl i.1 i.2) (λi=>hh i.2) (λi=>LL i.2) (λi=>i.1<=xs.length/\x0=Lf [] i.1 i.2/\J i.1 i.2) ?_ (λhx=>?_)
 .grind
 .refine mL (ι:=Nat×γ×List α) (λi=>sl i.1 i.2.1) (λi=>hh i.2.1) (λi=>LL i.2.1) (λi=>xs.drop i.1=i.2.2/\i.1<=xs.length/\x0=Lf i.2.2 i.1 i.2.1/\J i.1 i.2.1) (λi=>i.2.2.length) (0,g0,xs) h0 hw ⟨rfl,kJ _,hs,hJ⟩ ?_
  rintro⟨i,g,s⟩ ⟨hd,hi,hs,hJ⟩ ag e'
  dsimp only at hd hi hs hJ
  rcases s with _|⟨y,r⟩
  .exact nil i g hd (rm hd) (λe'' hr=>hx (i,g) e'' ⟨hi,hs,hJ⟩ hr) e'
  .exact cons i g y r hd (Bs hd) (sR hd) (kl hd) hb hs hJ (λi' g' e'' a b c d=>hx (i',g') e'' ⟨c,a,b⟩ d)
    (λg' e'' a b hr=>ag (i+1,g',r) e'' (Nat.lt_succ_self _) ⟨nl hd,kl hd,a,b⟩ hr) e'
theorem lp2(xs:List α)(sl:Nat->γ->List (Nat×Value))(hh:γ->HF)(LL:γ->LH)(J:Nat->γ->Prop)(Lf:List α->Nat->γ->ρ)(g0:γ)(hb:xs.length<=9223372036854775807)(hs:x0=Lf xs 0 g0)(hJ:J 0 g0)(after:∀i g,i<=xs.length->x0=Lf [] i g->J i g->∀e',TT P b n k F (upds e' (sl i g)) ds X (hh g) (LL g))(cons:∀i g y r,xs.drop i=y::r->decide ((i:Int)<(xs.length:Int))=true->xs[i]? = some y->i<xs.length->xs.length<=9223372036854775807->x0=Lf (y::r) i g->J i g ->
   (∀i' g' {e'},x0=Lf [] i' g'->J i' g'->(hi:i'<=xs.length:=by omega)->(hr:fT e' (sl i' g'):=by exact rds)->TT P b n k F e' ds X (hh g') (LL g')) ->
   (∀g' {e'},x0=Lf r (i+1) g'->J (i+1) g'->(hr:fT e' (sl (i+1) g'):=by exact rds)->TT P b n (.inLoop c::.inBlock id::k) F e' ds X (hh g') (LL g')) ->
   ∀e',TT P b n (.code c::.inLoop c::.inBlock id::k) F (upds e' (sl i g)) ds X (hh g) (LL g))(nil:∀i g,xs.drop i=[]->decide ((i:Int)<(xs.length:Int))=false->(∀e',fT e' (sl i g)->TT P b n k F e' ds X (hh g) (LL g)) ->
   ∀e',TT P b n (.code c::.inLoop c::.inBlock id::k) F (upds e' (sl i g)) ds X (hh g) (LL g):=by exact ndA)(h0:fT e (sl 0 g0):=by exact rds)(hw:∀w,St X h L w->St X (hh g0) (LL g0) w:=by exact sws):
  TT P b n (.code (.block id (.loop c))::k) F e ds X h L:=
 lpG xs sl hh LL J Lf g0 hb hs hJ h0 hw after cons nil
theorem lp1(xs:List α)(sl:Nat->γ->List (Nat×Value))(L':LH)(Lf:List α->Nat->γ->ρ)(g0:γ)(hb:xs.length<=9223372036854775807)(hs:x0=Lf xs 0 g0)(after:∀i g,i<=xs.length->x0=Lf [] i g->∀e',TT P b n k F (upds e' (sl i g)) ds X h L')(cons:∀i g y r,xs.drop i=y::r->decide ((i:Int)<(xs.length:Int))=true->xs[i]? = some y->i<xs.length->xs.length<=9223372036854775807->x0=Lf (y::r) i g ->
   (∀i' g' {e'},x0=Lf [] i' g'->(hi:i'<=xs.length:=by omega)->(hr:fT e' (sl i' g'):=by exact rds)->TT P b n k F e' ds X h L') ->
   (∀g' {e'},x0=Lf r (i+1) g'->(hr:fT e' (sl (i+1) g'):=by exact rds)->TT P b n (.inLoop c::.inBlock id::k) F e' ds X h L') ->
   ∀e',TT P b n (.code c::.inLoop c::.inBlock id::k) F (upds e' (sl i g)) ds X h L')(nil:∀i g,xs.drop i=[]->decide ((i:Int)<(xs.length:Int))=false->(∀e',fT e' (sl i g)->TT P b n k F e' ds X h L') ->
   ∀e',TT P b n (.code c::.inLoop c::.inBlock id::k) F (upds e' (sl i g)) ds X h L':=by exact ndA)(h0:fT e (sl 0 g0):=by exact rds)(hw:∀w,St X h L w->St X h L' w:=by exact sws):
  TT P b n (.code (.block id (.loop c))::k) F e ds X h L:=
 lpG xs sl (λ_=>h) (λ_=>L') (λ_ _=>True) Lf g0 hb hs trivial h0 hw (λi g a b _=>after i g a b) (λi g y r a1 a2 a3 a4 a5 a6 _ hx ag=>cons i g y r a1 a2 a3 a4 a5 a6 (λi' g' _ a hi hr=>hx i' g' a trivial hi hr) (λg' _ a hr=>ag g' a trivial hr)) nil
theorem lp0(xs:List α)(sl:Nat->List (Nat×Value))(L':LH)(Lf:List α->Nat->ρ)(hb:xs.length<=9223372036854775807)(hs:x0=Lf xs 0)(after:∀i,i<=xs.length->x0=Lf [] i->∀e',TT P b n k F (upds e' (sl i)) ds X h L')(cons:∀i y r,xs.drop i=y::r->decide ((i:Int)<(xs.length:Int))=true->xs[i]? = some y->i<xs.length->xs.length<=9223372036854775807->x0=Lf (y::r) i ->
   (∀i' {e'},x0=Lf [] i'->(hi:i'<=xs.length:=by omega)->(hr:fT e' (sl i'):=by exact rds)->TT P b n k F e' ds X h L') ->
   (∀{e'},x0=Lf r (i+1)->(hr:fT e' (sl (i+1)):=by exact rds)->TT P b n (.inLoop c::.inBlock id::k) F e' ds X h L') ->
   ∀e',TT P b n (.code c::.inLoop c::.inBlock id::k) F (upds e' (sl i)) ds X h L')(nil:∀i,xs.drop i=[]->decide ((i:Int)<(xs.length:Int))=false->(∀e',fT e' (sl i)->TT P b n k F e' ds X h L') ->
   ∀e',TT P b n (.code c::.inLoop c::.inBlock id::k) F (upds e' (sl i)) ds X h L':=by exact ndB)(h0:fT e (sl 0):=by exact rds)(hw:∀w,St X h L w->St X h L' w:=by exact sws):
  TT P b n (.code (.block id (.loop c))::k) F e ds X h L:=
 lpG (γ:=Unit) xs (λi _=>sl i) (λ_=>h) (λ_=>L') (λ_ _=>True) (λl i _=>Lf l i) () hb hs trivial h0 hw (λi _ a b _=>after i a b) (λi _ y r a1 a2 a3 a4 a5 a6 _ hx ag=>cons i y r a1 a2 a3 a4 a5 a6 (λi' _ a hi hr=>hx i' () a trivial hi hr) (λa hr=>ag () a trivial hr)) (λi _=>nil i)
theorem pH(m:Nat)(S:List Nat)(s d:Nat)(y:Bool){x:Bool}(hx:e s=.bool x)(t':x=false->(∀e',e' d=.bool y->(ha:Agr S e e':=by repeat (first|exact sy|refine uK rfl ?_|refine uL rfl ?_))->TO P b n ops (l.drop m) k F e' ds X h L)->TO P b n ops l k F (upd e s (.bool false)) ds X h L)(hk:∀e'',TO P b n ops (l.drop m) k F (upd (mix S e'' e) d (.bool (x||y))) ds X h L)(hq:∃e2,runQ n m (.to ops l k (upd e s (.bool true)))=some (.to ops (l.drop m) k e2)/\e2 d=.bool true/\Agr S e e2:=by exact⟨_,rfl,rfl,by repeat (first|exact sy|refine uK rfl ?_|refine uL rfl ?_)⟩):TO P b n ops l k F e ds X h L:=by
 refine Ro m S d (.bool (x||y)) (λhj=>?_) hk
 refine xp s hx (λc=>?_) (λc=>t' c (λe' he ha=>hj e' (he.trans (by rw[c];rfl)) ha))
 grind [qO]
theorem pF(m:Nat)(S:List Nat)(s d:Nat)(y:Bool){x:Bool}(hx:e s=.bool x)(t':x=true->(∀e',e' d=.bool y->(ha:Agr S e e':=by repeat (first|exact sy|refine uK rfl ?_|refine uL rfl ?_))->TO P b n ops (l.drop m) k F e' ds X h L)->TO P b n ops l k F (upd e s (.bool true)) ds X h L)(hk:∀e'',TO P b n ops (l.drop m) k F (upd (mix S e'' e) d (.bool (x&&y))) ds X h L)(hq:∃e2,runQ n m (.to ops l k (upd e s (.bool false)))=some (.to ops (l.drop m) k e2)/\e2 d=.bool false/\Agr S e e2:=by exact⟨_,rfl,rfl,by repeat (first|exact sy|refine uK rfl ?_|refine uL rfl ?_)⟩):TO P b n ops l k F e ds X h L:=by
 refine Ro m S d (.bool (x&&y)) (λhj=>?_) hk
 refine xp s hx (λc=>t' c (λe' he ha=>hj e' (he.trans (by rw[c];rfl)) ha)) (λc=>?_)
 grind [qO]
theorem Wf(s:Nat)(v:Value)(hv:e s=v)(t:TO P b n ops l k F (upd e s v) ds X h L):TO P b n ops l k F e ds X h L:=by grind [xn]
end
def look3:List (Nat×Nat×Nat)->Nat->Nat->Option Nat
 |[],_,_=>none
 |(a,b,c)::l,s,i=>bif kV a s&&kV b i then some c else look3 l s i
def tabOk(P:Program)(tF:List (Nat×Nat×Nat))(tY tS:List Nat):Bool:=
 tF.all (λx=>fldOf P x.1 x.2.1==some x.2.2)&&tY.all (λt=>tySz P t==some (1,false))&&tS.all (λt=>match P.underlying t with|some (.slice _)=>true|_=>false)
def Wc:List (Nat×Nat)->Prop
 |[]=>True
 |(a,b)::q=>a=b/\Wc q
def runL(tF:List (Nat×Nat×Nat))(tY tS:List Nat)(n:Nat)(L:LH):Nat->List Nat->Qs->Option (Qs×List (Nat×Nat))
 |0,_,s=>some (s,[])
 |m+1,is,.tt k e=>match qstepT k e with
  |some s=>runL tF tY tS n L m is s
  |none=>none
 |m+1,is,.to ops [] k e=>runL tF tY tS n L m is (.tt k e)
 |m+1,is,.to ops (⟨some d,op,ty,pos,af,g⟩::l) k e=>match kH d n with
  |false=>none
  |true=>match guardB ops e ⟨some d,op,ty,pos,af,g⟩with
   |false=>runL tF tY tS n L m is (.to ops l k (upd e d undef))
   |true=>match op with
    |.fieldAddr s x i=>match e.ev x,look3 tF s i with
     |.pointer (some a),some off=>runL tF tY tS n L m is (.to ops l k (upd e d (.pointer (some (a.add off)))))
     |_,_=>none
    |.load t x=>match e.ev x,is with
     |.pointer (some ⟨bk,off,none⟩),i::is=>match nth L i with
      |some (bk',.cells ⟨cl⟩ _ _)=>match nth cl off,memN tY t with
       |some v,true=>match runL tF tY tS n L m is (.to ops l k (upd e d v))with
        |some (s,q)=>some (s,(bk,bk')::q)
        |none=>none
       |_,_=>none
      |_=>none
     |_,_=>none
    |.call ⟨.builtin .len,⟨[x]⟩,⟨[t]⟩⟩=>match e.ev x,memN tS t with
     |.slice _ m' _,true=>runL tF tY tS n L m is (.to ops l k (upd e d (.int .i64 (m':Int))))
     |_,_=>none
    |op=>match opQ e op with
     |some v=>runL tF tY tS n L m is (.to ops l k (upd e d v))
     |none=>none
 |_+1,_,.to _ _ _ _=>none
theorem Je:∀{l:List Nat}{a:Nat},memN l a=true->a∈l
 |[],_,h=>by cases h
 |b::l,a,h=>by
  unfold memN at h
  cases hb:kV a b with
  |true=>rw[xL hb];exact zB ..
  |false=>rw[hb]at h;exact qC _ (Je h)
theorem BR:∀{l:List (Nat×Nat×Nat)}{s i o:Nat},look3 l s i=some o->(s,i,o)∈l
 |[],_,_,_,h=>by cases h
 |(a,b,c)::l,s,i,o,h=>by
  unfold look3 at h
  cases hb:kV a s&&kV b i with
  |true=>
   rw[hb]at h;cases h
   simp only[jA]at hb
   rw[xL hb.1,xL hb.2];exact zB ..
  |false=>rw[hb]at h;exact qC _ (BR h)
section
variable {P:Program} {b:Frame} {n:Nat} {k:List Item} {F:List Frame->(Machine->Prop)->Prop} {e:Env} {ds:List Deferred} {X:Cx} {h:HF} {L:LH}
theorem uy{tF:List (Nat×Nat×Nat)}{tY tS:List Nat}(hT:tabOk P tF tY tS=true):∀(m:Nat)(is:List Nat)(a:Qs){s:Qs}{q:List (Nat×Nat)},runL tF tY tS n L m is a=some (s,q)->Wc q->s.holds P b n F ds X h L->a.holds P b n F ds X h L
 |0,is,a,s,q,hr,hq,t=>by
  simp only[runL,kN,Y8]at hr;rw[hr.1];exact t
 |m+1,is,.tt k e,s,q,hr,hq,t=>by
  unfold runL at hr
  split at hr
  .next hs=>exact LI hs (uy hT m _ _ hr hq t)
  .cases hr
 |m+1,is,.to ops [] k e,s,q,hr,hq,t=>by
  unfold runL at hr
  exact ck (uy hT m _ _ hr hq t)
 |m+1,is,.to ops (⟨none,op,ty,pos,af,g⟩::l) k e,s,q,hr,hq,t=>by
  unfold runL at hr
  cases hr
 |m+1,is,.to ops (⟨some d,op,ty,pos,af,g⟩::l) k e,s,q,hr,hq,t=>by
  have hT':=hT
  simp only[tabOk,jA,qP]at hT'
  obtain⟨⟨h1,h2⟩,h3⟩:=hT'
  unfold runL at hr
  split at hr
  .cases hr
  .next hd=>
   split at hr
   .next hg=>exact I5 (uy hT m _ _ hr hq t) hd hg
   .next hg=>
    split at hr
    .split at hr
     .next hx hl=>exact lT (by simpa using h1 _ (BR hl)) hx (uy hT m _ _ hr hq t) hd hg
     .cases hr
    .split at hr
     .next hx=>
      split at hr
      .next hn=>
       split at hr
       .next hv hm=>
        split at hr
        .next hr2=>
         cases hr
         obtain⟨e1,hq⟩:=hq
         subst e1
         exact qm _ (by simpa using h2 _ (Je hm)) hx hn hv (uy hT m _ _ hr2 hq t) hd hg
        .cases hr
       .cases hr
      .cases hr
     .cases hr
    .split at hr
     .next hx hm=>
      have:=h3 _ (Je hm)
      split at this
      .next hu=>exact RJ hu hx (uy hT m _ _ hr hq t) hd hg
      .cases this
     .cases hr
    .split at hr
     .next v hv=>
      obtain⟨g1,g2⟩:=E1 (P:=P) hv
      exact vp v g1 (λw _=>g2 _ _ _ _ _ w) hd hg (uy hT m _ _ hr hq t)
     .cases hr
end
theorem sT{f:FuncId}{h:HF}{R:Ending->HF->LH->Prop}(hf:P.funcs[f]? = some fn)(hb:fn.body=some c)(hn:fn.ntmps=n)(eT:YE args.length n=true)(t:∀X:Cx,X.M=A.map (·.1)->X.h0=h->P.funcs[f]? = some fn->TT P (bodyFrame f) n [.code c] (lJ P X R) (envArgs args) [] X h A):qf P f args.toArray h A R:=by grind [el]
def SVv(p:Prop):Prop:=p
theorem gSv{p:Prop}(q:p):SVv p:=q
theorem sVv{f:FuncId}{h:HF}{R:Ending->HF->LH->Prop}(hf:P.funcs[f]? = some fn)(hn:fn.ntmps=n)(t:SVv (∀X:Cx,X.M=A.map (·.1)->X.h0=h->P.funcs[f]? = some fn->TT P (bodyFrame f) n [.code c] (lJ P X R) (envArgs args) [] X h A))(hb:fn.body=some c:=by rfl)(hc:YE args.length n=true:=by rfl):qf P f args.toArray h A R:=sT hf hb hn hc t
section
variable {P:Program} {f:FuncId} {n:Nat} {k:List Item} {e:Env} {X:Cx} {h:HF} {L:LH} {fn:Func} {rs:List ResultVar} {φ : Value->HF->Prop}
theorem nretP{hh:HF}(vs:List Value)(hvv:retVal vs=v)(hf:P.funcs[f]? = some fn:=by assumption)(hr:fn.results=rs.toArray:=by rfl)(hX:X.h0=hh:=by assumption)(hv:qy P e L rs vs:=by exact rds):
  TT P (bodyFrame f) n (.code .ret::k) (lJ P X (λx h' B=>x=.returned v/\h'=hh/\B=[])) e [] X h L:=wk vs hf hr hX hv hvv
theorem nretH(vs:List Value)(hφ : φ (retVal vs) h)(hf:P.funcs[f]? = some fn:=by assumption)(hr:fn.results=rs.toArray:=by rfl)(hv:qy P e L rs vs:=by exact rds):
  TT P (bodyFrame f) n (.code .ret::k) (lJ P X (λx h' B=>B=[]/\∃v,x=.returned v/\φ v h')) e [] X h L:=mK vs hf hr hv hφ
end
section grows
variable {P:Program} {b:Frame} {n:Nat} {ops:Array Oper} {F:List Frame->(Machine->Prop)->Prop} {e:Env} {ds:List Deferred} {X:Cx} {h:HF} {L:LH} {K:Env->HF->LH->Prop} {d:Option Nat} {ty:TypeId} {pos:String} {af:Array Edge} {g:Option (Nat×Bool)}
variable {α : Type} {R:Rp α} {E:TypeId} {xs:List α} {base:Option Addr} {cap bk:Nat} {G:LH}
def InO(base:Option Addr)(G:LH)(k:Nat)(cs:List Value):Prop:=∃bk arr T fz,base=some ⟨bk,0,none⟩/\G=[(bk,vG (vB arr) T fz)]/\∀off v,nth cs off=some v->nth arr (k+off)=some v
theorem di.elem{h0:HF}{y:α}(hG:di R E h0 xs base cap G)(hi:xs[i]? = some y):∃cs,R.rep h0 cs y/\InO base G (i*R.sz) cs:=by
 rcases hG with⟨rfl,_⟩|⟨bk',cl,sp,e1,hc,_,_,_,rfl⟩
 .simp at hi
 .obtain⟨cs,hl,hr,hcell⟩:=hc.get i y hi
  refine⟨cs,hr,bk',cl++sp,E,(0,0),e1,rfl,λoff v hv=>?_⟩
  grind [ja]
theorem I0{t:TypeId}{k off:Nat}{cs:List Value}(hT:tySz P t=some (m,false))(hI:InO base G k cs)(hb:base=some ⟨bk,0,none⟩)(hv:nth cs off=some v)(hx:e.ev x=.pointer (some ⟨bk,k+off,none⟩))(hm:∀p∈G,p∈L):∀w,St X h L w->(execOp e.ev ⟨d,.load t x,ty,pos,af,g⟩).run P w=.ok (.value v) w:=by
 obtain⟨bk',arr,T,fz,e1,rfl,hc⟩:=hI
 rw[hb]at e1
 cases e1
 exact Ab hT hx (hm _ (List.mem_singleton.2 rfl)) (hc off v hv)
theorem If{α:Type}{R:Rp α}{C:α->ρ->List Value}{ok:HF->α->ρ->Prop}{t E:TypeId}{ix:Operand}{base:Option Addr}{cap:Nat}{xs:List α}{y:α}{z:Int}(hT:P.underlying t=some (.slice E))(hS:tySz P E=some (R.sz,a))(hR:SlB R h base xs)(hz:0<=z/\z<(xs.length:Int))(hj:xs[z.toNat]? = some y)(hx:e.ev x=.slice base m cap)(hm:m=xs.length)(hix:e.ev ix=.int .i64 z)(hC:∀h cs y,R.rep h cs y->∃r,cs=C y r/\ok h y r)(t':∀q r,At h q (C y r)->ok h y r->K (pute e d (.pointer (some q))) h L)(hg:guardB ops e ⟨d,.indexAddr t x ix,ty,pos,af,g⟩=true:=by rfl):Stp P b n ops F ds X ⟨d,.indexAddr t x ix,ty,pos,af,g⟩ e h L K:=
 Ry hT hS hR hz hj hx hm hix (λq cs A ln rr=>by obtain⟨r,e1,o1⟩:=hC _ _ _ rr;subst e1;exact t' q r A o1) hg
theorem vf(A0 G Q:LH)(LL:LH->LH){ys:List α}{f:FuncId}{vs:List Value}(hc:∀args w,(callFunc f args).run P w=.ok (.enter f args) w)(hs:qf P f vs.toArray h G (λr h' G'=>∃b c,h'=h/\r=.returned (.slice b ys.length c)/\di R E h ys b c G'))(hL:L=A0++(G++Q))(hLL:∀G,A0++(G++Q)=LL G)(hvs:ass.toList.map e.ev=vs)(t':∀b c G',di R E h ys b c G'->K (pute e d (.slice b ys.length c)) h (LL G'))(hg:guardB ops e ⟨d,.call ⟨.value (.func f),ass,ats⟩,ty,pos,af,g⟩=true:=by rfl):
  Stp P b n ops F ds X ⟨d,.call ⟨.value (.func f),ass,ats⟩,ty,pos,af,g⟩ e h L K:=by
 unfold Stp
 rw[if_pos hg]
 intro w hw
 subst hL
 have hp:∀G:LH,(A0++(G++Q)).Perm (G++(A0++Q)):=λG=>by
  rw[←zC,←zC];exact List.Perm.append_right Q zD
 have hw':=hw.perm (hp G)
 have harr:ass.map e.ev=vs.toArray:=Array.ext' (by simp[←hvs])
 have hr:(execOp e.ev ⟨d,.call ⟨.value (.func f),ass,ats⟩,ty,pos,af,g⟩).run P w=.ok (.enter f vs.toArray) w:=by
  simp[execOp,resolve,Env.ev,Deferred.ofValue,invoke,harr,hc]
 rw[hr]
 refine nn (by simp) (lH (tT.mono (hs w hw'.pre.left) ?_))
 rintro x w' ⟨h',B,hst,bb,cc,rfl,rfl,hG⟩
 exact⟨h',_,hLL B▸(St.after (A:=G) (F:=A0++Q) hw' hst).perm (hp B).symm,t' bb cc B hG⟩
end grows
end
variable {G L':LH}{R:Rp α}{af:Array Edge}{dn dn':List Nat}{e e':Env}{g:Option (Nat×Bool)}{m':Nat}{pos:String}{tF:List (Nat×Nat×Nat)}{ty:TypeId}
section
theorem U.{u}{α : Sort u}{a:α}:a=a:=rfl
abbrev zSN:Go.Value:=.slice none 0 0
abbrev zAD(b:Nat):Option Addr:=some ⟨b,0,none⟩
theorem kr(h:p:=by kernel_rfl):p:=h
theorem ob(h:p:=by first|assumption|omega|(simp only[] ;assumption)|(simp only[decide_eq_true_eq,decide_eq_false_iff_not,Bool.and_eq_true,Bool.or_eq_true,Bool.not_eq_true',Bool.not_eq_false',Bool.and_eq_false_iff,Bool.or_eq_false_iff,beq_iff_eq,beq_eq_false_iff_ne,bne_iff_ne,bne_eq_false_iff_eq,List.length_append,List.length_cons,List.length_nil,List.length_drop]at *;omega)):p:=h
theorem lo(h:p:=by simp only[List.length_append,List.length_cons,List.length_nil,List.length_take,List.length_drop];omega):p:=h
theorem ap(h:p:=by first|rfl|(simp only[List.append_assoc,List.cons_append,List.nil_append,List.append_nil];done)|(simp only[List.append_assoc,List.cons_append,List.nil_append,List.append_nil];rfl)|(rw[List.append_nil]<;>rfl)|(simp only[dropNth,List.append_assoc,List.cons_append,List.nil_append,List.append_nil];done)):p:=h
theorem lc(h:p:=by first|omega|(simp only[List.length_nil,List.length_cons]at *;omega)):p:=h
theorem rd(h:p:=by repeat (first|exact trivial|refine⟨rfl,?_⟩)):p:=h
theorem jn{h:HF}{K L:LH}(hs:K.Sublist L:=by repeat (first|exact List.Sublist.refl _|exact List.nil_sublist _|exact List.sublist_append_left _ _|refine List.Sublist.cons_cons _ ?_|refine List.Sublist.cons _ ?_)):Jst h K h L:=D5 hs
theorem js{K L:LH}(hs:K.Sublist L:=by repeat (first|exact List.Sublist.refl _|exact List.nil_sublist _|exact List.sublist_append_left _ _|refine List.Sublist.cons_cons _ ?_|refine List.Sublist.cons _ ?_)):K.Sublist L:=hs
theorem mh{L:LH}(h:∀p∈G,p∈L:=by intro p hp;simp only[List.mem_append,List.mem_cons,hp,true_or,or_true]):∀p∈G,p∈L:=h
theorem mj{h1 h':HF}{K:LH}(hj:Jst h1 K h' L')(h:∀p∈G,p∈K:=by intro p hp;simp only[List.mem_append,List.mem_cons,hp,true_or,or_true]):∀p∈G,p∈L':=λp hp=>hj.2 p (h p hp)
theorem ei{enc:α->List Value}(h:∀h cs x,R.rep h cs x->cs=enc x:=by exact λ_ _ _ e=>e):∀h cs x,R.rep h cs x->cs=enc x:=h
theorem lf{h:HF}:h.le h:=vF h
theorem xf(h:p:=by first|exact λ_ _ _ h=>h.elim|exact λ_ _ _ _ h=>h.elim):p:=h
theorem cb{b:Bool}(h:a=b):vT a=vT b:=congrArg vT h
theorem cs{b:Bool}(h:a=b):vT b=vT a:=congrArg vT h.symm
theorem ci{a b:Int}(h:a=b):jC .i64 b=jC .i64 a:=congrArg (jC .i64) h.symm
abbrev O(l:List Value)(t:Nat):Obj:=vG l.toArray t (0,0)
abbrev Y(x:Int):Value:=.int .u8 x
abbrev Q(b:Nat):Value:=.pointer (some ⟨b,0,none⟩)
abbrev I(x:Int):Value:=.int .i64 x
theorem HF.le.t{a b c:HF}(x:a.le b)(y:b.le c):a.le c:=xD x y
section
variable {P:Program} {b:Frame} {n:Nat} {k:List Item} {F:List Frame->(Machine->Prop)->Prop} {ds:List Deferred} {X:Cx}
theorem tf(i:Nat){h1:HF}{K:LH}{d:Nat}{oi:Oper}{h:HF}{L:LH}(hi:nth l i=some oi)(hd:oi.dst=some d)(hr:∀h' L',Jst h1 K h' L'->∀w,St X h' L' w->(execOp e.ev oi).run P w=.ok (.value v) w)(t:TA P b n l.toArray k F ds X (Jst h1 K) m (i::dn) (upd e d v) h L)(hsep:sepAll l.toArray=true:=by assumption)(hJ:Jst h1 K h L:=by exact jn)(hn:(nexts l.toArray dn).contains i=true:=by kernel_rfl)(hg:guardB l.toArray e oi=true:=by rfl):TA P b n l.toArray k F ds X (Jst h1 K) (m+1) dn e h L:=
 j5 i hsep hJ hi hd hn hg hr t
theorem tm(i:Nat){h1:HF}{K:LH}{d:Nat}{h:HF}{L:LH}(hi:nth l i=some ⟨some d,.move x,ty,pos,af,g⟩)(t:TA P b n l.toArray k F ds X (Jst h1 K) m (i::dn) (upd e d (e.ev x)) h L)(hsep:sepAll l.toArray=true:=by assumption)(hJ:Jst h1 K h L:=by exact jn)(hn:(nexts l.toArray dn).contains i=true:=by kernel_rfl)(hg:guardB l.toArray e ⟨some d,.move x,ty,pos,af,g⟩=true:=by rfl):TA P b n l.toArray k F ds X (Jst h1 K) (m+1) dn e h L:=
 j5 i hsep hJ hi rfl hn hg (λ_ _ _=>nT) t
theorem tk(i:Nat){h1:HF}{K:LH}{d:Nat}{oi:Oper}{h:HF}{L:LH}(hi:nth l i=some oi)(hd:oi.dst=some d)(t:TA P b n l.toArray k F ds X (Jst h1 K) m (i::dn) (upd e d undef) h L)(hsep:sepAll l.toArray=true:=by assumption)(hJ:Jst h1 K h L:=by exact jn)(hn:(nexts l.toArray dn).contains i=true:=by kernel_rfl)(hg:guardB l.toArray e oi=false:=by rfl):TA P b n l.toArray k F ds X (Jst h1 K) (m+1) dn e h L:=
 n8 i hsep hJ hi hd hn hg t
theorem tn(i:Nat){h1:HF}{K:LH}{oi:Oper}{h:HF}{L:LH}(hi:nth l i=some oi)(t:Stp P b n l.toArray F ds X oi e h L λe' h' L'=>Jst h1 K h' L'/\TA P b n l.toArray k F ds X (Jst h1 K) m (i::dn) e' h' L')(hn:nexts l.toArray dn=[i]:=by kernel_rfl):TA P b n l.toArray k F ds X (Jst h1 K) (m+1) dn e h L:=
 TR i hn hi t
theorem sr{y:Code}{h:HF}{L:LH}(t:TO P b n l.toArray l (.code y::k) F e ds X h L):TT P b n (.code (.seq (.region id l.toArray false) y)::k) F e ds X h L:=eI (cB t)
theorem an{d:Nat}{h:HF}{L:LH}(t:TT P b n k F (upd e d (e.ev x)) ds X h L)(hd:Nat.blt d n=true:=by rfl)(hg:guardB ops e ⟨some d,.assign x,ty,pos,af,g⟩=true:=by rfl):TO P b n ops [⟨some d,.assign x,ty,pos,af,g⟩] k F e ds X h L:=jj (ck t) hd hg
theorem kq{d d':Nat}{op':Op}{ty':TypeId}{pos':String}{af':Array Edge}{g':Option (Nat×Bool)}{h:HF}{L:LH}(t:TO P b n ops l k F (upd (upd e d undef) d' undef) ds X h L)(hd:Nat.blt d n=true:=by rfl)(hg:guardB ops e ⟨some d,op,ty,pos,af,g⟩=false:=by rfl)(hd':Nat.blt d' n=true:=by rfl)(hg':guardB ops (upd e d undef) ⟨some d',op',ty',pos',af',g'⟩=false:=by rfl):TO P b n ops (⟨some d,op,ty,pos,af,g⟩::⟨some d',op',ty',pos',af',g'⟩::l) k F e ds X h L:=I5 (I5 t hd' hg') hd hg
def runA(l:List Oper):List Nat->Nat->List Nat->Env->Option (Nat×List Nat×Env)
 |[],m,dn,e=>some (m,dn,e)
 |i::is,m,dn,e=>match m with
  |0=>none
  |m+1=>match nth l i with
   |some ⟨some d,op,ty,pos,af,g⟩=>match guardB l.toArray e ⟨some d,op,ty,pos,af,g⟩with
    |false=>runA l is m (i::dn) (upd e d undef)
    |true=>match opQ e op with
     |some v=>runA l is m (i::dn) (upd e d v)
     |none=>none
   |_=>none
def allNext(l:List Oper):List Nat->List Nat->Bool
 |[],_=>true
 |i::is,dn=>(nexts l.toArray dn).contains i&&allNext l is (i::dn)
theorem Ho{l:List Oper}{h1:HF}{K:LH}{h:HF}{L:LH}(hsep:sepAll l.toArray=true)(hJ:Jst h1 K h L):∀(is:List Nat)(m:Nat)(dn:List Nat)(e:Env){m':Nat}{dn':List Nat}{e':Env},runA l is m dn e=some (m',dn',e')->allNext l is dn=true->TA P b n l.toArray k F ds X (Jst h1 K) m' dn' e' h L->TA P b n l.toArray k F ds X (Jst h1 K) m dn e h L
 |[],m,dn,e,_,_,_,hr,_,t=>by cases hr;exact t
 |i::is,0,dn,e,_,_,_,hr,_,_=>by simp[runA]at hr
 |i::is,m+1,dn,e,_,_,_,hr,hn,t=>by
  simp only[allNext,jA]at hn
  simp only[runA]at hr
  split at hr
  .next hi=>
   split at hr
   .next hg=>exact n8 i hsep hJ hi rfl hn.1 hg (Ho hsep hJ is m _ _ hr hn.2 t)
   .next hg=>
    split at hr
    .next v hv=>exact j5 i hsep hJ hi rfl hn.1 hg (λ_ _ _ w _=>(E1 hv).2 _ _ _ _ _ w) (Ho hsep hJ is m _ _ hr hn.2 t)
    .cases hr
  .cases hr
theorem qA(is:List Nat){h1:HF}{K:LH}{h:HF}{L:LH}(hr:runA l is m dn e=some (m',dn',e'))(t:TA P b n l.toArray k F ds X (Jst h1 K) m' dn' e' h L)(hsep:sepAll l.toArray=true:=by assumption)(hJ:Jst h1 K h L:=by exact jn)(hn:allNext l is dn=true:=by kernel_rfl):TA P b n l.toArray k F ds X (Jst h1 K) m dn e h L:=Ho hsep hJ is m dn e hr hn t
theorem qR(a c:Nat){h1:HF}{K:LH}{h:HF}{L:LH}(hr:runA l (List.range' a c) m dn e=some (m',dn',e'))(t:TA P b n l.toArray k F ds X (Jst h1 K) m' dn' e' h L)(hsep:sepAll l.toArray=true:=by assumption)(hJ:Jst h1 K h L:=by exact jn)(hn:allNext l (List.range' a c) dn=true:=by kernel_rfl):TA P b n l.toArray k F ds X (Jst h1 K) m dn e h L:=Ho hsep hJ _ m dn e hr hn t
def opB(tF:List (Nat×Nat×Nat))(e:Env):Op->Option Value
 |.fieldAddr s x i=>match e.ev x,look3 tF s i with
  |.pointer (some a),some off=>some (.pointer (some (a.add off)))
  |_,_=>none
 |op=>opQ e op
theorem WF(hT:(tF.all λx=>fldOf P x.1 x.2.1==some x.2.2)=true)(hv:opB tF e op=some v)(h:HF)(L:LH)(d:Option Nat)(ty:TypeId)(pos:String)(af:Array Edge)(g:Option (Nat×Bool)):∀w,St X h L w->(execOp e.ev ⟨d,op,ty,pos,af,g⟩).run P w=.ok (.value v) w:=by
 unfold opB at hv
 split at hv
 .split at hv
  .next hx hl=>
   cases hv
   exact AL (by simpa using(qP.1 hT) _ (BR hl)) hx
  .cases hv
 .exact λw _=>(E1 hv).2 _ _ _ _ _ w
def runB(tF:List (Nat×Nat×Nat))(l:List Oper):List Nat->Nat->List Nat->Env->Option (Nat×List Nat×Env)
 |[],m,dn,e=>some (m,dn,e)
 |i::is,m,dn,e=>match m with
  |0=>none
  |m+1=>match nth l i with
   |some ⟨some d,op,ty,pos,af,g⟩=>match guardB l.toArray e ⟨some d,op,ty,pos,af,g⟩with
    |false=>runB tF l is m (i::dn) (upd e d undef)
    |true=>match opB tF e op with
     |some v=>runB tF l is m (i::dn) (upd e d v)
     |none=>none
   |_=>none
theorem MV{tF:List (Nat×Nat×Nat)}(hT:(tF.all λx=>fldOf P x.1 x.2.1==some x.2.2)=true){l:List Oper}{h1:HF}{K:LH}{h:HF}{L:LH}(hsep:sepAll l.toArray=true)(hJ:Jst h1 K h L):∀(is:List Nat)(m:Nat)(dn:List Nat)(e:Env){m':Nat}{dn':List Nat}{e':Env},runB tF l is m dn e=some (m',dn',e')->allNext l is dn=true->TA P b n l.toArray k F ds X (Jst h1 K) m' dn' e' h L->TA P b n l.toArray k F ds X (Jst h1 K) m dn e h L
 |[],m,dn,e,_,_,_,hr,_,t=>by cases hr;exact t
 |i::is,0,dn,e,_,_,_,hr,_,_=>by simp[runB]at hr
 |i::is,m+1,dn,e,_,_,_,hr,hn,t=>by
  simp only[allNext,jA]at hn
  simp only[runB]at hr
  split at hr
  .next hi=>
   split at hr
   .next hg=>exact n8 i hsep hJ hi rfl hn.1 hg (MV hT hsep hJ is m _ _ hr hn.2 t)
   .next hg=>
    split at hr
    .next v hv=>exact j5 i hsep hJ hi rfl hn.1 hg (λh' L' _ w hw=>WF hT hv h' L' _ _ _ _ _ w hw) (MV hT hsep hJ is m _ _ hr hn.2 t)
    .cases hr
  .cases hr
theorem tu{h1 h2:HF}{K:LH}(eT:h1.le h2){h:HF}{L:LH}(t:TA P b n ops k F ds X (Jst h2 K) m dn e h L):TA P b n ops k F ds X (Jst h1 K) m dn e h L:=xq eT (λ_ hp=>hp) t
end
theorem jl{h h2:HF}{K L:LH}(eT:h.le h2)(hs:K.Sublist L:=by repeat (first|exact List.Sublist.refl _|exact List.nil_sublist _|exact List.sublist_append_left _ _|refine List.Sublist.cons_cons _ ?_|refine List.Sublist.cons _ ?_)):Jst h K h2 L:=⟨eT,λ_ hp=>hs.subset hp⟩
theorem sw(h:p:=by first|exact λw hw=>hw|(intro w hw;first|simpa only[List.append_assoc,List.cons_append,List.nil_append,List.append_nil]using hw|(simp only[List.append_assoc,List.cons_append,List.nil_append,List.append_nil]at hw ⊢;exact hw))):p:=h
section
variable {P:Program} {b:Frame} {n:Nat} {k:List Item} {F:List Frame->(Machine->Prop)->Prop} {ds:List Deferred} {X:Cx} {ops:Array Oper} {l:List Oper} {d:Nat} {op:BinOp} {t u ty:TypeId} {x y:Operand} {pos:String} {af:Array Edge} {g:Option (Nat×Bool)} {e:Env} {h:HF} {L:LH}
theorem oi(i:Nat)(hv:binV op (e.ev x) (e.ev y)=some (.int .i64 (IntKind.i64.wrap ((i:Int)+1))))(t':TO P b n ops l k F (upd e d (.int .i64 (((i+1):Nat):Int))) ds X h L)(hb:i<9223372036854775807:=by exact ob)(hd:Nat.blt d n=true:=by rfl)(hg:guardB ops e ⟨some d,.binOp op t x y u,ty,pos,af,g⟩=true:=by rfl):
  TO P b n ops (⟨some d,.binOp op t x y u,ty,pos,af,g⟩::l) k F e ds X h L:=ls hv (NX hb) t' hd hg
theorem tO(ha:a=true)(hv:binV op (e.ev x) (e.ev y)=some (.bool a))(t':TO P b n ops l k F (upd e d (.bool true)) ds X h L)(hd:Nat.blt d n=true:=by rfl)(hg:guardB ops e ⟨some d,.binOp op t x y u,ty,pos,af,g⟩=true:=by rfl):
  TO P b n ops (⟨some d,.binOp op t x y u,ty,pos,af,g⟩::l) k F e ds X h L:=ls hv (cb ha) t' hd hg
theorem fO(ha:a=false)(hv:binV op (e.ev x) (e.ev y)=some (.bool a))(t':TO P b n ops l k F (upd e d (.bool false)) ds X h L)(hd:Nat.blt d n=true:=by rfl)(hg:guardB ops e ⟨some d,.binOp op t x y u,ty,pos,af,g⟩=true:=by rfl):
  TO P b n ops (⟨some d,.binOp op t x y u,ty,pos,af,g⟩::l) k F e ds X h L:=ls hv (cb ha) t' hd hg
end
section
variable {P:Program} {d:Option Nat} {ty t:TypeId} {pos:String} {af:Array Edge} {g:Option (Nat×Bool)} {x:Operand} {m bk off T:Nat} {fz:Nat×Nat} {cl cs:List Value} {v:Value} {e:Env} {X:Cx} {h1:HF} {K:LH} {q:Addr}
theorem rj(i:Nat)(hT:tySz P t=some (m,false))(hx:e.ev x=.pointer (some ⟨bk,off,none⟩))(hi:nth K i=some (bk,vG cl.toArray T fz))(hv:nth cl off=some v):∀h' L',Jst h1 K h' L'->∀w,St X h' L' w->(execOp e.ev ⟨d,.load t x,ty,pos,af,g⟩).run P w=.ok (.value v) w:=λ_ _ hj=>Ab hT hx (hj.nth hi) hv
theorem rh(hT:tySz P t=some (m,false))(ha:At h1 q (v::cs))(hx:e.ev x=.pointer (some q)):∀h' L',Jst h1 K h' L'->∀w,St X h' L' w->(execOp e.ev ⟨d,.load t x,ty,pos,af,g⟩).run P w=.ok (.value v) w:=λ_ _ hj=>Uc hT (ha.mono hj.1) hx
theorem rH(j:Nat)(hT:tySz P t=some (m,false))(ha:At h1 q cs)(hx:e.ev x=.pointer (some (q.add j)))(hv:nth cs j=some v):∀h' L',Jst h1 K h' L'->∀w,St X h' L' w->(execOp e.ev ⟨d,.load t x,ty,pos,af,g⟩).run P w=.ok (.value v) w:=λ_ _ hj=>Ud j hT (ha.mono hj.1) hx hv
end
section
variable {P:Program} {b:Frame} {n:Nat} {ops:Array Oper} {F:List Frame->(Machine->Prop)->Prop} {ds:List Deferred} {X:Cx} {e:Env} {h:HF} {L:LH} {d:Option Nat} {ty:TypeId} {pos:String} {af:Array Edge} {g:Option (Nat×Bool)} {K:Env->HF->LH->Prop} {α : Type} {R:Rp α} {t E:TypeId} {x ix:Operand} {a:Bool} {base:Option Addr} {m cap:Nat} {xs:List α} {y:α} {i:Nat}
theorem iF(enc:α->List Value)(hT:P.underlying t=some (.slice E))(hS:tySz P E=some (R.sz,a))(hR:SlB R h base xs)(hj:xs[i]? = some y)(hx:e.ev x=.slice base m cap)(hm:m=xs.length)(hix:e.ev ix=.int .i64 (i:Int))(t':∀q,At h q (enc y)->K (pute e d (.pointer (some q))) h L)(hR':∀h cs x,R.rep h cs x->cs=enc x:=by exact λ_ _ _ e=>e)(hg:guardB ops e ⟨d,.indexAddr t x ix,ty,pos,af,g⟩=true:=by rfl):Stp P b n ops F ds X ⟨d,.indexAddr t x ix,ty,pos,af,g⟩ e h L K:=tW hR' hT hS hR (nthZ hj) (jk hj) hx hm hix t' hg
theorem iG(hT:P.underlying t=some (.slice E))(hS:tySz P E=some (R.sz,a))(hR:SlB R h base xs)(hj:xs[i]? = some y)(hx:e.ev x=.slice base m cap)(hm:m=xs.length)(hix:e.ev ix=.int .i64 (i:Int))(t':∀q cs,At h q cs->cs.length=R.sz->R.rep h cs y->K (pute e d (.pointer (some q))) h L)(hg:guardB ops e ⟨d,.indexAddr t x ix,ty,pos,af,g⟩=true:=by rfl):Stp P b n ops F ds X ⟨d,.indexAddr t x ix,ty,pos,af,g⟩ e h L K:=Ry hT hS hR (nthZ hj) (jk hj) hx hm hix t' hg
theorem iR{C:α->ρ->List Value}{ok:HF->α->ρ->Prop}(hT:P.underlying t=some (.slice E))(hS:tySz P E=some (R.sz,a))(hR:SlB R h base xs)(hj:xs[i]? = some y)(hx:e.ev x=.slice base m cap)(hm:m=xs.length)(hix:e.ev ix=.int .i64 (i:Int))(hC:∀h cs y,R.rep h cs y->∃r,cs=C y r/\ok h y r)(t':∀q r,At h q (C y r)->ok h y r->K (pute e d (.pointer (some q))) h L)(hg:guardB ops e ⟨d,.indexAddr t x ix,ty,pos,af,g⟩=true:=by rfl):Stp P b n ops F ds X ⟨d,.indexAddr t x ix,ty,pos,af,g⟩ e h L K:=If hT hS hR (nthZ hj) (jk hj) hx hm hix hC t' hg
end
theorem cE(y:α){h:HF}{cs:List Value}(hl:cs.length=R.sz)(hr:R.rep h cs y):bW R h cs [y]:=⟨cs,[],by simp,hl,hr,rfl⟩
end
section
open Go.Proofs
abbrev fm := @Tryz.underlying31
abbrev qZ := @Tryz.underlying3
abbrev us := @Tryz.underlying57
abbrev ur := @Tryz.underlying23
abbrev Dn := @Tryz.underlying24
abbrev Gv := @Tryz.call24
abbrev Kp := @Tryz.call29
abbrev MH := @Tryz.underlying56
abbrev MG := @Tryz.underlying27
abbrev MF := @Tryz.underlying28
abbrev Dp := @Tryz.underlying183
abbrev Do := @Tryz.underlying168
abbrev FA := @Tryz.underlying26
abbrev XI := @Tryz.underlying4
abbrev Fz := @Tryz.underlying272
abbrev HO := @Tryz.call363
abbrev HN := @Tryz.func31
abbrev HL := @Tryz.func28
abbrev Lo := @Tryz.func368
abbrev Ln := @Tryz.func305
abbrev Lm := @Tryz.underlying275
abbrev Ll := @Tryz.call247
abbrev Lk := @Tryz.call26
abbrev TF := @Tryz.func3
abbrev On := @Tryz.call233
abbrev Om := @Tryz.call306
abbrev Ol := @Tryz.underlying238
abbrev Ok := @Tryz.underlying391
abbrev Oj := @Tryz.func108
abbrev Oi := @Tryz.ntmps28
abbrev Oh := @Tryz.call28
abbrev Og := @Tryz.underlying97
abbrev Oe := @Tryz.call9
abbrev Rj := @Tryz.underlying61
abbrev Ri := @Tryz.underlying55
abbrev TE := @Tryz.underlying30
abbrev Rh := @Tryz.underlying325
abbrev XH := @Tryz.func161
abbrev Rg := @Tryz.underlying133
abbrev Rf := @Tryz.call379
abbrev Re := @Tryz.func237
abbrev Rd := @Tryz.underlying326
abbrev Rc := @Tryz.func142
abbrev Rb := @Tryz.func254
abbrev Ra := @Tryz.func23
abbrev Q9 := @Tryz.call11
abbrev XG := @Tryz.underlying5
abbrev TC := @Tryz.underlying400
abbrev tz_48 := @Tryz.underlying0
abbrev We := @Tryz.underlying351
abbrev TB := @Tryz.call273
abbrev Tz := @Tryz.func336
abbrev Ty := @Tryz.underlying280
abbrev Tx := @Tryz.func388
abbrev Tw := @Tryz.call110
abbrev Tv := @Tryz.func262
abbrev Tu := @Tryz.func261
abbrev Tt := @Tryz.call128
abbrev Ts := @Tryz.call361
abbrev Tr := @Tryz.underlying240
abbrev Tq := @Tryz.func329
abbrev Tp := @Tryz.call99
abbrev Tn := @Tryz.func338
abbrev Tm := @Tryz.underlying20
abbrev Tl := @Tryz.func362
abbrev Tk := @Tryz.underlying94
end
variable {E T:TypeId}{H:Type}{fuel:Nat}{ps:List MemPlace}{w:World}
section
open Go.Proofs Go.Proofs.Tryz
set_option maxHeartbeats 2000000
def hOf(w:World):HF:=λb=>w.heap[b]?
theorem pre_hOf(w:World):Pre (hOf w) [] w:=⟨λ_ _ h=>h,λ_ hp=>(vA hp).elim,List.nodup_nil,λ_ hp=>(vA hp).elim⟩
theorem Sl{a:Addr}(h:w.cell? a=some v):a.spot=none/\∃c T fz,w.heap[a.block]? = some (.cells c T fz)/\c[a.off]? = some v:=by
 unfold World.cell? at h
 split at h
 .next c T fz e=>
  split at h
  .cases h
  .next hs=>exact⟨by simpa using hs,c,T,fz,e,h⟩
 .cases h
theorem Pi{α β : Type}{f:α->Option β}:∀{l:List α}{r:List β},l.mapM f=some r->l.length=r.length/\∀(j:Nat)(x:α),l[j]? = some x->f x=r[j]?
 |[],r,h=>by simp at h;subst h;exact⟨rfl,λj x hj=>by simp at hj⟩
 |a::l,r,h=>by
  rw[List.mapM_cons]at h
  simp only[Option.bind_eq_bind,Option.bind_eq_some_iff,Option.pure_def,kN]at h
  obtain⟨b,hb,r',hr,rfl⟩:=h
  obtain⟨h1,h2⟩:=Pi hr
  grind
theorem U4{base:Nat}{a:Addr}{cs:List Value}(hn:0<n)(h:w.cells? base a n=some cs):At (hOf w) a cs/\cs.length=n:=by
 unfold World.cells? at h
 split at h
 .obtain⟨h1,h2⟩:=Pi h
  rw[List.length_range]at h1
  have hc:∀j v,cs[j]? = some v->w.cell? (a.add j)=some v:=λj v hv=>by
   grind
  obtain⟨v,hv⟩:∃v,cs[0]? = some v:=⟨cs[0],List.getElem?_eq_getElem (by omega)⟩
  obtain⟨s1,c,T,fz,s2,s3⟩:=Sl (hc 0 v hv)
  have hsp:a.spot=none:=by simpa[jP]using s1
  have hbl:∀j,(a.add j).block=a.block/\(a.add j).off=a.off+j:=λj=>by
   grind [jP]
  refine⟨⟨c,T,fz,?_,hsp,λj u hu=>?_⟩,h1.symm⟩
  .rw[(hbl 0).1]at s2;exact s2
  .obtain⟨_,c',T',fz',t2,t3⟩:=Sl (hc j u hu)
   grind
 .cases h
def szL{α : Type}(f:α->Nat):List α->Nat
 |[]=>0
 |x::xs=>f x+szL f xs
theorem HY{α : Type}(f:α->Nat):∀(l r:List α),szL f (l++r)=szL f l+szL f r
 |[],r=>by simp[szL]
 |x::l,r=>by simp[szL,HY f l r,Nat.add_assoc]
theorem szL_len{α : Type}{f:α->Nat}(hf:∀x,1<=f x):∀(l:List α),l.length<=szL f l
 |[]=>zE _
 |x::l=>by have:=szL_len hf l;have:=hf x;simp[szL];omega
theorem MN{α : Type}{f:α->Nat}{x:α}:∀{l:List α},x∈l->f x<=szL f l
 |y::l,h=>by
  rcases vC.1 h with rfl|h
  .simp[szL]
  .have:=MN (f:=f) h;simp[szL];omega
theorem Rr:∀(l:List ai),szL ai.dep l=ai.depL l
 |[]=>rfl
 |y::l=>by simp[szL,ai.depL,Rr l]
open YtknehchipcogdaaGreatDoor.Rows in
theorem bulk_one(d:DataW H):1<=uptoBulk d:=by
 cases d with
 |lit l=>cases l<;>simp[uptoBulk]
 |nil=>simp[uptoBulk]
 |ptr d=>simp[uptoBulk]
 |slice elems spare=>simp[uptoBulk]
 |agg parts=>simp[uptoBulk]
 |iface t d=>simp[uptoBulk]
 |map entries=>simp[uptoBulk]
 |held h=>simp[uptoBulk]
open YtknehchipcogdaaGreatDoor.Rows in
theorem P6(l r:List (DataW H)):uptoBulkAll (l++r)=uptoBulkAll l+uptoBulkAll r:=by
 induction l with
 |nil=>simp[uptoBulkAll]
 |cons x l ih=>simp only[jK,uptoBulkAll,ih];omega
section opn
open YtknehchipcogdaaGreatDoor.Rows
variable {H:Type} {enc:TypeId×Value->H} {P:Program} {w:World} {base:Nat} {sp:Nat->Bool} {held:Bool}
def Opn(enc:TypeId×Value->H)(P:Program)(w:World)(base:Nat)(sp:Nat->Bool)(held:Bool){α : Type}(T:TypeId)(R:Rp α)(sz:α->Nat)(fuel:Nat):Prop:=
 ∀cs d ps,DataW.trod enc P w base sp held fuel T cs=some (d,ps)->∃x,R.rep (hOf w) cs x/\sz x<=uptoBulk d
theorem opn_slice{sz:α->Nat}(ht:P.underlying T=some (.slice E))(hc:P.cellsOf E=R.sz)(hp:0<R.sz)(he:∀n,fuel=n+1->Opn enc P w base sp held E R sz n){cs:List Value}{d:DataW H}(h:DataW.trod enc P w base sp held fuel T cs=some (d,ps)):∃b c xs,cs=[.slice b (List.length xs) c]/\SlC R (hOf w) b c xs/\szL sz xs+1<=uptoBulk d:=by
 rcases DataW.trod_slice ht h with⟨rfl,e⟩|⟨a,len,cap,elems,rest,n,hn,rfl,hx,h1,h2,h3,h4,h5,_,_⟩
 .cases e
  exact⟨none,0,[],rfl,SlC.nil,by simp[szL,uptoBulk]⟩
 .cases hx
  have key:∀k,k<=len->∃xs:List α,xs.length=k/\(∀i x,xs[i]? = some x->∃cs',At (hOf w) (a.add (i*R.sz)) cs'/\cs'.length=R.sz/\R.rep (hOf w) cs' x)/\szL sz xs<=uptoBulkAll ((elems.take k).map (·.1)):=by
   intro k
   induction k with
   |zero=>exact λ_=>⟨[],rfl,λi x hx=>by simp at hx,by simp[szL]⟩
   |succ k ih=>
    intro hk
    obtain⟨xs,e1,e2,e3⟩:=ih (by omega)
    have hkl:k<elems.length:=by omega
    have c0:=h5 k (by omega)
    rw[List.getElem?_eq_getElem hkl]at c0
    obtain⟨cs',c1,c2⟩:=Option.bind_eq_some_iff.1 c0
    rw[hc]at c1
    obtain⟨x,x1,x2⟩:=he n hn _ _ _ c2
    obtain⟨k1,k2⟩:=U4 hp c1
    refine⟨xs++[x],by simp[e1],λi y hy=>?_,?_⟩
    .grind
    .rw[HY,List.take_add_one,List.map_append,P6,List.getElem?_eq_getElem hkl]
     all_goals grind [szL,Option.toList_some,uptoBulkAll]
  obtain⟨xs,e1,e2,e3⟩:=key len (zE _)
  refine⟨some a,cap,xs,by rw[e1],⟨⟨?_,λi x hx=>?_⟩,by omega⟩,?_⟩
  .have:maxLen<=9223372036854775807:=by decide
   omega
  all_goals grind [uptoBulk]
theorem opn_int(ht:P.underlying T=some (.int .i64))(n:Nat):Opn enc P w base sp held T Rp.int (λ_=>1) n:=by
 intro cs d ps h
 refine(?_:∃x,Rp.int.rep (hOf w) cs x).imp λ_ h=>⟨h,bulk_one d⟩
 cases n with
 |zero=>simp[DataW.trod]at h
 |succ n=>
  unfold DataW.trod at h
  rw[ht]at h
  split at h<;>simp_all
  next k k' z e=>
   obtain⟨⟨h1,_⟩,h2,_⟩:=h
   subst h1
   exact⟨z,by first|rfl|(subst e;rfl)|(cases e;rfl)⟩
theorem WE(ht:P.underlying T=some (.int .u8))(n:Nat):Opn enc P w base sp held T ⟨1,λ_ cs(x:Int)=>cs=[.int .u8 x]⟩ (λ_=>1) n:=by
 intro cs d ps h
 refine(?_:∃x:Int,cs=[.int .u8 x]).imp λ_ h=>⟨h,bulk_one d⟩
 cases n with
 |zero=>simp[DataW.trod]at h
 |succ n=>
  unfold DataW.trod at h
  rw[ht]at h
  split at h<;>simp_all
theorem xU(ht:P.underlying T=some .bool)(n:Nat):Opn enc P w base sp held T Rp.bool (λ_=>1) n:=by
 intro cs d ps h
 obtain⟨b,rfl,_⟩:=DataW.trod_bool ht h
 exact⟨b,rfl,bulk_one d⟩
theorem D0(ht:P.underlying T=some .string)(n:Nat):Opn enc P w base sp held T Rp.str (λ_=>1) n:=by
 intro cs d ps h
 refine(?_:∃x,Rp.str.rep (hOf w) cs x).imp λ_ h=>⟨h,bulk_one d⟩
 cases n with
 |zero=>simp[DataW.trod]at h
 |succ n=>
  unfold DataW.trod at h
  rw[ht]at h
  split at h<;>simp_all
  all_goals exact⟨_,rfl⟩
def TrF(enc:TypeId×Value->H)(P:Program)(w:World)(base:Nat)(sp:Nat->Bool)(held:Bool)(fuel:Nat):List TypeId->List Value->List (DataW H)->Prop
 |[],cs,ds=>cs=[]/\ds=[]
 |t::ts,cs,ds=>∃c cs' d ds' p,cs=c++cs'/\ds=d::ds'/\DataW.trod enc P w base sp held fuel t c=some (d,p)/\TrF enc P w base sp held fuel ts cs' ds'
def contig(P:Program):List Field->Nat->Option Nat
 |[],o=>some o
 |f::fs,o=>if f.offset=o then contig P fs (o+P.cellsOf f.type)else none
theorem TI{n:Nat}{cs:List Value}:∀(fs:List Field)(xs:List (DataW H×List MemPlace))(o:Nat),xs.length=fs.length->contig P fs o=some cs.length ->
  (∀(i:Nat)(f:Field),fs[i]? = some f->DataW.trod enc P w base sp held n f.type ((cs.drop f.offset).take (P.cellsOf f.type))=xs[i]?)->TrF enc P w base sp held n (fs.map (·.type)) (cs.drop o) (xs.map (·.1))
 |[],xs,o,hl,hc,_=>by
  simp only[contig,kN]at hc
  subst hc
  rw[xB,List.length_eq_zero_iff]at hl
  subst hl
  exact⟨by simp,rfl⟩
 |f::fs,[],o,hl,hc,hx=>by simp at hl
 |f::fs,x::xs,o,hl,hc,hx=>by
  unfold contig at hc
  split at hc
  .next ho=>
   have h0:=hx 0 f rfl
   rw[ho]at h0
   simp only[List.getElem?_cons_zero]at h0
   refine⟨(cs.drop o).take (P.cellsOf f.type),cs.drop (o+P.cellsOf f.type),x.1,xs.map (·.1),x.2,?_,rfl,h0,TI fs xs _ (by simpa using hl) hc (λi g hg=>by simpa using hx (i+1) g (by simpa using hg))⟩
   rw[←List.drop_drop,List.take_append_drop]
  .cases hc
theorem nB{fs:Array Field}{cs:List Value}{d:DataW H}(ht:P.underlying T=some (.struct fs))(hk:contig P fs.toList 0=some (P.cellsOf T))(h:DataW.trod enc P w base sp held fuel T cs=some (d,ps)):
  ∃n ds,fuel=n+1/\d=.agg ds/\TrF enc P w base sp held n (fs.toList.map (·.type)) cs ds:=by
 obtain⟨xs,n,hn,hx,hl,hlen,hf⟩:=DataW.trod_struct ht h
 cases hx
 refine⟨n,_,hn,rfl,?_⟩
 have:=TI (enc:=enc) (w:=w) (base:=base) (sp:=sp) (held:=held) (n:=n) (cs:=cs) fs.toList xs 0 (by simpa using hlen) (by rw[hk,hl]) (λi f hi=>hf i f (by simpa using hi))
 simpa using this
theorem SJ(ht:P.underlying T=some (.array m E))(hE:P.underlying E=some (.int .u8))(hc:P.cellsOf E=1)(hcT:P.cellsOf T=m){cs:List Value}{d:DataW H}(h:DataW.trod enc P w base sp held n T cs=some (d,ps)):∃f:Nat->Int,cs=(xF m).map λi=>jC .u8 (f i):=by
 obtain⟨xs,k,hk,hx,hl,hlen,hf⟩:=DataW.trod_array ht h
 rw[hcT]at hl
 have h1:∀i,∃z:Int,i<m->cs[i]? = some (.int .u8 z):=by
  intro i
  rcases vR i m with hi|hi
  .have h0:=hf i hi
   rw[hc,Nat.mul_one,List.getElem?_eq_getElem (by omega)]at h0
   obtain⟨z,hz,_⟩:=WE (enc:=enc) (w:=w) (base:=base) (sp:=sp) (held:=held) hE k _ _ _ h0
   refine⟨z,λ_=>?_⟩
   have hz':(cs.drop i).take 1=[.int .u8 z]:=hz
   have:=congrArg (·[0]?) hz'
   simpa using this
  .exact⟨0,λh=>by omega⟩
 obtain⟨f,hf'⟩:=Classical.axiomOfChoice h1
 refine⟨f,YA λi=>?_⟩
 grind
end opn
section openings
variable {H:Type} {enc:TypeId×Value->H} {w:World} {base:Nat} {sp:Nat->Bool} {held:Bool}
theorem O5(n:Nat):Opn enc prog w base sp held 76 aA.rp (λ_=>1) n:=by
 intro cs d ps h
 obtain⟨m,ds,rfl,rfl,c0,_,d0,_,p0,rfl,rfl,h0,c1,_,d1,_,p1,rfl,rfl,h1,c2,_,d2,_,p2,rfl,rfl,h2,c3,_,d3,_,p3,rfl,rfl,h3,c4,_,d4,_,p4,rfl,rfl,h4,c5,_,d5,_,p5,rfl,rfl,h5,c6,_,d6,_,p6,rfl,rfl,h6,rfl,rfl⟩:=nB (fs:=_) underlying76 (by kernel_rfl) h
 obtain⟨x0,rfl,_⟩:=(opn_int (by kernel_rfl)) m _ _ _ h0
 obtain⟨x1,rfl,_⟩:=(opn_int (by kernel_rfl)) m _ _ _ h1
 obtain⟨x2,rfl,_⟩:=(opn_int (by kernel_rfl)) m _ _ _ h2
 obtain⟨x3,rfl,_⟩:=(opn_int (by kernel_rfl)) m _ _ _ h3
 obtain⟨x4,rfl,_⟩:=(opn_int (by kernel_rfl)) m _ _ _ h4
 obtain⟨x5,rfl,_⟩:=(opn_int (by kernel_rfl)) m _ _ _ h5
 obtain⟨x6,rfl,_⟩:=(xU (by kernel_rfl)) m _ _ _ h6
 exact⟨⟨x0,x1,x2,x3,x4,x5,x6⟩,rfl,bulk_one _⟩
theorem Qz(n:Nat):Opn enc prog w base sp held 150 aE.rp (λ_=>1) n:=by
 intro cs d ps h
 obtain⟨m,ds,rfl,rfl,c0,_,d0,_,p0,rfl,rfl,h0,c1,_,d1,_,p1,rfl,rfl,h1,c2,_,d2,_,p2,rfl,rfl,h2,c3,_,d3,_,p3,rfl,rfl,h3,c4,_,d4,_,p4,rfl,rfl,h4,c5,_,d5,_,p5,rfl,rfl,h5,c6,_,d6,_,p6,rfl,rfl,h6,c7,_,d7,_,p7,rfl,rfl,h7,c8,_,d8,_,p8,rfl,rfl,h8,c9,_,d9,_,p9,rfl,rfl,h9,rfl,rfl⟩:=nB (fs:=_) underlying150 (by kernel_rfl) h
 obtain⟨x0,rfl,_⟩:=(opn_int (by kernel_rfl)) m _ _ _ h0
 obtain⟨x1,rfl,_⟩:=(opn_int (by kernel_rfl)) m _ _ _ h1
 obtain⟨x2,rfl,_⟩:=(opn_int (by kernel_rfl)) m _ _ _ h2
 obtain⟨x3,rfl,_⟩:=(opn_int (by kernel_rfl)) m _ _ _ h3
 obtain⟨x4,rfl,_⟩:=(opn_int (by kernel_rfl)) m _ _ _ h4
 obtain⟨x5,rfl,_⟩:=(opn_int (by kernel_rfl)) m _ _ _ h5
 obtain⟨x6,rfl,_⟩:=(opn_int (by kernel_rfl)) m _ _ _ h6
 obtain⟨x7,rfl,_⟩:=(opn_int (by kernel_rfl)) m _ _ _ h7
 obtain⟨x8,rfl,_⟩:=(opn_int (by kernel_rfl)) m _ _ _ h8
 obtain⟨x9,rfl,_⟩:=(xU (by kernel_rfl)) m _ _ _ h9
 exact⟨⟨x0,x1,x2,x3,x4,x5,x6,x7,x8,x9⟩,rfl,bulk_one _⟩
theorem Nk(n:Nat):Opn enc prog w base sp held 78 av.rp (λ_=>1) n:=by
 intro cs d ps h
 obtain⟨m,ds,rfl,rfl,c0,_,d0,_,p0,rfl,rfl,h0,c1,_,d1,_,p1,rfl,rfl,h1,c2,_,d2,_,p2,rfl,rfl,h2,c3,_,d3,_,p3,rfl,rfl,h3,c4,_,d4,_,p4,rfl,rfl,h4,c5,_,d5,_,p5,rfl,rfl,h5,c6,_,d6,_,p6,rfl,rfl,h6,rfl,rfl⟩:=nB (fs:=_) underlying78 (by kernel_rfl) h
 obtain⟨x0,rfl,_⟩:=(opn_int (by kernel_rfl)) m _ _ _ h0
 obtain⟨x1,rfl,_⟩:=(opn_int (by kernel_rfl)) m _ _ _ h1
 obtain⟨x2,rfl,_⟩:=(opn_int (by kernel_rfl)) m _ _ _ h2
 obtain⟨x3,rfl,_⟩:=(opn_int (by kernel_rfl)) m _ _ _ h3
 obtain⟨x4,rfl,_⟩:=(opn_int (by kernel_rfl)) m _ _ _ h4
 obtain⟨x5,rfl,_⟩:=(xU (by kernel_rfl)) m _ _ _ h5
 obtain⟨x6,rfl,_⟩:=(xU (by kernel_rfl)) m _ _ _ h6
 exact⟨⟨x0,x1,x2,x3,x4,x5,x6⟩,rfl,bulk_one _⟩
theorem QA(n:Nat):Opn enc prog w base sp held 81 Budget.rp (λ_=>1) n:=by
 intro cs d ps h
 obtain⟨m,ds,rfl,rfl,c0,_,d0,_,p0,rfl,rfl,h0,c1,_,d1,_,p1,rfl,rfl,h1,c2,_,d2,_,p2,rfl,rfl,h2,c3,_,d3,_,p3,rfl,rfl,h3,c4,_,d4,_,p4,rfl,rfl,h4,c5,_,d5,_,p5,rfl,rfl,h5,c6,_,d6,_,p6,rfl,rfl,h6,c7,_,d7,_,p7,rfl,rfl,h7,rfl,rfl⟩:=nB (fs:=_) underlying81 (by kernel_rfl) h
 obtain⟨x0,rfl,_⟩:=(opn_int (by kernel_rfl)) m _ _ _ h0
 obtain⟨x1,rfl,_⟩:=(opn_int (by kernel_rfl)) m _ _ _ h1
 obtain⟨x2,rfl,_⟩:=(opn_int (by kernel_rfl)) m _ _ _ h2
 obtain⟨x3,rfl,_⟩:=(opn_int (by kernel_rfl)) m _ _ _ h3
 obtain⟨x4,rfl,_⟩:=(opn_int (by kernel_rfl)) m _ _ _ h4
 obtain⟨x5,rfl,_⟩:=(opn_int (by kernel_rfl)) m _ _ _ h5
 obtain⟨x6,rfl,_⟩:=(opn_int (by kernel_rfl)) m _ _ _ h6
 obtain⟨x7,rfl,_⟩:=(xU (by kernel_rfl)) m _ _ _ h7
 exact⟨⟨x0,x1,x2,x3,x4,x5,x6,x7⟩,rfl,bulk_one _⟩
abbrev ai.hold(x:ai):Nat:=x.dep
theorem O4(n:Nat):Opn enc prog w base sp held 59 ai.rp ai.hold n:=by
 induction n using Nat.strongRecOn with
 |_ n ih=>
 intro cs d ps h
 obtain⟨m,ds,rfl,rfl,c0,_,d0,_,p0,rfl,rfl,h0,c1,_,d1,_,p1,rfl,rfl,h1,c2,_,d2,_,p2,rfl,rfl,h2,c3,_,d3,_,p3,rfl,rfl,h3,c4,_,d4,_,p4,rfl,rfl,h4,rfl,rfl⟩:=nB (fs:=_) underlying59 (by kernel_rfl) h
 obtain⟨x0,rfl,_⟩:=(opn_int (by kernel_rfl)) m _ _ _ h0
 obtain⟨x1,rfl,_⟩:=(opn_int (by kernel_rfl)) m _ _ _ h1
 obtain⟨x2,rfl,_⟩:=(opn_int (by kernel_rfl)) m _ _ _ h2
 obtain⟨x3,rfl,_⟩:=(D0 (by kernel_rfl)) m _ _ _ h3
 obtain⟨b4,k4,x4,rfl,o4,q4⟩:=opn_slice us (by kernel_rfl) (by decide) (λk hk=>ih k (by omega)) h4
 refine⟨ai.mk x0 x1 x2 x3 x4,⟨⟨b4,k4⟩,rfl,ai.ok.of o4⟩,?_⟩
 rw[Rr]at q4
 simp only[ai.hold,ai.dep,YtknehchipcogdaaGreatDoor.Rows.uptoBulk,YtknehchipcogdaaGreatDoor.Rows.uptoBulkAll]at *
 omega
def fI.hold(x:fI):Nat:=ai.hold x.ai+1
theorem Un(n:Nat):Opn enc prog w base sp held 65 fI.rp fI.hold n:=by
 intro cs d ps h
 obtain⟨m,ds,rfl,rfl,c0,_,d0,_,p0,rfl,rfl,h0,c1,_,d1,_,p1,rfl,rfl,h1,c2,_,d2,_,p2,rfl,rfl,h2,c3,_,d3,_,p3,rfl,rfl,h3,rfl,rfl⟩:=nB (fs:=_) underlying65 (by kernel_rfl) h
 obtain⟨x0,rfl,_⟩:=(D0 (by kernel_rfl)) m _ _ _ h0
 obtain⟨x1,rfl,_⟩:=(opn_int (by kernel_rfl)) m _ _ _ h1
 obtain⟨x2,rfl,_⟩:=(opn_int (by kernel_rfl)) m _ _ _ h2
 obtain⟨x3,⟨r3,rfl,o3⟩,q3⟩:=O4 m _ _ _ h3
 refine⟨⟨x0,x1,x2,x3⟩,⟨⟨r3⟩,rfl,⟨o3⟩⟩,?_⟩
 simp only[fI.hold,YtknehchipcogdaaGreatDoor.Rows.uptoBulk,YtknehchipcogdaaGreatDoor.Rows.uptoBulkAll]
 omega
def aw.hold(x:aw):Nat:=szL (λ_=>1) x.ey+szL (λ_=>1) x.aD+szL fI.hold x.dt+ai.hold x.aP+1
theorem Qy(n:Nat):Opn enc prog w base sp held 61 aw.rp aw.hold n:=by
 intro cs d ps h
 obtain⟨m,ds,rfl,rfl,c0,_,d0,_,p0,rfl,rfl,h0,c1,_,d1,_,p1,rfl,rfl,h1,c2,_,d2,_,p2,rfl,rfl,h2,c3,_,d3,_,p3,rfl,rfl,h3,c4,_,d4,_,p4,rfl,rfl,h4,c5,_,d5,_,p5,rfl,rfl,h5,rfl,rfl⟩:=nB (fs:=_) Rj (by kernel_rfl) h
 obtain⟨x0,rfl,_⟩:=(D0 (by kernel_rfl)) m _ _ _ h0
 obtain⟨b1,k1,x1,rfl,o1,q1⟩:=opn_slice Ri (by kernel_rfl) (by decide) (λk _=>(D0 (by kernel_rfl)) k) h1
 obtain⟨b2,k2,x2,rfl,o2,q2⟩:=opn_slice Ri (by kernel_rfl) (by decide) (λk _=>(D0 (by kernel_rfl)) k) h2
 obtain⟨b3,k3,x3,rfl,o3,q3⟩:=opn_slice MH (by kernel_rfl) (by decide) (λk _=>Un k) h3
 obtain⟨x4,⟨r4,rfl,o4⟩,q4⟩:=O4 m _ _ _ h4
 obtain⟨x5,rfl,_⟩:=(opn_int (by kernel_rfl)) m _ _ _ h5
 refine⟨⟨x0,x1,x2,x3,x4,x5⟩,⟨⟨b1,k1,b2,k2,b3,k3,r4⟩,rfl,⟨o1,o2,o3,o4⟩⟩,?_⟩
 simp only[aw.hold,YtknehchipcogdaaGreatDoor.Rows.uptoBulk,YtknehchipcogdaaGreatDoor.Rows.uptoBulkAll]
 omega
def aC.hold(x:aC):Nat:=aw.hold x.aw+1
theorem O3(n:Nat):Opn enc prog w base sp held 63 aC.rp aC.hold n:=by
 intro cs d ps h
 obtain⟨m,ds,rfl,rfl,c0,_,d0,_,p0,rfl,rfl,h0,c1,_,d1,_,p1,rfl,rfl,h1,c2,_,d2,_,p2,rfl,rfl,h2,c3,_,d3,_,p3,rfl,rfl,h3,rfl,rfl⟩:=nB (fs:=_) underlying63 (by kernel_rfl) h
 obtain⟨x0,rfl,_⟩:=(opn_int (by kernel_rfl)) m _ _ _ h0
 obtain⟨x1,rfl,_⟩:=(opn_int (by kernel_rfl)) m _ _ _ h1
 obtain⟨x2,rfl,_⟩:=(opn_int (by kernel_rfl)) m _ _ _ h2
 obtain⟨x3,⟨r3,rfl,o3⟩,q3⟩:=Qy m _ _ _ h3
 refine⟨⟨x0,x1,x2,x3⟩,⟨⟨r3⟩,rfl,⟨o3⟩⟩,?_⟩
 simp only[aC.hold,YtknehchipcogdaaGreatDoor.Rows.uptoBulk,YtknehchipcogdaaGreatDoor.Rows.uptoBulkAll]
 omega
def aj.hold(x:aj):Nat:=szL (λ_=>1) x.nz+szL (λ_=>1) x.eX+szL (λ_=>1) x.eQ+1
theorem Nl(n:Nat):Opn enc prog w base sp held 54 aj.rp aj.hold n:=by
 intro cs d ps h
 obtain⟨m,ds,rfl,rfl,c0,_,d0,_,p0,rfl,rfl,h0,c1,_,d1,_,p1,rfl,rfl,h1,c2,_,d2,_,p2,rfl,rfl,h2,c3,_,d3,_,p3,rfl,rfl,h3,c4,_,d4,_,p4,rfl,rfl,h4,c5,_,d5,_,p5,rfl,rfl,h5,c6,_,d6,_,p6,rfl,rfl,h6,c7,_,d7,_,p7,rfl,rfl,h7,c8,_,d8,_,p8,rfl,rfl,h8,c9,_,d9,_,p9,rfl,rfl,h9,rfl,rfl⟩:=nB (fs:=_) underlying54 (by kernel_rfl) h
 obtain⟨x0,rfl,_⟩:=(opn_int (by kernel_rfl)) m _ _ _ h0
 obtain⟨x1,rfl,_⟩:=(opn_int (by kernel_rfl)) m _ _ _ h1
 obtain⟨x2,rfl,_⟩:=(opn_int (by kernel_rfl)) m _ _ _ h2
 obtain⟨x3,rfl,_⟩:=(opn_int (by kernel_rfl)) m _ _ _ h3
 obtain⟨x4,rfl,_⟩:=(opn_int (by kernel_rfl)) m _ _ _ h4
 obtain⟨x5,rfl,_⟩:=(opn_int (by kernel_rfl)) m _ _ _ h5
 obtain⟨b6,k6,x6,rfl,o6,q6⟩:=opn_slice fm (by kernel_rfl) (by decide) (λk _=>(opn_int (by kernel_rfl)) k) h6
 obtain⟨b7,k7,x7,rfl,o7,q7⟩:=opn_slice fm (by kernel_rfl) (by decide) (λk _=>(opn_int (by kernel_rfl)) k) h7
 obtain⟨b8,k8,x8,rfl,o8,q8⟩:=opn_slice fm (by kernel_rfl) (by decide) (λk _=>(opn_int (by kernel_rfl)) k) h8
 obtain⟨x9,rfl⟩:=SJ underlying52 XG (by kernel_rfl) (by kernel_rfl) h9
 refine⟨⟨x0,x1,x2,x3,x4,x5,x6,x7,x8,x9⟩,⟨⟨b6,k6,b7,k7,b8,k8⟩,rfl,⟨o6,o7,o8⟩⟩,?_⟩
 simp only[aj.hold,YtknehchipcogdaaGreatDoor.Rows.uptoBulk,YtknehchipcogdaaGreatDoor.Rows.uptoBulkAll]
 omega
theorem Nm(n:Nat):Opn enc prog w base sp held 67 ae.rp (λ_=>1) n:=by
 intro cs d ps h
 obtain⟨m,ds,rfl,rfl,c0,_,d0,_,p0,rfl,rfl,h0,c1,_,d1,_,p1,rfl,rfl,h1,c2,_,d2,_,p2,rfl,rfl,h2,c3,_,d3,_,p3,rfl,rfl,h3,c4,_,d4,_,p4,rfl,rfl,h4,c5,_,d5,_,p5,rfl,rfl,h5,c6,_,d6,_,p6,rfl,rfl,h6,c7,_,d7,_,p7,rfl,rfl,h7,rfl,rfl⟩:=nB (fs:=_) underlying67 (by kernel_rfl) h
 obtain⟨x0,rfl,_⟩:=(opn_int (by kernel_rfl)) m _ _ _ h0
 obtain⟨x1,rfl,_⟩:=(opn_int (by kernel_rfl)) m _ _ _ h1
 obtain⟨x2,rfl,_⟩:=(opn_int (by kernel_rfl)) m _ _ _ h2
 obtain⟨x3,rfl,_⟩:=(opn_int (by kernel_rfl)) m _ _ _ h3
 obtain⟨x4,rfl,_⟩:=(opn_int (by kernel_rfl)) m _ _ _ h4
 obtain⟨x5,rfl,_⟩:=(opn_int (by kernel_rfl)) m _ _ _ h5
 obtain⟨x6,rfl,_⟩:=(opn_int (by kernel_rfl)) m _ _ _ h6
 obtain⟨x7,rfl,_⟩:=(xU (by kernel_rfl)) m _ _ _ h7
 exact⟨⟨x0,x1,x2,x3,x4,x5,x6,x7⟩,rfl,bulk_one _⟩
def Register.hold(x:Register):Nat:=szL (λ_=>1) x.fj+szL (λ_=>1) x.dY+szL (λ_=>1) x.gu+szL (λ_=>1) x.fF+szL aC.hold x.Versions+szL aj.hold x.cj+szL (λ_=>1) x.bS+1
theorem opn_Register(n:Nat):Opn enc prog w base sp held 30 Register.rp Register.hold n:=by
 intro cs d ps h
 obtain⟨m,ds,rfl,rfl,c0,_,d0,_,p0,rfl,rfl,h0,c1,_,d1,_,p1,rfl,rfl,h1,c2,_,d2,_,p2,rfl,rfl,h2,c3,_,d3,_,p3,rfl,rfl,h3,c4,_,d4,_,p4,rfl,rfl,h4,c5,_,d5,_,p5,rfl,rfl,h5,c6,_,d6,_,p6,rfl,rfl,h6,rfl,rfl⟩:=nB (fs:=_) TE (by kernel_rfl) h
 obtain⟨b0,k0,x0,rfl,o0,q0⟩:=opn_slice underlying22 (by kernel_rfl) (by decide) (λk _=>O5 k) h0
 obtain⟨b1,k1,x1,rfl,o1,q1⟩:=opn_slice ur (by kernel_rfl) (by decide) (λk _=>Qz k) h1
 obtain⟨b2,k2,x2,rfl,o2,q2⟩:=opn_slice Dn (by kernel_rfl) (by decide) (λk _=>Nk k) h2
 obtain⟨b3,k3,x3,rfl,o3,q3⟩:=opn_slice underlying25 (by kernel_rfl) (by decide) (λk _=>QA k) h3
 obtain⟨b4,k4,x4,rfl,o4,q4⟩:=opn_slice FA (by kernel_rfl) (by decide) (λk _=>O3 k) h4
 obtain⟨b5,k5,x5,rfl,o5,q5⟩:=opn_slice MG (by kernel_rfl) (by decide) (λk _=>Nl k) h5
 obtain⟨b6,k6,x6,rfl,o6,q6⟩:=opn_slice MF (by kernel_rfl) (by decide) (λk _=>Nm k) h6
 refine⟨⟨x0,x1,x2,x3,x4,x5,x6⟩,⟨⟨b0,k0,b1,k1,b2,k2,b3,k3,b4,k4,b5,k5,b6,k6⟩,rfl,⟨o0,o1,o2,o3,o4,o5,o6⟩⟩,?_⟩
 simp only[Register.hold,YtknehchipcogdaaGreatDoor.Rows.uptoBulk,YtknehchipcogdaaGreatDoor.Rows.uptoBulkAll]
 omega
theorem opn_Use(n:Nat):Opn enc prog w base sp held 226 Use.rp (λ_=>1) n:=by
 intro cs d ps h
 obtain⟨m,ds,rfl,rfl,c0,_,d0,_,p0,rfl,rfl,h0,c1,_,d1,_,p1,rfl,rfl,h1,c2,_,d2,_,p2,rfl,rfl,h2,c3,_,d3,_,p3,rfl,rfl,h3,c4,_,d4,_,p4,rfl,rfl,h4,rfl,rfl⟩:=nB (fs:=_) underlying226 (by kernel_rfl) h
 obtain⟨x0,rfl,_⟩:=(opn_int (by kernel_rfl)) m _ _ _ h0
 obtain⟨x1,rfl,_⟩:=(opn_int (by kernel_rfl)) m _ _ _ h1
 obtain⟨x2,rfl,_⟩:=(opn_int (by kernel_rfl)) m _ _ _ h2
 obtain⟨x3,rfl,_⟩:=(opn_int (by kernel_rfl)) m _ _ _ h3
 obtain⟨x4,rfl,_⟩:=(opn_int (by kernel_rfl)) m _ _ _ h4
 exact⟨⟨x0,x1,x2,x3,x4⟩,rfl,bulk_one _⟩
end openings
theorem Ww{p:aw}(h:aw.hold p<=1048576):smP p:=by
 unfold aw.hold ai.hold at h
 have h1:=szL_len (f:=λ_:ByteArray=>1) (λ_=>zE _) p.ey
 have h2:=szL_len (f:=λ_:ByteArray=>1) (λ_=>zE _) p.aD
 have h3:=szL_len (f:=fI.hold) (λx=>by unfold fI.hold;omega) p.dt
 refine⟨by omega,λr hr=>?_,by omega,by omega,by omega⟩
 have h4:=MN (f:=fI.hold) hr
 unfold fI.hold ai.hold at h4
 have:szL (λx=>fI.hold x) p.dt=szL fI.hold p.dt:=rfl
 unfold fI.hold ai.hold at this h
 omega
theorem Wv{l:List aC}(h:szL aC.hold l<=1048576):smV l:=by
 have h1:=szL_len (f:=aC.hold) (λx=>by unfold aC.hold;omega) l
 refine⟨by omega,λv hv=>Ww ?_⟩
 grind [aC.hold,MN,aw.hold]
theorem smR_of{r:Register}(h:Register.hold r<=1048576):smR r:=by
 unfold Register.hold at h
 have h1:=szL_len (f:=λ_:aA=>1) (λ_=>zE _) r.fj
 have h2:=szL_len (f:=λ_:aE=>1) (λ_=>zE _) r.dY
 have h3:=szL_len (f:=λ_:av=>1) (λ_=>zE _) r.gu
 have h4:=szL_len (f:=λ_:Budget=>1) (λ_=>zE _) r.fF
 have h5:=szL_len (f:=aj.hold) (λx=>by unfold aj.hold;omega) r.cj
 have h6:=szL_len (f:=λ_:ae=>1) (λ_=>zE _) r.bS
 exact⟨Wv (by omega),by omega,by omega,by omega,by omega,by omega,by omega⟩
end
variable {h hh:HF}
section
def Xm(P:Program)(f:FuncId)(X:Cx)(v:Value)(cs:List Frame)(Φ : Machine->Prop):Prop:=
 X.M=[]/\∀fr w',ZQ X.w0.heap.size X.w0 w'->fr.fn=f->fr.leaving P w' (.returned v)->To P Φ (lone fr cs w')
theorem P5{f:FuncId}(hp:Pre h [] w)(hf:P.funcs[f]? = some fn)(hb:fn.body=some c)(hn:fn.ntmps=n)(eT:YE args.length n=true)(t:∀X:Cx,X.M=([]:LH).map (·.1)->X.h0=h->TT P (bodyFrame f) n [.code c] (Xm P f X v) (envArgs args) [] X h []):Calls P f args.toArray w λe w'=>e=.returned v/\ZQ w.heap.size w w':=by
 intro cs
 have eT:=Nat.le_of_ble_eq_true eT
 have henter:xR P f args.toArray .normal=(bodyFrame f).atR { tmps:=args.toArray++X4 (n-args.length) undef,defers:=[] } [.code c]:=by
  simp[xR,Frame.atR,hf,hb,hn,bodyFrame]
 obtain⟨m',s,w',fr,rfl,h1,h2,h3⟩:=t ⟨w,h,[]⟩ rfl rfl w (St.start hp) { tmps:=args.toArray++X4 (n-args.length) undef,defers:=[] } cs
  (λm=>∃w' fr,m=lone fr cs w'/\ZQ w.heap.size w w'/\fr.fn=f/\fr.leaving P w' (.returned v)) (by simp;omega) (rk _ _) rfl
  ⟨rfl,λfr w' hb hfn hl=>.now ⟨w',fr,rfl,hb,hfn,hl⟩⟩
 refine⟨.returned v,w',fr,⟨rfl,h1⟩,?_,h2,h3⟩
 rw[henter];exact s
section ending
variable {P:Program} {f:FuncId} {n:Nat} {k:List Item} {e:Env} {X:Cx} {h:HF} {L:LH} {fn:Func}
theorem HQ{rs:List ResultVar}(vs:List Value)(hf:P.funcs[f]? = some fn)(hr:fn.results=rs.toArray)(_:X.h0=hh)(hv:qy P e L rs vs)(hvv:retVal vs=v):
  TT P (bodyFrame f) n (.code .ret::k) (Xm P f X v) e [] X h L:=by
 intro w hw a cs Φ hn he hds hF
 exact .step (stepR_ret rfl) (hF.2 _ w (hw.below hF.1) rfl ⟨rfl,hds,rfl,fn,hf,hvv▸oP hr hv a he w hw⟩)
end ending
end
variable {sp:Nat->Bool}
section
open Go.Proofs Go.Proofs.Tryz
theorem SV{ps rs:Array TypeId}{vd:Bool}{c:List Value}{b:UInt8}{r:List UInt8}{p:List MemPlace}(hE:P.underlying E=some (.func ps rs vd))(h:DataW.trod (funcToken P) P w 0 sp true m E c=some (.held (b::r),p)):∃f fn,c=[.func (.func f) #[] #[]]/\P.funcs[f]? = some fn/\P.funcNamed fn.name=some f/\fn.name.toUTF8.data.toList=b::r:=by
 cases m with
 |zero=>simp[DataW.trod]at h
 |succ m=>
  unfold DataW.trod at h
  rw[hE]at h
  split at h<;>try (simp_all;done)
  next fn fi ca _ _=>
   simp only[if_true,kN,Y8,DataW.held.injEq]at h
   obtain⟨f,g,e,h1,h2,h3⟩:=funcToken_tells h.1
   exact⟨f,g,by rw[e],h1,h2,h3⟩
theorem VP{k:FuncId}{g:Func}{f:FuncId}{l:List UInt8}(hg:P.funcNamed g.name=some k)(hl:g.name.toUTF8.data.toList=l)(h2:P.funcNamed fn.name=some f)(h3:fn.name.toUTF8.data.toList=l):f=k:=by
 have:fn.name=g.name:=bytes_inj (h3.trans hl.symm)
 rw[this,hg]at h2
 exact(Option.some.inj h2).symm
theorem TM{l:List α}{x:α}(h:(l.drop i).take 1=[x]):l[i]? = some x:=by
 have:=congrArg (·[0]?) h
 simpa using this
theorem kinds_of{W:World}(hL:laidMetH prog YtknehchipcogdaaGreatDoor.Rows.judgeSpecUptoRow.laid W):ey (hOf W):=by
 obtain⟨d, hd⟩ : ∃d, (YtknehchipcogdaaGreatDoor.Rows.laid_signatory_policies_kinds : DataW Unit) = .iface "func table" d := ⟨_, rfl⟩
 obtain⟨g,t,cs,fuel,p,hg,ht,hv,hr⟩:=hL.funcs (d:=d) (by rw[←hd];exact zB ..)
 unfold World.var? at hv
 rw[hg]at hv
 obtain rfl:g=0:=Option.some.inj (hg.symm.trans (by kernel_rfl))
 obtain rfl:t=381:=Option.some.inj (ht.symm.trans (by kernel_rfl))
 obtain⟨xs,m,_,hx,hl,hlen,hf⟩:=DataW.trod_array (n:=5) (e:=293) (by kernel_rfl) hr
 rw[show prog.cellsOf 381=5 by kernel_rfl]at hl
 rw[show prog.cellsOf 293=1 by kernel_rfl]at hf
 unfold YtknehchipcogdaaGreatDoor.Rows.laid_signatory_policies_kinds at hd
 cases hd
 simp only[DataW.funcsOut,DataW.funcsOutAll,Y8]at hx
 match xs,hlen with
 |[x0,x1,x2,x3,x4],_=>
  simp only[jG,List.map_nil,beq_self_eq_true,if_true,DataW.agg.injEq,List.cons.injEq,and_true]at hx
  have key:∀(i:Nat)(x:DataW (List UInt8)×List MemPlace)(b:UInt8)(r:List UInt8)(k:FuncId)(fk:Func),i<5->[x0,x1,x2,x3,x4][i]? = some x->DataW.held (b::r)=x.1->prog.funcNamed fk.name=some k->fk.name.toUTF8.data.toList=b::r->cs.toList[i]? = some (.func (.func k) #[] #[]):=by
   intro i x b r k fk hi hxi hb hk hn
   have h0:=hf i hi
   rw[hxi,Nat.mul_one]at h0
   obtain⟨f,fn,e,_,h2,h3⟩:=SV (P:=prog) (E:=293) underlying293 (h0.trans (show some x=some (DataW.held (b::r),x.2) by rw[hb]))
   obtain rfl:=VP hk hn h2 h3
   exact TM e
  obtain⟨⟨e0,e1,e2,e3,e4⟩,_⟩:=hx
  have k0:=key 0 x0 _ _ 442 Tryz.f442 (by omega) rfl e0 (by kernel_rfl) (by kernel_rfl)
  have k1:=key 1 x1 _ _ 443 Tryz.f443 (by omega) rfl e1 (by kernel_rfl) (by kernel_rfl)
  have k2:=key 2 x2 _ _ 444 Tryz.f444 (by omega) rfl e2 (by kernel_rfl) (by kernel_rfl)
  have k3:=key 3 x3 _ _ 445 Tryz.f445 (by omega) rfl e3 (by kernel_rfl) (by kernel_rfl)
  have k4:=key 4 x4 _ _ 446 Tryz.f446 (by omega) rfl e4 (by kernel_rfl) (by kernel_rfl)
  have hcs:cs=kindsC.toArray:=by
   apply Array.toList_inj.1
   apply YA
   intro i
   match i with
   |0=>exact k0
   |1=>exact k1
   |2=>exact k2
   |3=>exact k3
   |4=>exact k4
   |i+5=>rw[List.getElem?_eq_none (by omega)];rfl
  simp only[Option.bind_some]at hv
  split at hv
  .next c T fz e=>
   cases hv
   exact⟨T,fz,by rw[←hcs];exact e⟩
  .cases hv
end
section
open Go.ChangeShapes Go.WideShapes Go.RowKit
variable {H:Type} {enc:TypeId×Value->H} {P:Program}
theorem post_below{f:Func}{s:ChangeSpec}{apart fresh handsOn again:Bool}{W W':World}{args:Array Value}{ds gs:List (DataW H)}{before pa pv:List MemPlace}(hW:DataW.Whole enc P f.params.toList s.vars apart W args.toList ds gs before)(hres:∀(b:Nat)(sp:Nat->Bool)(hd:Bool),DataW.TrodAll enc P W' b sp hd f.resultTypes.toList (v.resultList f.resultTypes.size) (s.fn H (ds++gs)).results [])(hargs:∀sp:Nat->Bool,(∀p∈before,sp p.block=true)->DataW.TrodAll enc P W' 0 sp true f.params.toList args.toList (s.fn H (ds++gs)).args pa)(hvars:∀sp:Nat->Bool,(∀p∈before,sp p.block=true)->DataW.TrodVars enc P W' sp s.vars (s.fn H (ds++gs)).vars pv)(hps:before=pa++pv)(hb:Below W.heap.size W W')(hok:∀(j:Nat)(t:TypeId)(r:Value),f.resultTypes[j]? = some t->(v.resultList f.resultTypes.size)[j]? = some r->Value.okWide P W' .any 0 t r):
  s.post enc P f apart fresh handsOn again W args v W':=by
 have hlt:=hW.lt
 have hold:∀p∈before,(λb=>decide (b<W.heap.size)) p.block=true:=λp hp=>by simpa using hlt p hp
 refine⟨ds,gs,before,[],pa,pv,hW,hres _ _ _,hargs _ hold,hvars _ hold,World.keptBut_mono (λp hp=>⟨hp,?_⟩) (hb.frame (·∈before)),λ_=>?_⟩
 .rw[hps,qE]at hp
  exact Or.inr hp
 .obtain⟨_,_,_,_,_,hz,hn⟩:=hW
  refine⟨hok,_,_,([]++pa)++pv,⟨[]++pa,pv,trodAll_append (hargs _ (λ_ _=>rfl)) (hres _ _ _),hvars _ (λ_ _=>rfl),rfl,?_,?_⟩,?_⟩
  .intro b off hp
   have hp':MemPlace.cell b off∈before:=by rw[hps];simpa using hp
   rw[hb.frozen (p:=⟨b,off,none⟩) (hlt _ hp')]
   exact hz b off hp'
  .intro ha
   have:=hn ha
   rw[hps]at this
   simpa using this
  .intro p hp _
   rw[hps]
   simpa using hp
theorem stays{t:TypeId}(hl:laidOutB P=true)(hr:P.readableRec t=true)(hrow:decide (t<P.types.size)=true){W W':World}{d:DataW H}{before:List MemPlace}(h:DataW.Trod enc P W 0 (λ_=>true) true t v d ps)(hb:Below W.heap.size W W')(hlt:∀x∈before,x.block<W.heap.size)(hm:∀x∈ps,x∈before)(hsp:∀p∈before,sp p.block=true):DataW.Trod enc P W' 0 sp true t v d ps:=
 WideElems.Trod_stays hl hr (of_decide_eq_true hrow) h (λx hx=>hb.same (hlt x (hm x hx))) (λx hx=>hsp _ (hm x hx))
end
section
def agB(ops:Array Oper)(o:Oper)(t:Nat):Bool:=ops.toList.all λo'=>(o'.dst != some t)||(xF ops.size).all λi=>match ops[i]? with
 |some oi=>(oi.dst != o.dst)||o'.after.toList.any λed=>Yz .any ed&&ed.on==i
 |none=>true
theorem AgE.at_{o:Oper}(h:AgE ops o e e')(t:Nat)(hb:agB ops o t=true:=by rfl):e' t=e t:=by
 refine h t λo' ho' hd i hi=>?_
 have h1:=qP.1 hb o' (by simpa using ho')
 simp only[hd,bne_self_eq_false,Bool.false_or]at h1
 have h2:=qP.1 h1 i (List.mem_range.2 (Array.getElem?_eq_some_iff.1 hi).1)
 simp only[hi,bne_self_eq_false,Bool.false_or,List.any_eq_true,jA,beq_iff_eq]at h2
 obtain⟨ed,h3,h4,h5⟩:=h2
 exact⟨ed,by simpa using h3,h4,h5⟩
end
section
theorem bW.rep{α : Type}{R:Rp α}{h:HF}{z:Value}{x:α}(h1:R.sz=1)(hr:R.rep h [z] x):∀m,bW R h (List.replicate m z) (List.replicate m x)
 |0=>rfl
 |m+1=>⟨[z],List.replicate m z,by simp[List.replicate_succ],h1.symm▸rfl,hr,bW.rep h1 hr m⟩
section
variable {P:Program} {b:Frame} {n:Nat} {ops:Array Oper} {F:List Frame->(Machine->Prop)->Prop} {e:Env} {ds:List Deferred} {X:Cx} {h:HF} {L:LH} {K:Env->HF->LH->Prop}
variable {d:Option Nat} {ty:TypeId} {pos:String} {af:Array Edge} {g:Option (Nat×Bool)}
theorem T5{x0:α}(LL:LH->LH){t:TypeId}{ln cp:Operand}{yt:Nat}{z:Value}(h1:R.sz=1)(hr:R.rep h [z] x0)(hLL:∀G,L++G=LL G)(hT:P.underlying t=some (.slice E))(hz:zeroC P E=some [z])(hS:tySz P E=some (1,a))(hby:bytesOf P E=some yt)(hl:e.ev ln=.int .i64 (m:Nat))(hc:e.ev cp=.int .i64 (m:Nat))(hb:yt*m<=281474976710656)(h63:m<=9223372036854775807)(t':∀bk G,di R E h (List.replicate m x0) (some ⟨bk,0,none⟩) m G->K (pute e d (.slice (some ⟨bk,0,none⟩) (List.replicate m x0).length m)) h (LL G))(hg:guardB ops e ⟨d,.makeSlice t ln cp,ty,pos,af,g⟩=true:=by rfl):Stp P b n ops F ds X ⟨d,.makeSlice t ln cp,ty,pos,af,g⟩ e h L K:=
 kn hg λw hw=>by
  obtain⟨i,hi,hby'⟩:∃i,P.info? E=some i/\i.bytes=yt:=by
   unfold bytesOf at hby
   cases hi:P.info? E with
   |none=>simp[hi]at hby
   |some i=>exact⟨i,rfl,by simpa[hi]using hby⟩
  have hsz:i.size=1:=by
   have:=iP hS w
   simpa[sizeOf,typeInfo,hi]using this
  obtain⟨zv,hzz,hzc⟩:∃zv,i.zero=some zv/\zv.cells=#[z]:=by
   unfold zeroC at hz
   cases hzz:i.zero with
   |none=>simp[hi,hzz]at hz
   |some zv=>exact⟨zv,rfl,by simp[hi,hzz]at hz;rw[oh,hz]⟩
  have hr':=run_make (P:=P) w t E i zv hT hi hzz .i64 .i64 (m:Int) (m:Int) (by omega) (Int.le_refl _) (by rw[hby'];omega) (by omega)
  have hcells:madeCells zv.cells ((m:Int).toNat*i.size)=(List.replicate m z).toArray:=by
   rw[hzc,hsz]
   apply Array.ext
   .simp[madeCells]
   .intro j h1 h2;simp[madeCells,Nat.mod_one]
  rw[hcells]at hr'
  simp only[Int.toNat_natCast]at hr'
  have hG:di R E h (List.replicate m x0) (some ⟨w.heap.size,0,none⟩) m [(w.heap.size,.cells (List.replicate m z).toArray E (0,0))]:=di.lit (bW.rep h1 hr m) (by simp) (by simp;omega)
  have ht:=t' w.heap.size _ hG
  rw[←hLL,show(List.replicate m x0).length=m from List.length_replicate]at ht
  refine⟨_,_,h,_,?_,(hw.alloc (.cells (List.replicate m z).toArray E (0,0))).perm (zD (l₁:=[_])),ht⟩
  have e1:w.alloc (.cells (List.replicate m z).toArray E)={ w with heap:=w.heap.push (.cells (List.replicate m z).toArray E (0,0)) }:=rfl
  rw[e1]at hr'
  simp[execOp,hl,hc,hr']
end
theorem Sd{N:Nat}(h:i<N)(hb:N<=9223372036854775807):jC .i64 (IntKind.i64.wrap ((((N-i:Nat):Int)-1)-1))=.int .i64 (((N-(i+1):Nat):Int)-1):=by grind [nv]
section
variable {P:Program} {b:Frame} {n:Nat} {k:List Item} {F:List Frame->(Machine->Prop)->Prop} {e:Env} {ds:List Deferred} {X:Cx} {h:HF} {L:LH}
theorem lp4(xs:List α)(sl:Nat->γ->List (Nat×Value))(hh:γ->HF)(LL:γ->LH)(J JX:Nat->γ->Prop)(hJX:∀i g,i=xs.length->J i g->JX i g)(Lf:List α->Nat->γ->ρ)(g0:γ)(hb:xs.length<=9223372036854775807)(hs:x0=Lf xs 0 g0)(hJ:J 0 g0)(after:∀i g,i<=xs.length->x0=Lf [] i g->JX i g->∀e',TT P b n k F (upds e' (sl i g)) ds X (hh g) (LL g))(cons:∀i g y r,xs.drop i=y::r->decide ((i:Int)<(xs.length:Int))=true->xs[i]? = some y->i<xs.length->xs.length<=9223372036854775807->x0=Lf (y::r) i g->J i g ->
   (∀i' g' {e'},x0=Lf [] i' g'->JX i' g'->(hi:i'<=xs.length:=by omega)->(hr:fT e' (sl i' g'):=by exact rds)->TT P b n k F e' ds X (hh g') (LL g')) ->
   (∀g' {e'},x0=Lf r (i+1) g'->J (i+1) g'->(hr:fT e' (sl (i+1) g'):=by exact rds)->TT P b n (.inLoop c::.inBlock id::k) F e' ds X (hh g') (LL g')) ->
   ∀e',TT P b n (.code c::.inLoop c::.inBlock id::k) F (upds e' (sl i g)) ds X (hh g) (LL g))(nil:∀i g,xs.drop i=[]->decide ((i:Int)<(xs.length:Int))=false->(∀e',fT e' (sl i g)->TT P b n k F e' ds X (hh g) (LL g)) ->
   ∀e',TT P b n (.code c::.inLoop c::.inBlock id::k) F (upds e' (sl i g)) ds X (hh g) (LL g):=by exact ndA)(h0:fT e (sl 0 g0):=by exact rds)(hw:∀w,St X h L w->St X (hh g0) (LL g0) w:=by exact sws):
  TT P b n (.code (.block id (.loop c))::k) F e ds X h L:=by
 refine km (ι:=Nat×γ) (λi=>sl i.1 i.2) (λi=>hh i.2) (λi=>LL i.2) (λi=>i.1<=xs.length/\x0=Lf [] i.1 i.2/\JX i.1 i.2) ?_ (λhx=>?_)
 .grind
 .refine mL (ι:=Nat×γ×List α) (λi=>sl i.1 i.2.1) (λi=>hh i.2.1) (λi=>LL i.2.1) (λi=>xs.drop i.1=i.2.2/\i.1<=xs.length/\x0=Lf i.2.2 i.1 i.2.1/\J i.1 i.2.1) (λi=>i.2.2.length) (0,g0,xs) h0 hw ⟨rfl,kJ _,hs,hJ⟩ ?_
  rintro⟨i,g,s⟩ ⟨hd,hi,hs,hJ⟩ ag e'
  dsimp only at hd hi hs hJ
  rcases s with _|⟨y,r⟩
  .exact nil i g hd (rm hd) (λe'' hr=>hx (i,g) e'' ⟨hi,hs,hJX _ _ (Nat.le_antisymm hi (by rcases vR i xs.length with q|q;(rw[List.drop_eq_getElem_cons q]at hd;cases hd);exact q)) hJ⟩ hr) e'
  .exact cons i g y r hd (Bs hd) (sR hd) (kl hd) hb hs hJ (λi' g' e'' a b c d=>hx (i',g') e'' ⟨c,a,b⟩ d)
    (λg' e'' a b hr=>ag (i+1,g',r) e'' (Nat.lt_succ_self _) ⟨nl hd,kl hd,a,b⟩ hr) e'
end
end
variable {X:Cx}{b:Frame}{ds:List Deferred}{k:List Item}{q:List (Nat×Nat)}{s:Qs}
section
open Go.Proofs Go.Proofs.Tryz
theorem ty224:tySz prog 224=some (1,false):=kr
theorem ty280:tySz prog 280=some (1,false):=kr
theorem ty288:tySz prog 288=some (1,false):=kr
theorem ty325:tySz prog 325=some (2,true):=kr
theorem ty31:tySz prog 31=some (1,false):=kr
theorem ty351:tySz prog 351=some (1,false):=kr
theorem ty3:tySz prog 3=some (1,false):=kr
theorem zc325:zeroC prog 325=some [.int .i64 0,.int .i64 0]:=kr
theorem bytes325:bytesOf prog 325=some 16:=kr
theorem zc3:zeroC prog 3=some [.int .i64 0]:=kr
theorem bytes3:bytesOf prog 3=some 8:=kr
theorem zc37:zeroC prog 37=some [.int .i64 0]:=kr
theorem ty37:tySz prog 37=some (1,false):=kr
theorem zc375:zeroC prog 375=some [.int .i64 0]:=kr
theorem ty375:tySz prog 375=some (1,true):=kr
theorem UU:fldOf prog 375 0=some 0:=kr
theorem ty329:tySz prog 329=some (2,true):=kr
theorem ty327:tySz prog 327=some (1,false):=kr
theorem ty326:tySz prog 326=some (1,false):=kr
theorem ty330:tySz prog 330=some (1,false):=kr
theorem ty78:tySz prog 78=some (7,true):=kr
theorem ty24:tySz prog 24=some (1,false):=kr
theorem ty4:tySz prog 4=some (1,false):=kr
theorem ty26:tySz prog 26=some (1,false):=kr
theorem zc329:zeroC prog 329=some [.slice none 0 0,.int .i64 0]:=kr
theorem zc78:zeroC prog 78=some [.int .i64 0,.int .i64 0,.int .i64 0,.int .i64 0,.int .i64 0,.bool false,.bool false]:=kr
theorem zc326:zeroC prog 326=some [.map none]:=kr
theorem zc224:zeroC prog 224=some [.map none]:=kr
theorem zc327:zeroC prog 327=some [.chan none]:=kr
theorem zc330:zeroC prog 330=some [.nilFunc]:=kr
theorem zc31:zeroC prog 31=some [.slice none 0 0]:=kr
theorem zv4:zeroV prog 4=some (.bool false):=kr
theorem zv24:zeroV prog 24=some (.slice none 0 0):=kr
theorem zv329:zeroV prog 329=some (.agg (vB [.slice none 0 0,.int .i64 0])):=kr
theorem bytes78:bytesOf prog 78=some 48:=kr
theorem bytes329:bytesOf prog 329=some 32:=kr
theorem UV:fldOf prog 329 0=some 0:=kr
theorem VV:fldOf prog 78 0=some 0:=kr
theorem R6:fldOf prog 78 3=some 3:=kr
theorem VU:fldOf prog 78 4=some 4:=kr
theorem UW:fldOf prog 284 1=some 1:=kr
theorem ty275:tySz prog 275=some (2,true):=kr
theorem zc275:zeroC prog 275=some [.slice none 0 0,.int .i64 0]:=kr
theorem bytes275:bytesOf prog 275=some 32:=kr
theorem PP:fldOf prog 275 1=some 1:=kr
theorem zc218:zeroC prog 218=some [.slice none 0 0,.map none,.slice none 0 0,.slice none 0 0,.slice none 0 0,.map none]:=kr
theorem ty153:tySz prog 153=some (1,false):=kr
theorem zc153:zeroC prog 153=some [.pointer none]:=kr
theorem ty133:tySz prog 133=some (1,false):=kr
theorem ty168:tySz prog 168=some (1,false):=kr
theorem ty54:tySz prog 54=some (41,true):=kr
theorem zc54:zeroC prog 54=some (.int .i64 0::.int .i64 0::.int .i64 0::.int .i64 0::.int .i64 0::.int .i64 0::.slice none 0 0::.slice none 0 0::.slice none 0 0::.int .u8 0::.int .u8 0::.int .u8 0::.int .u8 0::.int .u8 0::.int .u8 0::.int .u8 0::.int .u8 0::.int .u8 0::.int .u8 0::.int .u8 0::.int .u8 0::.int .u8 0::.int .u8 0::.int .u8 0::.int .u8 0::.int .u8 0::.int .u8 0::.int .u8 0::.int .u8 0::.int .u8 0::.int .u8 0::.int .u8 0::.int .u8 0::.int .u8 0::.int .u8 0::.int .u8 0::.int .u8 0::.int .u8 0::.int .u8 0::.int .u8 0::.int .u8 0::[]):=kr
theorem ty183:tySz prog 183=some (1,false):=kr
theorem bytes4:bytesOf prog 4=some 1:=kr
theorem UX:fldOf prog 218 3=some 4:=kr
theorem VY:fldOf prog 54 7=some 7:=kr
theorem VX:fldOf prog 54 8=some 8:=kr
theorem El:fldOf prog 36 0=some 0:=kr
theorem R7:fldOf prog 36 1=some 1:=kr
theorem V2:fldOf prog 36 2=some 2:=kr
theorem Ek:fldOf prog 36 3=some 3:=kr
theorem Hv:fldOf prog 94 0=some 0:=kr
theorem Hu:fldOf prog 94 1=some 1:=kr
theorem ty36:tySz prog 36=some (4,true):=kr
theorem ty94:tySz prog 94=some (2,true):=kr
theorem ty33:tySz prog 33=some (1,false):=kr
theorem ty91:tySz prog 91=some (50,true):=kr
theorem ty25:tySz prog 25=some (1,false):=kr
theorem ty32:tySz prog 32=some (1,false):=kr
theorem ty61:tySz prog 61=some (10,true):=kr
theorem zc36:zeroC prog 36=some [.int .i64 0,.int .i64 0,.slice none 0 0,.slice none 0 0]:=kr
theorem zc94:zeroC prog 94=some [.int .i64 0,.nilFunc]:=kr
theorem zc91:zeroC prog 91=some (.slice none 0 0::.slice none 0 0::.slice none 0 0::.slice none 0 0::.slice none 0 0::.slice none 0 0::.slice none 0 0::.int .i64 0::.int .i64 0::.int .i64 0::.int .i64 0::.int .i64 0::.int .i64 0::.slice none 0 0::.slice none 0 0::.slice none 0 0::.int .u8 0::.int .u8 0::.int .u8 0::.int .u8 0::.int .u8 0::.int .u8 0::.int .u8 0::.int .u8 0::.int .u8 0::.int .u8 0::.int .u8 0::.int .u8 0::.int .u8 0::.int .u8 0::.int .u8 0::.int .u8 0::.int .u8 0::.int .u8 0::.int .u8 0::.int .u8 0::.int .u8 0::.int .u8 0::.int .u8 0::.int .u8 0::.int .u8 0::.int .u8 0::.int .u8 0::.int .u8 0::.int .u8 0::.int .u8 0::.int .u8 0::.int .u8 0::.int .i64 0::.int .i64 0::[]):=kr
theorem zc61:zeroC prog 61=some [.string (⟨#[]⟩:ByteArray),.slice none 0 0,.slice none 0 0,.slice none 0 0,.int .i64 0,.int .i64 0,.int .i64 0,.string (⟨#[]⟩:ByteArray),.slice none 0 0,.int .i64 0]:=kr
theorem zc4:zeroC prog 4=some [.bool false]:=kr
theorem R8:fldOf prog 30 3=some 3:=kr
theorem V5:fldOf prog 30 4=some 4:=kr
theorem V4:fldOf prog 30 5=some 5:=kr
theorem VT:fldOf prog 91 0=some 0:=kr
theorem NR:fldOf prog 91 1=some 7:=kr
theorem VS:fldOf prog 91 2=some 48:=kr
theorem VR:fldOf prog 91 3=some 49:=kr
theorem V1:fldOf prog 54 1=some 1:=kr
theorem V0:fldOf prog 54 2=some 2:=kr
theorem VZ:fldOf prog 54 3=some 3:=kr
theorem VW:fldOf prog 76 2=some 2:=kr
theorem ty76:tySz prog 76=some (7,true):=kr
theorem zc76:zeroC prog 76=some [.int .i64 0,.int .i64 0,.int .i64 0,.int .i64 0,.int .i64 0,.int .i64 0,.bool false]:=kr
theorem ty150:tySz prog 150=some (10,true):=kr
theorem zc150:zeroC prog 150=some [.int .i64 0,.int .i64 0,.int .i64 0,.int .i64 0,.int .i64 0,.int .i64 0,.int .i64 0,.int .i64 0,.int .i64 0,.bool false]:=kr
theorem ty81:tySz prog 81=some (8,true):=kr
theorem zc81:zeroC prog 81=some [.int .i64 0,.int .i64 0,.int .i64 0,.int .i64 0,.int .i64 0,.int .i64 0,.int .i64 0,.bool false]:=kr
theorem ty59:tySz prog 59=some (5,true):=kr
theorem zc316:zeroC prog 316=some [.int .i64 0,.int .i64 0,.int .i64 0,.string (⟨#[]⟩:ByteArray),.slice none 0 0,.int .i64 0]:=kr
theorem ty57:tySz prog 57=some (1,false):=kr
theorem zc59:zeroC prog 59=some [.int .i64 0,.int .i64 0,.int .i64 0,.string (⟨#[]⟩:ByteArray),.slice none 0 0]:=kr
theorem ty316:tySz prog 316=some (6,true):=kr
theorem ty56:tySz prog 56=some (1,false):=kr
theorem ty65:tySz prog 65=some (8,true):=kr
theorem zc65:zeroC prog 65=some [.string (⟨#[]⟩:ByteArray),.int .i64 0,.int .i64 0,.int .i64 0,.int .i64 0,.int .i64 0,.string (⟨#[]⟩:ByteArray),.slice none 0 0]:=kr
theorem bytes59:bytesOf prog 59=some 64:=kr
theorem ty55:tySz prog 55=some (1,false):=kr
theorem ty9:tySz prog 9=some (1,false):=kr
theorem zc57:zeroC prog 57=some [.slice none 0 0]:=kr
theorem ty293:tySz prog 293=some (1,false):=kr
theorem bytes65:bytesOf prog 65=some 96:=kr
theorem ty63:tySz prog 63=some (13,true):=kr
theorem zc63:zeroC prog 63=some [.int .i64 0,.int .i64 0,.int .i64 0,.string (⟨#[]⟩:ByteArray),.slice none 0 0,.slice none 0 0,.slice none 0 0,.int .i64 0,.int .i64 0,.int .i64 0,.string (⟨#[]⟩:ByteArray),.slice none 0 0,.int .i64 0]:=kr
theorem zv3:zeroV prog 3=some (.int .i64 0):=kr
theorem ty67:tySz prog 67=some (8,true):=kr
theorem zc67:zeroC prog 67=some [.int .i64 0,.int .i64 0,.int .i64 0,.int .i64 0,.int .i64 0,.int .i64 0,.int .i64 0,.bool false]:=kr
theorem ty22:tySz prog 22=some (1,false):=kr
theorem ty23:tySz prog 23=some (1,false):=kr
theorem ty27:tySz prog 27=some (1,false):=kr
theorem ty28:tySz prog 28=some (1,false):=kr
theorem ty30:tySz prog 30=some (7,true):=kr
theorem zv76:zeroV prog 76=some (.agg (vB [.int .i64 0,.int .i64 0,.int .i64 0,.int .i64 0,.int .i64 0,.int .i64 0,.bool false])):=kr
theorem zc28:zeroC prog 28=some [.slice none 0 0]:=kr
theorem zc391:zeroC prog 391=some [.map none]:=kr
theorem ty391:tySz prog 391=some (1,false):=kr
theorem zv67:zeroV prog 67=some (.agg (vB [.int .i64 0,.int .i64 0,.int .i64 0,.int .i64 0,.int .i64 0,.int .i64 0,.int .i64 0,.bool false])):=kr
theorem eqg67:prog.eqGuardType prog.depth 67=false:=kr
theorem bytes67:bytesOf prog 67=some 64:=kr
theorem bytes150:bytesOf prog 150=some 80:=kr
theorem ty398:tySz prog 398=some (1,false):=kr
theorem zc400:zeroC prog 400=some [.int .i64 0,.int .i64 0,.int .i64 0,.int .i64 0]:=kr
theorem zv150:zeroV prog 150=some (.agg (vB [.int .i64 0,.int .i64 0,.int .i64 0,.int .i64 0,.int .i64 0,.int .i64 0,.int .i64 0,.int .i64 0,.int .i64 0,.bool false])):=kr
theorem eqg150:prog.eqGuardType prog.depth 150=false:=kr
theorem ty178:tySz prog 178=some (1,false):=kr
theorem ty341:tySz prog 341=some (5,true):=kr
theorem zc178:zeroC prog 178=some [.nilFunc]:=kr
theorem zc398:zeroC prog 398=some [.map none]:=kr
theorem ty400:tySz prog 400=some (4,true):=kr
theorem zc341:zeroC prog 341=some [.int .i64 0,.int .i64 0,.int .i64 0,.int .i64 0,.int .i64 0]:=kr
theorem zv78:zeroV prog 78=some (.agg (vB [.int .i64 0,.int .i64 0,.int .i64 0,.int .i64 0,.int .i64 0,.bool false,.bool false])):=kr
theorem eqg78:prog.eqGuardType prog.depth 78=false:=kr
theorem zv31:zeroV prog 31=some (.slice none 0 0):=kr
theorem zv81:zeroV prog 81=some (.agg (vB [.int .i64 0,.int .i64 0,.int .i64 0,.int .i64 0,.int .i64 0,.int .i64 0,.int .i64 0,.bool false])):=kr
theorem eqg81:prog.eqGuardType prog.depth 81=false:=kr
theorem zv63:zeroV prog 63=some (.agg (vB [.int .i64 0,.int .i64 0,.int .i64 0,.string (⟨#[]⟩:ByteArray),.slice none 0 0,.slice none 0 0,.slice none 0 0,.int .i64 0,.int .i64 0,.int .i64 0,.string (⟨#[]⟩:ByteArray),.slice none 0 0,.int .i64 0])):=kr
theorem zc26:zeroC prog 26=some [.slice none 0 0]:=kr
theorem bytes63:bytesOf prog 63=some 184:=kr
theorem zv237:zeroV prog 237=some (.nilFunc):=kr
theorem zc284:zeroC prog 284=some [.int .i64 0,.int .i64 0]:=kr
theorem ty284:tySz prog 284=some (2,true):=kr
theorem ty241:tySz prog 241=some (1,false):=kr
theorem ty292:tySz prog 292=some (3,true):=kr
theorem zc409:zeroC prog 409=some [.nilFunc]:=kr
theorem ty409:tySz prog 409=some (1,false):=kr
theorem zc360:zeroC prog 360=some [.nilFunc,.nilFunc,.nilFunc,.nilFunc,.nilFunc]:=kr
theorem ty359:tySz prog 359=some (1,false):=kr
theorem ty360:tySz prog 360=some (5,true):=kr
theorem zc241:zeroC prog 241=some [.slice none 0 0]:=kr
theorem bytes241:bytesOf prog 241=some 24:=kr
theorem zc9:zeroC prog 9=some [.string (⟨#[]⟩:ByteArray)]:=kr
theorem zc30:zeroC prog 30=some [.slice none 0 0,.slice none 0 0,.slice none 0 0,.slice none 0 0,.slice none 0 0,.slice none 0 0,.slice none 0 0]:=kr
def yc(x:hZ)(h:HF)(vs:List Go.Value):Prop:=∃(r0:za),vs=[.agg (hZ.cells x r0).toArray]/\hZ.ok h x r0
theorem xd(x:hZ)(h:HF)(vs:List Go.Value)(e:yc x h vs):vs.length=1:=by
 obtain⟨_,e,_⟩:=e;rw[e];rfl
def Ba(x:(Int×Int))(h:HF)(vs:List Go.Value):Prop:=vs=[.int .i64 x.1,.int .i64 x.2]
theorem zu(x:(Int×Int))(h:HF)(vs:List Go.Value)(e:Ba x h vs):vs.length=2:=by
 rw[e];rfl
def rW(x:ae)(h:HF)(vs:List Go.Value):Prop:=vs=[.agg (ae.cells x).toArray]
theorem qn(x:ae)(h:HF)(vs:List Go.Value)(e:rW x h vs):vs.length=1:=by
 rw[e];rfl
def vr(x:aE)(h:HF)(vs:List Go.Value):Prop:=vs=[.agg (aE.cells x).toArray]
theorem Jj(x:aE)(h:HF)(vs:List Go.Value)(e:vr x h vs):vs.length=1:=by
 rw[e];rfl
def yR(x:av)(h:HF)(vs:List Go.Value):Prop:=vs=[.agg (av.cells x).toArray]
theorem yd(x:av)(h:HF)(vs:List Go.Value)(e:yR x h vs):vs.length=1:=by
 rw[e];rfl
def BS(x:Int)(h:HF)(vs:List Go.Value):Prop:=vs=[.int .i64 x]
theorem AZ(x:Int)(h:HF)(vs:List Go.Value)(e:BS x h vs):vs.length=1:=by
 rw[e];rfl
def tX(x:(Int×aC))(h:HF)(vs:List Go.Value):Prop:=∃(r0:px),vs=[.int .i64 x.1,.agg (aC.cells x.2 r0).toArray]/\aC.ok h x.2 r0
theorem ul(x:(Int×aC))(h:HF)(vs:List Go.Value)(e:tX x h vs):vs.length=2:=by
 obtain⟨_,e,_⟩:=e;rw[e];rfl
def rg(x:aV)(h:HF)(vs:List Go.Value):Prop:=vs=[.agg (aV.cells x).toArray]
theorem Bb(x:aV)(h:HF)(vs:List Go.Value)(e:rg x h vs):vs.length=1:=by
 rw[e];rfl
theorem NV(a b:ae)(w:World):(Op.equal 67 (ae.enc a) (ae.enc b)).run prog w=.ok (decide (a=b)) w:=
 ux underlying67 (by kernel_rfl) (by kernel_rfl) (by rw[jF];cases a;cases b;simp[eqv,nth,ae.cells]) w
theorem NS(a b:av)(w:World):(Op.equal 78 (av.enc a) (av.enc b)).run prog w=.ok (decide (a=b)) w:=
 ux underlying78 (by kernel_rfl) (by kernel_rfl) (by rw[jF];cases a;cases b;simp[eqv,nth,av.cells]) w
theorem QT(a b:Budget)(w:World):(Op.equal 81 (Budget.enc a) (Budget.enc b)).run prog w=.ok (decide (a=b)) w:=
 ux underlying81 (by kernel_rfl) (by kernel_rfl) (by rw[jF];cases a;cases b;simp[eqv,nth,Budget.cells]) w
theorem QS(a b:aE)(w:World):(Op.equal 150 (aE.enc a) (aE.enc b)).run prog w=.ok (decide (a=b)) w:=
 ux underlying150 (by kernel_rfl) (by kernel_rfl) (by rw[jF];cases a;cases b;simp[eqv,nth,aE.cells]) w
theorem QU(a b:ig)(w:World):(Op.equal 229 (ig.enc a) (ig.enc b)).run prog w=.ok (decide (a=b)) w:=
 ux underlying229 (by kernel_rfl) (by kernel_rfl) (by rw[jF];cases a;cases b;simp[eqv,nth,ig.cells]) w
theorem Pd:zb prog 229 ig.enc:=AU underlying229 (λe a w=>vg e underlying229 (by kernel_rfl) w) QU (λa=>by
 show Instr.sameBits (9999+1) _ _=true
 simp[Instr.sameBits,ig.enc,ig.cells])
theorem SZ(a b:OSeat)(w:World):(Op.equal 325 (jS a) (jS b)).run prog w=.ok (decide (a=b)) w:=
 ux Rh (by kernel_rfl) (by kernel_rfl) (by rw[jF];cases a;cases b;simp[eqv,nth,jE]) w
theorem Jc:zb prog 325 jS:=AU Rh (λe a w=>vg e Rh (by kernel_rfl) w) SZ (λa=>by
 show Instr.sameBits (9999+1) _ _=true
 simp[Instr.sameBits,jS,jE])
theorem NT(a b:dX)(w:World):(Op.equal 386 (dX.enc a) (dX.enc b)).run prog w=.ok (decide (a=b)) w:=
 ux underlying386 (by kernel_rfl) (by kernel_rfl) (by rw[jF];cases a;cases b;simp[eqv,nth,dX.cells]) w
theorem KT:zb prog 386 dX.enc:=AU underlying386 (λe a w=>vg e underlying386 (by kernel_rfl) w) NT (λa=>by
 show Instr.sameBits (9999+1) _ _=true
 simp[Instr.sameBits,dX.enc,dX.cells])
theorem NW(a b:eY)(w:World):(Op.equal 395 (eY.enc a) (eY.enc b)).run prog w=.ok (decide (a=b)) w:=
 ux underlying395 (by kernel_rfl) (by kernel_rfl) (by rw[jF];cases a;cases b;simp[eqv,nth,eY.cells]) w
theorem pC:zb prog 395 eY.enc:=AU underlying395 (λe a w=>vg e underlying395 (by kernel_rfl) w) NW (λa=>by
 show Instr.sameBits (9999+1) _ _=true
 simp[Instr.sameBits,eY.enc,eY.cells])
theorem NU(a b:ea)(w:World):(Op.equal 400 (ea.enc a) (ea.enc b)).run prog w=.ok (decide (a=b)) w:=
 ux TC (by kernel_rfl) (by kernel_rfl) (by rw[jF];cases a;cases b;simp[eqv,nth,ea.cells]) w
theorem w8:zb prog 400 ea.enc:=AU TC (λe a w=>vg e TC (by kernel_rfl) w) NU (λa=>by
 show Instr.sameBits (9999+1) _ _=true
 simp[Instr.sameBits,ea.enc,ea.cells])
def tabF:List (Nat×Nat×Nat):=(375,0,0)::(329,0,0)::(329,1,1)::(78,0,0)::(78,3,3)::(78,4,4)::(78,5,5)::(284,1,1)::(275,0,0)::(275,1,1)::(218,0,0)::(218,1,2)::(218,2,3)::(218,3,4)::(218,4,5)::(185,0,0)::(185,1,1)::(54,0,0)::(54,7,7)::(54,8,8)::(36,0,0)::(36,1,1)::(36,2,2)::(36,3,3)::(94,0,0)::(94,1,1)::(30,3,3)::(30,4,4)::(30,5,5)::(91,0,0)::(91,1,7)::(91,2,48)::(91,3,49)::(54,1,1)::(54,2,2)::(54,3,3)::(115,0,0)::(115,1,1)::(115,2,2)::(115,3,3)::(115,4,4)::(76,6,6)::(76,0,0)::(76,1,1)::(76,2,2)::(76,3,3)::(76,4,4)::(76,5,5)::(150,0,0)::(150,1,1)::(150,2,2)::(150,4,4)::(150,5,5)::(150,6,6)::(150,7,7)::(150,9,9)::(150,3,3)::(150,8,8)::(78,1,1)::(78,2,2)::(81,7,7)::(81,0,0)::(81,1,1)::(81,2,2)::(81,3,3)::(81,4,4)::(81,5,5)::(81,6,6)::(59,4,4)::(61,3,3)::(65,3,3)::(61,4,4)::(61,2,2)::(61,1,1)::(316,1,5)::(59,0,0)::(61,0,0)::(316,0,0)::(59,3,3)::(59,1,1)::(61,5,9)::(65,0,0)::(65,2,2)::(59,2,2)::(65,1,1)::(63,0,0)::(63,1,1)::(63,2,2)::(63,3,3)::(54,4,4)::(54,5,5)::(54,6,6)::(67,0,0)::(67,1,1)::(67,2,2)::(67,3,3)::(67,4,4)::(67,5,5)::(67,6,6)::(30,0,0)::(30,1,1)::(30,2,2)::(30,6,6)::(67,7,7)::(341,0,0)::(341,1,1)::(341,2,2)::(341,3,3)::(341,4,4)::(78,6,6)::(226,0,0)::(226,1,1)::(226,2,2)::(226,3,3)::(226,4,4)::(325,1,1)::(325,0,0)::(284,0,0)::(292,1,1)::(292,2,2)::(292,0,0)::(69,0,0)::(69,1,1)::[]
def tabY:List Nat:=224::280::288::31::351::3::37::327::326::330::24::4::26::256::153::133::168::183::33::25::32::93::195::44::199::240::382::57::56::55::9::293::22::23::27::28::391::398::178::384::241::409::359::130::[]
def tabS:List Nat:=22::23::24::25::26::27::28::31::32::44::55::56::57::97::110::125::168::195::199::240::241::272::351::[]
theorem tabs:tabOk prog tabF tabY tabS=true:=kr
theorem qK(m:Nat)(is:List Nat){F:List Frame->(Machine->Prop)->Prop}{L:LH}(hr:runL tabF tabY tabS n L m is (.tt k e)=some (s,q))(t:s.holds prog b n F ds X h L)(hq:Wc q:=by repeat (first|exact trivial|refine⟨rfl,?_⟩)):TT prog b n k F e ds X h L:=uy tabs m is _ hr hq t
theorem qL(m:Nat)(is:List Nat){F:List Frame->(Machine->Prop)->Prop}{L:LH}(hr:runL tabF tabY tabS n L m is (.to ops l k e)=some (s,q))(t:s.holds prog b n F ds X h L)(hq:Wc q:=by repeat (first|exact trivial|refine⟨rfl,?_⟩)):TO prog b n ops l k F e ds X h L:=uy tabs m is _ hr hq t
theorem tabsF:(tabF.all λx=>fldOf prog x.1 x.2.1==some x.2.2)=true:=kr
theorem qB(is:List Nat){h1:HF}{K:LH}{F:List Frame->(Machine->Prop)->Prop}{L:LH}(hr:runB tabF l is m dn e=some (m',dn',e'))(t:TA prog b n l.toArray k F ds X (Jst h1 K) m' dn' e' h L)(hsep:sepAll l.toArray=true:=by assumption)(hJ:Jst h1 K h L:=by exact jn)(hn:allNext l is dn=true:=by kernel_rfl):TA prog b n l.toArray k F ds X (Jst h1 K) m dn e h L:=MV tabsF hsep hJ is m dn e hr hn t
theorem mixed:prog.follows .mixedOrders=true:=kr
end
variable {K S:List Nat}{Lf:List α->Nat->γ->ρ}{ac:γ->List (Nat×Go.Value)}{base:Option Addr}{cap ix:Nat}{cl:List Go.Value}{f':ρ->Go.Value}{fz:Nat×Nat}{g0:γ}{gd:Bool}{h' h00 h2:HF}{it:Go.Value}{o:Operand}{parts:Array (Nat×Operand)}{pe:Int->Go.Value}{tS:List (Nat×Bool)}{u:TypeId}{val:α->HF->List Go.Value->Prop}{xs:List α}{y:α}{β:Type}
section
def lookN{β : Type}:List (Nat×β)->Nat->Option β
 |[],_=>none
 |(a,b)::l,t=>bif kV a t then some b else lookN l t
theorem tabq{β : Type}{f:Nat->Option β}:∀{tab:List (Nat×β)},tab.map (λx=>f x.1)=tab.map (λx=>some x.2)->∀{t:Nat}{v:β},lookN tab t=some v->f t=some v
 |[],_,t,v,h=>by cases h
 |(a,b)::l,hm,t,v,h=>by
  unfold lookN at h
  simp only[jG,List.cons.injEq]at hm
  cases hb:kV a t with
  |true=>rw[hb]at h;cases h;rw[←xL hb];exact hm.1
  |false=>rw[hb]at h;exact tabq hm.2 h
def sliceE(P:Program)(t:Nat):Option Nat:=match P.underlying t with
 |some (.slice E)=>some E
 |_=>none
theorem nC{t E:Nat}(h:sliceE P t=some E):P.underlying t=some (.slice E):=by grind [sliceE]
def lenK(P:Program)(t:Nat):Option Bool:=match P.underlying t with
 |some (.slice _)=>some true
 |some .string=>some false
 |_=>none
theorem WL{t:Nat}(h:lenK P t=some true):∃E,P.underlying t=some (.slice E):=by grind [lenK]
theorem Uw{t:Nat}(h:lenK P t=some false):P.underlying t=some .string:=by grind [lenK]
def valM(tF:List (Nat×Nat×Nat))(tS:List (Nat×Bool))(e:Env):Op->Option Value
 |.fieldAddr s x i=>match e.ev x,look3 tF s i with
  |.pointer (some a),some off=>some (.pointer (some (a.add off)))
  |_,_=>none
 |.call ⟨.builtin .len,⟨[x]⟩,⟨[t]⟩⟩=>match e.ev x,lookN tS t with
  |.slice _ m' _,some true=>some (.int .i64 (m':Int))
  |.string s,some false=>some (.int .i64 (s.size:Int))
  |_,_=>none
 |.nilCheck x=>match e.ev x with
  |.pointer (some a)=>some (.pointer (some a))
  |_=>none
 |op=>opQ e op
def isPick:Op->Bool
 |.pick _ _ _=>true
 |_=>false
def exL(id:Nat):List Item->Bool
 |.inBlock j::k=>match kV j id with
  |true=>false
  |false=>exL id k
 |.inLoop _::_=>true
 |_::k=>exL id k
 |[]=>false
def stepM(gd:Bool)(tF:List (Nat×Nat×Nat))(tS:List (Nat×Bool))(n:Nat):Qs->Option Qs
 |.tt (.code .skip::k) e=>some (.tt k e)
 |.tt (.code (.seq x y)::k) e=>some (.tt (.code x::.code y::k) e)
 |.tt (.code (.block id c)::k) e=>match c with
  |.loop _=>none
  |c=>some (.tt (.code c::.inBlock id::k) e)
 |.tt (.inBlock _::k) e=>some (.tt k e)
 |.tt (.code (.exit id)::k) e=>match exL id k with
  |true=>none
  |false=>match exitTo id k with
   |some k'=>some (.tt k' e)
   |none=>none
 |.tt (.code (.region _ ⟨l⟩ false)::k) e=>some (.to ⟨l⟩ l k e)
 |.tt _ _=>none
 |.to _ [] k e=>some (.tt k e)
 |.to ops (⟨some d,op,ty,pos,af,g⟩::l) k e=>match kH d n with
  |false=>none
  |true=>match gd||(g.isNone&&!isPick op)with
   |false=>none
   |true=>match guardB ops e ⟨some d,op,ty,pos,af,g⟩with
    |false=>some (.to ops l k (upd e d undef))
    |true=>match valM tF tS e op with
     |some v=>some (.to ops l k (upd e d v))
     |none=>none
 |.to _ _ _ _=>none
def runM(tF:List (Nat×Nat×Nat))(tS:List (Nat×Bool))(n:Nat):Nat->Qs->Qs
 |0,s=>s
 |m+1,s=>match stepM false tF tS n s with
  |some s'=>runM tF tS n m s'
  |none=>s
def goM(gd:Bool)(tF:List (Nat×Nat×Nat))(tS:List (Nat×Bool))(n:Nat)(m:Nat)(s:Qs):Option Qs:=match stepM gd tF tS n s with
 |some s'=>some (runM tF tS n m s')
 |none=>none
section
variable {P:Program} {b:Frame} {n:Nat} {F:List Frame->(Machine->Prop)->Prop} {ds:List Deferred} {X:Cx} {h:HF} {L:LH}
theorem ME(hF:(tF.all λx=>fldOf P x.1 x.2.1==some x.2.2)=true)(hS:tS.map (λx=>lenK P x.1)=tS.map (λx=>some x.2))(hv:valM tF tS e op=some v):
  noDefer op=true/\∀(d:Option Nat)(ty:TypeId)(pos:String)(af:Array Edge)(g:Option (Nat×Bool))w,St X h L w->(execOp e.ev ⟨d,op,ty,pos,af,g⟩).run P w=.ok (.value v) w:=by
 unfold valM at hv
 split at hv
 .split at hv
  .next hx hl=>cases hv;exact⟨rfl,λ_ _ _ _ _ w hw=>AL (by simpa using(qP.1 hF) _ (BR hl)) hx w hw⟩
  .cases hv
 .split at hv
  .next hx hl=>cases hv;exact⟨rfl,λ_ _ _ _ _ w hw=>let ⟨_,hu⟩:=WL (tabq hS hl);LG hu hx w hw⟩
  .next hx hl=>cases hv;exact⟨rfl,λ_ _ _ _ _ w hw=>WA (Uw (tabq hS hl)) hx w hw⟩
  .cases hv
 .split at hv
  .next hx=>cases hv;exact⟨rfl,λ_ _ _ _ _ w hw=>gK hx w hw⟩
  .cases hv
 .exact⟨(E1 (P:=P) hv).1,λ_ _ _ _ _ w _=>(E1 hv).2 _ _ _ _ _ w⟩
theorem Oy(hF:(tF.all λx=>fldOf P x.1 x.2.1==some x.2.2)=true)(hS:tS.map (λx=>lenK P x.1)=tS.map (λx=>some x.2)){s':Qs}(hs:stepM gd tF tS n s=some s')(t:s'.holds P b n F ds X h L):s.holds P b n F ds X h L:=by
 unfold stepM at hs
 split at hs
 .cases hs;exact jf t
 .cases hs;exact eI t
 .grind [nI]
 .cases hs;exact gU t
 .grind [jI]
 .cases hs;exact cB t
 .cases hs
 .cases hs;exact ck t
 .split at hs
  .cases hs
  .next hd=>
   split at hs
   .cases hs
   .split at hs
    .next hg=>cases hs;exact I5 t hd hg
    .next hg=>
     split at hs
     .next v hv=>cases hs;exact vp v (ME (X:=X) (h:=h) (L:=L) hF hS hv).1 ((ME hF hS hv).2 _ _ _ _ _) hd hg t
     .cases hs
 .cases hs
theorem Rz{tF:List (Nat×Nat×Nat)}{tS:List (Nat×Bool)}(hF:(tF.all λx=>fldOf P x.1 x.2.1==some x.2.2)=true)(hS:tS.map (λx=>lenK P x.1)=tS.map (λx=>some x.2)):∀(m:Nat)(s:Qs),(runM tF tS n m s).holds P b n F ds X h L->s.holds P b n F ds X h L
 |0,_,t=>t
 |m+1,s,t=>by
  unfold runM at t
  split at t
  .next hs=>exact Oy hF hS hs (Rz hF hS m _ t)
  .exact t
theorem Jp(hF:(tF.all λx=>fldOf P x.1 x.2.1==some x.2.2)=true)(hS:tS.map (λx=>lenK P x.1)=tS.map (λx=>some x.2)){s':Qs}(hs:goM gd tF tS n m s=some s')(t:s'.holds P b n F ds X h L):s.holds P b n F ds X h L:=by
 unfold goM at hs
 split at hs
 .next h1=>cases hs;exact Oy hF hS h1 (Rz hF hS m _ t)
 .cases hs
end
def ldV(a:Bool)(m:Nat)(cl:List Value)(off:Nat):Option Value:=match a with
 |false=>nth cl off
 |true=>match cut cl off m with
  |some cs=>some (.agg cs.toArray)
  |none=>none
def chainE(s:Nat):List Oper->Nat×List Nat×Nat×List Oper
 |[]=>(0,[],0,[])
 |⟨some d,.pick (.tmp c) x y,_,_,_,_⟩::l=>bif kV c s then(1,[d],d,l)else match chainE s l with
  |(m,S,z,r)=>(m+1,d::S,z,r)
 |⟨some d,_,_,_,_,_⟩::l=>match chainE s l with
  |(m,S,z,r)=>(m+1,d::S,z,r)
 |⟨none,_,_,_,_,_⟩::l=>match chainE s l with
  |(m,S,z,r)=>(m+1,S,z,r)
def chainO(ops:Array Oper)(w:Bool):List Oper->Option (Nat×Nat×List Nat×Nat×List Oper)
 |⟨a,b,c,d,f,some (j,w')⟩::l=>bif w==w' then match(ops[j]?).bind (·.dst)with
  |some s=>match chainE s (⟨a,b,c,d,f,some (j,w')⟩::l)with
   |(m,S,z,r)=>some (s,m,s::S,z,r)
  |none=>none
  else none
 |_=>none
section
variable {P:Program} {b:Frame} {n:Nat} {k:List Item} {F:List Frame->(Machine->Prop)->Prop} {e:Env} {ds:List Deferred} {X:Cx} {h:HF} {L:LH}
theorem wor{r:List Oper}{s d:Nat}{x:Bool}(y:Bool)(hc:chainO ops false l=some (s,m,S,d,r))(hx:e s=.bool x)(hr:l.drop m=r)(t':x=false->(∀e',e' d=.bool y->(ha:Agr S e e':=by repeat (first|exact sy|refine uK rfl ?_|refine uL rfl ?_))->TO P b n ops r k F e' ds X h L)->TO P b n ops l k F (upd e s (.bool false)) ds X h L)(hk:∀e'',TO P b n ops r k F (upd (mix S e'' e) d (.bool (x||y))) ds X h L)(hq:∃e2,runQ n m (.to ops l k (upd e s (.bool true)))=some (.to ops (l.drop m) k e2)/\e2 d=.bool true/\Agr S e e2:=by exact⟨_,rfl,rfl,by repeat (first|exact sy|refine uK rfl ?_|refine uL rfl ?_)⟩):TO P b n ops l k F e ds X h L:=by
 subst hr
 exact pH m S s d y hx t' hk hq
theorem wand{r:List Oper}{s d:Nat}{x:Bool}(y:Bool)(hc:chainO ops true l=some (s,m,S,d,r))(hx:e s=.bool x)(hr:l.drop m=r)(t':x=true->(∀e',e' d=.bool y->(ha:Agr S e e':=by repeat (first|exact sy|refine uK rfl ?_|refine uL rfl ?_))->TO P b n ops r k F e' ds X h L)->TO P b n ops l k F (upd e s (.bool true)) ds X h L)(hk:∀e'',TO P b n ops r k F (upd (mix S e'' e) d (.bool (x&&y))) ds X h L)(hq:∃e2,runQ n m (.to ops l k (upd e s (.bool false)))=some (.to ops (l.drop m) k e2)/\e2 d=.bool false/\Agr S e e2:=by exact⟨_,rfl,rfl,by repeat (first|exact sy|refine uK rfl ?_|refine uL rfl ?_)⟩):TO P b n ops l k F e ds X h L:=by
 subst hr
 exact pF m S s d y hx t' hk hq
theorem wcond{x z:α}{c:Bool}{p q:Code}(hx:e.ev o=.bool c)(hs:x=bif c then y else z)(t1:c=true->x=y->TT P b n (.code p::k) F e ds X h L)(t2:c=false->x=z->TT P b n (.code q::k) F e ds X h L):TT P b n (.code (.cond o p q)::k) F e ds X h L:=dy hs hx t1 t2
end
theorem rdd(h:p:=by first|exact trivial|exact⟨rfl,trivial⟩|exact⟨rfl,rfl,trivial⟩|exact⟨rfl,rfl,rfl,trivial⟩|exact⟨rfl,rfl,rfl,rfl,trivial⟩|exact⟨rfl,rfl,rfl,rfl,rfl,trivial⟩|((repeat (first|exact trivial|refine⟨rfl,?_⟩|fail));all_goals fail)|fail):p:=h
section
variable {P:Program} {f:FuncId} {n:Nat} {k:List Item} {e:Env} {X:Cx} {h:HF} {L:LH} {fn:Func} {rs:List ResultVar} {φ : Value->HF->Prop}
theorem wrP(vs:List Value)(hf:P.funcs[f]? = some fn)(hr:fn.results=rs.toArray)(hv:qy P e L rs vs)(hX:X.h0=hh)(hvv:retVal vs=v):
  TT P (bodyFrame f) n (.code .ret::k) (lJ P X (λx h' B=>x=.returned v/\h'=hh/\B=[])) e [] X h L:=wk vs hf hr hX hv hvv
theorem wrH(vs:List Value)(hf:P.funcs[f]? = some fn)(hr:fn.results=rs.toArray)(hv:qy P e L rs vs)(hφ : φ (retVal vs) h):
  TT P (bodyFrame f) n (.code .ret::k) (lJ P X (λx h' B=>B=[]/\∃v,x=.returned v/\φ v h')) e [] X h L:=mK vs hf hr hv hφ
theorem weX{z:Except Int ρ}{r:ρ}(hs:z=.ok r)(vs:List Value)(hf:P.funcs[f]? = some fn)(hr:fn.results=rs.toArray)(hX:X.h0=hh)(hv:qy P e L rs vs)(hvv:retVal vs=f' r):
  TT P (bodyFrame f) n [] (lJ P X (XR (exW pe f' z) hh)) e [] X h L:=ke (MI [] vs hf hr hX hv (by rw[hs,hvv];rfl))
end
theorem leA(h:p:=by first|exact HF.le_refl _|assumption|((repeat (first|exact HF.le_refl _|assumption|refine HF.le_trans ?_ (by assumption)|fail));all_goals fail)|fail):p:=h
theorem wcT{F:List Frame->(Machine->Prop)->Prop}{L:LH}{p q:Code}{c:Bool}(hx:e.ev o=.bool c)(hc:c=true)(t:TT P b n (.code p::k) F e ds X h L):TT P b n (.code (.cond o p q)::k) F e ds X h L:=by grind [rM]
theorem wcF{F:List Frame->(Machine->Prop)->Prop}{L:LH}{p q:Code}{c:Bool}(hx:e.ev o=.bool c)(hc:c=false)(t:TT P b n (.code q::k) F e ds X h L):TT P b n (.code (.cond o p q)::k) F e ds X h L:=by grind [pj]
theorem wsb{F:List Frame->(Machine->Prop)->Prop}{L:LH}(t:TT P b n k F e ds X h L')(hs:L'.Sublist L)(eT:h.le h2)(hX:X.h0=h00)(h0:h00.le h):TT P b n k F e ds X h2 L:=by grind [Rm,ek]
theorem wso{F:List Frame->(Machine->Prop)->Prop}{L:LH}(t:TO P b n ops l k F e ds X h L')(hs:L'.Sublist L)(eT:h.le h2)(hX:X.h0=h00)(h0:h00.le h):TO P b n ops l k F e ds X h2 L:=by grind [Hl,Ws]
theorem jsA{K L:LH}(hs:K.Sublist L:=by first|exact List.Sublist.refl _|((repeat (first|exact List.Sublist.refl _|exact List.nil_sublist _|exact List.sublist_append_left _ _|exact List.sublist_append_right _ _|refine List.Sublist.append_left ?_ _|refine List.Sublist.cons_cons _ ?_|refine List.Sublist.cons _ ?_|fail));all_goals fail)|fail):K.Sublist L:=hs
theorem rdw(h:p:=by first|((repeat (first|exact trivial|refine⟨rfl,?_⟩|refine⟨NX ob,?_⟩|refine⟨nv ob,?_⟩|fail));all_goals fail)|fail):p:=h
def litC(e:Env):List (Nat×Operand)->List Value
 |[]=>[]
 |(_,x)::l=>vcells (e.ev x)++litC e l
theorem cNi:bW R h [] []:=rfl
theorem cCo{cs rest:List Value}{x:α}(hr:R.rep h cs x)(hl:cs.length=R.sz)(ht:bW R h rest xs):bW R h (cs++rest) (x::xs):=⟨cs,rest,rfl,hl,hr,ht⟩
theorem slL{bk T:Nat}(hb:h bk=some (.cells cl.toArray T fz))(hl:h.le h')(hc:bW R h' cl xs)(eT:xs.length<=9223372036854775807:=by simp)(hcap:xs.length<=cap:=by simp):SlC R h' (some ⟨bk,0,none⟩) cap xs:=bW.slB0 hc (hl _ _ hb) eT hcap
def litB(pl:List (Nat×Nat))(e:Env):List (Nat×Operand)->List Value->List Value
 |[],zs=>zs
 |(i,x)::l,zs=>match nth pl i with
  |some (off,_)=>litB pl e l (splice zs off (vcells (e.ev x)))
  |none=>litB pl e l zs
def plcs(P:Program)(t:Nat):Option (List (Nat×Nat)):=match P.underlying t with
 |some (.struct fs)=>fs.toList.mapM λf=>(P.info? f.type).map λi=>(f.offset,i.size)
 |_=>none
theorem LT{α β : Type}{f:α->Option β}:∀{l:List α}{r:List β},l.mapM f=some r->l.map f=r.map some
 |[],r,h=>by simp at h;subst h;rfl
 |a::l,r,h=>by
  simp only[List.mapM_cons,Option.bind_eq_bind,Option.bind_eq_some_iff]at h
  obtain⟨b,hb,t,ht,hr⟩:=h
  cases hr
  rw[jG,hb,LT ht];rfl
theorem VE{t:Nat}{pl:List (Nat×Nat)}(h:plcs P t=some pl):∃fs,P.underlying t=some (.struct fs)/\fs.toList.map (λf=>(P.info? f.type).map λi=>(f.offset,i.size))=pl.map some:=by grind [plcs,LT]
def kp(e:Env):List Nat->List (Nat×Value)
 |[]=>[]
 |s::K=>(s,e s)::kp e K
theorem tz{e:Env}:∀{K:List Nat}{r:List (Nat×Value)},fT e r->fT e (kp e K++r)
 |[],_,h=>h
 |_::_,_,h=>⟨rfl,tz h⟩
def H0{α ρ : Type}(K:List Nat)(ix:Nat)(Lf:List α->Nat->ρ):Prop:=True
theorem h0(K:List Nat)(ix:Nat)(Lf:List α->Nat->ρ):H0 K ix Lf:=trivial
def H1{α ρ γ : Type}(K:List Nat)(ix:Nat)(ac:γ->List (Nat×Value))(Lf:List α->Nat->γ->ρ):Prop:=True
theorem h1(K:List Nat)(ix:Nat)(ac:γ->List (Nat×Value))(Lf:List α->Nat->γ->ρ):H1 K ix ac Lf:=trivial
theorem hs0{Lf:List α->Nat->ρ}(H:H0 K ix Lf)(hs:x0=Lf xs 0):H0 K ix Lf/\x0=Lf xs 0:=⟨H,hs⟩
theorem hs1(g0:γ)(H:H1 K ix ac Lf)(hs:x0=Lf xs 0 g0):H1 K ix ac Lf/\x0=Lf xs 0 g0:=⟨H,hs⟩
section
variable {P:Program} {b:Frame} {n:Nat} {k:List Item} {F:List Frame->(Machine->Prop)->Prop} {e:Env} {ds:List Deferred} {X:Cx} {h:HF} {L:LH}
theorem lpk0{Lf:List α->Nat->ρ}(H:H0 K ix Lf/\x0=Lf xs 0)(hb:xs.length<=9223372036854775807)(hi0:e ix=.int .i64 ((0:Nat):Int))(after:∀i,i<=xs.length->x0=Lf [] i->∀e',TT P b n k F (upds e' (kp e K++[(ix,.int .i64 (i:Int))])) ds X h L)(cons:∀i y r,xs.drop i=y::r->decide ((i:Int)<(xs.length:Int))=true->xs[i]? = some y->i<xs.length->xs.length<=9223372036854775807->x0=Lf (y::r) i ->
   (∀i' {e'},x0=Lf [] i'->(hi:i'<=xs.length:=by omega)->(hr:fT e' (kp e K++[(ix,.int .i64 (i':Int))]):=by exact rds)->TT P b n k F e' ds X h L) ->
   (∀{e'},x0=Lf r (i+1)->(hr:fT e' (kp e K++[(ix,.int .i64 ((i+1:Nat):Int))]):=by exact rds)->TT P b n (.inLoop c::.inBlock id::k) F e' ds X h L) ->
   ∀e',TT P b n (.code c::.inLoop c::.inBlock id::k) F (upds e' (kp e K++[(ix,.int .i64 (i:Int))])) ds X h L)(nil:∀i,xs.drop i=[]->decide ((i:Int)<(xs.length:Int))=false->(∀e',fT e' (kp e K++[(ix,.int .i64 (i:Int))])->TT P b n k F e' ds X h L) ->
   ∀e',TT P b n (.code c::.inLoop c::.inBlock id::k) F (upds e' (kp e K++[(ix,.int .i64 (i:Int))])) ds X h L:=by exact ndW):
  TT P b n (.code (.block id (.loop c))::k) F e ds X h L:=
 lp0 xs (λi=>kp e K++[(ix,.int .i64 (i:Int))]) L Lf hb H.2 after cons nil (tz ⟨hi0,trivial⟩) (λ_ hw=>hw)
theorem lpk1(H:H1 K ix ac Lf/\x0=Lf xs 0 g0)(hb:xs.length<=9223372036854775807)(hi0:fT e ((ix,.int .i64 ((0:Nat):Int))::ac g0))(after:∀i g,i<=xs.length->x0=Lf [] i g->∀e',TT P b n k F (upds e' (kp e K++((ix,.int .i64 (i:Int))::ac g))) ds X h L)(cons:∀i g y r,xs.drop i=y::r->decide ((i:Int)<(xs.length:Int))=true->xs[i]? = some y->i<xs.length->xs.length<=9223372036854775807->x0=Lf (y::r) i g ->
   (∀i' g' {e'},x0=Lf [] i' g'->(hi:i'<=xs.length:=by omega)->(hr:fT e' (kp e K++((ix,.int .i64 (i':Int))::ac g')):=by exact rds)->TT P b n k F e' ds X h L) ->
   (∀g' {e'},x0=Lf r (i+1) g'->(hr:fT e' (kp e K++((ix,.int .i64 ((i+1:Nat):Int))::ac g')):=by exact rds)->TT P b n (.inLoop c::.inBlock id::k) F e' ds X h L) ->
   ∀e',TT P b n (.code c::.inLoop c::.inBlock id::k) F (upds e' (kp e K++((ix,.int .i64 (i:Int))::ac g))) ds X h L)(nil:∀i g,xs.drop i=[]->decide ((i:Int)<(xs.length:Int))=false->(∀e',fT e' (kp e K++((ix,.int .i64 (i:Int))::ac g))->TT P b n k F e' ds X h L) ->
   ∀e',TT P b n (.code c::.inLoop c::.inBlock id::k) F (upds e' (kp e K++((ix,.int .i64 (i:Int))::ac g))) ds X h L:=by exact ndW):
  TT P b n (.code (.block id (.loop c))::k) F e ds X h L:=
 lp1 xs (λi g=>kp e K++((ix,.int .i64 (i:Int))::ac g)) L Lf g0 hb H.2 after cons nil (tz hi0) (λ_ hw=>hw)
end
section
variable {P:Program} {b:Frame} {n:Nat} {k:List Item} {F:List Frame->(Machine->Prop)->Prop} {e:Env} {ds:List Deferred} {X:Cx} {h:HF} {L:LH}
theorem lpn0{N:Nat}{Lf:List Nat->Nat->ρ}(H:H0 K ix Lf/\x0=Lf (xF N) 0)(hb:N<=9223372036854775807)(hi0:e ix=.int .i64 ((0:Nat):Int))(after:∀i,i<=N->x0=Lf [] i->∀e',TT P b n k F (upds e' (kp e K++[(ix,.int .i64 (i:Int))])) ds X h L)(cons:∀i r,(List.range N).drop i=i::r->decide ((i:Int)<(N:Int))=true->i<N->x0=Lf (i::r) i ->
   (∀i' {e'},x0=Lf [] i'->(hi:i'<=N:=by omega)->(hr:fT e' (kp e K++[(ix,.int .i64 (i':Int))]):=by exact rds)->TT P b n k F e' ds X h L) ->
   (∀{e'},x0=Lf r (i+1)->(hr:fT e' (kp e K++[(ix,.int .i64 ((i+1:Nat):Int))]):=by exact rds)->TT P b n (.inLoop c::.inBlock id::k) F e' ds X h L) ->
   ∀e',TT P b n (.code c::.inLoop c::.inBlock id::k) F (upds e' (kp e K++[(ix,.int .i64 (i:Int))])) ds X h L)(nil:∀i,i=N->decide ((i:Int)<(N:Int))=false->(∀e',fT e' (kp e K++[(ix,.int .i64 (i:Int))])->TT P b n k F e' ds X h L) ->
   ∀e',TT P b n (.code c::.inLoop c::.inBlock id::k) F (upds e' (kp e K++[(ix,.int .i64 (i:Int))])) ds X h L:=by exact ndW):
  TT P b n (.code (.block id (.loop c))::k) F e ds X h L:=by
 have hl:(xF N).length=N:=List.length_range
 refine km (ι:=Nat) (λi=>kp e K++[(ix,.int .i64 (i:Int))]) (λ_=>h) (λ_=>L) (λi=>i<=N/\x0=Lf [] i) ?_ (λhx=>?_)
 .grind
 .refine mL (ι:=Nat×List Nat) (λi=>kp e K++[(ix,.int .i64 (i.1:Int))]) (λ_=>h) (λ_=>L) (λi=>(xF N).drop i.1=i.2/\i.1<=N/\x0=Lf i.2 i.1) (λi=>i.2.length) (0,xF N) (tz ⟨hi0,trivial⟩) (λ_ hw=>hw) ⟨rfl,kJ _,H.2⟩ ?_
  rintro⟨i,s⟩ ⟨hd,hi,hs⟩ ag e'
  dsimp only at hd hi hs
  rcases s with _|⟨y,r⟩
  .grind
  .have h1:=kl hd
   rw[hl]at h1
   have h2:=sR hd
   have h3:y=i:=by simp[h1]at h2;omega
   subst h3
   exact cons y r hd (by simp;omega) h1 hs (λi' e'' a c d=>hx i' e'' ⟨c,a⟩ d) (λ{e''}a hr=>ag (y+1,r) e'' (Nat.lt_succ_self _) ⟨nl hd,h1,a⟩ hr) e'
end
class RpG{α : Type}(R:Rp α):Prop where
 good:R.Good
instance:RpG Rp.int:=⟨Rp.fR⟩
instance:RpG Rp.bool:=⟨Rp.Fv⟩
instance:RpG Rp.str:=⟨Rp.TS⟩
instance {α : Type} {R:Rp α} [i:RpG R]:RpG (Rp.sl R):=⟨Rp.Rt i.good.mono⟩
theorem mnG[i:RpG R]:R.Mono:=i.good.mono
theorem grm[i:RpG R](g:di R E h xs base cap G)(hl:h.le h'):di R E h' xs base cap G:=g.mono i.good.mono hl
section
variable {α : Type} {G Q A B L:List α} {x:α}
theorem pm0:(Q++G).Perm (Q++G):=List.Perm.refl _
theorem pmg:G.Perm ([]++G):=List.Perm.refl _
theorem pmn:L.Perm (L++[]):=by rw[List.append_nil]
theorem pmc(p:L.Perm (Q++G)):(x::L).Perm ((x::Q)++G):=List.Perm.cons x p
theorem pma(p:B.Perm (Q++G)):(A++B).Perm ((A++Q)++G):=by rw[zC];exact List.Perm.append_left A p
theorem pmb(p:A.Perm (Q++G)):(A++B).Perm ((Q++B)++G):=(List.Perm.append_right B p).trans (by rw[zC,zC];exact List.Perm.append_left Q zD)
theorem pm1{z:α}(p:L.Perm (Q++[])):(z::L).Perm (Q++[z]):=(List.Perm.cons z (by simpa using p)).trans (zD (l₁:=[z]))
end
theorem pmA{L M:List α}(p:L.Perm M:=by first|exact pmn|exact pm0|exact pmg|exact pmc pm0|exact pmc pmg|exact pma pm0|exact pma pmg|exact pmb pm0|exact pmb pmg|exact pmc (pmc pm0)|exact pmc (pmc pmg)|exact pmc (pma pm0)|exact pmc (pma pmg)|exact pmc (pmb pm0)|exact pmc (pmb pmg)|exact pma (pmc pm0)|exact pma (pmc pmg)|exact pma (pma pm0)|exact pma (pma pmg)|exact pma (pmb pm0)|exact pma (pmb pmg)|exact pmc (pmc (pmc pm0))|exact pmc (pmc (pmc pmg))|exact pmc (pmc (pma pm0))|exact pmc (pmc (pma pmg))|exact pmc (pmc (pmb pm0))|exact pmc (pmc (pmb pmg))|exact pmc (pma (pmc pm0))|exact pmc (pma (pmc pmg))|exact pmc (pma (pma pm0))|exact pmc (pma (pma pmg))|exact pmc (pma (pmb pm0))|exact pmc (pma (pmb pmg))|exact pmc (pmc (pmc (pmc pm0)))|exact pmc (pmc (pmc (pmc pmg)))|exact pmc (pmc (pmc (pma pm0)))|exact pmc (pmc (pmc (pma pmg)))|exact pmc (pmc (pmc (pmb pm0)))|exact pmc (pmc (pmc (pmb pmg)))|exact pmc (pmc (pma (pmc pm0)))|exact pmc (pmc (pma (pmc pmg)))|exact pmc (pmc (pma (pma pm0)))|exact pmc (pmc (pma (pma pmg)))|exact pmc (pmc (pma (pmb pm0)))|exact pmc (pmc (pma (pmb pmg)))|exact pm1 pmn|exact pmc (pm1 pmn)|fail):L.Perm M:=p
def HG{α β ρ : Type}(K:List Nat)(ix sl:Nat)(R:Rp β)(E:Nat)(Lf:List α->Nat->List β->ρ):Prop:=True
theorem hsG{sl:Nat}{R:Rp β}{E:Nat}{Lf:List α->Nat->List β->ρ}{g0:List β}(H:HG K ix sl R E Lf)(hs:x0=Lf xs 0 g0):HG K ix sl R E Lf/\x0=Lf xs 0 g0:=⟨H,hs⟩
theorem hG(K:List Nat)(ix sl:Nat)(R:Rp β)(E:Nat)(Lf:List α->Nat->List β->ρ):HG K ix sl R E Lf:=trivial
section
variable {P:Program} {b:Frame} {n:Nat} {k:List Item} {F:List Frame->(Machine->Prop)->Prop} {e:Env} {ds:List Deferred} {X:Cx} {h:HF} {L:LH}
theorem lpkG{sl:Nat}{R:Rp β}{E:Nat}{Lf:List α->Nat->List β->ρ}{g0:List β}{G0 Q:LH}(H:HG K ix sl R E Lf/\x0=Lf xs 0 g0)(hb:xs.length<=9223372036854775807)(hi0:fT e [(ix,.int .i64 ((0:Nat):Int)),(sl,.slice base g0.length cap)])(hG:di R E h g0 base cap G0)(hp:L.Perm (Q++G0))(after:∀i l bs cp G hh,i<=xs.length->x0=Lf [] i l->h.le hh->di R E hh l bs cp G->l.length<=g0.length+i->∀e',TT P b n k F (upds e' (kp e K++[(ix,.int .i64 (i:Int)),(sl,.slice bs l.length cp)])) ds X hh (Q++G))(cons:∀i l bs cp G hh y r,xs.drop i=y::r->decide ((i:Int)<(xs.length:Int))=true->xs[i]? = some y->i<xs.length->xs.length<=9223372036854775807->x0=Lf (y::r) i l->h.le hh->di R E hh l bs cp G->l.length<=g0.length+i ->
   (∀i' {l' bs' cp' G' hh' e'},x0=Lf [] i' l'->di R E hh' l' bs' cp' G'->h.le hh'->l'.length<=g0.length+i'->(hi:i'<=xs.length:=by omega)->(hr:fT e' (kp e K++[(ix,.int .i64 (i':Int)),(sl,.slice bs' l'.length cp')]):=by exact rds)->TT P b n k F e' ds X hh' (Q++G')) ->
   (∀{l' bs' cp' G' hh' e'},x0=Lf r (i+1) l'->di R E hh' l' bs' cp' G'->h.le hh'->l'.length<=g0.length+(i+1)->(hr:fT e' (kp e K++[(ix,.int .i64 ((i+1:Nat):Int)),(sl,.slice bs' l'.length cp')]):=by exact rds)->TT P b n (.inLoop c::.inBlock id::k) F e' ds X hh' (Q++G')) ->
   ∀e',TT P b n (.code c::.inLoop c::.inBlock id::k) F (upds e' (kp e K++[(ix,.int .i64 (i:Int)),(sl,.slice bs l.length cp)])) ds X hh (Q++G))(nil:∀i(g:List β×Option Addr×Nat×LH×HF),xs.drop i=[]->decide ((i:Int)<(xs.length:Int))=false->(∀e',fT e' (kp e K++[(ix,.int .i64 (i:Int)),(sl,.slice g.2.1 g.1.length g.2.2.1)])->TT P b n k F e' ds X g.2.2.2.2 (Q++g.2.2.2.1)) ->
   ∀e',TT P b n (.code c::.inLoop c::.inBlock id::k) F (upds e' (kp e K++[(ix,.int .i64 (i:Int)),(sl,.slice g.2.1 g.1.length g.2.2.1)])) ds X g.2.2.2.2 (Q++g.2.2.2.1):=by exact ndW):
  TT P b n (.code (.block id (.loop c))::k) F e ds X h L:=by
 refine jy hp (lp2 (γ:=List β×Option Addr×Nat×LH×HF) xs (λi g=>kp e K++[(ix,.int .i64 (i:Int)),(sl,.slice g.2.1 g.1.length g.2.2.1)]) (λg=>g.2.2.2.2) (λg=>Q++g.2.2.2.1)
  (λi g=>h.le g.2.2.2.2/\di R E g.2.2.2.2 g.1 g.2.1 g.2.2.1 g.2.2.2.1/\g.1.length<=g0.length+i) (λs i g=>Lf s i g.1) (g0,base,cap,G0,h) hb H.2 ⟨vF _,hG,Nat.le_add_right _ _⟩ ?_ ?_ nil (tz hi0) (λ_ hw=>hw))
 .grind
 .rintro i ⟨l,bs,cp,G,hh⟩ y r a1 a2 a3 a4 a5 a6 ⟨h3,h4,h5⟩ hx ag e'
  exact cons i l bs cp G hh y r a1 a2 a3 a4 a5 a6 h3 h4 h5 (λi' {l' bs' cp' G' hh' _}q1 q2 q3 q4 q5 q6=>hx i' (l',bs',cp',G',hh') q1 ⟨q3,q2,q4⟩ q5 q6) (λ{l' bs' cp' G' hh' _}q1 q2 q3 q4 q5=>ag (l',bs',cp',G',hh') q1 ⟨q3,q2,q4⟩ q5) e'
theorem wfg[i:RpG R]{Q:LH}{todo:List Item}(hG:di R E h xs base cap G)(hp:L.Perm (Q++G))(hM:X.M=[])(t:∀h2,h.le h2->SlC R h2 base cap xs->TT P b n todo F e ds X h2 Q):TT P b n todo F e ds X h L:=
 jy (hp.trans zD) (jz i.good.mono [] G Q rfl hM hG t)
theorem wfgo[i:RpG R]{Q:LH}(hG:di R E h xs base cap G)(hp:L.Perm (Q++G))(hM:X.M=[])(t:∀h2,h.le h2->SlC R h2 base cap xs->TO P b n ops l k F e ds X h2 Q):TO P b n ops l k F e ds X h L:=
 wl (hp.trans zD) (sP i.good.mono [] G Q rfl hM hG t)
end
section
variable {P:Program} {b:Frame} {n:Nat} {k:List Item} {F:List Frame->(Machine->Prop)->Prop} {e:Env} {ds:List Deferred} {X:Cx} {h:HF} {L:LH} {ops:Array Oper} {l:List Oper} {d:Option Nat} {ty t:TypeId} {pos:String} {af:Array Edge} {g:Option (Nat×Bool)} {x y:Operand}
theorem gO(t:TO P b n ops l k F e ds X h L):TO P b n ops l k F e ds X h L:=t
theorem gT(t:TT P b n k F e ds X h L):TT P b n k F e ds X h L:=t
theorem gLd(t':TO P b n ops (⟨d,.load t x,ty,pos,af,g⟩::l) k F e ds X h L):TO P b n ops (⟨d,.load t x,ty,pos,af,g⟩::l) k F e ds X h L:=t'
theorem gSt(t':TO P b n ops (⟨d,.store t x y,ty,pos,af,g⟩::l) k F e ds X h L):TO P b n ops (⟨d,.store t x y,ty,pos,af,g⟩::l) k F e ds X h L:=t'
theorem gBx(t':TO P b n ops (⟨d,.box t x,ty,pos,af,g⟩::l) k F e ds X h L):TO P b n ops (⟨d,.box t x,ty,pos,af,g⟩::l) k F e ds X h L:=t'
theorem gAl(t':TO P b n ops (⟨d,.alloc t,ty,pos,af,g⟩::l) k F e ds X h L):TO P b n ops (⟨d,.alloc t,ty,pos,af,g⟩::l) k F e ds X h L:=t'
theorem gCf{f:FuncId}(t':TO P b n ops (⟨d,.call ⟨.value (.func f),ass,ats⟩,ty,pos,af,g⟩::l) k F e ds X h L):TO P b n ops (⟨d,.call ⟨.value (.func f),ass,ats⟩,ty,pos,af,g⟩::l) k F e ds X h L:=t'
theorem gBi{op:BinOp}(t':TO P b n ops (⟨d,.binOp op t x y u,ty,pos,af,g⟩::l) k F e ds X h L):TO P b n ops (⟨d,.binOp op t x y u,ty,pos,af,g⟩::l) k F e ds X h L:=t'
theorem gBd(t':TO P b n ops (⟨d,.build t parts,ty,pos,af,g⟩::l) k F e ds X h L):TO P b n ops (⟨d,.build t parts,ty,pos,af,g⟩::l) k F e ds X h L:=t'
theorem gBs{len:Nat}(t':TO P b n ops (⟨d,.buildSlice t len parts,ty,pos,af,g⟩::l) k F e ds X h L):TO P b n ops (⟨d,.buildSlice t len parts,ty,pos,af,g⟩::l) k F e ds X h L:=t'
theorem gCt{q:Nat}(t':TO P b n ops (⟨d,.call ⟨.value (.tmp q),ass,ats⟩,ty,pos,af,g⟩::l) k F e ds X h L):TO P b n ops (⟨d,.call ⟨.value (.tmp q),ass,ats⟩,ty,pos,af,g⟩::l) k F e ds X h L:=t'
theorem gMf{fn:Fn}{fi ca:Array Operand}(t':TO P b n ops (⟨d,.makeFunc fn fi ca,ty,pos,af,g⟩::l) k F e ds X h L):TO P b n ops (⟨d,.makeFunc fn fi ca,ty,pos,af,g⟩::l) k F e ds X h L:=t'
theorem gAp{q:TypeId}(t':TO P b n ops (⟨d,.call ⟨.builtin .append,#[x,y],#[t,q]⟩,ty,pos,af,g⟩::l) k F e ds X h L):TO P b n ops (⟨d,.call ⟨.builtin .append,#[x,y],#[t,q]⟩,ty,pos,af,g⟩::l) k F e ds X h L:=t'
theorem gMk(t':TO P b n ops (⟨d,.makeMap t none,ty,pos,af,g⟩::l) k F e ds X h L):TO P b n ops (⟨d,.makeMap t none,ty,pos,af,g⟩::l) k F e ds X h L:=t'
theorem gLk{ok:Bool}(t':TO P b n ops (⟨d,.lookup t x y ok,ty,pos,af,g⟩::l) k F e ds X h L):TO P b n ops (⟨d,.lookup t x y ok,ty,pos,af,g⟩::l) k F e ds X h L:=t'
theorem gMu{z:Operand}(t':TO P b n ops (⟨d,.mapUpdate t x y z,ty,pos,af,g⟩::l) k F e ds X h L):TO P b n ops (⟨d,.mapUpdate t x y z,ty,pos,af,g⟩::l) k F e ds X h L:=t'
theorem gSx(t':TO P b n ops (⟨d,.index t x y,ty,pos,af,g⟩::l) k F e ds X h L):TO P b n ops (⟨d,.index t x y,ty,pos,af,g⟩::l) k F e ds X h L:=t'
theorem gIx(t':TO P b n ops (⟨d,.indexAddr t x y,ty,pos,af,g⟩::l) k F e ds X h L):TO P b n ops (⟨d,.indexAddr t x y,ty,pos,af,g⟩::l) k F e ds X h L:=t'
theorem gGu{q:Nat×Bool}(t':TO P b n ops (⟨d,op,ty,pos,af,some q⟩::l) k F e ds X h L):TO P b n ops (⟨d,op,ty,pos,af,some q⟩::l) k F e ds X h L:=t'
theorem gOr{z:Nat×Nat×List Nat×Nat×List Oper}(w:Bool)(hc:chainO ops w l=some z)(t':TO P b n ops l k F e ds X h L):TO P b n ops l k F e ds X h L:=t'
theorem gPk{z:Operand}(t':TO P b n ops (⟨d,.pick x y z,ty,pos,af,g⟩::l) k F e ds X h L):TO P b n ops (⟨d,.pick x y z,ty,pos,af,g⟩::l) k F e ds X h L:=t'
theorem gEx(t':TT P b n (.code (.exit i)::k) F e ds X h L):TT P b n (.code (.exit i)::k) F e ds X h L:=t'
theorem gSc{z w v:Option Operand}(t':TO P b n ops (⟨d,.slice t x z w v,ty,pos,af,g⟩::l) k F e ds X h L):TO P b n ops (⟨d,.slice t x z w v,ty,pos,af,g⟩::l) k F e ds X h L:=t'
theorem gRe(t':TT P b n (.code .ret::k) F e ds X h L):TT P b n (.code .ret::k) F e ds X h L:=t'
theorem gNi(t':TT P b n [] F e ds X h L):TT P b n [] F e ds X h L:=t'
theorem gCo{p q:Code}(t':TT P b n (.code (.cond x p q)::k) F e ds X h L):TT P b n (.code (.cond x p q)::k) F e ds X h L:=t'
theorem gLo{p:Code}(t':TT P b n (.code (.block id (.loop p))::k) F e ds X h L):TT P b n (.code (.block id (.loop p))::k) F e ds X h L:=t'
theorem gIl{p:Code}(t':TT P b n (.inLoop p::k) F e ds X h L):TT P b n (.inLoop p::k) F e ds X h L:=t'
theorem gSl{q:Option Addr}{c:Nat}(a:SlC R h q c xs):SlC R h q c xs:=a
theorem gAt{q:Addr}{cs:List Value}(a:At h q cs):At h q cs:=a
theorem gIt(a:Itr P it val xs h):Itr P it val xs h:=a
theorem an1{a b:Prop}(h:a/\b):a:=h.1
theorem an2{a b:Prop}(h:a/\b):b:=h.2
theorem gNl{a b:Nat}(q:a<=b):a<=b:=q
theorem gNt{a b:Nat}(q:a<b):a<b:=q
theorem gEn{a b:Nat}(q:a=b):a=b:=q
theorem gAn{a b:Prop}(q:a/\b):a/\b:=q
theorem gAl'{p:α->Prop}(q:∀x,p x):∀x,p x:=q
theorem gIl'{a b:Int}(q:a<=b):a<=b:=q
end
end
variable {j:Nat}
section
def bnd:Ground->Bool
 |.textOnly _=>false
 |.gcOnly _=>false
 |_=>true
def hasN:List Nat->Nat->Bool
 |[],_=>false
 |a::l,t=>match kV a t with
  |true=>true
  |false=>hasN l t
def rdyE(dn:List Nat):List Edge->Bool
 |[]=>true
 |⟨j,g⟩::l=>match bnd g with
  |true=>match hasN dn j with
   |true=>rdyE dn l
   |false=>false
  |false=>rdyE dn l
def rdyO(dn:List Nat)(i:Nat):Oper->Bool
 |⟨_,_,_,_,⟨af⟩,_⟩=>match hasN dn i with
  |true=>false
  |false=>rdyE dn af
def nxS(dn:List Nat):Nat->List Oper->List Nat
 |_,[]=>[]
 |i,o::l=>match rdyO dn i o with
  |true=>i::nxS dn (i+1) l
  |false=>nxS dn (i+1) l
theorem RY{t:Nat}:hasN dn t=dn.contains t:=by
 induction dn with
 |nil=>rfl
 |cons a l ih=>
  unfold hasN
  rw[List.contains_cons,←ih]
  cases h:kV a t with
  |true=>rw[xL h];simp
  |false=>
   have:¬t=a:=λe=>by subst e;simp at h
   simp[this]
theorem WV(e:Edge):bnd e.ground=Yz .any e:=by
 unfold bnd Yz
 cases e.ground<;>rfl
theorem Vv{af:List Edge}:rdyE dn af=af.all λe=>!Region.binds .any e||dn.contains e.on:=by
 induction af with
 |nil=>rfl
 |cons a l ih=>
  obtain⟨j,g⟩:=a
  have hb:=WV ⟨j,g⟩
  grind [rdyE,RY,bnd]
theorem RC{o:Oper}:rdyO dn i o=(!dn.contains i&&o.after.all λe=>!Region.binds .any e||dn.contains e.on):=by
 obtain⟨a,b,c,d,⟨af⟩,f⟩:=o
 grind [rdyO,Vv,RY]
theorem Uq(dn:List Nat)(f:Nat->Option Oper):∀(l:List Oper)(s:Nat),(∀j,f (s+j)=l[j]?)->nxS dn s l=(List.range' s l.length).filter λi=>!dn.contains i&&((f i).map (·.after.all λe=>!Region.binds .any e||dn.contains e.on)).getD false
 |[],s,_=>rfl
 |o::l,s,h=>by
  have h0:f s=some o:=by simpa using h 0
  have h1:=Uq dn f l (s+1) (λj=>by rw[Nat.add_assoc,Nat.add_comm 1 j];simpa using h (j+1))
  unfold nxS
  rw[xA,List.range'_succ,h1]
  grind [RC,rdyO]
theorem E4:nexts l.toArray dn=nxS dn 0 l:=by
 rw[Uq dn (λi=>l.toArray[i]?) l 0 (λj=>by simp)]
 unfold nexts
 simp[List.range_eq_range']
def flt:Op->Bool
 |.load _ _=>true
 |.fieldAddr _ _ _=>true
 |.indexAddr _ _ _=>true
 |.index _ _ _=>true
 |.slice _ _ _ _ _=>true
 |.binOp _ _ _ _ _=>true
 |.unOp _ _ _=>true
 |.pick _ _ _=>true
 |.move _=>true
 |.assign _=>true
 |.extract _ _=>true
 |.field _ _ _=>true
 |.call ⟨.builtin .len,_,_⟩=>true
 |_=>false
def fstX(sk:List Nat)(md:Nat)(dn:List Nat):Nat->List Oper->Option (Nat×Oper)
 |_,[]=>none
 |i,o::l=>match(match md with|0=>flt o.op|_=>o.guard.isSome)with
  |true=>match rdyO dn i o with
   |true=>match hasN sk (1000+i)with
    |false=>some (i,o)
    |true=>fstX sk md dn (i+1) l
   |false=>fstX sk md dn (i+1) l
  |false=>fstX sk md dn (i+1) l
def gslot(ops:List Oper)(j:Nat):Option Nat:=match nth ops j with
 |some o=>o.dst
 |none=>none
def Xa(ops:List Oper)(gk:List Nat)(op:Op):Option (Nat×Bool)->Bool
 |none=>match op with
  |.pick (.tmp s) _ _=>hasN gk s
  |.pick _ _ _=>false
  |_=>true
 |some (j,_)=>match gslot ops j with
  |some s=>hasN gk s
  |none=>false
def passD(tF:List (Nat×Nat×Nat))(tS:List (Nat×Bool))(ops:List Oper)(gk:List Nat):Nat->List Oper->Nat->List Nat->Env->Nat×List Nat×Env
 |i,⟨some d,op,ty,pos,⟨af⟩,g⟩::l,m+1,dn,e=>match hasN dn i with
  |true=>passD tF tS ops gk (i+1) l (m+1) dn e
  |false=>match rdyE dn af with
   |false=>passD tF tS ops gk (i+1) l (m+1) dn e
   |true=>match Xa ops gk op g with
    |false=>passD tF tS ops gk (i+1) l (m+1) dn e
    |true=>match guardB ⟨ops⟩ e ⟨some d,op,ty,pos,⟨af⟩,g⟩with
     |false=>passD tF tS ops gk (i+1) l m (i::dn) (upd e d undef)
     |true=>match valM tF tS e op with
      |some v=>passD tF tS ops gk (i+1) l m (i::dn) (upd e d v)
      |none=>passD tF tS ops gk (i+1) l (m+1) dn e
 |i,⟨none,_,_,_,_,_⟩::l,m,dn,e=>passD tF tS ops gk (i+1) l m dn e
 |_,_,m,dn,e=>(m,dn,e)
section
variable {P:Program} {b:Frame} {n:Nat} {k:List Item} {F:List Frame->(Machine->Prop)->Prop} {ds:List Deferred} {X:Cx} {l:List Oper}
theorem R2{sk:List Nat}{md:Nat}{dn:List Nat}(ops:List Oper):∀(l:List Oper)(s:Nat),(∀j,nth ops (s+j)=nth l j)->∀{i:Nat}{o:Oper},fstX sk md dn s l=some (i,o)->nth ops i=some o/\rdyO dn i o=true
 |[],s,_,i,o,h=>by cases h
 |a::l,s,hn,i,o,h=>by
  have hr:fstX sk md dn (s+1) l=some (i,o)->nth ops i=some o/\rdyO dn i o=true:=R2 ops l (s+1) (λj=>by rw[Nat.add_assoc,Nat.add_comm 1 j];exact hn (j+1))
  unfold fstX at h
  split at h
  .split at h
   .next h2=>
    split at h
    .cases h;exact⟨hn 0,h2⟩
    .exact hr h
   .exact hr h
  .exact hr h
theorem xI{o:Oper}(hi:nth l i=some o)(hr:rdyO dn i o=true):(nexts l.toArray dn).contains i=true:=by grind [nexts,List.contains_iff_mem,List.size_toArray,ja,RC]
def TD(gk:List Nat)(P:Program)(b:Frame)(n:Nat)(l:List Oper)(k:List Item)(F:List Frame->(Machine->Prop)->Prop)(ds:List Deferred)(X:Cx)(K:LH)(m:Nat)(dn:List Nat)(e:Env)(h:HF)(L:LH):Prop:=
 sepAll l.toArray=true->(∀p∈K,p∈L)->TA P b n l.toArray k F ds X (Jst h K) m dn e h L
def TX(gk:List Nat)(P:Program)(b:Frame)(n:Nat)(l:List Oper)(k:List Item)(F:List Frame->(Machine->Prop)->Prop)(ds:List Deferred)(X:Cx)(K:LH)(m:Nat)(dn:List Nat)(i:Nat)(o:Oper)(e:Env)(h:HF)(L:LH):Prop:=
 nth l i=some o->rdyO dn i o=true->TD gk P b n l k F ds X K (m+1) dn e h L
variable {m:Nat} {dn:List Nat} {e:Env} {h:HF} {L K:LH} {i:Nat} {o:Oper} {gk:List Nat}
theorem wanyK(hq:∀p∈K,p∈L)(hm:P.follows .mixedOrders=true)(t:TD gk P b n l k F ds X K l.length [] e h L)(hc:(sepAll l.toArray&&slotsIn l.toArray n)=true:=by kernel_rfl):TT P b n (.code (.region id ⟨l⟩ true)::k) F e ds X h L:=
 hU K hm hc ⟨vF _,hq⟩ (λhs _=>t hs hq)
theorem wdx(md:Nat)(hf:fstX gk md dn 0 l=some (i,o))(t:TX gk P b n l k F ds X K m dn i o e h L):TD gk P b n l k F ds X K (m+1) dn e h L:=by
 obtain⟨h1,h2⟩:=R2 l l 0 (λj=>by rw[Nat.zero_add]) hf
 exact t h1 h2
theorem wdf{d:Nat}(hd:o.dst=some d)(hg:guardB l.toArray e o=true)(hr:∀h' L',Jst h K h' L'->∀w,St X h' L' w->(execOp e.ev o).run P w=.ok (.value v) w)(t:TD gk P b n l k F ds X K m (i::dn) (upd e d v) h L):TX gk P b n l k F ds X K m dn i o e h L:=
 λhi hy hs hK=>j5 i hs ⟨vF _,hK⟩ hi hd (xI hi hy) hg hr (t hs hK)
theorem wdlr(v:Bool){d:Option Nat}{s:Nat}{w:Bool}(hj:gslot l j=some s)(hk:hasN gk s=false)(he:e s=.bool v)(t:TD (s::gk) P b n l k F ds X K (m+1) dn e h L):TX gk P b n l k F ds X K m dn i ⟨d,op,ty,pos,af,some (j,w)⟩ e h L:=λ_ _=>t
theorem wdlu{d:Option Nat}{s:Nat}{w:Bool}(hj:gslot l j=some s)(hk:hasN gk s=false)(he:e s=undef)(t:TD (s::gk) P b n l k F ds X K (m+1) dn e h L):TX gk P b n l k F ds X K m dn i ⟨d,op,ty,pos,af,some (j,w)⟩ e h L:=λ_ _=>t
theorem wdsp{d:Option Nat}{s:Nat}{w:Bool}{x:Bool}(hj:gslot l j=some s)(hk:hasN gk s=false)(he:e s=.bool x)(t1:x=true->TD (s::gk) P b n l k F ds X K (m+1) dn (upd e s (.bool true)) h L)(t0:x=false->TD (s::gk) P b n l k F ds X K (m+1) dn (upd e s (.bool false)) h L):TX gk P b n l k F ds X K m dn i ⟨d,op,ty,pos,af,some (j,w)⟩ e h L:=
 λhi hy hs hK=>pk s he (λhx=>t1 hx hs hK) (λhx=>t0 hx hs hK)
theorem wdb{dn:List Nat}(t:TD ((1000+i)::gk) P b n l k F ds X K (m+1) dn e h L):TX gk P b n l k F ds X K m dn i o e h L:=λ_ _=>t
theorem wd0(hn:nxS dn 0 l=[])(t:TT P b n k F e ds X h L):TD gk P b n l k F ds X K 0 dn e h L:=λ_ _=>dJ (E4.trans hn) t
def JT(h:HF)(K L:LH)(h':HF)(L':LH)(p:LH->Prop):Prop:=h.le h'/\∃K',(∀p∈K,p∈K')/\(∀p∈K',p∈L')/\p K'
theorem jtK{h:HF}{K L:LH}{p:LH->Prop}(a:h.le h')(b:∀p∈K,p∈L')(t:p K):JT h K L h' L' p:=⟨a,K,λ_ q=>q,b,t⟩
theorem Qh{o:Oper}(hs:sepAll l.toArray=true)(t:Stp P b n l.toArray F ds X o e h L λe' h' L'=>JT h K L h' L' (λK=>TD gk P b n l k F ds X K m (i::dn) e' h' L')):Stp P b n l.toArray F ds X o e h L λe' h' L'=>Jst h K h' L'/\TA P b n l.toArray k F ds X (Jst h K) m (i::dn) e' h' L':=
 Stp.mono (λe' h' L'⟨a,K',b,c,d⟩=>⟨⟨a,λp hp=>c p (b p hp)⟩,xq a b (d hs c)⟩) t
theorem wd1{i:Nat}{o:Oper}(hn:nxS dn 0 l=[i])(hi:nth l i=some o)(t:Stp P b n l.toArray F ds X o e h L λe' h' L'=>JT h K L h' L' (λK=>TD gk P b n l k F ds X K m (i::dn) e' h' L')):TD gk P b n l k F ds X K (m+1) dn e h L:=
 λhs _=>TR i (E4.trans hn) hi (Qh hs t)
theorem wd2{i:Nat}{o q:Oper}(hn:nxS dn 0 l=[i,j])(hi:nth l i=some o)(hj:nth l j=some q)(t1:Stp P b n l.toArray F ds X o e h L λe' h' L'=>JT h K L h' L' (λK=>TD gk P b n l k F ds X K m (i::dn) e' h' L'))(t2:Stp P b n l.toArray F ds X q e h L λe' h' L'=>JT h K L h' L' (λK=>TD gk P b n l k F ds X K m (j::dn) e' h' L')):TD gk P b n l k F ds X K (m+1) dn e h L:=
 λhs _=>np i j (E4.trans hn) hi hj (Qh hs t1) (Qh hs t2)
theorem Um(hF:(tF.all λx=>fldOf P x.1 x.2.1==some x.2.2)=true)(hS:tS.map (λx=>lenK P x.1)=tS.map (λx=>some x.2))(hs:sepAll l.toArray=true)(gk:List Nat)(hJ:Jst h K h L):
  ∀(i:Nat)(r:List Oper)(m:Nat)(dn:List Nat)(e:Env),(∀j,nth l (i+j)=nth r j)->TA P b n l.toArray k F ds X (Jst h K) (passD tF tS l gk i r m dn e).1 (passD tF tS l gk i r m dn e).2.1 (passD tF tS l gk i r m dn e).2.2 h L->TA P b n l.toArray k F ds X (Jst h K) m dn e h L:=by
 intro i r m dn e
 fun_induction passD tF tS l gk i r m dn e with
 |case1 i d op ty pos af g l' m dn e hh ih=>exact λhn t=>ih (λj=>by rw[Nat.add_assoc,Nat.add_comm 1 j];exact hn (j+1)) t
 |case2 i d op ty pos af g l' m dn e hh hr ih=>exact λhn t=>ih (λj=>by rw[Nat.add_assoc,Nat.add_comm 1 j];exact hn (j+1)) t
 |case3 i d op ty pos af g l' m dn e hh hr hp ih=>exact λhn t=>ih (λj=>by rw[Nat.add_assoc,Nat.add_comm 1 j];exact hn (j+1)) t
 |case4 i d op ty pos af g l' m dn e hh hr hp hg ih=>
  intro hn t
  have hi:nth l i=some ⟨some d,op,ty,pos,⟨af⟩,g⟩:=hn 0
  refine n8 i hs hJ hi rfl (xI hi ?_) hg (ih (λj=>by rw[Nat.add_assoc,Nat.add_comm 1 j];exact hn (j+1)) t)
  unfold rdyO
  rw[hh]
  exact hr
 |case5 i d op ty pos af g l' m dn e hh hr hp hg v hv ih=>
  intro hn t
  have hi:nth l i=some ⟨some d,op,ty,pos,⟨af⟩,g⟩:=hn 0
  refine j5 i hs hJ hi rfl (xI hi ?_) hg (λh' L' _ w hw=>(ME hF hS hv).2 _ _ _ _ _ w hw) (ih (λj=>by rw[Nat.add_assoc,Nat.add_comm 1 j];exact hn (j+1)) t)
  unfold rdyO
  rw[hh]
  exact hr
 |case6 i d op ty pos af g l' m dn e hh hr hp hg hv ih=>exact λhn t=>ih (λj=>by rw[Nat.add_assoc,Nat.add_comm 1 j];exact hn (j+1)) t
 |case7 i a b' c d l' g m dn e ih=>exact λhn t=>ih (λj=>by rw[Nat.add_assoc,Nat.add_comm 1 j];exact hn (j+1)) t
 |case8=>exact λ_ t=>t
theorem wdqP(hF:(tF.all λx=>fldOf P x.1 x.2.1==some x.2.2)=true)(hS:tS.map (λx=>lenK P x.1)=tS.map (λx=>some x.2))(hp:passD tF tS l gk 0 l m dn e=(m',dn',e'))(t:TD gk P b n l k F ds X K m' dn' e' h L):TD gk P b n l k F ds X K m dn e h L:=λhs hK=>Um hF hS hs gk ⟨vF _,hK⟩ 0 l m dn e (λj=>by rw[Nat.zero_add]) (by rw[hp];exact t hs hK)
theorem wcTh{x z:α}{c c':Bool}{h0:HF}{o:Operand}{p q:Code}(hx:e.ev o=.bool c)(h:c=true)(hs:x=bif c' then y else z)(hc:c'=true)(t:x=y->TT P b n (.code p::k) F e ds X h0 L):TT P b n (.code (.cond o p q)::k) F e ds X h0 L:=by grind [rM]
theorem wcoN{x z:α}{c c':Bool}{o:Operand}{p q:Code}(hx:e.ev o=.bool c)(hs:x=bif c' then y else z)(hc:c'=c)(t1:c=true->x=y->TT P b n (.code p::k) F e ds X h L)(t2:c=false->x=z->TT P b n (.code q::k) F e ds X h L):TT P b n (.code (.cond o p q)::k) F e ds X h L:=dy (hc▸hs) hx t1 t2
def rootS(l:List Oper):Nat->Nat->Nat
 |0,s=>s
 |m+1,s=>match l.find? (λo=>o.dst==some s)with
  |some ⟨_,.fieldAddr _ (.tmp r) _,_,_,_,_⟩=>rootS l m r
  |some ⟨_,.move (.tmp r),_,_,_,_⟩=>rootS l m r
  |_=>s
def putN(s:Nat)(r:List Nat):List Nat:=match hasN r s with
 |true=>r
 |false=>s::r
def rootsS(l:List Oper):List Oper->List Nat
 |⟨_,.store _ (.tmp s) _,_,_,_,_⟩::r=>putN (rootS l 9 s) (rootsS l r)
 |⟨_,.mapUpdate _ (.tmp s) _ _,_,_,_,_⟩::r=>putN (rootS l 9 s) (rootsS l r)
 |⟨_,.insert _ (.tmp s) _ _,_,_,_,_⟩::r=>putN (rootS l 9 s) (rootsS l r)
 |_::r=>rootsS l r
 |[]=>[]
def inR(l:List Oper)(s:Nat):Bool:=match l.find? (λo=>o.dst==some s)with
 |some _=>true
 |none=>false
def outR(l:List Oper):List Nat->List Nat
 |[]=>[]
 |s::r=>match inR l s with
  |true=>outR l r
  |false=>s::outR l r
def flA(l:List Oper):List Nat->List Nat
 |[]=>[]
 |s::r=>match inR l s with
  |true=>[999]
  |false=>flA l r
def Ex(e:Env)(Q:LH):List Nat->LH->Prop
 |[],K=>K=Q
 |s::R,K=>∃Q' bk o,((∃off,e s=.pointer (some ⟨bk,off,none⟩))\/e s=.map (some bk))/\Q.Perm ((bk,o)::Q')/\Ex e Q' R K
theorem exSub{e:Env}:∀{R:List Nat}{Q K:LH},Ex e Q R K->∀p∈K,p∈Q
 |[],Q,K,h,p,hp=>by cases(h:K=Q);exact hp
 |s::R,Q,K,⟨Q',bk,o,_,hp,hx⟩,p,hq=>hp.symm.subset (qC _ (exSub hx p hq))
theorem exN{e:Env}{Q:LH}:Ex e Q [] Q:=rfl
theorem exC{e:Env}{Q Q' K:LH}{s bk off:Nat}{o:Obj}{R:List Nat}(a:e s=.pointer (some ⟨bk,off,none⟩))(b:Q.Perm ((bk,o)::Q'))(c:Ex e Q' R K):Ex e Q (s::R) K:=⟨Q',bk,o,.inl ⟨off,a⟩,b,c⟩
theorem pk0{z:α}{L:List α}:(z::L).Perm (z::L):=.refl _
def flgR:List Oper->Nat
 |⟨_,.call ⟨.builtin .append,_,_⟩,_,_,_,_⟩::_=>1
 |⟨_,.call ⟨.value (.tmp _),_,_⟩,_,_,_,_⟩::_=>2
 |_::l=>flgR l
 |[]=>0
theorem wanyE{R:List Nat}(hr:outR l (rootsS l l)=R)(hk:flA l (rootsS l l)=gk)(hx:Ex e L R K)(hm:P.follows .mixedOrders=true)(t:TD gk P b n l k F ds X K l.length [] e h L)(hc:(sepAll l.toArray&&slotsIn l.toArray n)=true:=by kernel_rfl):TT P b n (.code (.region id ⟨l⟩ true)::k) F e ds X h L:=by grind [wanyK,exSub]
theorem wanyY{C:List α->HF->LH->Prop}{dn:List α}{h0:HF}{Q:LH}(hf:flgR l=2)(hC:C dn h0 A)(hp:L.Perm (Q++A))(hr:outR l (rootsS l l)=S)(hk:flA l (rootsS l l)=gk)(hx:Ex e Q S K)(hm:P.follows .mixedOrders=true)(t:TD gk P b n l k F ds X K l.length [] e h L)(hc:(sepAll l.toArray&&slotsIn l.toArray n)=true:=by kernel_rfl):TT P b n (.code (.region id ⟨l⟩ true)::k) F e ds X h L:=by grind [wanyK,exSub]
section shapes
variable {KK:LH}
variable {e:Env} {K:Env->HF->LH->Prop} {ops:Array Oper} {d:Option Nat} {ty t:TypeId} {pos:String} {af:Array Edge} {g:Option (Nat×Bool)} {x y:Operand}
theorem gD(t:TD gk P b n l k F ds X KK m dn e h L):TD gk P b n l k F ds X KK m dn e h L:=t
theorem gX(t:TX gk P b n l k F ds X KK m dn i o e h L):TX gk P b n l k F ds X KK m dn i o e h L:=t
theorem gXl(q:TX gk P b n l k F ds X KK m dn i ⟨d,.load t x,ty,pos,af,g⟩ e h L):TX gk P b n l k F ds X KK m dn i ⟨d,.load t x,ty,pos,af,g⟩ e h L:=q
theorem gXi(q:TX gk P b n l k F ds X KK m dn i ⟨d,.indexAddr t x y,ty,pos,af,g⟩ e h L):TX gk P b n l k F ds X KK m dn i ⟨d,.indexAddr t x y,ty,pos,af,g⟩ e h L:=q
theorem gXc{z w v:Option Operand}(q:TX gk P b n l k F ds X KK m dn i ⟨d,.slice t x z w v,ty,pos,af,g⟩ e h L):TX gk P b n l k F ds X KK m dn i ⟨d,.slice t x z w v,ty,pos,af,g⟩ e h L:=q
theorem gXb{op:BinOp}(q:TX gk P b n l k F ds X KK m dn i ⟨d,.binOp op t x y u,ty,pos,af,g⟩ e h L):TX gk P b n l k F ds X KK m dn i ⟨d,.binOp op t x y u,ty,pos,af,g⟩ e h L:=q
theorem gS(q:Stp P b n ops F ds X o e h L K):Stp P b n ops F ds X o e h L K:=q
theorem gJ{p:LH->Prop}(q:JT h KK L h' L' p):JT h KK L h' L' p:=q
theorem gRg{ops:Array Oper}(q:TT P b n (.code (.region id ops true)::k) F e ds X h L):TT P b n (.code (.region id ops true)::k) F e ds X h L:=q
end shapes
end
theorem wmz{F:List Frame->(Machine->Prop)->Prop}{L:LH}{q:Option Nat}(j:Nat){fn:Fn}{first captured:List Operand}{bk T:Nat}(hj:nth captured j=some x)(hx:e.ev x=.pointer (some ⟨bk,0,none⟩))(hL:nth L i=some (bk,.cells cl.toArray T fz))(hM:X.M=[])(t:∀h2,h.le h2->At h2 ⟨bk,0,none⟩ cl->TO P b n ops (⟨q,.makeFunc fn ⟨first⟩ ⟨captured⟩,ty,pos,af,g⟩::l) k F e ds X h2 (dropNth L i)):TO P b n ops (⟨q,.makeFunc fn ⟨first⟩ ⟨captured⟩,ty,pos,af,g⟩::l) k F e ds X h L:=by grind [dV,gM]
section
variable {P:Program} {b:Frame} {n:Nat} {k:List Item} {F:List Frame->(Machine->Prop)->Prop} {e:Env} {ds:List Deferred} {X:Cx} {h:HF} {L:LH} {ops:Array Oper} {l:List Oper} {d:Nat} {ty t u:TypeId} {pos:String} {af:Array Edge} {g:Option (Nat×Bool)} {x y:Operand} {ik yk:IntKind} {a c:Int}
end
section
variable {a b c:Bool}
theorem Xz(h:a=true):(a||b)=true:=by rw[h];rfl
theorem Xy(h:b=true):(a||b)=true:=by rw[h];cases a<;>rfl
theorem XC(h:a=false):(a&&b)=false:=by rw[h];rfl
theorem XB(h:b=false):(a&&b)=false:=by rw[h];cases a<;>rfl
theorem Xx(h:a=false)(h':b=c):(a||b)=c:=by rw[h,h'];rfl
theorem XA(h:a=true)(h':b=c):(a&&b)=c:=by rw[h,h'];rfl
end
theorem rtB{b c z:Bool}(hs:z=c)(h:b=c):vT b=vT z:=by rw[hs,h]
theorem bP{p:Prop}(h:p:=by first
 |with_reducible rfl
 |assumption
 |rw[cv sdb sdb]
 |rw[cv sdb]
 |(rw[cv];done)
 |rw[cx sdb]
 |rw[cw sdb]
 |((with_reducible refine Xz ?_);exact bP)
 |((with_reducible refine Xy ?_);exact bP)
 |((with_reducible refine XC ?_);exact bP)
 |((with_reducible refine XB ?_);exact bP)
 |((with_reducible refine Xx ?_ ?_)<;>exact bP)
 |((with_reducible refine XA ?_ ?_)<;>exact bP)
 |exact rfl
 |fail):p:=h
end
section
theorem sTY{f:FuncId}{R:Ending->HF->LH->Prop}(hf:P.funcs[f]? = some fn)(hb:fn.body=some c)(hn:fn.ntmps=n)(eT:YE args.length n=true)(t:∀X:Cx,(∀b∈X.M,b<X.w0.heap.size)->X.h0=h->P.funcs[f]? = some fn->TT P (bodyFrame f) n [.code c] (lJ P X R) (envArgs args) [] X h A):qf P f args.toArray h A R:=by grind [oA]
section
variable {P:Program} {b:Frame} {n:Nat} {k:List Item} {F:List Frame->(Machine->Prop)->Prop} {e:Env} {ds:List Deferred} {X:Cx} {h:HF} {L:LH}
theorem lpkY{z v0 v1 dn0:List β}{C:List β->HF->LH->Prop}{A0 Q:LH}{h1:HF}{Lf:List α->Nat->List β}(hv:z=dn0++v0)(hC:C dn0 h1 A0)(m1:∀done h1 h2 B,HF.le h1 h2->C done h1 B->C done h2 B)(h10:h1.le h)(hp:L.Perm (Q++A0))(H:H0 K ix Lf/\v1=Lf xs 0)(he:v0=v1)(hb:xs.length<=9223372036854775807)(hi0:e ix=.int .i64 ((0:Nat):Int))(after:∀i dn A hh v,i<=xs.length->v=Lf [] i->z=dn++v->C dn hh A->h.le hh->∀e',TT P b n k F (upds e' (kp e K++[(ix,.int .i64 (i:Int))])) ds X hh (Q++A))(cons:∀i dn A hh v y r,xs.drop i=y::r->decide ((i:Int)<(xs.length:Int))=true->xs[i]? = some y->i<xs.length->xs.length<=9223372036854775807->v=Lf (y::r) i->z=dn++v->C dn hh A->h.le hh ->
   (∀i' {dn' A' hh' v' e'},v'=Lf [] i'->z=dn'++v'->C dn' hh' A'->h.le hh'->(hi:i'<=xs.length:=by omega)->(hr:fT e' (kp e K++[(ix,.int .i64 (i':Int))]):=by exact rds)->TT P b n k F e' ds X hh' (Q++A')) ->
   (∀{dn' A' hh' v' e'},v'=Lf r (i+1)->z=dn'++v'->C dn' hh' A'->h.le hh'->(hr:fT e' (kp e K++[(ix,.int .i64 ((i+1:Nat):Int))]):=by exact rds)->TT P b n (.inLoop c::.inBlock id::k) F e' ds X hh' (Q++A')) ->
   ∀e',TT P b n (.code c::.inLoop c::.inBlock id::k) F (upds e' (kp e K++[(ix,.int .i64 (i:Int))])) ds X hh (Q++A))(nil:∀i(g:List β×LH×HF),xs.drop i=[]->decide ((i:Int)<(xs.length:Int))=false->(∀e',fT e' (kp e K++[(ix,.int .i64 (i:Int))])->TT P b n k F e' ds X g.2.2 (Q++g.2.1)) ->
   ∀e',TT P b n (.code c::.inLoop c::.inBlock id::k) F (upds e' (kp e K++[(ix,.int .i64 (i:Int))])) ds X g.2.2 (Q++g.2.1):=by exact ndW):
  TT P b n (.code (.block id (.loop c))::k) F e ds X h L:=by
 refine jy hp (lp2 (γ:=List β×LH×HF) (x0:=z) xs (λi g=>kp e K++[(ix,.int .i64 (i:Int))]) (λg=>g.2.2) (λg=>Q++g.2.1)
  (λi g=>C g.1 g.2.2 g.2.1/\h.le g.2.2) (λs i g=>g.1++Lf s i) (dn0,A0,h) hb (show z=dn0++Lf xs 0 from by rw[hv,he,H.2]) ⟨m1 _ _ _ _ h10 hC,vF _⟩ ?_ ?_ nil (tz ⟨hi0,trivial⟩) (λ_ hw=>hw))
 .grind
 .rintro i ⟨dn,A,hh⟩ y r a1 a2 a3 a4 a5 a6 ⟨h3,h4⟩ hx ag e'
  exact cons i dn A hh _ y r a1 a2 a3 a4 a5 rfl a6 h3 h4 (λi' {dn' A' hh' v' _}q1 q2 q3 q4 q5 q6=>hx i' (dn',A',hh') (by subst q1;exact q2) ⟨q3,q4⟩ q5 q6) (λ{dn' A' hh' v' _}q1 q2 q3 q4 q5=>ag (dn',A',hh') (by subst q1;exact q2) ⟨q3,q4⟩ q5) e'
end
section
variable {β : Type} {P:Program} {f:FuncId} {fn:Func} {n:Nat} {ops:Array Oper} {l:List Oper} {k:List Item} {e:Env} {X:Cx} {h:HF} {L:LH}
variable {C:List β->HF->LH->Prop} {Sp:HF->LH->Prop} {Pn:List PanicEntry->HF->LH->Prop} {val:β->HF->List Value->Prop} {z dn v r:List β} {x:β} {h0 h1:HF} {A Q:LH} {yf:Fn} {ya yb:Array Value}
variable {d:Option Nat} {ty:TypeId} {pos:String} {af:Array Edge} {g:Option (Nat×Bool)} {t:Nat} {a5_:Array Operand} {ats:Array TypeId} {vs:List Value}
theorem wyl(hy:∀done x rest vs h'' B,z=done++x::rest->h1.le h''->C done h'' B->val x h'' vs->n0 P (.func yf ya yb) vs.toArray h'' B (YR C Sp Pn done x))(m1:∀done h1 h2 B,HF.le h1 h2->C done h1 B->C done h2 B)(hF:P.funcs[f]? = some fn)(hs:v=x::r)(hv:z=dn++v)(hC:C dn h0 A)(h0h:h0.le h)(hl:h1.le h)(hp:L.Perm (Q++A))(hf:e t=.func yf ya yb)(hvs:a5_.toList.map e.ev=vs)(hval:val x h vs)(yes:∀h' A',h.le h'->C (dn++[x]) h' A'->∀v',v'=r->z=(dn++[x])++v'->TO P (bodyFrame f) n ops l k (lJ P X (ItR C Sp Pn z)) (pute e d (.bool true)) [] X h' (Q++A'))(no:∀h' A',h.le h'->Sp h' A'->TO P (bodyFrame f) n ops l k (lJ P X (ItR C Sp Pn z)) (pute e d (.bool false)) [] X h' (Q++A'))(hg:guardB ops e ⟨d,.call ⟨.value (.tmp t),a5_,ats⟩,ty,pos,af,g⟩=true:=by rfl)(hso:slotOk n d=true:=by rfl):
  TO P (bodyFrame f) n ops (⟨d,.call ⟨.value (.tmp t),a5_,ats⟩,ty,pos,af,g⟩::l) k (lJ P X (ItR C Sp Pn z)) e [] X h L:=
 wl hp (aS (sZ Q A rfl (hy dn x r vs h A (by rw[hv,hs]) hl (m1 _ _ _ _ h0h hC) hval) hf hvs
  (λh' B eT hc=>yes h' B eT hc r rfl (by rw[hv,hs,zC];rfl)) (λh' B eT hc=>no h' B eT hc)
  (λch h' B eT hP e'=>nK (Bd [] hF (List.sublist_append_right _ _) hP)) hg) (hso:=hso))
theorem wyf(hC:C dn h0 A)(m1:∀done h1 h2 B,HF.le h1 h2->C done h1 B->C done h2 B)(h0h:h0.le h)(hv:z=dn++v)(hs:v=[]):C z h A\/Sp h A:=by grind
theorem wyR(hR:C z h A\/Sp h A)(hF:P.funcs[f]? = some fn)(hr:fn.results=#[])(hA:A.Sublist L):TT P (bodyFrame f) n (.code .ret::k) (lJ P X (ItR C Sp Pn z)) e [] X h L:=by grind [ke,Bc]
theorem wyE(hR:C z h A\/Sp h A)(hF:P.funcs[f]? = some fn)(hr:fn.results=#[])(hA:A.Sublist L):TT P (bodyFrame f) n [] (lJ P X (ItR C Sp Pn z)) e [] X h L:=by grind [ke,Fa]
end
end
variable {JR:γ->Prop}{rs:List Nat}
section
inductive Md:Type->Type 1 where
 |mE:Md Unit
 |mA {α γ : Type} (ac:α->List (Nat×Value)) (M:Md γ):Md (α×γ)
 |mC {α γ : Type} (s b:Nat) (f:α->List Value) (T:TypeId) (M:Md γ):Md (α×γ)
 |mG {α γ : Type} (s:Nat) (R:Rp α) (E:TypeId) (M:Md γ):Md (List α×γ)
 |mB {α γ : Type} (s b:Nat) (f:List α->Option Addr->Nat->List Value) (T:TypeId) (R:Rp α) (E:TypeId) (M:Md γ):Md (List α×γ)
 |mS {α γ : Type} (s:Nat) (R:Rp α) (M:Md γ):Md (List α×γ)
 |mD {α γ : Type} (b:Nat) (f:α->List Value) (T:TypeId) (M:Md γ):Md (α×γ)
 |mF {α γ : Type} (b:Nat) (f:List α->Option Addr->Nat->List Value) (T:TypeId) (R:Rp α) (E:TypeId) (M:Md γ):Md (List α×γ)
 |mV {α γ : Type} (b:Nat) (f:List α->Option Addr->Nat->List Value) (T:TypeId) (R:Rp α) (k:Nat) (M:Md γ):Md (List α×γ)
 |mM {κ α γ : Type} (b:Nat) (enc:κ->Value) (V:HF->Value->α->Prop) (M:Md γ):Md (List (κ×α)×γ)
 |mJ {γ : Type} (p:γ->Prop) (M:Md γ):Md γ
def Md.Raw:{γ : Type}->Md γ->Type
 |_,.mE=>Unit
 |_,.mA _ M=>M.Raw
 |_,.mC _ _ _ _ M=>M.Raw
 |_,.mG _ _ _ M=>Option Addr×Nat×LH×M.Raw
 |_,.mB _ _ _ _ _ _ M=>Option Addr×Nat×LH×M.Raw
 |_,.mS _ _ M=>Option Addr×Nat×M.Raw
 |_,.mD _ _ _ M=>M.Raw
 |_,.mF _ _ _ _ _ M=>Option Addr×Nat×LH×M.Raw
 |_,.mV _ _ _ _ _ M=>Option Addr×Nat×M.Raw
 |_,.mM _ _ _ M=>Obj×M.Raw
 |_,.mJ _ M=>M.Raw
def Md.inv:{γ : Type}->(M:Md γ)->γ->Nat->γ->M.Raw->HF->Prop
 |_,.mE,_,_,_,_,_=>True
 |_,.mA _ M,g0,c,g,r,h=>M.inv g0.2 c g.2 r h
 |_,.mC _ _ _ _ M,g0,c,g,r,h=>M.inv g0.2 c g.2 r h
 |_,.mG _ R E M,g0,c,g,r,h=>(di R E h g.1 r.1 r.2.1 r.2.2.1/\g.1.length<=g0.1.length+c)/\M.inv g0.2 c g.2 r.2.2.2 h
 |_,.mB _ _ _ _ R E M,g0,c,g,r,h=>(di R E h g.1 r.1 r.2.1 r.2.2.1/\g.1.length<=g0.1.length+c)/\M.inv g0.2 c g.2 r.2.2.2 h
 |_,.mS _ R M,g0,c,g,r,h=>(SlC R h r.1 r.2.1 g.1/\g.1.length<=g0.1.length+c)/\M.inv g0.2 c g.2 r.2.2 h
 |_,.mD _ _ _ M,g0,c,g,r,h=>M.inv g0.2 c g.2 r h
 |_,.mF _ _ _ R E M,g0,c,g,r,h=>(di R E h g.1 r.1 r.2.1 r.2.2.1/\g.1.length<=g0.1.length+c)/\M.inv g0.2 c g.2 r.2.2.2 h
 |_,.mV _ _ _ R k M,g0,c,g,r,h=>(SlC R h r.1 r.2.1 g.1/\g.1.length<=g0.1.length+k*c)/\M.inv g0.2 c g.2 r.2.2 h
 |_,.mM _ enc V M,g0,c,g,r,h=>(lB enc V h r.1 g.1/\g.1.length<=g0.1.length+c)/\M.inv g0.2 c g.2 r.2 h
 |_,.mJ p M,g0,c,g,r,h=>p g/\M.inv g0 c g r h
def Md.rd:{γ : Type}->(M:Md γ)->γ->M.Raw->List (Nat×Value)
 |_,.mE,_,_=>[]
 |_,.mA ac M,g,r=>ac g.1++M.rd g.2 r
 |_,.mC s b _ _ M,g,r=>(s,.pointer (some ⟨b,0,none⟩))::M.rd g.2 r
 |_,.mG s _ _ M,g,r=>(s,.slice r.1 g.1.length r.2.1)::M.rd g.2 r.2.2.2
 |_,.mB s b _ _ _ _ M,g,r=>(s,.pointer (some ⟨b,0,none⟩))::M.rd g.2 r.2.2.2
 |_,.mS s _ M,g,r=>(s,.slice r.1 g.1.length r.2.1)::M.rd g.2 r.2.2
 |_,.mD _ _ _ M,g,r=>M.rd g.2 r
 |_,.mF _ _ _ _ _ M,g,r=>M.rd g.2 r.2.2.2
 |_,.mV _ _ _ _ _ M,g,r=>M.rd g.2 r.2.2
 |_,.mM _ _ _ M,g,r=>M.rd g.2 r.2
 |_,.mJ _ M,g,r=>M.rd g r
def Md.ob:{γ : Type}->(M:Md γ)->γ->M.Raw->LH
 |_,.mE,_,_=>[]
 |_,.mA _ M,g,r=>M.ob g.2 r
 |_,.mC _ b f T M,g,r=>(b,.cells (f g.1).toArray T (0,0))::M.ob g.2 r
 |_,.mG _ _ _ M,g,r=>M.ob g.2 r.2.2.2
 |_,.mB _ b f T _ _ M,g,r=>(b,.cells (f g.1 r.1 r.2.1).toArray T (0,0))::M.ob g.2 r.2.2.2
 |_,.mS _ _ M,g,r=>M.ob g.2 r.2.2
 |_,.mD b f T M,g,r=>(b,.cells (f g.1).toArray T (0,0))::M.ob g.2 r
 |_,.mF b f T _ _ M,g,r=>(b,.cells (f g.1 r.1 r.2.1).toArray T (0,0))::M.ob g.2 r.2.2.2
 |_,.mV b f T _ _ M,g,r=>(b,.cells (f g.1 r.1 r.2.1).toArray T (0,0))::M.ob g.2 r.2.2
 |_,.mM b _ _ M,g,r=>(b,r.1)::M.ob g.2 r.2
 |_,.mJ _ M,g,r=>M.ob g r
def Md.og:{γ : Type}->(M:Md γ)->γ->M.Raw->LH
 |_,.mE,_,_=>[]
 |_,.mA _ M,g,r=>M.og g.2 r
 |_,.mC _ _ _ _ M,g,r=>M.og g.2 r
 |_,.mG _ _ _ M,g,r=>r.2.2.1++M.og g.2 r.2.2.2
 |_,.mB _ _ _ _ _ _ M,g,r=>r.2.2.1++M.og g.2 r.2.2.2
 |_,.mS _ _ M,g,r=>M.og g.2 r.2.2
 |_,.mD _ _ _ M,g,r=>M.og g.2 r
 |_,.mF _ _ _ _ _ M,g,r=>r.2.2.1++M.og g.2 r.2.2.2
 |_,.mV _ _ _ _ _ M,g,r=>M.og g.2 r.2.2
 |_,.mM _ _ _ M,g,r=>M.og g.2 r.2
 |_,.mJ _ M,g,r=>M.og g r
def SP(A L:LH):Prop:=∃L':LH,L'.Sublist L/\L'.Perm A
theorem SP.of{L:LH}(h:A.Sublist L):SP A L:=⟨A,h,.refl _⟩
theorem SP.app{L Q:LH}(hp:L.Perm (Q++G))(hs:SP A Q):SP (A++G) L:=by
 obtain⟨B,h1,h2⟩:=hs
 obtain⟨C,h3,h4⟩:=List.exists_perm_sublist (h1.append_right G) hp.symm
 exact⟨C,h4,h3.trans (h2.append_right G)⟩
theorem SP.perm{B L:LH}(hs:SP A L)(hp:A.Perm B):SP B L:=let ⟨C,a,b⟩:=hs;⟨C,a,b.trans hp⟩
theorem Dq{F:List Frame->(Machine->Prop)->Prop}{L:LH}(t:TT P b n k F e ds X h A)(hs:SP A L)(eT:h.le h2)(hX:X.h0=h00)(h0:h00.le h):TT P b n k F e ds X h2 L:=
 let ⟨_,a,p⟩:=hs;Rm eT hX h0 (ek a (jy p t))
structure MS{γ : Type}(M:Md γ)(g0:γ)(c:Nat)(g:γ)(h:HF)(e:Env)(A L:LH):Prop where
 ex:∃r,M.inv g0 c g r h/\fT e (M.rd g r)/\SP (M.ob g r++(A++M.og g r)) L
structure MU{γ : Type}(M:Md γ)(g0:γ)(φ : Prop->Nat->γ->List (Nat×Value)->LH->LH->HF->Prop):Prop where
 al:∀c g r h,φ (M.inv g0 c g r h) c g (M.rd g r) (M.ob g r) (M.og g r) h
theorem EW{e:Env}:∀{K r:List (Nat×Value)},fT e K->fT e r->fT e (K++r)
 |[],_,_,h=>h
 |_::_,_,a,h=>⟨a.1,EW a.2 h⟩
section
variable {α κ γ : Type} {M:Md γ} {g0 g:γ} {c:Nat} {h:HF} {e:Env} {A L Q G:LH} {s b:Nat} {T E:TypeId} {cap:Nat} {bs:Option Addr} {a0 a:α} {l0 l:List α} {m0 m:List (κ×α)} {o:Obj}
theorem msE(hs:SP A L):MS Md.mE () c () h e A L:=⟨⟨(),trivial,trivial,hs.perm (by simp[Md.ob,Md.og])⟩⟩
theorem msA{ac:α->List (Nat×Value)}(hr:fT e (ac a))(t:MS M g0 c g h e A L):MS (Md.mA ac M) (a0,g0) c (a,g) h e A L:=
 let ⟨r,i,d,p⟩:=t.ex;⟨⟨r,i,EW hr d,p⟩⟩
theorem msG{R:Rp α}(hg:di R E h l bs cap G)(hn:l.length<=l0.length+c)(hr:e s=.slice bs l.length cap)(hp:L.Perm (Q++G))(t:MS M g0 c g h e A Q):MS (Md.mG s R E M) (l0,g0) c (l,g) h e A L:=by
 obtain⟨r,i,d,p⟩:=t.ex
 constructor
 refine⟨(bs,cap,G,r),⟨⟨hg,hn⟩,i⟩,⟨hr,d⟩,(SP.app hp p).perm ?_⟩
 show((M.ob g r++(A++M.og g r))++G).Perm (M.ob g r++(A++(G++M.og g r)))
 rw[zC,zC]
 exact List.Perm.append_left _ (List.Perm.append_left _ zD)
theorem msS{R:Rp α}(hg:SlC R h bs cap l)(hn:l.length<=l0.length+c)(hr:e s=.slice bs l.length cap)(t:MS M g0 c g h e A L):MS (Md.mS s R M) (l0,g0) c (l,g) h e A L:=
 let ⟨r,i,d,p⟩:=t.ex;⟨⟨(bs,cap,r),⟨⟨hg,hn⟩,i⟩,⟨hr,d⟩,p⟩⟩
theorem msD{f:α->List Value}{cs:List Value}(hf:f a=cs)(hp:L.Perm (Q++[(b,.cells cs.toArray T (0,0))]))(t:MS M g0 c g h e A Q):MS (Md.mD b f T M) (a0,g0) c (a,g) h e A L:=by
 obtain⟨r,i,d,p⟩:=t.ex
 constructor
 subst hf
 refine⟨r,i,d,(SP.app hp p).perm ?_⟩
 exact List.perm_append_comm.trans (by simp[Md.ob,Md.og])
theorem msF{R:Rp α}{f:List α->Option Addr->Nat->List Value}{cs:List Value}(hg:di R E h l bs cap G)(hn:l.length<=l0.length+c)(hf:f l bs cap=cs)(hp:L.Perm (Q++G)){Q':LH}(hp2:Q.Perm (Q'++[(b,.cells cs.toArray T (0,0))]))(t:MS M g0 c g h e A Q'):MS (Md.mF b f T R E M) (l0,g0) c (l,g) h e A L:=by
 obtain⟨r,i,d,p⟩:=t.ex
 constructor
 subst hf
 refine⟨(bs,cap,G,r),⟨⟨hg,hn⟩,i⟩,d,(SP.app hp (SP.app hp2 p)).perm ?_⟩
 show(((M.ob g r++(A++M.og g r))++[_])++G).Perm (_::M.ob g r++(A++(G++M.og g r)))
 refine(List.perm_append_comm.append_right G).trans ?_
 simp only[zC,jK,qD]
 exact List.Perm.cons _ (List.Perm.append_left _ (List.Perm.append_left _ zD))
theorem msV{R:Rp α}{f:List α->Option Addr->Nat->List Value}{cs:List Value}{k:Nat}(hp:L.Perm (Q++[(b,.cells cs.toArray T (0,0))]))(hf:f l bs cap=cs)(hg:SlC R h bs cap l)(hn:l.length<=l0.length+k*c)(t:MS M g0 c g h e A Q):MS (Md.mV b f T R k M) (l0,g0) c (l,g) h e A L:=by
 obtain⟨r,i,d,p⟩:=t.ex
 constructor
 subst hf
 refine⟨(bs,cap,r),⟨⟨hg,hn⟩,i⟩,d,(SP.app hp p).perm ?_⟩
 exact List.perm_append_comm.trans (by simp[Md.ob,Md.og])
theorem msM{enc:κ->Value}[DecidableEq κ]{V:HF->Value->α->Prop}(hm:lB enc V h o m)(hn:m.length<=m0.length+c)(hp:L.Perm (Q++[(b,o)]))(t:MS M g0 c g h e A Q):MS (Md.mM b enc V M) (m0,g0) c (m,g) h e A L:=by
 obtain⟨r,i,d,p⟩:=t.ex
 constructor
 refine⟨(o,r),⟨⟨hm,hn⟩,i⟩,d,(SP.app hp p).perm ?_⟩
 exact List.perm_append_comm.trans (by simp[Md.ob,Md.og])
theorem msJ{p:γ->Prop}(hj:p g)(t:MS M g0 c g h e A L):MS (Md.mJ p M) g0 c g h e A L:=let ⟨r,i,d,q⟩:=t.ex;⟨⟨r,⟨hj,i⟩,d,q⟩⟩
theorem muE{φ : Prop->Nat->Unit->List (Nat×Value)->LH->LH->HF->Prop}(t:∀c h,φ True c () [] [] [] h):MU Md.mE () φ:=⟨λc g r h=>t c h⟩
theorem muA{ac:α->List (Nat×Value)}{φ : Prop->Nat->α×γ->List (Nat×Value)->LH->LH->HF->Prop}(t:∀a,MU M g0 λJ c g rd ob og h=>φ J c (a,g) (ac a++rd) ob og h):MU (Md.mA ac M) (a0,g0) φ:=⟨λc g r h=>(t g.1).al c g.2 r h⟩
theorem muG{R:Rp α}{φ : Prop->Nat->List α×γ->List (Nat×Value)->LH->LH->HF->Prop}(t:∀l bs cap G,MU M g0 λJ c g rd ob og h=>φ ((di R E h l bs cap G/\l.length<=l0.length+c)/\J) c (l,g) ((s,.slice bs l.length cap)::rd) ob (G++og) h):MU (Md.mG s R E M) (l0,g0) φ :=
 ⟨λc g r h=>(t g.1 r.1 r.2.1 r.2.2.1).al c g.2 r.2.2.2 h⟩
theorem muS{R:Rp α}{φ : Prop->Nat->List α×γ->List (Nat×Value)->LH->LH->HF->Prop}(t:∀l bs cap,MU M g0 λJ c g rd ob og h=>φ ((SlC R h bs cap l/\l.length<=l0.length+c)/\J) c (l,g) ((s,.slice bs l.length cap)::rd) ob og h):MU (Md.mS s R M) (l0,g0) φ :=
 ⟨λc g r h=>(t g.1 r.1 r.2.1).al c g.2 r.2.2 h⟩
theorem muD{f:α->List Value}{φ : Prop->Nat->α×γ->List (Nat×Value)->LH->LH->HF->Prop}(t:∀a,MU M g0 λJ c g rd ob og h=>φ J c (a,g) rd ((b,.cells (f a).toArray T (0,0))::ob) og h):MU (Md.mD b f T M) (a0,g0) φ:=⟨λc g r h=>(t g.1).al c g.2 r h⟩
theorem muF{R:Rp α}{f:List α->Option Addr->Nat->List Value}{φ : Prop->Nat->List α×γ->List (Nat×Value)->LH->LH->HF->Prop}(t:∀l bs cap G,MU M g0 λJ c g rd ob og h=>φ ((di R E h l bs cap G/\l.length<=l0.length+c)/\J) c (l,g) rd ((b,.cells (f l bs cap).toArray T (0,0))::ob) (G++og) h):MU (Md.mF b f T R E M) (l0,g0) φ :=
 ⟨λc g r h=>(t g.1 r.1 r.2.1 r.2.2.1).al c g.2 r.2.2.2 h⟩
theorem muV{R:Rp α}{k:Nat}{f:List α->Option Addr->Nat->List Value}{φ : Prop->Nat->List α×γ->List (Nat×Value)->LH->LH->HF->Prop}(t:∀l bs cap,MU M g0 λJ c g rd ob og h=>φ ((SlC R h bs cap l/\l.length<=l0.length+k*c)/\J) c (l,g) rd ((b,.cells (f l bs cap).toArray T (0,0))::ob) og h):MU (Md.mV b f T R k M) (l0,g0) φ :=
 ⟨λc g r h=>(t g.1 r.1 r.2.1).al c g.2 r.2.2 h⟩
theorem muM{enc:κ->Value}[DecidableEq κ]{V:HF->Value->α->Prop}{φ : Prop->Nat->List (κ×α)×γ->List (Nat×Value)->LH->LH->HF->Prop}(t:∀m o,MU M g0 λJ c g rd ob og h=>φ ((lB enc V h o m/\m.length<=m0.length+c)/\J) c (m,g) rd ((b,o)::ob) og h):MU (Md.mM b enc V M) (m0,g0) φ :=
 ⟨λc g r h=>(t g.1 r.1).al c g.2 r.2 h⟩
theorem muJ{p:γ->Prop}{φ : Prop->Nat->γ->List (Nat×Value)->LH->LH->HF->Prop}(t:MU M g0 λJ c g rd ob og h=>φ (p g/\J) c g rd ob og h):MU (Md.mJ p M) g0 φ:=⟨λc g r h=>t.al c g r h⟩
end
def Af(p:Prop):Prop:=p
def Cn(p:Prop):Prop:=p
def Cm(p:Prop):Prop:=p
theorem gCm(q:p):Cm p:=q
theorem gAf(q:p):Af p:=q
theorem gCn(q:p):Cn p:=q
theorem gMU{M:Md γ}{φ:Prop->Nat->γ->List (Nat×Value)->LH->LH->HF->Prop}(q:MU M g0 φ):MU M g0 φ:=q
theorem ndM(h:p:=by
 (repeat (first|refine muA (λ_=>?_)|refine muC (λ_=>?_)|refine muG (λ_ _ _ _=>?_)|refine muB (λ_ _ _ _=>?_)|refine muM (λ_ _=>?_)|refine muD (λ_=>?_)|refine muS (λ_ _ _=>?_)|refine muF (λ_ _ _ _=>?_)|refine muV (λ_ _ _=>?_)|refine muJ ?_|fail));refine muE (λ_ _=>?_);intro hf hx e;exact edW):p:=h
def HM{α γ ρ : Type}(K:List Nat)(ix:Nat)(M:Md γ)(Lf:List α->Nat->γ->ρ):Prop:=True
theorem lM(K:List Nat)(ix:Nat)(M:Md γ)(Lf:List α->Nat->γ->ρ):HM K ix M Lf:=trivial
theorem hsM{M:Md γ}(g0:γ)(H:HM K ix M Lf)(hs:x0=Lf xs 0 g0):HM K ix M Lf/\x0=Lf xs 0 g0:=⟨H,hs⟩
section
variable {P:Program} {b:Frame} {n:Nat} {k:List Item} {F:List Frame->(Machine->Prop)->Prop} {e:Env} {ds:List Deferred} {X:Cx} {h h00:HF} {L A:LH}
theorem lpkM{M:Md γ}(H:HM K ix M Lf/\x0=Lf xs 0 g0)(hb:xs.length<=9223372036854775807)(hi0:e ix=.int .i64 ((0:Nat):Int))(hm:MS M g0 0 g0 h e A L)(hX:X.h0=h00)(h0:h00.le h)(after:MU M g0 λJ i g rd ob og hh=>J->Af (i<=xs.length->x0=Lf [] i g->h.le hh->∀e',TT P b n k F (upds e' (kp e K++((ix,.int .i64 (i:Int))::rd))) ds X hh (ob++(A++og))))(cons:MU M g0 λJ i g rd ob og hh=>J->Cn (∀y r,xs.drop i=y::r->decide ((i:Int)<(xs.length:Int))=true->xs[i]? = some y->i<xs.length->xs.length<=9223372036854775807->x0=Lf (y::r) i g->h.le hh ->
   (∀i' g' {h2 e' L'},x0=Lf [] i' g'->MS M g0 i' g' h2 e' A L'->h.le h2->(hi:i'<=xs.length:=by omega)->(hr:fT e' (kp e K++[(ix,.int .i64 (i':Int))]):=by exact rds)->TT P b n k F e' ds X h2 L') ->
   (∀g' {h2 e' L'},x0=Lf r (i+1) g'->MS M g0 (i+1) g' h2 e' A L'->h.le h2->(hr:fT e' (kp e K++[(ix,.int .i64 ((i+1:Nat):Int))]):=by exact rds)->TT P b n (.inLoop c::.inBlock id::k) F e' ds X h2 L') ->
   ∀e',TT P b n (.code c::.inLoop c::.inBlock id::k) F (upds e' (kp e K++((ix,.int .i64 (i:Int))::rd))) ds X hh (ob++(A++og))))(nil:MU M g0 λJ i g rd ob og hh=>decide ((i:Int)<(xs.length:Int))=false->(∀e',fT e' (kp e K++((ix,.int .i64 (i:Int))::rd))->TT P b n k F e' ds X hh (ob++(A++og))) ->
   ∀e',TT P b n (.code c::.inLoop c::.inBlock id::k) F (upds e' (kp e K++((ix,.int .i64 (i:Int))::rd))) ds X hh (ob++(A++og)):=by exact ndM):
  TT P b n (.code (.block id (.loop c))::k) F e ds X h L:=by
 obtain⟨r0,hi,hrd,hsp⟩:=hm.ex
 refine Dq ?_ hsp (vF _) hX h0
 have rsplit:∀{e':Env}{i:Nat}{l:List (Nat×Value)},fT e' (kp e K++[(ix,.int .i64 (i:Int))])->fT e' l->fT e' (kp e K++((ix,.int .i64 (i:Int))::l)):=by
  intro e' i l h1 h2
  have h3:=EW h1 h2
  simpa using h3
 refine lpG (γ:=γ×M.Raw×HF) xs (λi g=>kp e K++((ix,.int .i64 (i:Int))::M.rd g.1 g.2.1)) (λg=>g.2.2) (λg=>M.ob g.1 g.2.1++(A++M.og g.1 g.2.1))
  (λi g=>M.inv g0 i g.1 g.2.1 g.2.2/\h.le g.2.2) (λs i g=>Lf s i g.1) (g0,r0,h) hb H.2 ⟨hi,vF _⟩ (tz ⟨hi0,hrd⟩) (λ_ hw=>hw) ?_ ?_ ?_
 .rintro i ⟨g,r,hh⟩ h1 h2 ⟨h3,h4⟩ e'
  exact after.al i g r hh h3 h1 h2 h4 e'
 .rintro i ⟨g,r,hh⟩ y rs a1 a2 a3 a4 a5 a6 ⟨h3,h4⟩ hx ag e'
  refine cons.al i g r hh h3 y rs a1 a2 a3 a4 a5 a6 h4 ?_ ?_ e'
  .rintro i' g' h2 e'' L' q1 ⟨⟨r',q2,q3,q4⟩⟩ q5 q7 q8
   exact Dq (hx i' (g',r',h2) q1 ⟨q2,q5⟩ q7 (rsplit q8 q3)) q4 (vF _) hX (xD h0 q5)
  .rintro g' h2 e'' L' q1 ⟨⟨r',q2,q3,q4⟩⟩ q5 q7
   exact Dq (ag (g',r',h2) q1 ⟨q2,q5⟩ (rsplit q7 q3)) q4 (vF _) hX (xD h0 q5)
 .rintro i ⟨g,r,hh⟩ hd hf hx e'
  exact nil.al i g r hh hf hx e'
theorem lpnM{N:Nat}{M:Md γ}{Lf:List Nat->Nat->γ->ρ}(H:HM K ix M Lf/\x0=Lf (xF N) 0 g0)(hb:N<=9223372036854775807)(hi0:e ix=.int .i64 ((0:Nat):Int))(hm:MS M g0 0 g0 h e A L)(hX:X.h0=h00)(h0:h00.le h)(after:MU M g0 λJ i g rd ob og hh=>J->Af (i<=N->x0=Lf [] i g->h.le hh->∀e',TT P b n k F (upds e' (kp e K++((ix,.int .i64 (i:Int))::rd))) ds X hh (ob++(A++og))))(cons:MU M g0 λJ i g rd ob og hh=>J->Cm (∀r,decide ((i:Int)<(N:Int))=true->i<N->x0=Lf (i::r) i g->h.le hh ->
   (∀g' {h2 e' L'},x0=Lf r (i+1) g'->MS M g0 (i+1) g' h2 e' A L'->h.le h2->(hr:fT e' (kp e K++[(ix,.int .i64 ((i+1:Nat):Int))]):=by exact rds)->TT P b n (.inLoop c::.inBlock id::k) F e' ds X h2 L') ->
   ∀e',TT P b n (.code c::.inLoop c::.inBlock id::k) F (upds e' (kp e K++((ix,.int .i64 (i:Int))::rd))) ds X hh (ob++(A++og))))(nil:MU M g0 λJ i g rd ob og hh=>decide ((i:Int)<(N:Int))=false->(∀e',fT e' (kp e K++((ix,.int .i64 (i:Int))::rd))->TT P b n k F e' ds X hh (ob++(A++og))) ->
   ∀e',TT P b n (.code c::.inLoop c::.inBlock id::k) F (upds e' (kp e K++((ix,.int .i64 (i:Int))::rd))) ds X hh (ob++(A++og)):=by exact ndM):
  TT P b n (.code (.block id (.loop c))::k) F e ds X h L:=by
 have hl:(xF N).length=N:=List.length_range
 refine lpkM (xs:=xF N) H (by rw[hl];exact hb) hi0 hm hX h0 ⟨λc' g r hh hJ hil=>after.al c' g r hh hJ (by rw[hl]at hil;exact hil)⟩ ⟨?_⟩ ⟨λc' g r hh hf=>nil.al c' g r hh (by rw[hl]at hf;exact hf)⟩
 intro c' g r hh hJ y rs hd hlt hget hltp hbd hs eT hx ag e'
 have h1:c'<N:=by rw[hl]at hltp;exact hltp
 have h3:y=c':=by simp[h1]at hget;omega
 subst h3
 exact cons.al y g r hh hJ rs (by rw[hl]at hlt;exact hlt) h1 hs eT (λg' {_ _ _}a b' c'' d=>ag g' a b' c'' d) e'
end
def Rn(p:Prop):Prop:=p
def Nx(p:Prop):Prop:=p
theorem gRn(q:p):Rn p:=q
theorem gNx(q:p):Nx p:=q
def HR{α γ ρ : Type}(M:Md γ)(Lf:List α->γ->ρ)(JR:γ->Prop)(QP:List PanicEntry->Prop):Prop:=True
theorem lR(M:Md γ)(Lf:List α->γ->ρ):HR M Lf (λ_=>False) (λ_=>False):=trivial
theorem lX{σ:Type}(pe:Int->Value)(z:Except Int σ)(M:Md γ)(Lf:List α->γ->Except Int σ):HR M Lf (λ_=>False) (λch=>∃er,ch=[{ v:=pe er,recovered:=false }]/\z=.error er):=trivial
theorem lS(z:ρ)(Lr:γ->ρ)(M:Md γ)(Lf:List α->γ->ρ):HR M Lf (λg=>z=Lr g) (λ_=>False):=trivial
theorem hsR{M:Md γ}{Lf:List α->γ->ρ}{QP:List PanicEntry->Prop}(g0:γ)(H:HR M Lf JR QP)(hs:x0=Lf xs g0):HR M Lf JR QP/\x0=Lf xs g0:=⟨H,hs⟩
def Jr(p:Prop):Prop:=p
def Pq(p:Prop):Prop:=p
theorem gJr(q:p):Jr p:=q
theorem gPq(q:p):Pq p:=q
theorem lprM{f:FuncId}{xid:Nat}{F:List Frame->(Machine->Prop)->Prop}{L A':LH}{g:Operand}{ps:List Tmp}{assign body:Code}{M:Md γ}{Lf:List α->γ->ρ}{QP:List PanicEntry->Prop}(H:HR M Lf JR QP/\x0=Lf xs g0)(hgv:e.ev g=it)(hit:Itr P it val xs h)(hf:P.funcs[f]? = some fn)(hm:MS M g0 0 g0 h e A L)(hds:ds=marks rs)(hA:A.Perm (A'++markB rs))(hX:X.h0=h00)(h0:h00.le h)(hps:ps.all (λp=>kH p n)=true)(hval:∀x h vs,val x h vs->vs.length=ps.length)(round:MU M g0 λJ c g rd ob og hh=>J->Rn (∀(l r:Nat)(lp:Loop)(x:α)(rest:List α)(vs:List Value)(h':HF)(X:Cx)(FR:List Frame->(Machine->Prop)->Prop),c+(rest.length+1)<=xs.length->x∈xs->h.le hh->hh.le h'->val x h' vs->X.h0=h'->(∀b∈X.M,b<X.w0.heap.size)->lp.state=.ready->x0=Lf (x::rest) g ->
   (∀g' {h2 e' L'},x0=Lf rest g'->MS M g0 (c+1) g' h2 e' ((l,.loop { lp with state:=.busy })::(r,.deferred (some []))::A) L'->h'.le h2->TT P (roundFrame l f) n [] FR e' [] X h2 L') ->
   (∀g' {h2 e' L' k'},JR g'->MS M g0 (c+1) g' h2 e' ((l,.loop { lp with state:=.busy })::(r,.deferred (some []))::A) L'->h'.le h2->TT P (roundFrame l f) n (.code .ret::k') FR e' [] X h2 L') ->
   (∀g' {h2 e' L' k'},x0=Lf [] g'->MS M g0 (c+1) g' h2 e' ((l,.loop { lp with state:=.busy })::(r,.deferred (some []))::A) L'->h'.le h2->exitTo xid k'=none->TT P (roundFrame l f) n (.code (.exit xid)::k') FR e' [] X h2 L') ->
   (∀ch {h2 e' L'},QP ch->SP ((l,.loop { lp with state:=.busy })::(r,.deferred (some []))::A) L'->TP P (roundFrame l f) n ch FR e' [] X h2 L') ->
   TT P (roundFrame l f) n [.code assign,.beginRound,.code body] FR (setParams e ps vs) [] X h' ((l,.loop lp)::(r,.deferred (some []))::(ob++(A++og)))))(next:MU M g0 λJ c g rd ob og hh=>J->Nx (∀r h',x0=Lf [] g->h.le hh->hh.le h'->TT P (bodyFrame f) n k F e (marks (r::rs)) X h' ((ob++(A'++og))++markB (r::rs))))(jret:MU M g0 λJ c g rd ob og hh=>J->Jr (∀r h',JR g->h.le hh->hh.le h'->TT P (bodyFrame f) n (.code .ret::.inBlock xid::k) F e (marks (r::rs)) X h' ((ob++(A'++og))++markB (r::rs))))(pan:Pq (∀r ch h' L',QP ch->TP P (bodyFrame f) n ch F e (marks (r::rs)) X h' (L'++markB (r::rs)))):
  TT P (bodyFrame f) n (.code (.rangeFunc g ps.toArray assign body)::.inBlock xid::k) F e ds X h L:=by
 obtain⟨r0,hi,hrd,hsp⟩:=hm.ex
 subst hds
 have hpm:∀(O G:LH),(O++(A++G)).Perm ((O++(A'++G))++markB rs):=by
  intro O G
  rw[zC,zC]
  refine List.Perm.append_left O ((hA.append_right G).trans ?_)
  rw[zC]
  exact List.Perm.append_left A' zD
 refine Dq ?_ hsp (vF _) hX h0
 refine jy (hpm _ _) (Lq (ι:=γ×M.Raw×HF×Nat) rs (λi=>i.2.2.1) (λi=>M.ob i.1 i.2.1++(A'++M.og i.1 i.2.1))
  (λs i=>(i.2.2.2+s.length<=xs.length/\x0=Lf s i.1/\s <:+ xs)/\M.inv g0 i.2.2.2 i.1 i.2.1 i.2.2.1/\h.le i.2.2.1) (λi=>JR i.1/\M.inv g0 i.2.2.2 i.1 i.2.1 i.2.2.1/\h.le i.2.2.1) xid (λch _ _=>QP ch) (g0,r0,h,0) hf hgv hit hps hval (λ_ _ _ _ _ hq=>hq) rfl rfl ⟨⟨by simp,H.2,List.suffix_refl _⟩,hi,vF _⟩ ?_ ?_
  (λr i h' q hl1 _=>jret.al i.2.2.2 i.1 i.2.1 i.2.2.1 q.2.1 r h' q.1 q.2.2 hl1) (λr ch h' L' q _=>pan r ch h' L' q))
 .rintro l r lp x rest vs ⟨g,rw_,hh,c⟩ h' X' FR ⟨⟨hc,hs,hsu⟩,hinv,eT⟩ hl1 hl2 hv hX' hXM hlp nx rt ex pn
  have hp2:((l,Obj.loop lp)::(r,Obj.deferred (some []))::(M.ob g rw_++(A'++M.og g rw_)++markB rs)).Perm ((l,.loop lp)::(r,.deferred (some []))::(M.ob g rw_++(A++M.og g rw_))):=List.Perm.cons _ (List.Perm.cons _ (hpm _ _).symm)
  have hp3:∀g' r',(M.ob g' r'++((l,Obj.loop { lp with state:=.busy })::(r,Obj.deferred (some []))::A++M.og g' r')).Perm (rdH l r lp (M.ob g' r'++(A'++M.og g' r')++markB rs)):=by
   intro g' r'
   refine List.Perm.trans ?_ (List.Perm.cons _ (List.Perm.cons _ (hpm _ _)))
   simp only[jK]
   refine List.perm_middle.trans (List.Perm.cons _ ?_)
   exact List.perm_middle
  have hc2:c+(rest.length+1)<=xs.length:=hc
  refine jy hp2 (round.al c g rw_ hh hinv l r lp x rest vs h' X' FR hc2 (hsu.subset (zB ..)) eT hl2 hv hX' hXM hlp hs ?_ ?_ ?_ ?_)
  .rintro g' h2 e' L' q1 ⟨⟨r',q2,q3,q4⟩⟩ q5
   exact Dq (jy (hp3 g' r') (nx (g',r',h2,c+1) e' h2 ⟨⟨by show c+1+rest.length<=xs.length;omega,q1,(List.suffix_cons x rest).trans hsu⟩,q2,xD eT (xD hl2 q5)⟩ (vF _))) q4 (vF _) hX' q5
  .rintro g' h2 e' L' k' q1 ⟨⟨r',q2,q3,q4⟩⟩ q5
   exact Dq (jy (hp3 g' r') (rt (g',r',h2,c+1) e' h2 k' ⟨q1,q2,xD eT (xD hl2 q5)⟩ (vF _))) q4 (vF _) hX' q5
  .rintro g' h2 e' L' k' q1 ⟨⟨r',q2,q3,q4⟩⟩ q5 q6
   exact Dq (jy (hp3 g' r') (ex (g',r',h2,c+1) e' h2 k' ⟨⟨by show c+1+0<=xs.length;omega,q1,List.nil_suffix⟩,q2,xD eT (xD hl2 q5)⟩ (vF _) q6)) q4 (vF _) hX' q5
  .rintro ch h2 e' L' hz ⟨C,q1,q2⟩
   exact EF q1 (Hk (q2.trans (List.Perm.cons _ (List.Perm.cons _ hA))) (pn ch e' h2 A' hz))
 .rintro r ⟨g,rw_,hh,c⟩ h' ⟨⟨_,hs,_⟩,hinv,eT⟩ hl1 _
  exact next.al c g rw_ hh hinv r h' hs eT hl1
theorem pqX{σ:Type}{f:FuncId}{fz:σ->Value}{z:Except Int σ}(hf:P.funcs[f]? = some fn)(hX:X.h0=hh):
  Pq (∀r ch h' L',(∃er,ch=[{ v:=pe er,recovered:=false }]/\z=.error er)->TP P (bodyFrame f) n ch (lJ P X (XR (exW pe fz z) hh)) e (marks (r::rs)) X h' (L'++markB (r::rs))):=
 λr ch h' L'⟨er,e1,hs⟩=>e1▸yw (r::rs) hf hX (by rw[hs];rfl)
def HK{α ρ : Type}(K:List Nat)(ix:Nat)(Lf:List α->Nat->ρ):Prop:=True
theorem lK(K:List Nat)(ix:Nat)(Lf:List α->Nat->ρ):HK K ix Lf:=trivial
theorem hsK{Lf:List α->Nat->ρ}(H:HK K ix Lf)(hs:x0=Lf xs 0):HK K ix Lf/\x0=Lf xs 0:=⟨H,hs⟩
theorem lpkR{F:List Frame->(Machine->Prop)->Prop}{L:LH}{Lf:List α->Nat->ρ}(H:HK K ix Lf/\x0=Lf xs 0)(hb:xs.length<=9223372036854775807)(hi0:e ix=.int .i64 ((0:Nat):Int))(hds:ds=marks rs)(hA:L.Perm (A++markB rs))(hX:X.h0=h00)(h0:h00.le h)(after:∀i rs hh,i<=xs.length->x0=Lf [] i->h.le hh->∀e',TT P b n k F (upds e' (kp e K++[(ix,.int .i64 (i:Int))])) (marks rs) X hh (A++markB rs))(cons:∀i rs hh y r,xs.drop i=y::r->decide ((i:Int)<(xs.length:Int))=true->xs[i]? = some y->i<xs.length->xs.length<=9223372036854775807->x0=Lf (y::r) i->h.le hh ->
   (∀i' {rs h2 e' L'},x0=Lf [] i'->h.le h2->SP (A++markB rs) L'->(hi:i'<=xs.length:=by omega)->(hr:fT e' (kp e K++[(ix,.int .i64 (i':Int))]):=by exact rds)->TT P b n k F e' (marks rs) X h2 L') ->
   (∀{rs h2 e' L'},x0=Lf r (i+1)->h.le h2->SP (A++markB rs) L'->(hr:fT e' (kp e K++[(ix,.int .i64 ((i+1:Nat):Int))]):=by exact rds)->TT P b n (.inLoop c::.inBlock id::k) F e' (marks rs) X h2 L') ->
   ∀e',TT P b n (.code c::.inLoop c::.inBlock id::k) F (upds e' (kp e K++[(ix,.int .i64 (i:Int))])) (marks rs) X hh (A++markB rs))(nil:∀i(g:List Nat×HF),xs.drop i=[]->decide ((i:Int)<(xs.length:Int))=false->(∀e',fT e' (kp e K++[(ix,.int .i64 (i:Int))])->TT P b n k F e' (marks g.1) X g.2 (A++markB g.1)) ->
   ∀e',TT P b n (.code c::.inLoop c::.inBlock id::k) F (upds e' (kp e K++[(ix,.int .i64 (i:Int))])) (marks g.1) X g.2 (A++markB g.1):=by exact ndW):
  TT P b n (.code (.block id (.loop c))::k) F e ds X h L:=by
 subst hds
 refine jy hA ?_
 refine yv (ι:=Nat×List Nat×HF) (λi=>kp e K++[(ix,.int .i64 (i.1:Int))]) (λi=>marks i.2.1) (λi=>i.2.2) (λi=>A++markB i.2.1) (λi=>i.1<=xs.length/\x0=Lf [] i.1/\h.le i.2.2) ?_ (λhx=>?_)
 .grind
 .refine Ds (ι:=Nat×List Nat×HF×List α) (λi=>kp e K++[(ix,.int .i64 (i.1:Int))]) (λi=>marks i.2.1) (λi=>i.2.2.1) (λi=>A++markB i.2.1) (λi=>xs.drop i.1=i.2.2.2/\i.1<=xs.length/\x0=Lf i.2.2.2 i.1/\h.le i.2.2.1) (λi=>i.2.2.2.length) (0,rs,h,xs) rfl (tz ⟨hi0,trivial⟩) (λ_ hw=>hw) ⟨rfl,kJ _,H.2,vF _⟩ ?_
  rintro⟨i,rs,hh,s⟩ ⟨hd,hi,hs,hl⟩ ag e'
  dsimp only at hd hi hs hl
  rcases s with _|⟨y,r⟩
  .exact nil i (rs,hh) hd (rm hd) (λe'' hr=>hx (i,rs,hh) e'' ⟨hi,hs,hl⟩ hr) e'
  .refine cons i rs hh y r hd (Bs hd) (sR hd) (kl hd) hb hs hl ?_ ?_ e'
   .intro i' rs' h2 e'' L' q1 q2 q3 q4 q5
    exact Dq (hx (i',rs',h2) e'' ⟨q4,q1,q2⟩ q5) q3 (vF _) hX (xD h0 q2)
   .intro rs' h2 e'' L' q1 q2 q3 q5
    exact Dq (ag (i+1,rs',h2,r) e'' (Nat.lt_succ_self _) ⟨nl hd,kl hd,q1,q2⟩ q5) q3 (vF _) hX (xD h0 q2)
section
variable {P:Program} {f:FuncId} {n:Nat} {k:List Item} {e:Env} {X:Cx} {h:HF} {L Q:LH} {fn:Func} {rs:List ResultVar} {ms:List Nat}
theorem wrPM(vs:List Value)(hp:L.Perm (Q++markB ms))(hf:P.funcs[f]? = some fn)(hr:fn.results=rs.toArray)(hv:qy P e Q rs vs)(hX:X.h0=hh)(hvv:retVal vs=v):
  TT P (bodyFrame f) n (.code .ret::k) (lJ P X (λx h' B=>x=.returned v/\h'=hh/\B=[])) e (marks ms) X h L:=jy hp (Dr ms vs hf hr hX hv hvv)
theorem wrHM{φ : Value->HF->Prop}(vs:List Value)(hp:L.Perm (Q++markB ms))(hf:P.funcs[f]? = some fn)(hr:fn.results=rs.toArray)(hv:qy P e Q rs vs)(hφ : φ (retVal vs) h):
  TT P (bodyFrame f) n (.code .ret::k) (lJ P X (λx h' B=>B=[]/\∃v,x=.returned v/\φ v h')) e (marks ms) X h L:=jy hp (uX ms vs hf hr hv hφ)
theorem weXM{z:Except Int ρ}{r:ρ}(hs:z=.ok r)(vs:List Value)(hp:L.Perm (Q++markB ms))(hf:P.funcs[f]? = some fn)(hr:fn.results=rs.toArray)(hX:X.h0=hh)(hv:qy P e Q rs vs)(hvv:retVal vs=f' r):
  TT P (bodyFrame f) n [] (lJ P X (XR (exW pe f' z) hh)) e (marks ms) X h L:=jy hp (MI ms vs hf hr hX hv (by rw[hs,hvv];rfl))
theorem gBr{F:List Frame->(Machine->Prop)->Prop}(t:TT P b n (.beginRound::k) F e ds X h L):TT P b n (.beginRound::k) F e ds X h L:=t
theorem gRf{F:List Frame->(Machine->Prop)->Prop}{g:Operand}{ps:Array Tmp}{p q:Code}(t:TT P b n (.code (.rangeFunc g ps p q)::k) F e ds X h L):TT P b n (.code (.rangeFunc g ps p q)::k) F e ds X h L:=t
end
end
end Go.Sg
