import Derived.Shelf.SlSortCmp.WholeK
import Derived.Ground.SlsfProg
import Derived.Shelf.Small.Strs
import Derived.Shelf.Strings.Search1
import Derived.Shelf.Sort.Plain
import Derived.Ground.Names2Prog
import Derived.Shelf.Slices.Clone
import Derived.Shelf.Slices.CompactI
import Derived.Shelf.Slices.SearchI
import Derived.Shelf.Slices.In.SortNone
import Derived.Shelf.Slices.Empties
import Derived.Ground.SlgcProg
import Derived.Shelf.SlicesG.Cmp
import Derived.Test.YtafbfagbjekhhaaGreatDoorW4
/- A part of the proof of MissingNothing. -/
set_option linter.unusedVariables false
set_option linter.unusedSimpArgs false
set_option maxRecDepth 100000
open List renaming length_cons→zA,length_nil→zB,toArray→xB,range→qE
open Go.Sg.Rp renaming int→jB,str→Wc,sl→Wx,iO→WK
open Go.IntKind renaming wrap→vB
open Go.Value renaming int→qC
open Go.Sg.Register renaming cells→kC
open Nat renaming le_refl→vE,zero_le→xH,blt→zJ,eq_of_beq_eq_true→jL,beq→zW
open Go.Sg.SlC renaming nil→qG
open Go.Obj renaming cells→jG
open Go.Deferred renaming ofValue→qH
open Go.Sg.HF renaming le→xJ
open Go.Result renaming andThen_ok→vJ
open Go.Sem renaming run_bind→zL
open Option.some renaming injEq→jN
open Go.Sg.Budget renaming rp→vQ
open Go.Sg.RpG renaming good→Wp
open Go.Region renaming binds→WG
open Go.Sg.OSeat renaming rp→WM
open Go.Instr renaming fill→Xn

namespace Go.Sg
variable {P:Program}{T bk i id j m':Nat}{X:Cx}{af:Array Edge}{c w:Bool}{captured:List Operand}{cl:List Go.Value}{d:Option Nat}{dn dn':List Nat}{e:Env}{fz:Nat×Nat}{g:Option (Nat×Bool)}{h h':HF}{l:List Oper}{o:Oper}{op:Op}{p:Prop}{pos:String}{tF:List (Nat×Nat×Nat)}{tS:List (Nat×Bool)}{ty:TypeId}{v:Go.Value}{x:Operand}{α:Type}{y:α}
section
def bnd:Ground->Bool
 |.textOnly _=>false
 |.gcOnly _=>false
 |_=>true
def hasN:List Nat->Nat->Bool
 |[],_=>false
 |a::l,t=>match zW a t with
  |true=>true
  |false=>hasN l t
def rdyE(dn:List Nat):List Edge->Bool
 |[]=>true
 |⟨j,g⟩::l=>match bnd g with
  |true=>match hasN dn j with
   |true=>rdyE dn l
   |false=>false
  |false=>rdyE dn l
def rdyO(dn:List Nat)(i:Nat):Oper->Bool
 |⟨_,_,_,_,⟨af⟩,_⟩=>match hasN dn i with
  |true=>false
  |false=>rdyE dn af
def nxS(dn:List Nat):Nat->List Oper->List Nat
 |_,[]=>[]
 |i,o::l=>match rdyO dn i o with
  |true=>i::nxS dn (i+1) l
  |false=>nxS dn (i+1) l
theorem PD{t:Nat}:hasN dn t=dn.contains t:=by
 induction dn with
 |nil=>rfl
 |cons a l ih=>
  unfold hasN
  rw[List.contains_cons,←ih]
  cases h:zW a t with
  |true=>rw[jL h];simp
  |false=>
   have:¬t=a:=λe=>by subst e;simp at h
   simp[this]
theorem UT(e:Edge):bnd e.ground=WG .any e:=by
 unfold bnd WG
 cases e.ground<;>rfl
theorem Tj{af:List Edge}:rdyE dn af=af.all λe=>!Region.binds .any e||dn.contains e.on:=by
 induction af with
 |nil=>rfl
 |cons a l ih=>
  obtain⟨j,g⟩:=a
  have hb:=UT ⟨j,g⟩
  unfold rdyE
  rw[List.all_cons,←ih,←hb,PD]
  dsimp only
  cases bnd g<;>cases dn.contains j<;>rfl
theorem Ph:rdyO dn i o=(!dn.contains i&&o.after.all λe=>!Region.binds .any e||dn.contains e.on):=by
 obtain⟨a,b,c,d,⟨af⟩,f⟩:=o
 unfold rdyO
 rw[PD]
 cases dn.contains i with
 |true=>rfl
 |false=>simp[Tj]
theorem R2(dn:List Nat)(f:Nat->Option Oper):∀(l:List Oper)(s:Nat),(∀j,f (s+j)=l[j]?)->nxS dn s l=(List.range' s l.length).filter λi=>!dn.contains i&&((f i).map (·.after.all λe=>!Region.binds .any e||dn.contains e.on)).getD false
 |[],s,_=>rfl
 |o::l,s,h=>by
  have h0:f s=some o:=by simpa using h 0
  have h1:=R2 dn f l (s+1) (λj=>by rw[Nat.add_assoc,Nat.add_comm 1 j];simpa using h (j+1))
  unfold nxS
  rw[zA,List.range'_succ,h1]
  have hq:=Ph (dn:=dn) (i:=s) (o:=o)
  cases hr:rdyO dn s o with
  |true=>rw[List.filter_cons_of_pos (by rw[h0];exact hq.symm.trans hr)]
  |false=>rw[List.filter_cons_of_neg (by rw[h0];exact λh=>Bool.noConfusion (hr.symm.trans (hq.trans h)))]
theorem J7:nexts l.toArray dn=nxS dn 0 l:=by
 rw[R2 dn (λi=>l.toArray[i]?) l 0 (λj=>by simp)]
 unfold nexts
 simp[List.range_eq_range']
def flt:Op->Bool
 |.load _ _=>true
 |.fieldAddr _ _ _=>true
 |.indexAddr _ _ _=>true
 |.index _ _ _=>true
 |.binOp _ _ _ _ _=>true
 |.unOp _ _ _=>true
 |.pick _ _ _=>true
 |.move _=>true
 |.assign _=>true
 |.extract _ _=>true
 |.field _ _ _=>true
 |.call ⟨.builtin .len,_,_⟩=>true
 |_=>false
def fstD(md:Nat)(dn:List Nat):Nat->List Oper->Option (Nat×Oper)
 |_,[]=>none
 |i,o::l=>match(match md with|0=>flt o.op|_=>o.guard.isSome)with
  |true=>match rdyO dn i o with
   |true=>some (i,o)
   |false=>fstD md dn (i+1) l
  |false=>fstD md dn (i+1) l
def gslot(ops:List Oper)(j:Nat):Option Nat:=match nth ops j with
 |some o=>o.dst
 |none=>none
def Vb(ops:List Oper)(gk:List Nat)(op:Op):Option (Nat×Bool)->Bool
 |none=>match op with
  |.pick (.tmp s) _ _=>hasN gk s
  |.pick _ _ _=>false
  |_=>true
 |some (j,_)=>match gslot ops j with
  |some s=>hasN gk s
  |none=>false
def passD(tF:List (Nat×Nat×Nat))(tS:List (Nat×Bool))(ops:List Oper)(gk:List Nat):Nat->List Oper->Nat->List Nat->Env->Nat×List Nat×Env
 |i,⟨some d,op,ty,pos,⟨af⟩,g⟩::l,m+1,dn,e=>match hasN dn i with
  |true=>passD tF tS ops gk (i+1) l (m+1) dn e
  |false=>match rdyE dn af with
   |false=>passD tF tS ops gk (i+1) l (m+1) dn e
   |true=>match Vb ops gk op g with
    |false=>passD tF tS ops gk (i+1) l (m+1) dn e
    |true=>match guardB ⟨ops⟩ e ⟨some d,op,ty,pos,⟨af⟩,g⟩with
     |false=>passD tF tS ops gk (i+1) l m (i::dn) (upd e d undef)
     |true=>match valM tF tS e op with
      |some v=>passD tF tS ops gk (i+1) l m (i::dn) (upd e d v)
      |none=>passD tF tS ops gk (i+1) l (m+1) dn e
 |i,⟨none,_,_,_,_,_⟩::l,m,dn,e=>passD tF tS ops gk (i+1) l m dn e
 |_,_,m,dn,e=>(m,dn,e)
section
variable {P:Program} {b:Frame} {n:Nat} {k:List Item} {F:List Frame->(Machine->Prop)->Prop} {ds:List Deferred} {X:Cx} {l:List Oper}
theorem PL{md:Nat}{dn:List Nat}(ops:List Oper):∀(l:List Oper)(s:Nat),(∀j,nth ops (s+j)=nth l j)->∀{i:Nat}{o:Oper},fstD md dn s l=some (i,o)->nth ops i=some o/\rdyO dn i o=true
 |[],s,_,i,o,h=>by cases h
 |a::l,s,hn,i,o,h=>by
  have hr:fstD md dn (s+1) l=some (i,o)->nth ops i=some o/\rdyO dn i o=true:=PL ops l (s+1) (λj=>by rw[Nat.add_assoc,Nat.add_comm 1 j];exact hn (j+1))
  unfold fstD at h
  split at h
  .split at h
   .next h2=>cases h;exact⟨hn 0,h2⟩
   .exact hr h
  .exact hr h
theorem Dq(hi:nth l i=some o)(hr:rdyO dn i o=true):(nexts l.toArray dn).contains i=true:=by
 rw[iT]at hi
 have hl:i<l.length:=(List.getElem?_eq_some_iff.1 hi).1
 rw[Ph]at hr
 simp only[nexts,List.contains_iff_mem,List.mem_filter,List.mem_range,List.size_toArray]
 refine⟨hl,?_⟩
 have:l.toArray[i]? = some o:=by simpa using hi
 rw[this]
 exact hr
def TD(gk:List Nat)(P:Program)(b:Frame)(n:Nat)(l:List Oper)(k:List Item)(F:List Frame->(Machine->Prop)->Prop)(ds:List Deferred)(X:Cx)(m:Nat)(dn:List Nat)(e:Env)(h:HF)(L:LH):Prop:=
 sepAll l.toArray=true->TA P b n l.toArray k F ds X (Jst h L) m dn e h L
def TX(gk:List Nat)(P:Program)(b:Frame)(n:Nat)(l:List Oper)(k:List Item)(F:List Frame->(Machine->Prop)->Prop)(ds:List Deferred)(X:Cx)(m:Nat)(dn:List Nat)(i:Nat)(o:Oper)(e:Env)(h:HF)(L:LH):Prop:=
 nth l i=some o->rdyO dn i o=true->TD gk P b n l k F ds X (m+1) dn e h L
variable {m:Nat} {dn:List Nat} {e:Env} {h:HF} {L:LH} {i:Nat} {o:Oper} {gk:List Nat}
theorem wany(hm:P.follows .mixedOrders=true)(t:TD [] P b n l k F ds X l.length [] e h L)(hc:(sepAll l.toArray&&slotsIn l.toArray n)=true:=by kernel_rfl):TT P b n (.code (.region id ⟨l⟩ true)::k) F e ds X h L:=
 fo L hm hc (Jst.start h L) (λhs _=>t hs)
theorem wdx(md:Nat)(hf:fstD md dn 0 l=some (i,o))(t:TX gk P b n l k F ds X m dn i o e h L):TD gk P b n l k F ds X (m+1) dn e h L:=by
 obtain⟨h1,h2⟩:=PL l l 0 (λj=>by rw[Nat.zero_add]) hf
 exact t h1 h2
theorem wdf{d:Nat}(hd:o.dst=some d)(hg:guardB l.toArray e o=true)(hr:∀h' L',Jst h L h' L'->∀w,St X h' L' w->(execOp e.ev o).run P w=.ok (.value v) w)(t:TD gk P b n l k F ds X m (i::dn) (upd e d v) h L):TX gk P b n l k F ds X m dn i o e h L:=
 λhi hy hs=>kh i hs (Jst.start h L) hi hd (Dq hi hy) hg hr (t hs)
theorem wdlr(v:Bool){s:Nat}(hj:gslot l j=some s)(hk:hasN gk s=false)(he:e s=.bool v)(t:TD (s::gk) P b n l k F ds X (m+1) dn e h L):TX gk P b n l k F ds X m dn i ⟨d,op,ty,pos,af,some (j,w)⟩ e h L:=λ_ _=>t
theorem wdlu{s:Nat}(hj:gslot l j=some s)(hk:hasN gk s=false)(he:e s=undef)(t:TD (s::gk) P b n l k F ds X (m+1) dn e h L):TX gk P b n l k F ds X m dn i ⟨d,op,ty,pos,af,some (j,w)⟩ e h L:=λ_ _=>t
theorem wdsp{s:Nat}{x:Bool}(hj:gslot l j=some s)(hk:hasN gk s=false)(he:e s=.bool x)(t1:x=true->TD (s::gk) P b n l k F ds X (m+1) dn (upd e s (.bool true)) h L)(t0:x=false->TD (s::gk) P b n l k F ds X (m+1) dn (upd e s (.bool false)) h L):TX gk P b n l k F ds X m dn i ⟨d,op,ty,pos,af,some (j,w)⟩ e h L:=
 λhi hy hs=>fJ s he (λhx=>t1 hx hs) (λhx=>t0 hx hs)
theorem wd0(hn:nxS dn 0 l=[])(t:TT P b n k F e ds X h L):TD gk P b n l k F ds X 0 dn e h L:=λ_=>bW (J7.trans hn) t
def JT(h:HF)(L:LH)(h':HF)(L':LH)(p:Prop):Prop:=h.le h'/\L.Sublist L'/\p
theorem Up{o:Oper}(hs:sepAll l.toArray=true)(t:Stp P b n l.toArray F ds X o e h L λe' h' L'=>JT h L h' L' (TD gk P b n l k F ds X m (i::dn) e' h' L')):Stp P b n l.toArray F ds X o e h L λe' h' L'=>Jst h L h' L'/\TA P b n l.toArray k F ds X (Jst h L) m (i::dn) e' h' L':=
 Stp.mono (λe' h' L'⟨a,b,c⟩=>⟨⟨a,λp hp=>b.subset hp⟩,sK a (λp hp=>b.subset hp) (c hs)⟩) t
theorem wd1{i:Nat}{o:Oper}(hn:nxS dn 0 l=[i])(hi:nth l i=some o)(t:Stp P b n l.toArray F ds X o e h L λe' h' L'=>JT h L h' L' (TD gk P b n l k F ds X m (i::dn) e' h' L')):TD gk P b n l k F ds X (m+1) dn e h L:=
 λhs=>RA i (J7.trans hn) hi (Up hs t)
theorem RZ(hF:(tF.all λx=>fldOf P x.1 x.2.1==some x.2.2)=true)(hS:tS.map (λx=>lenK P x.1)=tS.map (λx=>some x.2))(hs:sepAll l.toArray=true)(gk:List Nat):
  ∀(i:Nat)(r:List Oper)(m:Nat)(dn:List Nat)(e:Env),(∀j,nth l (i+j)=nth r j)->TA P b n l.toArray k F ds X (Jst h L) (passD tF tS l gk i r m dn e).1 (passD tF tS l gk i r m dn e).2.1 (passD tF tS l gk i r m dn e).2.2 h L->TA P b n l.toArray k F ds X (Jst h L) m dn e h L:=by
 intro i r m dn e
 fun_induction passD tF tS l gk i r m dn e with
 |case1 i d op ty pos af g l' m dn e hh ih=>exact λhn t=>ih (λj=>by rw[Nat.add_assoc,Nat.add_comm 1 j];exact hn (j+1)) t
 |case2 i d op ty pos af g l' m dn e hh hr ih=>exact λhn t=>ih (λj=>by rw[Nat.add_assoc,Nat.add_comm 1 j];exact hn (j+1)) t
 |case3 i d op ty pos af g l' m dn e hh hr hp ih=>exact λhn t=>ih (λj=>by rw[Nat.add_assoc,Nat.add_comm 1 j];exact hn (j+1)) t
 |case4 i d op ty pos af g l' m dn e hh hr hp hg ih=>
  intro hn t
  have hi:nth l i=some ⟨some d,op,ty,pos,⟨af⟩,g⟩:=hn 0
  refine nh i hs (Jst.start h L) hi rfl (Dq hi ?_) hg (ih (λj=>by rw[Nat.add_assoc,Nat.add_comm 1 j];exact hn (j+1)) t)
  unfold rdyO
  rw[hh]
  exact hr
 |case5 i d op ty pos af g l' m dn e hh hr hp hg v hv ih=>
  intro hn t
  have hi:nth l i=some ⟨some d,op,ty,pos,⟨af⟩,g⟩:=hn 0
  refine kh i hs (Jst.start h L) hi rfl (Dq hi ?_) hg (λh' L' _ w hw=>(Kx hF hS hv).2 _ _ _ _ _ w hw) (ih (λj=>by rw[Nat.add_assoc,Nat.add_comm 1 j];exact hn (j+1)) t)
  unfold rdyO
  rw[hh]
  exact hr
 |case6 i d op ty pos af g l' m dn e hh hr hp hg hv ih=>exact λhn t=>ih (λj=>by rw[Nat.add_assoc,Nat.add_comm 1 j];exact hn (j+1)) t
 |case7 i a b' c d l' g m dn e ih=>exact λhn t=>ih (λj=>by rw[Nat.add_assoc,Nat.add_comm 1 j];exact hn (j+1)) t
 |case8=>exact λ_ t=>t
theorem wdqP(hF:(tF.all λx=>fldOf P x.1 x.2.1==some x.2.2)=true)(hS:tS.map (λx=>lenK P x.1)=tS.map (λx=>some x.2)){e':Env}(hp:passD tF tS l gk 0 l m dn e=(m',dn',e'))(t:TD gk P b n l k F ds X m' dn' e' h L):TD gk P b n l k F ds X m dn e h L:=λhs=>RZ hF hS hs gk 0 l m dn e (λj=>by rw[Nat.zero_add]) (by rw[hp];exact t hs)
theorem wcoT{x z:α}{o:Operand}{p q:Code}(hx:e.ev o=.bool true)(hs:x=bif c then y else z)(hc:c=true)(t:x=y->TT P b n (.code p::k) F e ds X h L):TT P b n (.code (.cond o p q)::k) F e ds X h L:=mq hx (t (hs.trans (by rw[hc];rfl)))
theorem wcoN{x z:α}{c':Bool}{o:Operand}{p q:Code}(hx:e.ev o=.bool c)(hs:x=bif c' then y else z)(hc:c'=c)(t1:c=true->x=y->TT P b n (.code p::k) F e ds X h L)(t2:c=false->x=z->TT P b n (.code q::k) F e ds X h L):TT P b n (.code (.cond o p q)::k) F e ds X h L:=aI (hc▸hs) hx t1 t2
theorem wcoF{x z:α}{o:Operand}{p q:Code}(hx:e.ev o=.bool false)(hs:x=bif c then y else z)(hc:c=false)(t:x=z->TT P b n (.code q::k) F e ds X h L):TT P b n (.code (.cond o p q)::k) F e ds X h L:=oe hx (t (hs.trans (by rw[hc];rfl)))
section shapes
variable {e:Env} {K:Env->HF->LH->Prop} {ops:Array Oper} {d:Option Nat} {ty t:TypeId} {pos:String} {af:Array Edge} {g:Option (Nat×Bool)} {x y:Operand}
theorem gD(t:TD gk P b n l k F ds X m dn e h L):TD gk P b n l k F ds X m dn e h L:=t
theorem gX(t:TX gk P b n l k F ds X m dn i o e h L):TX gk P b n l k F ds X m dn i o e h L:=t
theorem gXl(q:TX gk P b n l k F ds X m dn i ⟨d,.load t x,ty,pos,af,g⟩ e h L):TX gk P b n l k F ds X m dn i ⟨d,.load t x,ty,pos,af,g⟩ e h L:=q
theorem gXi(q:TX gk P b n l k F ds X m dn i ⟨d,.indexAddr t x y,ty,pos,af,g⟩ e h L):TX gk P b n l k F ds X m dn i ⟨d,.indexAddr t x y,ty,pos,af,g⟩ e h L:=q
theorem gS(q:Stp P b n ops F ds X o e h L K):Stp P b n ops F ds X o e h L K:=q
theorem gJ{L':LH}(q:JT h L h' L' p):JT h L h' L' p:=q
theorem gRg{ops:Array Oper}(q:TT P b n (.code (.region id ops true)::k) F e ds X h L):TT P b n (.code (.region id ops true)::k) F e ds X h L:=q
end shapes
end
theorem wmz{b:Frame}{n:Nat}{k:List Item}{F:List Frame->(Machine->Prop)->Prop}{ds:List Deferred}{L:LH}{ops:Array Oper}{q:Option Nat}(j:Nat){fn:Fn}{first:List Operand}(hj:nth captured j=some x)(hx:e.ev x=.pointer (some ⟨bk,0,none⟩))(hL:nth L i=some (bk,.cells cl.toArray T fz))(hM:X.M=[])(t:∀h2,h.le h2->At h2 ⟨bk,0,none⟩ cl->TO P b n ops (⟨q,.makeFunc fn ⟨first⟩ ⟨captured⟩,ty,pos,af,g⟩::l) k F e ds X h2 (dropNth L i)):TO P b n ops (⟨q,.makeFunc fn ⟨first⟩ ⟨captured⟩,ty,pos,af,g⟩::l) k F e ds X h L:=
 cv i hL hM λh2 a b=>t h2 a (dM b)
theorem Tq{L:LH}{s t:TypeId}{S:TypeDesc}{kk k2:IntKind}{m:Int}(hS:P.underlying s=some S)(hT:P.underlying t=some (.int k2))(hx:e.ev x=.int kk m):
  ∀w,St X h L w->(execOp e.ev ⟨d,.convert s t x,ty,pos,af,g⟩).run P w=.ok (.value (.int k2 (k2.wrap m))) w:=λw hw=>by
 simp[execOp,convert,run_underlying hS,run_underlying hT,hx,Conv.intToInt]
section
variable {P:Program} {b:Frame} {n:Nat} {k:List Item} {F:List Frame->(Machine->Prop)->Prop} {e:Env} {ds:List Deferred} {X:Cx} {h:HF} {L:LH} {ops:Array Oper} {l:List Oper} {d:Nat} {ty t u:TypeId} {pos:String} {af:Array Edge} {g:Option (Nat×Bool)} {x y:Operand} {ik yk:IntKind} {a c:Int}
theorem wshr(hx:e.ev x=.int ik a)(hy:e.ev y=.int yk c)(hb:0<=c)(t':TO P b n ops l k F (upd e d (.int ik (a.fdiv (2 ^ min c.toNat ik.bits)))) ds X h L)(hd:Nat.blt d n=true:=by rfl)(hg:guardB ops e ⟨some d,.binOp .shr t x y u,ty,pos,af,g⟩=true:=by rfl):TO P b n ops (⟨some d,.binOp .shr t x y u,ty,pos,af,g⟩::l) k F e ds X h L:=
 rN _ rfl (λw _=>by simp[execOp,hx,hy,eqGuard,binOp,Op.shift,Int.not_lt.2 hb]) hd hg t'
theorem wshl(hx:e.ev x=.int ik a)(hy:e.ev y=.int yk c)(hb:0<=c)(t':TO P b n ops l k F (upd e d (.int ik (ik.wrap (a*2 ^ min c.toNat ik.bits)))) ds X h L)(hd:Nat.blt d n=true:=by rfl)(hg:guardB ops e ⟨some d,.binOp .shl t x y u,ty,pos,af,g⟩=true:=by rfl):TO P b n ops (⟨some d,.binOp .shl t x y u,ty,pos,af,g⟩::l) k F e ds X h L:=
 rN _ rfl (λw _=>by simp[execOp,hx,hy,eqGuard,binOp,Op.shift,Int.not_lt.2 hb]) hd hg t'
theorem wband(hx:e.ev x=.int ik a)(hy:e.ev y=.int ik c)(t':TO P b n ops l k F (upd e d (.int ik (ik.wrap ((BitVec.ofInt ik.bits a &&& BitVec.ofInt ik.bits c).toNat:Int)))) ds X h L)(hd:Nat.blt d n=true:=by rfl)(hg:guardB ops e ⟨some d,.binOp .and t x y u,ty,pos,af,g⟩=true:=by rfl):TO P b n ops (⟨some d,.binOp .and t x y u,ty,pos,af,g⟩::l) k F e ds X h L:=
 rN _ rfl (λw _=>by simp[execOp,hx,hy,eqGuard,binOp,Op.intBits]) hd hg t'
theorem wcvP{S:IntKind}(hS:P.underlying t=some (.int S))(hT:P.underlying u=some (.int ik))(hx:e.ev x=.int yk a)(t':TO P b n ops l k F (upd e d (.int ik (ik.wrap a))) ds X h L)(hd:Nat.blt d n=true:=by rfl)(hg:guardB ops e ⟨some d,.convert t u x,ty,pos,af,g⟩=true:=by rfl):TO P b n ops (⟨some d,.convert t u x,ty,pos,af,g⟩::l) k F e ds X h L:=
 aH (eu (Tq hS hT hx) t' hg) rfl hd
end
section
variable {a b c:Bool}
theorem VI(h:a=true):(a||b)=true:=by rw[h];rfl
theorem VH(h:b=true):(a||b)=true:=by rw[h];cases a<;>rfl
theorem VL(h:a=false):(a&&b)=false:=by rw[h];rfl
theorem VK(h:b=false):(a&&b)=false:=by rw[h];cases a<;>rfl
theorem VG(h:a=false)(h':b=c):(a||b)=c:=by rw[h,h'];rfl
theorem VJ(h:a=true)(h':b=c):(a&&b)=c:=by rw[h,h'];rfl
end
theorem bP{p:Prop}(h:p:=by first
 |with_reducible rfl
 |assumption
 |((with_reducible refine VI ?_);exact bP)
 |((with_reducible refine VH ?_);exact bP)
 |((with_reducible refine VL ?_);exact bP)
 |((with_reducible refine VK ?_);exact bP)
 |((with_reducible refine VG ?_ ?_)<;>exact bP)
 |((with_reducible refine VJ ?_ ?_)<;>exact bP)
 |exact rfl
 |fail):p:=h
end
variable {E u:TypeId}{R:Rp α}{a:Bool}{ass:Array Operand}{ats:Array TypeId}{base:Option Addr}{cap m mm:Nat}{f:FuncId}{fv:Go.Value}{ix:Operand}{parts:List (Nat×Operand)}{q:Addr}{s:ByteArray}{vs zs:List Go.Value}{xs:List α}{z:Int}
section
open Go.Proofs Go.Proofs.Tryz
def wT:List (Nat×(Nat×Bool)):=(221,(1,false))::(264,(1,false))::(249,(1,false))::(252,(2,true))::(31,(1,false))::(306,(1,false))::(3,(1,false))::(36,(1,false))::(347,(1,true))::(257,(2,true))::(255,(1,false))::(254,(1,false))::(258,(1,false))::(207,(7,true))::(24,(1,false))::(4,(1,false))::(26,(1,false))::(279,(1,false))::(215,(6,true))::(150,(1,false))::(105,(1,false))::(136,(1,false))::(212,(2,true))::(54,(41,true))::(43,(1,false))::(40,(4,true))::(98,(2,true))::(33,(1,false))::(96,(50,true))::(25,(1,false))::(32,(1,false))::(61,(10,true))::(79,(5,true))::(77,(1,false))::(134,(1,false))::(35,(1,false))::(140,(1,false))::(190,(1,false))::(67,(8,true))::(120,(7,true))::(204,(10,true))::(73,(8,true))::(354,(1,false))::(59,(5,true))::(57,(1,false))::(320,(6,true))::(56,(1,false))::(65,(8,true))::(55,(1,false))::(9,(1,false))::(237,(1,false))::(63,(13,true))::(22,(1,false))::(23,(1,false))::(27,(1,false))::(28,(1,false))::(223,(5,true))::(226,(2,true))::(30,(7,true))::(362,(4,true))::(358,(1,false))::(365,(1,false))::(205,(1,false))::(325,(5,true))::(367,(4,true))::(299,(1,false))::(301,(3,true))::(268,(2,true))::(191,(1,false))::(275,(3,true))::(345,(1,false))::(311,(1,false))::(312,(5,true))::(45,(2,true))::(102,(1,false))::[]
def wZ:List (Nat×List Value):=(252,[.int .i64 0,.int .i64 0])::(3,[.int .i64 0])::(36,[.int .i64 0])::(347,[.int .i64 0])::(257,[.slice none 0 0,.int .i64 0])::(207,[.int .i64 0,.int .i64 0,.int .i64 0,.int .i64 0,.int .i64 0,.bool false,.bool false])::(254,[.map none])::(221,[.map none])::(255,[.chan none])::(258,[.nilFunc])::(279,[.nilFunc])::(31,[.slice none 0 0])::(215,[.slice none 0 0,.map none,.slice none 0 0,.slice none 0 0,.slice none 0 0,.map none])::(150,[.pointer none])::(105,[.map none])::(136,[.slice none 0 0])::(212,[.slice none 0 0,.map none])::(54,(.int .i64 0::.int .i64 0::.int .i64 0::.int .i64 0::.int .i64 0::.int .i64 0::.slice none 0 0::.slice none 0 0::.slice none 0 0::.int .u8 0::.int .u8 0::.int .u8 0::.int .u8 0::.int .u8 0::.int .u8 0::.int .u8 0::.int .u8 0::.int .u8 0::.int .u8 0::.int .u8 0::.int .u8 0::.int .u8 0::.int .u8 0::.int .u8 0::.int .u8 0::.int .u8 0::.int .u8 0::.int .u8 0::.int .u8 0::.int .u8 0::.int .u8 0::.int .u8 0::.int .u8 0::.int .u8 0::.int .u8 0::.int .u8 0::.int .u8 0::.int .u8 0::.int .u8 0::.int .u8 0::.int .u8 0::[]))::(43,[.map none])::(40,[.int .i64 0,.int .i64 0,.slice none 0 0,.slice none 0 0])::(98,[.int .i64 0,.nilFunc])::(96,(.slice none 0 0::.slice none 0 0::.slice none 0 0::.slice none 0 0::.slice none 0 0::.slice none 0 0::.slice none 0 0::.int .i64 0::.int .i64 0::.int .i64 0::.int .i64 0::.int .i64 0::.int .i64 0::.slice none 0 0::.slice none 0 0::.slice none 0 0::.int .u8 0::.int .u8 0::.int .u8 0::.int .u8 0::.int .u8 0::.int .u8 0::.int .u8 0::.int .u8 0::.int .u8 0::.int .u8 0::.int .u8 0::.int .u8 0::.int .u8 0::.int .u8 0::.int .u8 0::.int .u8 0::.int .u8 0::.int .u8 0::.int .u8 0::.int .u8 0::.int .u8 0::.int .u8 0::.int .u8 0::.int .u8 0::.int .u8 0::.int .u8 0::.int .u8 0::.int .u8 0::.int .u8 0::.int .u8 0::.int .u8 0::.int .u8 0::.int .i64 0::.int .i64 0::[]))::(61,[.string (⟨#[]⟩:ByteArray),.slice none 0 0,.slice none 0 0,.slice none 0 0,.int .i64 0,.int .i64 0,.int .i64 0,.string (⟨#[]⟩:ByteArray),.slice none 0 0,.int .i64 0])::(4,[.bool false])::(79,[.bool false,.slice none 0 0,.slice none 0 0,.slice none 0 0,.nilFunc])::(77,[.nilFunc])::(134,[.slice none 0 0])::(35,[.slice none 0 0])::(140,[.slice none 0 0])::(190,[.slice none 0 0])::(67,[.int .i64 0,.int .i64 0,.int .i64 0,.int .i64 0,.int .i64 0,.int .i64 0,.int .i64 0,.bool false])::(120,[.int .i64 0,.int .i64 0,.int .i64 0,.int .i64 0,.int .i64 0,.int .i64 0,.bool false])::(204,[.int .i64 0,.int .i64 0,.int .i64 0,.int .i64 0,.int .i64 0,.int .i64 0,.int .i64 0,.int .i64 0,.int .i64 0,.bool false])::(73,[.int .i64 0,.int .i64 0,.int .i64 0,.int .i64 0,.int .i64 0,.int .i64 0,.int .i64 0,.bool false])::(320,[.int .i64 0,.int .i64 0,.int .i64 0,.string (⟨#[]⟩:ByteArray),.slice none 0 0,.int .i64 0])::(59,[.int .i64 0,.int .i64 0,.int .i64 0,.string (⟨#[]⟩:ByteArray),.slice none 0 0])::(65,[.string (⟨#[]⟩:ByteArray),.int .i64 0,.int .i64 0,.int .i64 0,.int .i64 0,.int .i64 0,.string (⟨#[]⟩:ByteArray),.slice none 0 0])::(57,[.slice none 0 0])::(63,[.int .i64 0,.int .i64 0,.int .i64 0,.string (⟨#[]⟩:ByteArray),.slice none 0 0,.slice none 0 0,.slice none 0 0,.int .i64 0,.int .i64 0,.int .i64 0,.string (⟨#[]⟩:ByteArray),.slice none 0 0,.int .i64 0])::(223,[.int .i64 0,.int .i64 0,.int .i64 0,.int .i64 0,.int .i64 0])::(226,[.int .i64 0,.int .i64 0])::(26,[.slice none 0 0])::(362,[.int .i64 0,.int .i64 0,.int .i64 0,.int .i64 0])::(28,[.slice none 0 0])::(358,[.map none])::(367,[.int .i64 0,.int .i64 0,.int .i64 0,.int .i64 0])::(205,[.nilFunc])::(365,[.map none])::(325,[.int .i64 0,.int .i64 0,.int .i64 0,.int .i64 0,.int .i64 0])::(301,[.int .i64 0,.int .i64 0,.bool false])::(299,[.map none])::(268,[.int .i64 0,.int .i64 0])::(345,[.nilFunc])::(312,[.nilFunc,.nilFunc,.nilFunc,.nilFunc,.nilFunc])::(275,[.int .i64 0,.slice none 0 0,.slice none 0 0])::(191,[.slice none 0 0])::(45,[.int .i64 0,.int .i64 0])::(30,[.slice none 0 0,.slice none 0 0,.slice none 0 0,.slice none 0 0,.slice none 0 0,.slice none 0 0,.slice none 0 0])::(9,[.string (⟨#[]⟩:ByteArray)])::[]
def wB:List (Nat×Nat):=(252,16)::(3,8)::(207,48)::(257,32)::(4,1)::(77,8)::(134,24)::(35,24)::(190,24)::(59,64)::(65,96)::(73,64)::(63,184)::(67,64)::(204,80)::(268,16)::(191,24)::(45,16)::(120,56)::[]
def wS:List (Nat×Nat):=(22,120)::(23,204)::(24,207)::(25,73)::(26,63)::(27,54)::(28,67)::(31,3)::(32,223)::(35,45)::(55,9)::(56,65)::(57,59)::(101,98)::(134,77)::(136,4)::(140,35)::(148,36)::(190,191)::(191,268)::(272,31)::(306,252)::[]
def wL:List (Nat×Bool):=(22,true)::(23,true)::(24,true)::(25,true)::(26,true)::(27,true)::(28,true)::(31,true)::(32,true)::(35,true)::(55,true)::(56,true)::(57,true)::(101,true)::(134,true)::(136,true)::(140,true)::(148,true)::(190,true)::(191,true)::(272,true)::(306,true)::(9,false)::(10,false)::(11,false)::[]
def wI:List (Nat×IntKind):=(2,.i64)::(3,.i64)::(5,.u8)::(6,.u8)::(12,.u64)::(36,.i64)::(139,.u64)::(199,.u32)::(201,.u64)::(285,.i64)::(331,.u64)::(390,.u8)::(391,.u8)::[]
def wP:List (Nat×List (Nat×Nat)):=(30,[(0,1),(1,1),(2,1),(3,1),(4,1),(5,1),(6,1)])::(40,[(0,1),(1,1),(2,1),(3,1)])::(45,[(0,1),(1,1)])::(54,[(0,1),(1,1),(2,1),(3,1),(4,1),(5,1),(6,1),(7,1),(8,1),(9,32)])::(59,[(0,1),(1,1),(2,1),(3,1),(4,1)])::(61,[(0,1),(1,1),(2,1),(3,1),(4,5),(9,1)])::(63,[(0,1),(1,1),(2,1),(3,10)])::(65,[(0,1),(1,1),(2,1),(3,5)])::(67,[(0,1),(1,1),(2,1),(3,1),(4,1),(5,1),(6,1),(7,1)])::(73,[(0,1),(1,1),(2,1),(3,1),(4,1),(5,1),(6,1),(7,1)])::(79,[(0,1),(1,1),(2,1),(3,1),(4,1)])::(96,[(0,7),(7,41),(48,1),(49,1)])::(98,[(0,1),(1,1)])::(120,[(0,1),(1,1),(2,1),(3,1),(4,1),(5,1),(6,1)])::(204,[(0,1),(1,1),(2,1),(3,1),(4,1),(5,1),(6,1),(7,1),(8,1),(9,1)])::(207,[(0,1),(1,1),(2,1),(3,1),(4,1),(5,1),(6,1)])::(212,[(0,1),(1,1)])::(215,[(0,2),(2,1),(3,1),(4,1),(5,1)])::(223,[(0,1),(1,1),(2,1),(3,1),(4,1)])::(226,[(0,1),(1,1)])::(252,[(0,1),(1,1)])::(257,[(0,1),(1,1)])::(268,[(0,1),(1,1)])::(275,[(0,1),(1,1),(2,1)])::(301,[(0,1),(1,1),(2,1)])::(320,[(0,5),(5,1)])::(325,[(0,1),(1,1),(2,1),(3,1),(4,1)])::(347,[(0,1)])::(362,[(0,1),(1,1),(2,1),(3,1)])::(367,[(0,1),(1,1),(2,1),(3,1)])::[]
def wF:List (Nat×Nat×Nat):=(347,0,0)::(257,0,0)::(257,1,1)::(207,0,0)::(207,3,3)::(207,4,4)::(207,5,5)::(268,1,1)::(215,0,0)::(215,1,2)::(215,2,3)::(215,3,4)::(215,4,5)::(212,0,0)::(212,1,1)::(54,0,0)::(54,7,7)::(54,8,8)::(40,0,0)::(40,1,1)::(40,2,2)::(40,3,3)::(98,0,0)::(98,1,1)::(30,3,3)::(30,4,4)::(30,5,5)::(96,0,0)::(96,1,7)::(96,2,48)::(96,3,49)::(54,1,1)::(54,2,2)::(54,3,3)::(79,0,0)::(79,1,1)::(79,2,2)::(79,3,3)::(79,4,4)::(67,0,0)::(67,1,1)::(67,2,2)::(67,3,3)::(67,4,4)::(67,5,5)::(67,6,6)::(120,6,6)::(120,0,0)::(120,1,1)::(120,2,2)::(120,3,3)::(120,4,4)::(120,5,5)::(204,0,0)::(204,1,1)::(204,2,2)::(204,4,4)::(204,5,5)::(204,6,6)::(204,7,7)::(204,9,9)::(204,3,3)::(204,8,8)::(207,1,1)::(207,2,2)::(73,7,7)::(73,0,0)::(73,1,1)::(73,2,2)::(73,3,3)::(73,4,4)::(73,5,5)::(73,6,6)::(59,4,4)::(61,3,3)::(65,3,3)::(61,4,4)::(61,2,2)::(61,1,1)::(320,1,5)::(59,0,0)::(61,0,0)::(320,0,0)::(59,3,3)::(59,1,1)::(61,5,9)::(65,0,0)::(65,2,2)::(59,2,2)::(65,1,1)::(63,0,0)::(63,1,1)::(63,2,2)::(63,3,3)::(54,4,4)::(54,5,5)::(54,6,6)::(30,0,0)::(30,1,1)::(30,2,2)::(30,6,6)::(223,0,0)::(223,1,1)::(223,2,2)::(223,3,3)::(223,4,4)::(67,7,7)::(325,0,0)::(325,1,1)::(325,2,2)::(325,3,3)::(325,4,4)::(207,6,6)::(252,1,1)::(252,0,0)::(268,0,0)::(275,1,1)::(275,2,2)::(275,0,0)::(45,0,0)::(45,1,1)::[]
theorem pw:wT.map (λx=>tySz prog x.1)=wT.map (λx=>some x.2):=by kernel_rfl
theorem OK:wZ.map (λx=>zeroC prog x.1)=wZ.map (λx=>some x.2):=by kernel_rfl
theorem U3:wB.map (λx=>bytesOf prog x.1)=wB.map (λx=>some x.2):=by kernel_rfl
theorem LK:wS.map (λx=>sliceE prog x.1)=wS.map (λx=>some x.2):=by kernel_rfl
theorem Gi:wL.map (λx=>lenK prog x.1)=wL.map (λx=>some x.2):=by kernel_rfl
theorem T2:wI.map (λx=>intK prog x.1)=wI.map (λx=>some x.2):=by kernel_rfl
theorem U2:wP.map (λx=>plcs prog x.1)=wP.map (λx=>some x.2):=by kernel_rfl
theorem Ju:(wF.all λx=>fldOf prog x.1 x.2.1==some x.2.2)=true:=by kernel_rfl
class Cl(f:FuncId):Prop where
 call:∀args w,(callFunc f args).run prog w=.ok (.enter f args) w
class CtI(f:FuncId) where
 p:Prop
 pf:p
class Ct(f:FuncId) where
 p:Prop
 call:∀args w,(callFunc f args).run prog w=.ok (.enter f args) w
 pf:p
instance:RpG cq.rp:=⟨cq.dl⟩
instance:RpG Use.rp:=⟨Use.dl⟩
instance:RpG aK.rp:=⟨aK.dl⟩
instance:RpG bz.rp:=⟨bz.dl⟩
instance:RpG aF.rp:=⟨aF.dl⟩
instance:RpG vQ:=⟨Budget.dl⟩
instance:RpG ay.rp:=⟨ay.dl⟩
instance:RpG aj.rp:=⟨aj.dl⟩
instance:RpG ft.rp:=⟨ft.dl⟩
instance:RpG aw.rp:=⟨aw.dl⟩
instance:RpG aD.rp:=⟨aD.dl⟩
instance:RpG ao.rp:=⟨ao.dl⟩
instance:RpG Register.rp:=⟨Register.dl⟩
instance:RpG fA.rp:=⟨fA.dl⟩
instance:RpG eC.rp:=⟨eC.dl⟩
instance:RpG WM:=⟨OSeat.dl⟩
instance:RpG dX.rp:=⟨dX.dl⟩
instance:RpG iv.rp:=⟨iv.dl⟩
instance:RpG bB.rp:=⟨bB.dl⟩
instance:RpG gr.rp:=⟨gr.dl⟩
instance:RpG tv.rp:=⟨tv.dl⟩
instance:RpG ie.rp:=⟨ie.dl⟩
instance:RpG fC.rp:=⟨fC.dl⟩
instance:RpG ec.rp:=⟨ec.dl⟩
instance:RpG cL.rp:=⟨cL.dl⟩
instance:RpG fB.rp:=⟨fB.dl⟩
instance:RpG e8.rp:=⟨e8.dl⟩
instance:RpG bU.rp:=⟨bU.dl⟩
class Sub(cl:List Value)(off m:Nat)(cs:outParam (List Value)):Prop where
 pf:cut cl off m=some cs
instance (x:ft) (r:Cd):Sub (ft.cells x r) 3 5 (aj.cells x.aj r.aj):=⟨rfl⟩
instance (x:aw) (r:jm):Sub (aw.cells x r) 4 5 (aj.cells x.aQ r.aQ):=⟨rfl⟩
instance (x:aD) (r:pL):Sub (aD.cells x r) 3 10 (aw.cells x.aw r.aw):=⟨rfl⟩
instance (x:gr) (r:CW):Sub (gr.cells x r) 0 5 (aj.cells x.x r.x):=⟨rfl⟩
instance (x:e8) (r:vv):Sub (e8.cells x r) 0 2 (ie.cells x.shelf r.shelf):=⟨rfl⟩
instance (x:bU) (r:sI):Sub (bU.cells x r) 0 7 (kC x.Register r.Register):=⟨rfl⟩
instance (x:bU) (r:sI):Sub (bU.cells x r) 7 41 (ao.cells x.ba r.ba):=⟨rfl⟩
class RpT(E:Nat){α : outParam Type}(R:outParam (Rp α)):Prop where
 pf:R.Good
instance:RpT 3 jB:=⟨Wp⟩
instance:RpT 4 Rp.bool:=⟨Wp⟩
instance:RpT 35 (Wx eC.rp):=⟨Wp⟩
instance:RpT 45 eC.rp:=⟨Wp⟩
instance:RpT 59 aj.rp:=⟨Wp⟩
instance:RpT 63 aD.rp:=⟨Wp⟩
instance:RpT 65 ft.rp:=⟨Wp⟩
instance:RpT 67 ay.rp:=⟨Wp⟩
instance:RpT 73 vQ:=⟨Wp⟩
instance:RpT 120 aK.rp:=⟨Wp⟩
instance:RpT 190 (Wx (Wx cq.rp)):=⟨Wp⟩
instance:RpT 191 (Wx cq.rp):=⟨Wp⟩
instance:RpT 204 bz.rp:=⟨Wp⟩
instance:RpT 207 aF.rp:=⟨Wp⟩
instance:RpT 252 WM:=⟨Wp⟩
instance:RpT 257 iv.rp:=⟨Wp⟩
instance:RpT 268 cq.rp:=⟨Wp⟩
section
variable {b:Frame} {n:Nat} {k:List Item} {F:List Frame->(Machine->Prop)->Prop} {e:Env} {ds:List Deferred} {X:Cx} {h:HF} {L:LH}
variable {ops ops':Array Oper} {l l':List Oper} {d:Nat} {ty:TypeId} {pos:String} {af:Array Edge} {g:Option (Nat×Bool)} {k':List Item} {e':Env}
theorem wtt(hr:goM false wF wL n 300 (.tt k e)=some (.tt k' e'))(t:TT prog b n k' F e' ds X h L):TT prog b n k F e ds X h L:=HW (s':=.tt k' e') Ju Gi hr t
theorem wto(hr:goM false wF wL n 300 (.tt k e)=some (.to ops' l' k' e'))(t:TO prog b n ops' l' k' F e' ds X h L):TT prog b n k F e ds X h L:=HW (s':=.to ops' l' k' e') Ju Gi hr t
theorem wot(hr:goM false wF wL n 300 (.to ops l k e)=some (.tt k' e'))(t:TT prog b n k' F e' ds X h L):TO prog b n ops l k F e ds X h L:=HW (s':=.tt k' e') Ju Gi hr t
theorem woo(hr:goM false wF wL n 300 (.to ops l k e)=some (.to ops' l' k' e'))(t:TO prog b n ops' l' k' F e' ds X h L):TO prog b n ops l k F e ds X h L:=HW (s':=.to ops' l' k' e') Ju Gi hr t
theorem wgo(hr:goM true wF wL n 0 (.to ops l k e)=some (.to ops' l' k' e'))(t:TO prog b n ops' l' k' F e' ds X h L):TO prog b n ops l k F e ds X h L:=HW (s':=.to ops' l' k' e') Ju Gi hr t
theorem wld{t:TypeId}{off:Nat}(hT:lookN wT t=some (m,a))(hx:e.ev x=.pointer (some ⟨bk,off,none⟩))(hL:nth L i=some (bk,.cells cl.toArray T fz))(hv:ldV a m cl off=some v)(t':TO prog b n ops l k F (upd e d v) ds X h L)(hd:Nat.blt d n=true:=by rfl)(hg:guardB ops e ⟨some d,.load t x,ty,pos,af,g⟩=true:=by rfl):TO prog b n ops (⟨some d,.load t x,ty,pos,af,g⟩::l) k F e ds X h L:=by
 cases a with
 |false=>exact pk i (tabq (f:=tySz prog) pw hT) hx hL hv t' hd hg
 |true=>
  unfold ldV at hv;split at hv
  .next h1=>cases h1
  .split at hv
   .next hc=>cases hv;exact du i (tabq (f:=tySz prog) pw hT) hx hL hc t' hd hg
   .cases hv
theorem wlh{t:TypeId}{cs:List Value}(hT:lookN wT t=some (m,a))(hx:e.ev x=.pointer (some (q.add j)))(ha:At h q cs)(hv:ldV a m cs j=some v)(t':TO prog b n ops l k F (upd e d v) ds X h L)(hd:Nat.blt d n=true:=by rfl)(hg:guardB ops e ⟨some d,.load t x,ty,pos,af,g⟩=true:=by rfl):TO prog b n ops (⟨some d,.load t x,ty,pos,af,g⟩::l) k F e ds X h L:=by
 cases a with
 |false=>exact lM (tabq (f:=tySz prog) pw hT) ha hx hv t' hd hg
 |true=>
  unfold ldV at hv;split at hv
  .next h1=>cases h1
  .split at hv
   .next hc=>cases hv;exact Eu (tabq (f:=tySz prog) pw hT) ha hx hc t' hd hg
   .cases hv
theorem wlhS{t:TypeId}{cs cs':List Value}(hT:lookN wT t=some (m,true))(hx:e.ev x=.pointer (some (q.add j)))(ha:At h q cs)[s:Sub cs j m cs'](t':TO prog b n ops l k F (upd e d (.agg cs'.toArray)) ds X h L)(hd:Nat.blt d n=true:=by rfl)(hg:guardB ops e ⟨some d,.load t x,ty,pos,af,g⟩=true:=by rfl):TO prog b n ops (⟨some d,.load t x,ty,pos,af,g⟩::l) k F e ds X h L:=Eu (tabq (f:=tySz prog) pw hT) ha hx s.pf t' hd hg
theorem wlh0{t:TypeId}{cs:List Value}(hT:lookN wT t=some (m,false))(hx:e.ev x=.pointer (some q))(ha:At h q (v::cs))(t':TO prog b n ops l k F (upd e d v) ds X h L)(hd:Nat.blt d n=true:=by rfl)(hg:guardB ops e ⟨some d,.load t x,ty,pos,af,g⟩=true:=by rfl):TO prog b n ops (⟨some d,.load t x,ty,pos,af,g⟩::l) k F e ds X h L:=eE (tabq (f:=tySz prog) pw hT) ha hx t' hd hg
theorem wlhs{t:TypeId}{cs:List Value}(hT:lookN wT t=some (m,true))(hx:e.ev x=.pointer (some q))(ha:At h q cs)(hm:cs.length=m)(t':TO prog b n ops l k F (upd e d (.agg cs.toArray)) ds X h L)(hd:Nat.blt d n=true:=by rfl)(hg:guardB ops e ⟨some d,.load t x,ty,pos,af,g⟩=true:=by rfl):TO prog b n ops (⟨some d,.load t x,ty,pos,af,g⟩::l) k F e ds X h L:=eJ (tabq (f:=tySz prog) pw hT) ha hm hx t' hd hg
theorem wsW{t:TypeId}{y:Operand}(hT:lookN wT t=some (m,a))(hx:e.ev x=.pointer (some ⟨bk,0,none⟩))(hv:e.ev y=.agg vs.toArray)(hL:nth L i=some (bk,.cells cl.toArray T (0,0)))(hm:vs.length=m)(hc:cl.length=m)(h1:vs.all one=true)(t':TO prog b n ops l k F e ds X h (setNth L i (bk,.cells vs.toArray T (0,0))))(hg:guardB ops e ⟨none,.store t x y,ty,pos,af,g⟩=true:=by rfl):TO prog b n ops (⟨none,.store t x y,ty,pos,af,g⟩::l) k F e ds X h L:=bG i (tabq (f:=tySz prog) pw hT) hx hL hv hm hc h1 t' hg
theorem wst{t:TypeId}{y:Operand}{off:Nat}(hT:lookN wT t=some (m,a))(hx:e.ev x=.pointer (some ⟨bk,off,none⟩))(hL:nth L i=some (bk,.cells cl.toArray T (0,0)))(hv:vcells (e.ev y)=vs)(hm:vs.length=m)(db:Nat.ble (off+vs.length) cl.length=true)(h1:vs.all one=true)(t':TO prog b n ops l k F e ds X h (setNth L i (bk,.cells (splice cl off vs).toArray T (0,0))))(hg:guardB ops e ⟨none,.store t x y,ty,pos,af,g⟩=true:=by rfl):TO prog b n ops (⟨none,.store t x y,ty,pos,af,g⟩::l) k F e ds X h L:=cU i (tabq (f:=tySz prog) pw hT) hx hL hv hm db h1 t' hg
theorem wix{t:TypeId}(hT:lookN wS t=some E)(hx:e.ev x=.slice base m cap)(hix:e.ev ix=.int .i64 z)(hm:m=xs.length)(hR:SlC R h base cap xs)(hS:lookN wT E=some (R.sz,a))(hz:0<=z/\z<(xs.length:Int))(hj:xs[z.toNat]? = some y)(t':∀q cs,At h q cs->cs.length=R.sz->R.rep h cs y->TO prog b n ops l k F (upd e d (.pointer (some q))) ds X h L)(hd:Nat.blt d n=true:=by rfl)(hg:guardB ops e ⟨some d,.indexAddr t x ix,ty,pos,af,g⟩=true:=by rfl):TO prog b n ops (⟨some d,.indexAddr t x ix,ty,pos,af,g⟩::l) k F e ds X h L:=
 aH (Mp (xd (tabq (f:=sliceE prog) LK hT)) (tabq (f:=tySz prog) pw hS) hR.1 hz hj hx hm hix t' hg) rfl hd
theorem wixw{t:TypeId}(hT:lookN wS t=some E)(hx:e.ev x=.slice base m cap)(hix:e.ev ix=.int .i64 (IntKind.i64.wrap z))(hm:m=xs.length)(hR:SlC R h base cap xs)(hS:lookN wT E=some (R.sz,a))(hz:0<=z/\z<(xs.length:Int))(hj:xs[z.toNat]? = some y)(t':∀q cs,At h q cs->cs.length=R.sz->R.rep h cs y->TO prog b n ops l k F (upd e d (.pointer (some q))) ds X h L)(hd:Nat.blt d n=true:=by rfl)(hg:guardB ops e ⟨some d,.indexAddr t x ix,ty,pos,af,g⟩=true:=by rfl):TO prog b n ops (⟨some d,.indexAddr t x ix,ty,pos,af,g⟩::l) k F e ds X h L:=
 wix hT hx (hix.trans (lI (by have:=hR.1.1;omega))) hm hR hS hz hj t' hd hg
theorem wcv{t:TypeId}{ik S yk:IntKind}{a:Int}(hS:lookN wI t=some S)(hT:lookN wI u=some ik)(hx:e.ev x=.int yk a)(t':TO prog b n ops l k F (upd e d (.int ik (ik.wrap a))) ds X h L)(hd:Nat.blt d n=true:=by rfl)(hg:guardB ops e ⟨some d,.convert t u x,ty,pos,af,g⟩=true:=by rfl):TO prog b n ops (⟨some d,.convert t u x,ty,pos,af,g⟩::l) k F e ds X h L:=
 wcvP (PA (tabq (f:=intK prog) T2 hS)) (PA (tabq (f:=intK prog) T2 hT)) hx t' hd hg
theorem wbf{t:TypeId}[i:RpT E R]{len sz:Nat}(hT:lookN wS t=some E)(hS:lookN wT E=some (sz,a))(hz:lookN wZ E=some zs)(hc1:cY R h (litC e parts) xs)(hl:len=xs.length)(hM:X.M=[])(t':∀bk h',h.le h'->SlC R h' (some ⟨bk,0,none⟩) xs.length xs->TO prog b n ops l k F (upd e d (.slice (some ⟨bk,0,none⟩) xs.length xs.length)) ds X h' L)(db:xs.length<=9223372036854775807:=by simp)(hpos:Nat.blt 0 (len*sz)=true:=by rfl)(hlt:Nat.ble (len*sz) 16777216=true:=by rfl)(hc:Instr.fill (λi=>some (i*sz,sz)) ((Array.range (len*sz)).map (zs.toArray[·%zs.toArray.size]!)) (parts.map λp=>(p.1,e.ev p.2))=some (litC e parts).toArray:=by kernel_rfl)(hd:Nat.blt d n=true:=by rfl)(hg:guardB ops e ⟨some d,.buildSlice t len ⟨parts⟩,ty,pos,af,g⟩=true:=by rfl):TO prog b n ops (⟨some d,.buildSlice t len ⟨parts⟩,ty,pos,af,g⟩::l) k F e ds X h L:=by
 refine aH (bT (xd (tabq (f:=sliceE prog) LK hT)) (tabq (f:=tySz prog) pw hS) (tabq (f:=zeroC prog) OK hz) hpos hlt hc (λbk=>?_) hg) rfl hd
 refine cv 0 rfl hM (λh2 h1 hb=>?_)
 have:=t' bk h2 h1 (slL hb (HF.le_refl _) (hc1.mono i.pf.mono h1) db (vE _))
 subst hl
 exact this
theorem wap{t:TypeId}[i:RpT E R]{s y:Operand}{ys:List α}{base2:Option Addr}{cap2:Nat}{G Q:LH}{vo:Nat}(hT:lookN wS t=some E)(hx:e.ev s=.slice base m cap)(hG:cN R E h xs base cap G)(hm:m=xs.length)(hp:L.Perm (Q++G))(hy:e.ev y=.slice base2 ys.length cap2)(hs2:SlC R h base2 cap2 ys)(hS:lookN wT E=some (R.sz,a))(hz:lookN wZ E=some zs)(hzl:zs.length=R.sz)(hby:lookN wB E=some vo)(hb:(xs.length+ys.length)*vo<=140737488355328)(hb2:xs.length+ys.length<=9223372036854775807)(t':∀base' cap' G',cN R E h (xs++ys) base' cap' G'->TO prog b n ops l k F (upd e d (.slice base' (xs++ys).length cap')) ds X h (Q++G'))(hd:Nat.blt d n=true:=by rfl)(hg:guardB ops e ⟨some d,.call ⟨.builtin .append,#[s,y],#[t,t]⟩,ty,pos,af,g⟩=true:=by rfl):TO prog b n ops (⟨some d,.call ⟨.builtin .append,#[s,y],#[t,t]⟩,ty,pos,af,g⟩::l) k F e ds X h L:=
 qI (hp.trans List.perm_append_comm) (aH (eN i.pf [] Q (λG'=>Q++G') rfl (λ_=>rfl) (xd (tabq (f:=sliceE prog) LK hT)) (tabq (f:=tySz prog) pw hS) (tabq (f:=zeroC prog) OK hz) hzl (tabq (f:=bytesOf prog) U3 hby) hG hx hm (by rw[hy];exact mi hs2.1) hb hb2
  t' hg) rfl hd)
theorem wsx{t:TypeId}{i:Int}(hT:lookN wL t=some false)(hx:e.ev x=.string s)(hix:e.ev ix=.int .i64 i)(hi:0<=i/\i<(s.size:Int))(t':TO prog b n ops l k F (upd e d (.int .u8 ((s.data.getD i.toNat 0).toNat:Nat))) ds X h L)(hd:Nat.blt d n=true:=by rfl)(hg:guardB ops e ⟨some d,.index t x ix,ty,pos,af,g⟩=true:=by rfl):TO prog b n ops (⟨some d,.index t x ix,ty,pos,af,g⟩::l) k F e ds X h L:=aH (eu (N6 (Sc (tabq (f:=lenK prog) Gi hT)) hx hix hi) t' hg) rfl hd
section
variable {K:Env->HF->LH->Prop} {q:Option Nat}
theorem wcR[i:Ct f](hvs:ass.toList.map e.ev=vs)(hs:i.p->Ret prog f vs h v)(t':K (upd e d v) h L)(hg:guardB ops e ⟨some d,.call ⟨.value (.func f),ass,ats⟩,ty,pos,af,g⟩=true:=by rfl):Stp prog b n ops F ds X ⟨some d,.call ⟨.value (.func f),ass,ats⟩,ty,pos,af,g⟩ e h L K:=gu i.call (hs i.pf) hvs t' hg
theorem wcH{φ:Value->HF->Prop}[i:Ct f](hvs:ass.toList.map e.ev=vs)(hs:i.p->j4 prog f vs h φ)(t':∀v h',h.le h'->φ v h'->K (pute e q v) h' L)(hg:guardB ops e ⟨q,.call ⟨.value (.func f),ass,ats⟩,ty,pos,af,g⟩=true:=by rfl):Stp prog b n ops F ds X ⟨q,.call ⟨.value (.func f),ass,ats⟩,ty,pos,af,g⟩ e h L K:=cw i.call (hs i.pf) hvs t' hg
theorem wcV{t:Nat}(hf:e t=fv)(hvs:ass.toList.map e.ev=vs)(hs:qw prog fv vs h [] v)(t':K (pute e q v) h L)(hg:guardB ops e ⟨q,.call ⟨.value (.tmp t),ass,ats⟩,ty,pos,af,g⟩=true:=by rfl):Stp prog b n ops F ds X ⟨q,.call ⟨.value (.tmp t),ass,ats⟩,ty,pos,af,g⟩ e h L K:=j8 [] (List.nil_sublist _) hs hf hvs t' hg
theorem wmf{fn:Fn}{first:List Operand}(t':K (pute e q (.func fn (first.map e.ev).toArray (captured.map e.ev).toArray)) h L)(hg:guardB ops e ⟨q,.makeFunc fn ⟨first⟩ ⟨captured⟩,ty,pos,af,g⟩=true:=by rfl):Stp prog b n ops F ds X ⟨q,.makeFunc fn ⟨first⟩ ⟨captured⟩,ty,pos,af,g⟩ e h L K:=gB rfl rfl t' hg
theorem wal{t:TypeId}(hz:lookN wZ t=some zs)(t':∀bk,K (upd e d (.pointer (some ⟨bk,0,none⟩))) h ((bk,.cells zs.toArray t (0,0))::L))(hg:guardB ops e ⟨some d,.alloc t,ty,pos,af,g⟩=true:=by rfl):Stp prog b n ops F ds X ⟨some d,.alloc t,ty,pos,af,g⟩ e h L K:=Bj (tabq (f:=zeroC prog) OK hz) t' hg
theorem wbs0{t:TypeId}{sz:Nat}(hT:lookN wS t=some E)(hS:lookN wT E=some (sz,a))(t':∀bk,K (upd e d (.slice (some ⟨bk,0,none⟩) 0 0)) h ((bk,.cells [].toArray E (0,0))::L))(hg:guardB ops e ⟨some d,.buildSlice t 0 #[],ty,pos,af,g⟩=true:=by rfl):Stp prog b n ops F ds X ⟨some d,.buildSlice t 0 #[],ty,pos,af,g⟩ e h L K:=
 rY (xd (tabq (f:=sliceE prog) LK hT)) (tabq (f:=tySz prog) pw hS) t' hg
theorem wbd{t:TypeId}{cells:List Value}{pl:List (Nat×Nat)}(hT:lookN wP t=some pl)(hz:lookN wZ t=some zs)(hcl:litB pl e parts zs=cells)(t':K (upd e d (.agg cells.toArray)) h L)(hc:Instr.fill (λi=>pl.toArray[i]?) zs.toArray (parts.map λp=>(p.1,e.ev p.2))=some cells.toArray:=by kernel_rfl)(hg:guardB ops e ⟨some d,.build t ⟨parts⟩,ty,pos,af,g⟩=true:=by rfl):Stp prog b n ops F ds X ⟨some d,.build t ⟨parts⟩,ty,pos,af,g⟩ e h L K:=
 let ⟨_,a,c⟩:=Tt (tabq (f:=plcs prog) U2 hT)
 gv a (tabq (f:=zeroC prog) OK hz) c hc t' hg
theorem wcRr[i:Cl f](hvs:ass.toList.map e.ev=vs)(hs:Ret prog f vs h v)(t':K (upd e d v) h L)(hg:guardB ops e ⟨some d,.call ⟨.value (.func f),ass,ats⟩,ty,pos,af,g⟩=true:=by rfl):Stp prog b n ops F ds X ⟨some d,.call ⟨.value (.func f),ass,ats⟩,ty,pos,af,g⟩ e h L K:=gu i.call hs hvs t' hg
end
section
variable {K:Env->HF->LH->Prop} {q:Option Nat}
theorem wcX{f0:FuncId}{fn:Func}{ρ σ:Type}{pe:Int->Value}{fv:ρ->Value}{fz:σ->Value}{x:Except Int ρ}{z:Except Int σ}{kk:ρ->Except Int σ}{hh:HF}[i:Ct f](hvs:ass.toList.map e.ev=vs)(hs:i.p->II prog f vs h (exW pe fv x))(hz:z=exi x kk)(hf:prog.funcs[f0]? = some fn)(hX:X.h0=hh)(t':∀r,x=.ok r->z=kk r->K (pute e q (fv r)) h L)(hg:guardB ops e ⟨q,.call ⟨.value (.func f),ass,ats⟩,ty,pos,af,g⟩=true:=by rfl):
  Stp prog (bodyFrame f0) n ops (mN prog X (XR (exW pe fz z) hh)) [] X ⟨q,.call ⟨.value (.func f),ass,ats⟩,ty,pos,af,g⟩ e h L K:=
 pi i.call (hs i.pf) hvs (λu hu=>by obtain⟨r,hr,rfl⟩:=sk hu;exact t' r hr (hz.trans (wW hr)))
  (λp hp e'=>by obtain⟨r,hr,rfl⟩:=po hp;exact iN (qz [] hf hX (by rw[hz,pP hr];rfl))) hg
end
section
variable {m:Nat} {dn:List Nat} {l:List Oper} {i:Nat} {gk:List Nat} {t:TypeId} {x:Operand}
theorem wdq(hp:passD wF wL l gk 0 l m dn e=(m',dn',e'))(hlt:zJ m' m=true)(q:TD gk prog b n l k F ds X m' dn' e' h L):TD gk prog b n l k F ds X m dn e h L:=wdqP Ju Gi hp q
theorem wdl{off:Nat}(hT:lookN wT t=some (mm,a))(hx:e.ev x=.pointer (some ⟨bk,off,none⟩))(hL:nth L j=some (bk,.cells cl.toArray T fz))(hv:ldV a mm cl off=some v)(q:TD gk prog b n l k F ds X m (i::dn) (upd e d v) h L)(hg:guardB l.toArray e ⟨some d,.load t x,ty,pos,af,g⟩=true:=by rfl):TX gk prog b n l k F ds X m dn i ⟨some d,.load t x,ty,pos,af,g⟩ e h L:=by
 refine wdf rfl hg (λh' L' hj w hw=>?_) q
 cases a with
 |false=>exact vy (tabq (f:=tySz prog) pw hT) hx (hj.nth hL) hv w hw
 |true=>
  unfold ldV at hv;split at hv
  .next h1=>cases h1
  .split at hv
   .next hc=>cases hv;exact lV (tabq (f:=tySz prog) pw hT) hx (hj.nth hL) hc w hw
   .cases hv
theorem wdh{p:Addr}{cs:List Value}(hT:lookN wT t=some (mm,a))(hx:e.ev x=.pointer (some (p.add j)))(ha:At h p cs)(hv:ldV a mm cs j=some v)(q:TD gk prog b n l k F ds X m (i::dn) (upd e d v) h L)(hg:guardB l.toArray e ⟨some d,.load t x,ty,pos,af,g⟩=true:=by rfl):TX gk prog b n l k F ds X m dn i ⟨some d,.load t x,ty,pos,af,g⟩ e h L:=by
 refine wdf rfl hg (λh' L' hj w hw=>?_) q
 cases a with
 |false=>exact RP j (tabq (f:=tySz prog) pw hT) (ha.mono hj.1) hx hv w hw
 |true=>
  unfold ldV at hv;split at hv
  .next h1=>cases h1
  .split at hv
   .next hc=>cases hv;exact N9 j (tabq (f:=tySz prog) pw hT) (ha.mono hj.1) hx hc w hw
   .cases hv
theorem wdhS{p:Addr}{cs cs':List Value}(hT:lookN wT t=some (mm,true))(hx:e.ev x=.pointer (some (p.add j)))(ha:At h p cs)[s:Sub cs j mm cs'](q:TD gk prog b n l k F ds X m (i::dn) (upd e d (.agg cs'.toArray)) h L)(hg:guardB l.toArray e ⟨some d,.load t x,ty,pos,af,g⟩=true:=by rfl):TX gk prog b n l k F ds X m dn i ⟨some d,.load t x,ty,pos,af,g⟩ e h L:=
 wdf rfl hg (λh' L' hj w hw=>N9 j (tabq (f:=tySz prog) pw hT) (ha.mono hj.1) hx s.pf w hw) q
theorem wdh0{p:Addr}{cs:List Value}(hT:lookN wT t=some (mm,false))(hx:e.ev x=.pointer (some p))(ha:At h p (v::cs))(q:TD gk prog b n l k F ds X m (i::dn) (upd e d v) h L)(hg:guardB l.toArray e ⟨some d,.load t x,ty,pos,af,g⟩=true:=by rfl):TX gk prog b n l k F ds X m dn i ⟨some d,.load t x,ty,pos,af,g⟩ e h L:=
 wdf rfl hg (λh' L' hj w hw=>RO (tabq (f:=tySz prog) pw hT) (ha.mono hj.1) hx w hw) q
theorem wdhs{p:Addr}{cs:List Value}(hT:lookN wT t=some (mm,true))(hx:e.ev x=.pointer (some p))(ha:At h p cs)(hm:cs.length=mm)(q:TD gk prog b n l k F ds X m (i::dn) (upd e d (.agg cs.toArray)) h L)(hg:guardB l.toArray e ⟨some d,.load t x,ty,pos,af,g⟩=true:=by rfl):TX gk prog b n l k F ds X m dn i ⟨some d,.load t x,ty,pos,af,g⟩ e h L:=
 wdf rfl hg (λh' L' hj w hw=>oE (tabq (f:=tySz prog) pw hT) (ha.mono hj.1) hm hx w hw) q
theorem wdi(hT:lookN wS t=some E)(hx:e.ev x=.slice base mm cap)(hix:e.ev ix=.int .i64 z)(hm:mm=xs.length)(hR:SlC R h base cap xs)(hS:lookN wT E=some (R.sz,a))(hz:0<=z/\z<(xs.length:Int))(hj:xs[z.toNat]? = some y)(q:∀p cs,At h p cs->cs.length=R.sz->R.rep h cs y->TD gk prog b n l k F ds X m (i::dn) (upd e d (.pointer (some p))) h L)(hg:guardB l.toArray e ⟨some d,.indexAddr t x ix,ty,pos,af,g⟩=true:=by rfl):TX gk prog b n l k F ds X m dn i ⟨some d,.indexAddr t x ix,ty,pos,af,g⟩ e h L:=
 λhi hy hs=>oB i hs (Jst.start h L) (xd (tabq (f:=sliceE prog) LK hT)) (tabq (f:=tySz prog) pw hS) hR.1 hz hj hx hm hix hi (Dq hi hy) (λp cs a b c=>q p cs a b c hs) hg
theorem wdiw(hT:lookN wS t=some E)(hx:e.ev x=.slice base mm cap)(hix:e.ev ix=.int .i64 (IntKind.i64.wrap z))(hm:mm=xs.length)(hR:SlC R h base cap xs)(hS:lookN wT E=some (R.sz,a))(hz:0<=z/\z<(xs.length:Int))(hj:xs[z.toNat]? = some y)(q:∀p cs,At h p cs->cs.length=R.sz->R.rep h cs y->TD gk prog b n l k F ds X m (i::dn) (upd e d (.pointer (some p))) h L)(hg:guardB l.toArray e ⟨some d,.indexAddr t x ix,ty,pos,af,g⟩=true:=by rfl):TX gk prog b n l k F ds X m dn i ⟨some d,.indexAddr t x ix,ty,pos,af,g⟩ e h L:=
 wdi hT hx (hix.trans (lI (by have:=hR.1.1;omega))) hm hR hS hz hj q hg
end
end
theorem wrv[i:Ct f]{args cap:List Value}(hs:i.p->Ret prog f (args++cap) h v):qw prog (.func (.func f) #[] cap.toArray) args h [] v:=ip i.call (hs i.pf)
theorem wit[i:CtI f]{cap:List Value}{val:α->HF->List Value->Prop}(hs:i.p->Itr prog (.func (.func f) #[] cap.toArray) val xs h):Itr prog (.func (.func f) #[] cap.toArray) val xs h:=hs i.pf
theorem wrc{L:LH}{a ty:Nat}{q:Bool}(ha:e a=.pointer (some ⟨bk,0,none⟩))(hL:nth L i=some (bk,.cells cl.toArray T fz))(hT:lookN wT ty=some (m,q))(hm:cl.length=m)(hv:(bif q then some (.agg cl.toArray)else nth cl 0)=some v)(h1:(q||zW m 1)=true):
  ∃i bk cl T fz,nth L i=some (bk,.cells (xB cl) T fz)/\e a=.pointer (some ⟨bk,0,none⟩)/\((tySz prog ty=some (cl.length,true)/\v=.agg cl.toArray)\/∃m,tySz prog ty=some (m,false)/\cl=[v]):=by
 have ht:=tabq (f:=tySz prog) pw hT
 refine⟨i,bk,cl,T,fz,hL,ha,?_⟩
 cases q with
 |true=>left;subst hm;simp only[cond_true,jN]at hv;exact⟨ht,hv.symm⟩
 |false=>
  right
  refine⟨m,ht,?_⟩
  have:m=1:=jL (by simpa using h1)
  rw[this]at hm
  obtain⟨y,rfl⟩:=List.length_eq_one_iff.1 hm
  simp only[cond_false]at hv
  cases hv;rfl
end
variable {b:Option Addr}
section
theorem lnS{c:Nat}(a:SlC R h b c xs):xs.length<=9223372036854775807:=a.1.1
theorem nthA(h:p:=by first|exact(rfl:nth _ 0=_)|exact(rfl:nth _ 1=_)|exact(rfl:nth _ 2=_)|exact(rfl:nth _ 3=_)|exact(rfl:nth _ 4=_)|exact(rfl:nth _ 5=_)|exact(rfl:nth _ 6=_)|fail):p:=h
theorem rdR(h:p:=by first|exact trivial|((repeat (first|exact trivial|refine⟨rfl,?_⟩|refine⟨wrc rfl nthA rfl rfl rfl rfl,?_⟩|fail));all_goals fail)|fail):p:=h
theorem slm[i:RpG R]{c:Nat}(a:SlC R h b c xs)(hl:h.le h'):SlC R h' b c xs:=a.mono i.good.mono hl
theorem atm{cs:List Value}(a:At h q cs)(hl:h.le h'):At h' q cs:=a.mono hl
theorem ok0(h:p:=by first|assumption|exact ft.ok.mono (by assumption) leA|exact aw.ok.mono (by assumption) leA|exact aD.ok.mono (by assumption) leA|exact ao.ok.mono (by assumption) leA|exact Register.ok.mono (by assumption) leA|exact fA.ok.mono (by assumption) leA|exact iv.ok.mono (by assumption) leA|exact bB.ok.mono (by assumption) leA|exact gr.ok.mono (by assumption) leA|exact ie.ok.mono (by assumption) leA|exact e8.ok.mono (by assumption) leA|exact bU.ok.mono (by assumption) leA|exact aj.ok.mono (by assumption) leA|fail):p:=h
theorem ok1(h:p:=by first|exact ok0|((with_reducible refine ft.ok.aj ?_);exact ok0)|((with_reducible refine aw.ok.aQ ?_);exact ok0)|((with_reducible refine aD.ok.aw ?_);exact ok0)|((with_reducible refine gr.ok.x ?_);exact ok0)|((with_reducible refine e8.ok.shelf ?_);exact ok0)|((with_reducible refine bU.ok.Register ?_);exact ok0)|((with_reducible refine bU.ok.ba ?_);exact ok0)|fail):p:=h
theorem okA(h:p:=by first|exact ok0|((with_reducible refine ft.ok.aj ?_);exact ok1)|((with_reducible refine aw.ok.aQ ?_);exact ok1)|((with_reducible refine aD.ok.aw ?_);exact ok1)|((with_reducible refine gr.ok.x ?_);exact ok1)|((with_reducible refine e8.ok.shelf ?_);exact ok1)|((with_reducible refine bU.ok.Register ?_);exact ok1)|((with_reducible refine bU.ok.ba ?_);exact ok1)|fail):p:=h
theorem rpA(h:p:=by first|rfl|exact⟨_,rfl,okA⟩|exact⟨_,_,rfl,slm (by assumption) leA⟩|fail):p:=h
theorem ceA(h:p:=by first|exact cNi|exact cCo rpA rfl cNi|exact cCo rpA rfl (cCo rpA rfl cNi)|exact cCo rpA rfl (cCo rpA rfl (cCo rpA rfl cNi))|exact cCo rpA rfl (cCo rpA rfl (cCo rpA rfl (cCo rpA rfl cNi)))|exact cCo rpA rfl (cCo rpA rfl (cCo rpA rfl (cCo rpA rfl (cCo rpA rfl cNi))))|exact cCo rpA rfl (cCo rpA rfl (cCo rpA rfl (cCo rpA rfl (cCo rpA rfl (cCo rpA rfl cNi)))))|exact cCo rpA rfl (cCo rpA rfl (cCo rpA rfl (cCo rpA rfl (cCo rpA rfl (cCo rpA rfl (cCo rpA rfl cNi))))))|exact cCo rpA rfl (cCo rpA rfl (cCo rpA rfl (cCo rpA rfl (cCo rpA rfl (cCo rpA rfl (cCo rpA rfl (cCo rpA rfl cNi)))))))|fail):p:=h
theorem slA(h:p:=by first
 |assumption
 |exact slm (by assumption) leA
 |exact SlC.nil
 |exact aw.ok.dQ okA
 |exact aw.ok.aB okA
 |exact aw.ok.di okA
 |exact ao.ok.kU okA
 |exact aj.ok.list okA
 |exact ao.ok.eX okA
 |exact ao.ok.fm okA
 |exact Register.ok.dD okA
 |exact Register.ok.fR okA
 |exact Register.ok.ej okA
 |exact Register.ok.dN okA
 |exact Register.ok.Versions okA
 |exact Register.ok.cj okA
 |exact Register.ok.dy okA
 |exact fA.ok.Versions okA
 |exact fA.ok.Who okA
 |exact iv.ok.path okA
 |exact bB.ok.dh okA
 |exact bB.ok.lm okA
 |exact ie.ok.docs okA
 |exact e8.ok.signed okA
 |exact e8.ok.done okA
 |exact e8.ok.lacks okA|fail):p:=h
theorem fc0{p:Prop}(h:p:=by first
 |assumption
 |((with_reducible refine gSl ?_);exact slA)
 |((with_reducible refine gAt ?_);exact atm (by assumption) leA)
 |((with_reducible refine gIt ?_);first|exact itm (by assumption) leA|exact wit (λc=>by first|(apply c<;>exact fc0)|fail)|fail)
 |((with_reducible refine gAn ?_);exact ob)
 |exact okA
 |exact gSl slA
 |exact gAt (atm (by assumption) leA)
 |exact aj.lD (gP (by assumption))|fail):p:=h
theorem fcA(h:p:=by first|exact fc0|(intro h a db;exact wrv (λc=>by first|(apply c<;>exact fc0)|fail))|(intro h a b db;exact wrv (λc=>by first|(apply c<;>exact fc0)|fail))|fail):p:=h
theorem lnA(h:xs.length<=m:=by first|exact ob|exact lnS (by assumption)|exact lnS slA|fail):xs.length<=m:=h
theorem rvA(h:p:=by first|assumption|(apply_assumption<;>exact leA)|fail):p:=h
theorem vlA(h:p:=by first|exact rfl|exact⟨_,rfl,fcA⟩|exact⟨_,_,rfl,fcA⟩|fail):p:=h
theorem grA(h:p:=by first|assumption|exact grm (by assumption) leA|exact cN.nil|exact cN.lit cNi rfl|fail):p:=h
theorem ndW(h:p:=by first
 |(intro i g hd hf hx e;refine wtt rfl ?_;refine wcF rfl hf ?_;exact kw rfl (hx _ rdd))
 |(intro i hd hf hx e;refine wtt rfl ?_;refine wcF rfl hf ?_;exact kw rfl (hx _ rdd))
 |(intro i g hd hf hx e;(repeat (first|refine wtt rfl ?_|refine wto rfl ?_|refine woo rfl ?_|refine wot rfl ?_|refine wld rfl rfl nthA rfl ?_|refine wlh rfl rfl fcA rfl ?_|fail));refine wcF rfl hf ?_;exact kw rfl (hx _ rdd))
 |(intro i hd hf hx e;(repeat (first|refine wtt rfl ?_|refine wto rfl ?_|refine woo rfl ?_|refine wot rfl ?_|refine wld rfl rfl nthA rfl ?_|refine wlh rfl rfl fcA rfl ?_|fail));refine wcF rfl hf ?_;exact kw rfl (hx _ rdd))|fail):p:=h
theorem rn{q:Prop}(k:q)(h:q->p:=by first|exact λk=>wto rfl k|exact λk=>wtt rfl k|exact λk=>woo rfl k|exact λk=>wot rfl k|fail):p:=h k
theorem Wi{p:Prop}(h:p:=by
 repeat' (first
  |((with_reducible refine gO ?_);first
   |refine woo rfl ?_
   |refine wot rfl ?_
   |((with_reducible refine gLd ?_);first
    |refine wld rfl rfl nthA rfl ?_
    |refine wlh0 rfl rfl fcA ?_
    |refine wlhs rfl rfl fcA rfl ?_
    |refine wlhS rfl rfl fcA ?_
    |refine wlh rfl rfl fcA rfl ?_
    |fail)
   |((with_reducible refine gBx ?_);refine eL (λb=>?_))
   |((with_reducible refine gAl ?_);refine aH (wal rfl (λb=>?_)))
   |((with_reducible refine gSt ?_);first
    |refine wsW rfl rfl rfl nthA rfl rfl rfl ?_
    |refine wst rfl rfl nthA rfl rfl rfl rfl ?_
    |fail)
   |((with_reducible refine gCf ?_);first
    |(refine aH ?_;first
     |refine wcRr rfl (by first|(apply hrec<;>exact fcA)|fail) ?_
     |refine wcR rfl (λc=>by first|(apply c<;>exact fcA)|fail) ?_
     |((refine wcHr rfl (by first|(apply hrec<;>exact fcA)|fail) (λv h db hp=>?_));(first|obtain⟨_,_,rfl,hp⟩:=hp|obtain⟨_,rfl,hp⟩:=hp|fail))
     |((refine wcX rfl (λc=>by first|(apply c<;>exact fcA)|fail) hs hF hX (λr hr hs=>?_));try dsimp only at hs)
     |((refine wcH rfl (λc=>by first|(apply c<;>exact fcA)|fail) (λv h db hp=>?_));(first|obtain⟨_,_,rfl,hp⟩:=hp|obtain⟨_,rfl,hp⟩:=hp|fail))
     |fail)
    |refine wfgo (by assumption:cN _ _ _ _ _ _ _) pmA hM (λh db sl=>?_)
    |fail)
   |((with_reducible refine gAp ?_);refine wap rfl rfl grA rfl pmA rfl slA rfl rfl rfl rfl ob ob (λbs cp G hG=>?_))
   |((with_reducible refine gCt ?_);first|refine aH (wcV rfl rfl rvA ?_)|fail)
   |((with_reducible refine gMf ?_);first
    |refine wmz 0 rfl rfl nthA hM (λh db at_=>?_)
    |refine wmz 1 rfl rfl nthA hM (λh db at_=>?_)
    |refine wmz 2 rfl rfl nthA hM (λh db at_=>?_)
    |refine wmz 3 rfl rfl nthA hM (λh db at_=>?_)
    |refine wmz 4 rfl rfl nthA hM (λh db at_=>?_)
    |refine aH (wmf ?_)
    |fail)
   |((with_reducible refine gIx ?_);(first
    |refine wix rfl rfl rfl rfl slA rfl (nthZ (by assumption)) (iC (by assumption)) (λq cs hA hl hr=>?_)
    |refine wixw rfl rfl rfl rfl slA rfl ob (dC ob) (λq cs hA hl hr=>?_)
    |refine wix rfl rfl rfl rfl slA rfl ob (dC ob) (λq cs hA hl hr=>?_)
    |fail);(first|(obtain⟨_,_,rfl,hr⟩:=hr)|(obtain⟨_,rfl,hr⟩:=hr)|(have hr:=(hr:cs=_);subst hr)|fail))
   |((with_reducible refine gSx ?_);refine wsx rfl rfl rfl ob ?_)
   |((with_reducible refine gBs ?_);first
    |refine wbf rfl rfl rfl ceA rfl hM (λb h db sl=>?_)
    |refine aH (wbs0 rfl rfl (λb=>?_))
    |fail)
   |((with_reducible refine gBi ?_);first|refine wshr rfl rfl ob ?_|refine wband rfl rfl ?_|refine wshl rfl rfl ob ?_|fail)
   |((with_reducible refine gCv ?_);refine wcv rfl rfl rfl ?_)
   |((with_reducible refine gBd ?_);refine aH (wbd rfl rfl rfl ?_))
   |((with_reducible refine gPk ?_);refine wgo rfl ?_;first|exact hk _ rfl|exact wso (hk _ rfl) jsA leA hX leA|fail)
   |((with_reducible refine gGu ?_);first
    |refine wgo rfl ?_
    |((refine gOr false rfl ?_);refine wor _ rfl rfl rfl (λc hk=>Wi) (λe=>?_))
    |((refine gOr true rfl ?_);refine wand _ rfl rfl rfl (λc hk=>Wi) (λe=>?_))
    |fail))
  |fail)
 all_goals fail):p:=h
theorem W(h:p:=by
 repeat' (first
  |((with_reducible refine gO ?_);first
   |refine woo rfl ?_
   |refine wot rfl ?_
   |((with_reducible refine gLd ?_);first
    |refine wld rfl rfl nthA rfl ?_
    |refine wlh0 rfl rfl fcA ?_
    |refine wlhs rfl rfl fcA rfl ?_
    |refine wlhS rfl rfl fcA ?_
    |refine wlh rfl rfl fcA rfl ?_
    |fail)
   |((with_reducible refine gBx ?_);refine eL (λb=>?_))
   |((with_reducible refine gAl ?_);refine aH (wal rfl (λb=>?_)))
   |((with_reducible refine gSt ?_);first
    |refine wsW rfl rfl rfl nthA rfl rfl rfl ?_
    |refine wst rfl rfl nthA rfl rfl rfl rfl ?_
    |fail)
   |((with_reducible refine gCf ?_);first
    |(refine aH ?_;first
     |refine wcRr rfl (by first|(apply hrec<;>exact fcA)|fail) ?_
     |refine wcR rfl (λc=>by first|(apply c<;>exact fcA)|fail) ?_
     |((refine wcHr rfl (by first|(apply hrec<;>exact fcA)|fail) (λv h db hp=>?_));(first|obtain⟨_,_,rfl,hp⟩:=hp|obtain⟨_,rfl,hp⟩:=hp|fail))
     |((refine wcX rfl (λc=>by first|(apply c<;>exact fcA)|fail) hs hF hX (λr hr hs=>?_));try dsimp only at hs)
     |((refine wcH rfl (λc=>by first|(apply c<;>exact fcA)|fail) (λv h db hp=>?_));(first|obtain⟨_,_,rfl,hp⟩:=hp|obtain⟨_,rfl,hp⟩:=hp|fail))
     |fail)
    |refine wfgo (by assumption:cN _ _ _ _ _ _ _) pmA hM (λh db sl=>?_)
    |fail)
   |((with_reducible refine gAp ?_);refine wap rfl rfl grA rfl pmA rfl slA rfl rfl rfl rfl ob ob (λbs cp G hG=>?_))
   |((with_reducible refine gCt ?_);first|refine aH (wcV rfl rfl rvA ?_)|fail)
   |((with_reducible refine gMf ?_);first
    |refine wmz 0 rfl rfl nthA hM (λh db at_=>?_)
    |refine wmz 1 rfl rfl nthA hM (λh db at_=>?_)
    |refine wmz 2 rfl rfl nthA hM (λh db at_=>?_)
    |refine wmz 3 rfl rfl nthA hM (λh db at_=>?_)
    |refine wmz 4 rfl rfl nthA hM (λh db at_=>?_)
    |refine aH (wmf ?_)
    |fail)
   |((with_reducible refine gIx ?_);(first
    |refine wix rfl rfl rfl rfl slA rfl (nthZ (by assumption)) (iC (by assumption)) (λq cs hA hl hr=>?_)
    |refine wixw rfl rfl rfl rfl slA rfl ob (dC ob) (λq cs hA hl hr=>?_)
    |refine wix rfl rfl rfl rfl slA rfl ob (dC ob) (λq cs hA hl hr=>?_)
    |fail);(first|(obtain⟨_,_,rfl,hr⟩:=hr)|(obtain⟨_,rfl,hr⟩:=hr)|(have hr:=(hr:cs=_);subst hr)|fail))
   |((with_reducible refine gSx ?_);refine wsx rfl rfl rfl ob ?_)
   |((with_reducible refine gBs ?_);first
    |refine wbf rfl rfl rfl ceA rfl hM (λb h db sl=>?_)
    |refine aH (wbs0 rfl rfl (λb=>?_))
    |fail)
   |((with_reducible refine gBi ?_);first|refine wshr rfl rfl ob ?_|refine wband rfl rfl ?_|refine wshl rfl rfl ob ?_|fail)
   |((with_reducible refine gCv ?_);refine wcv rfl rfl rfl ?_)
   |((with_reducible refine gBd ?_);refine aH (wbd rfl rfl rfl ?_))
   |((with_reducible refine gGu ?_);first
    |refine wgo rfl ?_
    |((refine gOr false rfl ?_);refine wor _ rfl rfl rfl (λc hk=>Wi) (λe=>?_))
    |((refine gOr true rfl ?_);refine wand _ rfl rfl rfl (λc hk=>Wi) (λe=>?_))
    |fail))
  |((with_reducible refine gX ?_);first
   |((with_reducible refine gXl ?_);first
    |refine wdl rfl rfl nthA rfl ?_
    |refine wdh0 rfl rfl fcA ?_
    |refine wdhs rfl rfl fcA rfl ?_
    |refine wdhS rfl rfl fcA ?_
    |refine wdh rfl rfl fcA rfl ?_
    |fail)
   |((with_reducible refine gXi ?_);(first
    |refine wdi rfl rfl rfl rfl slA rfl (nthZ (by assumption)) (iC (by assumption)) (λq cs hA hl hr=>?_)
    |refine wdiw rfl rfl rfl rfl slA rfl ob (dC ob) (λq cs hA hl hr=>?_)
    |refine wdi rfl rfl rfl rfl slA rfl ob (dC ob) (λq cs hA hl hr=>?_)
    |fail);(first|(obtain⟨_,_,rfl,hr⟩:=hr)|(obtain⟨_,rfl,hr⟩:=hr)|(have hr:=(hr:cs=_);subst hr)|fail))
   |refine wdlr true rfl rfl rfl ?_
   |refine wdlr false rfl rfl rfl ?_|refine wdlu rfl rfl rfl ?_
   |refine wdsp rfl rfl rfl (λc=>?_) (λc=>?_)
   |fail)
  |((with_reducible refine gD ?_);first
   |refine wdq rfl rfl ?_
   |refine wdx 0 rfl ?_
   |((refine wdx 1 rfl ?_);first|refine wdlr true rfl rfl rfl ?_|refine wdlr false rfl rfl rfl ?_|refine wdlu rfl rfl rfl ?_|refine wdsp rfl rfl rfl (λc=>?_) (λc=>?_)|fail)
   |refine wd0 rfl ?_
   |refine wd1 rfl rfl ?_
   |fail)
  |((with_reducible refine gJ ?_);refine⟨leA,jsA,?_⟩)
  |((with_reducible refine gS ?_);first
   |first
     |refine wcRr rfl (by first|(apply hrec<;>exact fcA)|fail) ?_
     |refine wcR rfl (λc=>by first|(apply c<;>exact fcA)|fail) ?_
     |((refine wcHr rfl (by first|(apply hrec<;>exact fcA)|fail) (λv h db hp=>?_));(first|obtain⟨_,_,rfl,hp⟩:=hp|obtain⟨_,rfl,hp⟩:=hp|fail))
     |((refine wcX rfl (λc=>by first|(apply c<;>exact fcA)|fail) hs hF hX (λr hr hs=>?_));try dsimp only at hs)
     |((refine wcH rfl (λc=>by first|(apply c<;>exact fcA)|fail) (λv h db hp=>?_));(first|obtain⟨_,_,rfl,hp⟩:=hp|obtain⟨_,rfl,hp⟩:=hp|fail))
     |fail
   |refine wcV rfl rfl rvA ?_
   |refine wmf ?_
   |refine wal rfl (λb=>?_)
   |refine wbd rfl rfl rfl ?_
   |refine wbs0 rfl rfl (λb=>?_)
   |fail)
  |((with_reducible refine gT ?_);first
   |refine wtt rfl ?_
   |refine wto rfl ?_
   |((with_reducible refine gLo ?_);first
    |refine lpkY hv hC m1 leA pmA (by first|with_reducible exact hs0 HA hs|fail) (by exact rfl) lnA rfl (λi dn A hh v hil hs hv hC db e=>?_) (λi dn A hh v y r hd hlt hget hltp hbd hs hv hC db hx ag e=>?_)
    |refine lpk0 (by first|with_reducible exact hs0 HA hs|fail) lnA rfl (λi hil hs e=>?_) (λi y r hd hlt hget hltp hbd hs hx ag e=>?_)
    |refine lpn0 (by first|with_reducible exact hs0 HA hs|fail) ob rfl (λi hil hs e=>?_) (λi r hd hlt hltp hs hx ag e=>?_)
    |refine lpkG (by first|with_reducible exact hsG HA hs|fail) lnA rdd grA pmA (λi l bs cp G hh hil hs db hG hn e=>?_) (λi l bs cp G hh y r hd hlt hget hltp hbd hs db hG hn hx ag e=>?_)
    |refine lpk1 (by first|with_reducible exact hs1 _ HA hs|fail) lnA rdd (λi w hil hs e=>?_) (λi w y r hd hlt hget hltp hbd hs hx ag e=>?_)
    |refine lpk1 (by first|with_reducible exact hs1 (_,_) HA hs|fail) lnA rdd (λi w hil hs e=>?_) (λi w y r hd hlt hget hltp hbd hs hx ag e=>?_)
    |refine lpk1 (by first|with_reducible exact hs1 (_,_,_) HA hs|fail) lnA rdd (λi w hil hs e=>?_) (λi w y r hd hlt hget hltp hbd hs hx ag e=>?_)
    |refine lpkY hv hC m1 leA pmA (by first|with_reducible exact hs0 (HA _) hs|fail) (by exact rfl) lnA rfl (λi dn A hh v hil hs hv hC db e=>?_) (λi dn A hh v y r hd hlt hget hltp hbd hs hv hC db hx ag e=>?_)
    |refine lpk0 (by first|with_reducible exact hs0 (HA _) hs|fail) lnA rfl (λi hil hs e=>?_) (λi y r hd hlt hget hltp hbd hs hx ag e=>?_)
    |refine lpn0 (by first|with_reducible exact hs0 (HA _) hs|fail) ob rfl (λi hil hs e=>?_) (λi r hd hlt hltp hs hx ag e=>?_)
    |refine lpkG (by first|with_reducible exact hsG (HA _) hs|fail) lnA rdd grA pmA (λi l bs cp G hh hil hs db hG hn e=>?_) (λi l bs cp G hh y r hd hlt hget hltp hbd hs db hG hn hx ag e=>?_)
    |refine lpk1 (by first|with_reducible exact hs1 _ (HA _) hs|fail) lnA rdd (λi w hil hs e=>?_) (λi w y r hd hlt hget hltp hbd hs hx ag e=>?_)
    |refine lpk1 (by first|with_reducible exact hs1 (_,_) (HA _) hs|fail) lnA rdd (λi w hil hs e=>?_) (λi w y r hd hlt hget hltp hbd hs hx ag e=>?_)
    |refine lpk1 (by first|with_reducible exact hs1 (_,_,_) (HA _) hs|fail) lnA rdd (λi w hil hs e=>?_) (λi w y r hd hlt hget hltp hbd hs hx ag e=>?_)
    |refine lpkY hv hC m1 leA pmA (by first|with_reducible exact hs0 (HA _ _) hs|fail) (by exact rfl) lnA rfl (λi dn A hh v hil hs hv hC db e=>?_) (λi dn A hh v y r hd hlt hget hltp hbd hs hv hC db hx ag e=>?_)
    |refine lpk0 (by first|with_reducible exact hs0 (HA _ _) hs|fail) lnA rfl (λi hil hs e=>?_) (λi y r hd hlt hget hltp hbd hs hx ag e=>?_)
    |refine lpn0 (by first|with_reducible exact hs0 (HA _ _) hs|fail) ob rfl (λi hil hs e=>?_) (λi r hd hlt hltp hs hx ag e=>?_)
    |refine lpkG (by first|with_reducible exact hsG (HA _ _) hs|fail) lnA rdd grA pmA (λi l bs cp G hh hil hs db hG hn e=>?_) (λi l bs cp G hh y r hd hlt hget hltp hbd hs db hG hn hx ag e=>?_)
    |refine lpk1 (by first|with_reducible exact hs1 _ (HA _ _) hs|fail) lnA rdd (λi w hil hs e=>?_) (λi w y r hd hlt hget hltp hbd hs hx ag e=>?_)
    |refine lpk1 (by first|with_reducible exact hs1 (_,_) (HA _ _) hs|fail) lnA rdd (λi w hil hs e=>?_) (λi w y r hd hlt hget hltp hbd hs hx ag e=>?_)
    |refine lpk1 (by first|with_reducible exact hs1 (_,_,_) (HA _ _) hs|fail) lnA rdd (λi w hil hs e=>?_) (λi w y r hd hlt hget hltp hbd hs hx ag e=>?_)
    |refine lpkY hv hC m1 leA pmA (by first|with_reducible exact hs0 (HA _ _ _) hs|fail) (by exact rfl) lnA rfl (λi dn A hh v hil hs hv hC db e=>?_) (λi dn A hh v y r hd hlt hget hltp hbd hs hv hC db hx ag e=>?_)
    |refine lpk0 (by first|with_reducible exact hs0 (HA _ _ _) hs|fail) lnA rfl (λi hil hs e=>?_) (λi y r hd hlt hget hltp hbd hs hx ag e=>?_)
    |refine lpn0 (by first|with_reducible exact hs0 (HA _ _ _) hs|fail) ob rfl (λi hil hs e=>?_) (λi r hd hlt hltp hs hx ag e=>?_)
    |refine lpkG (by first|with_reducible exact hsG (HA _ _ _) hs|fail) lnA rdd grA pmA (λi l bs cp G hh hil hs db hG hn e=>?_) (λi l bs cp G hh y r hd hlt hget hltp hbd hs db hG hn hx ag e=>?_)
    |refine lpk1 (by first|with_reducible exact hs1 _ (HA _ _ _) hs|fail) lnA rdd (λi w hil hs e=>?_) (λi w y r hd hlt hget hltp hbd hs hx ag e=>?_)
    |refine lpk1 (by first|with_reducible exact hs1 (_,_) (HA _ _ _) hs|fail) lnA rdd (λi w hil hs e=>?_) (λi w y r hd hlt hget hltp hbd hs hx ag e=>?_)
    |refine lpk1 (by first|with_reducible exact hs1 (_,_,_) (HA _ _ _) hs|fail) lnA rdd (λi w hil hs e=>?_) (λi w y r hd hlt hget hltp hbd hs hx ag e=>?_)
    |refine lpkY hv hC m1 leA pmA (by first|with_reducible exact hs0 HB hs|fail) (by exact rfl) lnA rfl (λi dn A hh v hil hs hv hC db e=>?_) (λi dn A hh v y r hd hlt hget hltp hbd hs hv hC db hx ag e=>?_)
    |refine lpk0 (by first|with_reducible exact hs0 HB hs|fail) lnA rfl (λi hil hs e=>?_) (λi y r hd hlt hget hltp hbd hs hx ag e=>?_)
    |refine lpn0 (by first|with_reducible exact hs0 HB hs|fail) ob rfl (λi hil hs e=>?_) (λi r hd hlt hltp hs hx ag e=>?_)
    |refine lpkG (by first|with_reducible exact hsG HB hs|fail) lnA rdd grA pmA (λi l bs cp G hh hil hs db hG hn e=>?_) (λi l bs cp G hh y r hd hlt hget hltp hbd hs db hG hn hx ag e=>?_)
    |refine lpk1 (by first|with_reducible exact hs1 _ HB hs|fail) lnA rdd (λi w hil hs e=>?_) (λi w y r hd hlt hget hltp hbd hs hx ag e=>?_)
    |refine lpk1 (by first|with_reducible exact hs1 (_,_) HB hs|fail) lnA rdd (λi w hil hs e=>?_) (λi w y r hd hlt hget hltp hbd hs hx ag e=>?_)
    |refine lpk1 (by first|with_reducible exact hs1 (_,_,_) HB hs|fail) lnA rdd (λi w hil hs e=>?_) (λi w y r hd hlt hget hltp hbd hs hx ag e=>?_)
    |refine lpkY hv hC m1 leA pmA (by first|with_reducible exact hs0 (HB _) hs|fail) (by exact rfl) lnA rfl (λi dn A hh v hil hs hv hC db e=>?_) (λi dn A hh v y r hd hlt hget hltp hbd hs hv hC db hx ag e=>?_)
    |refine lpk0 (by first|with_reducible exact hs0 (HB _) hs|fail) lnA rfl (λi hil hs e=>?_) (λi y r hd hlt hget hltp hbd hs hx ag e=>?_)
    |refine lpn0 (by first|with_reducible exact hs0 (HB _) hs|fail) ob rfl (λi hil hs e=>?_) (λi r hd hlt hltp hs hx ag e=>?_)
    |refine lpkG (by first|with_reducible exact hsG (HB _) hs|fail) lnA rdd grA pmA (λi l bs cp G hh hil hs db hG hn e=>?_) (λi l bs cp G hh y r hd hlt hget hltp hbd hs db hG hn hx ag e=>?_)
    |refine lpk1 (by first|with_reducible exact hs1 _ (HB _) hs|fail) lnA rdd (λi w hil hs e=>?_) (λi w y r hd hlt hget hltp hbd hs hx ag e=>?_)
    |refine lpk1 (by first|with_reducible exact hs1 (_,_) (HB _) hs|fail) lnA rdd (λi w hil hs e=>?_) (λi w y r hd hlt hget hltp hbd hs hx ag e=>?_)
    |refine lpk1 (by first|with_reducible exact hs1 (_,_,_) (HB _) hs|fail) lnA rdd (λi w hil hs e=>?_) (λi w y r hd hlt hget hltp hbd hs hx ag e=>?_)
    |refine lpkY hv hC m1 leA pmA (by first|with_reducible exact hs0 (HB _ _) hs|fail) (by exact rfl) lnA rfl (λi dn A hh v hil hs hv hC db e=>?_) (λi dn A hh v y r hd hlt hget hltp hbd hs hv hC db hx ag e=>?_)
    |refine lpk0 (by first|with_reducible exact hs0 (HB _ _) hs|fail) lnA rfl (λi hil hs e=>?_) (λi y r hd hlt hget hltp hbd hs hx ag e=>?_)
    |refine lpn0 (by first|with_reducible exact hs0 (HB _ _) hs|fail) ob rfl (λi hil hs e=>?_) (λi r hd hlt hltp hs hx ag e=>?_)
    |refine lpkG (by first|with_reducible exact hsG (HB _ _) hs|fail) lnA rdd grA pmA (λi l bs cp G hh hil hs db hG hn e=>?_) (λi l bs cp G hh y r hd hlt hget hltp hbd hs db hG hn hx ag e=>?_)
    |refine lpk1 (by first|with_reducible exact hs1 _ (HB _ _) hs|fail) lnA rdd (λi w hil hs e=>?_) (λi w y r hd hlt hget hltp hbd hs hx ag e=>?_)
    |refine lpk1 (by first|with_reducible exact hs1 (_,_) (HB _ _) hs|fail) lnA rdd (λi w hil hs e=>?_) (λi w y r hd hlt hget hltp hbd hs hx ag e=>?_)
    |refine lpk1 (by first|with_reducible exact hs1 (_,_,_) (HB _ _) hs|fail) lnA rdd (λi w hil hs e=>?_) (λi w y r hd hlt hget hltp hbd hs hx ag e=>?_)
    |refine lpkY hv hC m1 leA pmA (by first|with_reducible exact hs0 (HB _ _ _) hs|fail) (by exact rfl) lnA rfl (λi dn A hh v hil hs hv hC db e=>?_) (λi dn A hh v y r hd hlt hget hltp hbd hs hv hC db hx ag e=>?_)
    |refine lpk0 (by first|with_reducible exact hs0 (HB _ _ _) hs|fail) lnA rfl (λi hil hs e=>?_) (λi y r hd hlt hget hltp hbd hs hx ag e=>?_)
    |refine lpn0 (by first|with_reducible exact hs0 (HB _ _ _) hs|fail) ob rfl (λi hil hs e=>?_) (λi r hd hlt hltp hs hx ag e=>?_)
    |refine lpkG (by first|with_reducible exact hsG (HB _ _ _) hs|fail) lnA rdd grA pmA (λi l bs cp G hh hil hs db hG hn e=>?_) (λi l bs cp G hh y r hd hlt hget hltp hbd hs db hG hn hx ag e=>?_)
    |refine lpk1 (by first|with_reducible exact hs1 _ (HB _ _ _) hs|fail) lnA rdd (λi w hil hs e=>?_) (λi w y r hd hlt hget hltp hbd hs hx ag e=>?_)
    |refine lpk1 (by first|with_reducible exact hs1 (_,_) (HB _ _ _) hs|fail) lnA rdd (λi w hil hs e=>?_) (λi w y r hd hlt hget hltp hbd hs hx ag e=>?_)
    |refine lpk1 (by first|with_reducible exact hs1 (_,_,_) (HB _ _ _) hs|fail) lnA rdd (λi w hil hs e=>?_) (λi w y r hd hlt hget hltp hbd hs hx ag e=>?_)
    |refine lpkY hv hC m1 leA pmA (by first|with_reducible exact hs0 HC hs|fail) (by exact rfl) lnA rfl (λi dn A hh v hil hs hv hC db e=>?_) (λi dn A hh v y r hd hlt hget hltp hbd hs hv hC db hx ag e=>?_)
    |refine lpk0 (by first|with_reducible exact hs0 HC hs|fail) lnA rfl (λi hil hs e=>?_) (λi y r hd hlt hget hltp hbd hs hx ag e=>?_)
    |refine lpn0 (by first|with_reducible exact hs0 HC hs|fail) ob rfl (λi hil hs e=>?_) (λi r hd hlt hltp hs hx ag e=>?_)
    |refine lpkG (by first|with_reducible exact hsG HC hs|fail) lnA rdd grA pmA (λi l bs cp G hh hil hs db hG hn e=>?_) (λi l bs cp G hh y r hd hlt hget hltp hbd hs db hG hn hx ag e=>?_)
    |refine lpk1 (by first|with_reducible exact hs1 _ HC hs|fail) lnA rdd (λi w hil hs e=>?_) (λi w y r hd hlt hget hltp hbd hs hx ag e=>?_)
    |refine lpk1 (by first|with_reducible exact hs1 (_,_) HC hs|fail) lnA rdd (λi w hil hs e=>?_) (λi w y r hd hlt hget hltp hbd hs hx ag e=>?_)
    |refine lpk1 (by first|with_reducible exact hs1 (_,_,_) HC hs|fail) lnA rdd (λi w hil hs e=>?_) (λi w y r hd hlt hget hltp hbd hs hx ag e=>?_)
    |refine lpkY hv hC m1 leA pmA (by first|with_reducible exact hs0 (HC _) hs|fail) (by exact rfl) lnA rfl (λi dn A hh v hil hs hv hC db e=>?_) (λi dn A hh v y r hd hlt hget hltp hbd hs hv hC db hx ag e=>?_)
    |refine lpk0 (by first|with_reducible exact hs0 (HC _) hs|fail) lnA rfl (λi hil hs e=>?_) (λi y r hd hlt hget hltp hbd hs hx ag e=>?_)
    |refine lpn0 (by first|with_reducible exact hs0 (HC _) hs|fail) ob rfl (λi hil hs e=>?_) (λi r hd hlt hltp hs hx ag e=>?_)
    |refine lpkG (by first|with_reducible exact hsG (HC _) hs|fail) lnA rdd grA pmA (λi l bs cp G hh hil hs db hG hn e=>?_) (λi l bs cp G hh y r hd hlt hget hltp hbd hs db hG hn hx ag e=>?_)
    |refine lpk1 (by first|with_reducible exact hs1 _ (HC _) hs|fail) lnA rdd (λi w hil hs e=>?_) (λi w y r hd hlt hget hltp hbd hs hx ag e=>?_)
    |refine lpk1 (by first|with_reducible exact hs1 (_,_) (HC _) hs|fail) lnA rdd (λi w hil hs e=>?_) (λi w y r hd hlt hget hltp hbd hs hx ag e=>?_)
    |refine lpk1 (by first|with_reducible exact hs1 (_,_,_) (HC _) hs|fail) lnA rdd (λi w hil hs e=>?_) (λi w y r hd hlt hget hltp hbd hs hx ag e=>?_)
    |refine lpkY hv hC m1 leA pmA (by first|with_reducible exact hs0 (HC _ _) hs|fail) (by exact rfl) lnA rfl (λi dn A hh v hil hs hv hC db e=>?_) (λi dn A hh v y r hd hlt hget hltp hbd hs hv hC db hx ag e=>?_)
    |refine lpk0 (by first|with_reducible exact hs0 (HC _ _) hs|fail) lnA rfl (λi hil hs e=>?_) (λi y r hd hlt hget hltp hbd hs hx ag e=>?_)
    |refine lpn0 (by first|with_reducible exact hs0 (HC _ _) hs|fail) ob rfl (λi hil hs e=>?_) (λi r hd hlt hltp hs hx ag e=>?_)
    |refine lpkG (by first|with_reducible exact hsG (HC _ _) hs|fail) lnA rdd grA pmA (λi l bs cp G hh hil hs db hG hn e=>?_) (λi l bs cp G hh y r hd hlt hget hltp hbd hs db hG hn hx ag e=>?_)
    |refine lpk1 (by first|with_reducible exact hs1 _ (HC _ _) hs|fail) lnA rdd (λi w hil hs e=>?_) (λi w y r hd hlt hget hltp hbd hs hx ag e=>?_)
    |refine lpk1 (by first|with_reducible exact hs1 (_,_) (HC _ _) hs|fail) lnA rdd (λi w hil hs e=>?_) (λi w y r hd hlt hget hltp hbd hs hx ag e=>?_)
    |refine lpk1 (by first|with_reducible exact hs1 (_,_,_) (HC _ _) hs|fail) lnA rdd (λi w hil hs e=>?_) (λi w y r hd hlt hget hltp hbd hs hx ag e=>?_)
    |refine lpkY hv hC m1 leA pmA (by first|with_reducible exact hs0 (HC _ _ _) hs|fail) (by exact rfl) lnA rfl (λi dn A hh v hil hs hv hC db e=>?_) (λi dn A hh v y r hd hlt hget hltp hbd hs hv hC db hx ag e=>?_)
    |refine lpk0 (by first|with_reducible exact hs0 (HC _ _ _) hs|fail) lnA rfl (λi hil hs e=>?_) (λi y r hd hlt hget hltp hbd hs hx ag e=>?_)
    |refine lpn0 (by first|with_reducible exact hs0 (HC _ _ _) hs|fail) ob rfl (λi hil hs e=>?_) (λi r hd hlt hltp hs hx ag e=>?_)
    |refine lpkG (by first|with_reducible exact hsG (HC _ _ _) hs|fail) lnA rdd grA pmA (λi l bs cp G hh hil hs db hG hn e=>?_) (λi l bs cp G hh y r hd hlt hget hltp hbd hs db hG hn hx ag e=>?_)
    |refine lpk1 (by first|with_reducible exact hs1 _ (HC _ _ _) hs|fail) lnA rdd (λi w hil hs e=>?_) (λi w y r hd hlt hget hltp hbd hs hx ag e=>?_)
    |refine lpk1 (by first|with_reducible exact hs1 (_,_) (HC _ _ _) hs|fail) lnA rdd (λi w hil hs e=>?_) (λi w y r hd hlt hget hltp hbd hs hx ag e=>?_)
    |refine lpk1 (by first|with_reducible exact hs1 (_,_,_) (HC _ _ _) hs|fail) lnA rdd (λi w hil hs e=>?_) (λi w y r hd hlt hget hltp hbd hs hx ag e=>?_)
    |refine lpkY hv hC m1 leA pmA (by first|with_reducible exact hs0 HD hs|fail) (by exact rfl) lnA rfl (λi dn A hh v hil hs hv hC db e=>?_) (λi dn A hh v y r hd hlt hget hltp hbd hs hv hC db hx ag e=>?_)
    |refine lpk0 (by first|with_reducible exact hs0 HD hs|fail) lnA rfl (λi hil hs e=>?_) (λi y r hd hlt hget hltp hbd hs hx ag e=>?_)
    |refine lpn0 (by first|with_reducible exact hs0 HD hs|fail) ob rfl (λi hil hs e=>?_) (λi r hd hlt hltp hs hx ag e=>?_)
    |refine lpkG (by first|with_reducible exact hsG HD hs|fail) lnA rdd grA pmA (λi l bs cp G hh hil hs db hG hn e=>?_) (λi l bs cp G hh y r hd hlt hget hltp hbd hs db hG hn hx ag e=>?_)
    |refine lpk1 (by first|with_reducible exact hs1 _ HD hs|fail) lnA rdd (λi w hil hs e=>?_) (λi w y r hd hlt hget hltp hbd hs hx ag e=>?_)
    |refine lpk1 (by first|with_reducible exact hs1 (_,_) HD hs|fail) lnA rdd (λi w hil hs e=>?_) (λi w y r hd hlt hget hltp hbd hs hx ag e=>?_)
    |refine lpk1 (by first|with_reducible exact hs1 (_,_,_) HD hs|fail) lnA rdd (λi w hil hs e=>?_) (λi w y r hd hlt hget hltp hbd hs hx ag e=>?_)
    |refine lpkY hv hC m1 leA pmA (by first|with_reducible exact hs0 (HD _) hs|fail) (by exact rfl) lnA rfl (λi dn A hh v hil hs hv hC db e=>?_) (λi dn A hh v y r hd hlt hget hltp hbd hs hv hC db hx ag e=>?_)
    |refine lpk0 (by first|with_reducible exact hs0 (HD _) hs|fail) lnA rfl (λi hil hs e=>?_) (λi y r hd hlt hget hltp hbd hs hx ag e=>?_)
    |refine lpn0 (by first|with_reducible exact hs0 (HD _) hs|fail) ob rfl (λi hil hs e=>?_) (λi r hd hlt hltp hs hx ag e=>?_)
    |refine lpkG (by first|with_reducible exact hsG (HD _) hs|fail) lnA rdd grA pmA (λi l bs cp G hh hil hs db hG hn e=>?_) (λi l bs cp G hh y r hd hlt hget hltp hbd hs db hG hn hx ag e=>?_)
    |refine lpk1 (by first|with_reducible exact hs1 _ (HD _) hs|fail) lnA rdd (λi w hil hs e=>?_) (λi w y r hd hlt hget hltp hbd hs hx ag e=>?_)
    |refine lpk1 (by first|with_reducible exact hs1 (_,_) (HD _) hs|fail) lnA rdd (λi w hil hs e=>?_) (λi w y r hd hlt hget hltp hbd hs hx ag e=>?_)
    |refine lpk1 (by first|with_reducible exact hs1 (_,_,_) (HD _) hs|fail) lnA rdd (λi w hil hs e=>?_) (λi w y r hd hlt hget hltp hbd hs hx ag e=>?_)
    |refine lpkY hv hC m1 leA pmA (by first|with_reducible exact hs0 (HD _ _) hs|fail) (by exact rfl) lnA rfl (λi dn A hh v hil hs hv hC db e=>?_) (λi dn A hh v y r hd hlt hget hltp hbd hs hv hC db hx ag e=>?_)
    |refine lpk0 (by first|with_reducible exact hs0 (HD _ _) hs|fail) lnA rfl (λi hil hs e=>?_) (λi y r hd hlt hget hltp hbd hs hx ag e=>?_)
    |refine lpn0 (by first|with_reducible exact hs0 (HD _ _) hs|fail) ob rfl (λi hil hs e=>?_) (λi r hd hlt hltp hs hx ag e=>?_)
    |refine lpkG (by first|with_reducible exact hsG (HD _ _) hs|fail) lnA rdd grA pmA (λi l bs cp G hh hil hs db hG hn e=>?_) (λi l bs cp G hh y r hd hlt hget hltp hbd hs db hG hn hx ag e=>?_)
    |refine lpk1 (by first|with_reducible exact hs1 _ (HD _ _) hs|fail) lnA rdd (λi w hil hs e=>?_) (λi w y r hd hlt hget hltp hbd hs hx ag e=>?_)
    |refine lpk1 (by first|with_reducible exact hs1 (_,_) (HD _ _) hs|fail) lnA rdd (λi w hil hs e=>?_) (λi w y r hd hlt hget hltp hbd hs hx ag e=>?_)
    |refine lpk1 (by first|with_reducible exact hs1 (_,_,_) (HD _ _) hs|fail) lnA rdd (λi w hil hs e=>?_) (λi w y r hd hlt hget hltp hbd hs hx ag e=>?_)
    |refine lpkY hv hC m1 leA pmA (by first|with_reducible exact hs0 (HD _ _ _) hs|fail) (by exact rfl) lnA rfl (λi dn A hh v hil hs hv hC db e=>?_) (λi dn A hh v y r hd hlt hget hltp hbd hs hv hC db hx ag e=>?_)
    |refine lpk0 (by first|with_reducible exact hs0 (HD _ _ _) hs|fail) lnA rfl (λi hil hs e=>?_) (λi y r hd hlt hget hltp hbd hs hx ag e=>?_)
    |refine lpn0 (by first|with_reducible exact hs0 (HD _ _ _) hs|fail) ob rfl (λi hil hs e=>?_) (λi r hd hlt hltp hs hx ag e=>?_)
    |refine lpkG (by first|with_reducible exact hsG (HD _ _ _) hs|fail) lnA rdd grA pmA (λi l bs cp G hh hil hs db hG hn e=>?_) (λi l bs cp G hh y r hd hlt hget hltp hbd hs db hG hn hx ag e=>?_)
    |refine lpk1 (by first|with_reducible exact hs1 _ (HD _ _ _) hs|fail) lnA rdd (λi w hil hs e=>?_) (λi w y r hd hlt hget hltp hbd hs hx ag e=>?_)
    |refine lpk1 (by first|with_reducible exact hs1 (_,_) (HD _ _ _) hs|fail) lnA rdd (λi w hil hs e=>?_) (λi w y r hd hlt hget hltp hbd hs hx ag e=>?_)
    |refine lpk1 (by first|with_reducible exact hs1 (_,_,_) (HD _ _ _) hs|fail) lnA rdd (λi w hil hs e=>?_) (λi w y r hd hlt hget hltp hbd hs hx ag e=>?_)
    |fail)
   |((with_reducible refine gRg ?_);refine wany rfl ?_)
   |((with_reducible refine gIl ?_);first
    |exact wsb (ag hs (hr:=rdw)) jsA leA hX leA
    |exact wsb (ag _ hs (hr:=rdw)) jsA leA hX leA
    |exact wsb (ag (_,_) hs (hr:=rdw)) jsA leA hX leA
    |exact wsb (ag (_,_,_) hs (hr:=rdw)) jsA leA hX leA
    |exact wsb (ag (_,_,_,_) hs (hr:=rdw)) jsA leA hX leA
    |exact wsb (ag hs (by assumption) leA ob (hr:=rdw)) jsA leA hX leA
    |exact wsb (ag hs hv hC leA (hr:=rdw)) jsA leA hX leA
    |fail)
   |((with_reducible refine gCo ?_);first
    |refine wcT rfl (by assumption) ?_
    |refine wcF rfl (by assumption) ?_
    |refine wcoT rfl hs bP (λhs=>?_)
    |refine wcoF rfl hs bP (λhs=>?_)
    |refine mq rfl ?_
    |refine oe rfl ?_
    |refine wcond rfl hs (λc hs=>?_) (λc hs=>?_)
    |refine wcoN rfl hs bP (λc hs=>?_) (λc hs=>?_)
    |fail)
   |((with_reducible refine gRe ?_);first
    |((first|refine wrP [_] hF rfl rdR hX ?_|refine wrP [_,_] hF rfl rdR hX ?_|refine wrP [_,_,_] hF rfl rdR hX ?_|refine wrP [_,_,_,_] hF rfl rdR hX ?_|refine wrP [_,_,_,_,_] hF rfl rdR hX ?_|refine wrP [] hF rfl rdR hX ?_|fail);(first|(subst hs;rfl)|rfl|exact hs▸rfl|fail))
    |((first|refine wrH [_] hF rfl rdR ?_|refine wrH [_,_] hF rfl rdR ?_|refine wrH [_,_,_] hF rfl rdR ?_|fail);(first|subst hs|rw[hs]|skip);(first|exact⟨_,_,rfl,fcA⟩|exact⟨_,rfl,fcA⟩|fail))
    |refine wfg (by assumption:cN _ _ _ _ _ _ _) pmA hM (λh db sl=>?_)
    |fail)
   |((with_reducible refine gNi ?_);first
    |refine weX hs [] hF rfl hX rdR rfl
    |((first|refine weH [_] hF rfl rdR ?_|refine weH [_,_] hF rfl rdR ?_|refine weH [_,_,_] hF rfl rdR ?_|fail);(first|subst hs|rw[hs]|skip);(first|exact⟨_,_,rfl,fcA⟩|exact⟨_,rfl,fcA⟩|fail))
    |fail)
   |fail)
  |fail)
 all_goals fail):p:=h
end
section
open Go.Proofs Go.Proofs.Tryz
set_option maxHeartbeats 2000000
theorem iY(h UR)  : II prog 25 [I UR] h (exW errV (λr:Unit=>(.tuple #[]:Value)) (nf UR)):=by
 refine cV func25 U ntmps25 U λX hM hX=>?_
 have hs0:=@rfl _ (nf UR)
 refine qT 5 U (aI hs0 U (λc1 hs1=>?_) (λc1 hs2=>?_))
 .exact bM (bD (aH (eu (F8 Rn U U) (aH (F4 U Bk (λe=>iN (qz [] func25 hX (congrArg (exW errV (λr:Unit=>(.tuple #[]:Value))) hs1))))))))
 refine bO ?_
 have hs3:nf UR=(Except.ok ()):=hs2
 exact dR (Bg [] [] func25 U hX trivial (congrArg (exW errV (λr:Unit=>(.tuple #[]:Value))) hs3))
theorem qb(h s pM pD)(f:(Int->Bool))(f_v)(hs:SlC jB h pM pD s)(hf:∀(h':HF)(ef:Int),xJ h h'->qw prog f_v [I ef] h' [] (.bool (f ef))):Ret prog 97 [.slice pM s.length pD,f_v] h (I (cQ s f)):=by
 refine sT func97 U ntmps97 U λX hM hX hF=>?_
 generalize hz:(cQ s f)=z;have hs:=hz.symm
 have HA:=h0 [0,1,7] 8 (λs1 i=>(cQ.L1 f (cQ.K1)) s1 i)
 exact W
instance kC97:Ct 97:=⟨_,call97,@qb⟩
theorem mK(h s pM pD)(f:(Int->Bool))(f_v)(hs:SlC jB h pM pD s)(hf:∀(h':HF)(ef:Int),xJ h h'->qw prog f_v [I ef] h' [] (.bool (f ef))):Ret prog 40 [.slice pM s.length pD,f_v] h (.bool (et s f)):=by
 refine sT func40 U ntmps40 U λX hM hX hF=>?_
 generalize hz:(et s f)=z;have hs:=hz.symm
 exact W
instance kC40:Ct 40:=⟨_,call40,@mK⟩
theorem zm(h gp v0 v0_q)(av0:At h v0_q [I v0]):Ret prog 164 [I gp,.pointer (some v0_q)] h (.bool (kX gp v0)):=by
 refine sT func164 U ntmps164 U λX hM hX hF=>?_
 generalize hz:(kX gp v0)=z;have hs:=hz.symm
 exact W
instance kC164:Ct 164:=⟨_,call164,@zm⟩
theorem pB(h most l fg ff)(hl:SlC jB h fg ff l):Ret prog 99 [I most,.slice fg l.length ff] h (.bool (fD most l)):=by
 refine sT func99 U ntmps99 U λX hM hX hF=>?_
 generalize hz:(fD most l)=z;have hs:=hz.symm
 exact W
instance kC99:Ct 99:=⟨_,call99,@pB⟩
theorem CT(h)(x:ay)  : Ret prog 49 [.agg (ay.cells x).toArray] h (.bool (kO x)):=by
 refine sT func49 U ntmps49 U λX hM hX hF=>?_
 generalize hz:(kO x)=z;have hs:=hz.symm
 exact W
instance kC49:Ct 49:=⟨_,call49,@CT⟩
theorem vt(h l fg ff)(hl:SlC ay.rp h fg ff l):Ret prog 45 [.slice fg l.length ff] h (I (cf l)):=by
 refine sT func45 U ntmps45 U λX hM hX hF=>?_
 generalize hz:(cf l)=z;have hs:=hz.symm
 have HA:=h1 [9,10] 11 (λw=>[(3,I w)]) (λs1 i w=>(cf.L1 (cf.K1)) s1 w)
 exact W
theorem Dv(h gp low high)  : Ret prog 211 [I gp,I low,I high] h (.bool (hO gp low high)):=by
 refine sT func211 U ntmps211 U λX hM hX hF=>?_
 generalize hz:(hO gp low high)=z;have hs:=hz.symm
 exact W
instance kC211:Ct 211:=⟨_,call211,@Dv⟩
theorem pA(h gp)  : Ret prog 186 [I gp] h (.bool (iQ gp)):=by
 refine sT func186 U ntmps186 U λX hM hX hF=>?_
 generalize hz:(iQ gp)=z;have hs:=hz.symm
 exact W
instance kC186:Ct 186:=⟨_,call186,@pA⟩
theorem tQ(h gp)  : Ret prog 187 [I gp] h (.bool (ka gp)):=by
 refine sT func187 U ntmps187 U λX hM hX hF=>?_
 generalize hz:(ka gp)=z;have hs:=hz.symm
 exact W
instance kC187:Ct 187:=⟨_,call187,@tQ⟩
theorem m8(h gp)  : Ret prog 188 [I gp] h (.bool (fy gp)):=by
 refine sT func188 U ntmps188 U λX hM hX hF=>?_
 generalize hz:(fy gp)=z;have hs:=hz.symm
 exact W
instance kC188:Ct 188:=⟨_,O0,@m8⟩
theorem Et(h)(x:aK)  : Ret prog 141 [.agg (aK.cells x).toArray] h (.bool (pH x)):=by
 refine sT func141 U ntmps141 U λX hM hX hF=>?_
 generalize hz:(pH x)=z;have hs:=hz.symm
 exact W
instance kC141:Ct 141:=⟨_,call141,@Et⟩
theorem sd(h l fg ff)(hl:SlC aK.rp h fg ff l):Ret prog 72 [.slice fg l.length ff] h (I (dz l)):=by
 refine sT func72 U ntmps72 U λX hM hX hF=>?_
 generalize hz:(dz l)=z;have hs:=hz.symm
 have HA:=h1 [9,10] 11 (λw=>[(3,I w)]) (λs1 i w=>(dz.L1 (dz.K1)) s1 w)
 exact W
theorem CO(h gp low high)  : Ret prog 212 [I gp,I low,I high] h (.bool (eP gp low high)):=by
 refine sT func212 U ntmps212 U λX hM hX hF=>?_
 generalize hz:(eP gp low high)=z;have hs:=hz.symm
 exact W
instance kC212:Ct 212:=⟨_,call212,@CO⟩
theorem CP(h gp)  : Ret prog 213 [I gp] h (.bool (kI gp)):=by
 refine sT func213 U ntmps213 U λX hM hX hF=>?_
 generalize hz:(kI gp)=z;have hs:=hz.symm
 exact W
instance kC213:Ct 213:=⟨_,call213,@CP⟩
theorem AV(h gp)  : Ret prog 214 [I gp] h (.bool (jI gp)):=by
 refine sT func214 U ntmps214 U λX hM hX hF=>?_
 generalize hz:(jI gp)=z;have hs:=hz.symm
 exact W
instance kC214:Ct 214:=⟨_,call214,@AV⟩
theorem DY(h)(x:bz)  : Ret prog 142 [.agg (bz.cells x).toArray] h (.bool (oZ x)):=by
 refine sT func142 U ntmps142 U λX hM hX hF=>?_
 generalize hz:(oZ x)=z;have hs:=hz.symm
 exact W
instance kC142:Ct 142:=⟨_,call142,@DY⟩
theorem wp(h l fg ff)(hl:SlC bz.rp h fg ff l):Ret prog 73 [.slice fg l.length ff] h (I (dS l)):=by
 refine sT func73 U ntmps73 U λX hM hX hF=>?_
 generalize hz:(dS l)=z;have hs:=hz.symm
 have HA:=h1 [9,10] 11 (λw=>[(3,I w)]) (λs1 i w=>(dS.L1 (dS.K1)) s1 w)
 exact W
instance kC73:Ct 73:=⟨_,call73,@wp⟩
theorem BK(h gp dJ)  : Ret prog 215 [I gp,I dJ] h (.bool (fh gp dJ)):=by
 refine sT func215 U ntmps215 U λX hM hX hF=>?_
 generalize hz:(fh gp dJ)=z;have hs:=hz.symm
 exact W
instance kC215:Ct 215:=⟨_,call215,@BK⟩
theorem CG(h)(x:aF)  : Ret prog 143 [.agg (aF.cells x).toArray] h (.bool (og x)):=by
 refine sT func143 U ntmps143 U λX hM hX hF=>?_
 generalize hz:(og x)=z;have hs:=hz.symm
 exact W
instance kC143:Ct 143:=⟨_,call143,@CG⟩
theorem vh(h l fg ff)(hl:SlC aF.rp h fg ff l):Ret prog 74 [.slice fg l.length ff] h (I (dj l)):=by
 refine sT func74 U ntmps74 U λX hM hX hF=>?_
 generalize hz:(dj l)=z;have hs:=hz.symm
 have HA:=h1 [9,10] 11 (λw=>[(3,I w)]) (λs1 i w=>(dj.L1 (dj.K1)) s1 w)
 exact W
instance kC74:Ct 74:=⟨_,call74,@vh⟩
theorem Bd(h gp v0 v0_q v1 v1_q)(av0:At h v0_q [I v0])(av1:At h v1_q [I v1]):Ret prog 154 [I gp,.pointer (some v0_q),.pointer (some v1_q)] h (.bool (lE gp v0 v1)):=by
 refine sT func154 U ntmps154 U λX hM hX hF=>?_
 generalize hz:(lE gp v0 v1)=z;have hs:=hz.symm
 exact W
instance kC154:Ct 154:=⟨_,call154,@Bd⟩
theorem iA(h least most l fg ff)(hl:SlC jB h fg ff l):Ret prog 83 [I least,I most,.slice fg l.length ff] h (.bool (ce least most l)):=by
 refine sT func83 U ntmps83 U λX hM hX hF=>?_
 generalize hz:(ce least most l)=z;have hs:=hz.symm
 exact W
instance kC83:Ct 83:=⟨_,C0,@iA⟩
theorem EO(h)(x:Budget)  : Ret prog 144 [.agg (Budget.cells x).toArray] h (.bool (lY x)):=by
 refine sT func144 U ntmps144 U λX hM hX hF=>?_
 generalize hz:(lY x)=z;have hs:=hz.symm
 exact W
instance kC144:Ct 144:=⟨_,call144,@EO⟩
end
section
open Go.Proofs Go.Proofs.Tryz
theorem ext282:Extern.find Tryz.f348=some Extern.BytealgIndexByte.indexByte:=by kernel_rfl
theorem ext282n:Extern.findNext Tryz.f348=none:=by kernel_rfl
theorem run282(s:ByteArray)(c:Int)(w:World):(Extern.BytealgIndexByte.indexByte #[.string s,.int .u8 c]).run prog w=.ok (.int .i64 (idxByte s c)) w:=by
 show(do
  let b ←Extern.Bytes.bytesOf (.string s)
  let c ←Extern.Bytes.asByte (.int .u8 c)
  match(qE b.size).find? λi=>b[i]! == c with
  |some i=>pure (goInt i)
  |none=>pure (goInt (-1)):Sem Value).run prog w=_
 simp only[Extern.Bytes.bytesOf,Extern.Bytes.asByte,zL,Sem.run_pure,vJ,idxByte,goInt]
 cases hf:(qE s.size).find? (λi=>s[i]! == UInt8.ofNat c.toNat)with
 |none=>simp only[show c.toNat.toUInt8=UInt8.ofNat c.toNat from rfl,hf];simp
 |some i=>simp only[show c.toNat.toUInt8=UInt8.ofNat c.toNat from rfl,hf];simp
theorem call282(s:ByteArray)(c:Int)(w:World):(callFunc 348 #[.string s,.int .u8 c]).run prog w=.ok (.value (.int .i64 (idxByte s c))) w:=by
 have hb:Tryz.f348.body.isNone=true:=by kernel_rfl
 have hn : (Tryz.f348.name == "runtime.NumGoroutine") = false := by kernel_rfl
 simp only[callFunc,zL,run_program,vJ,func348,hn,hb,ext282,ext282n]
 simp[run282]
theorem RS{L:LH}{y:Operand}{c:Int}(hx:e.ev x=.string s)(hy:e.ev y=.int .u8 c):
  ∀w,St X h L w->(execOp e.ev ⟨d,.call ⟨.value (.func 348),#[x,y],ats⟩,ty,pos,af,g⟩).run prog w=.ok (.value (.int .i64 (idxByte s c))) w:=
 λw _=>by
  have hf:e.ev (.func 348)=.func (.func 348) #[] #[]:=rfl
  simp[execOp,resolve,hf,qH,invoke,hx,hy,call282]
end
section
open Go.Proofs Go.Proofs.Tryz
set_option maxHeartbeats 2000000
theorem ss(h l fg ff)(hl:SlC vQ h fg ff l):Ret prog 75 [.slice fg l.length ff] h (I (bI l)):=by
 refine sT func75 U ntmps75 U λX hM hX hF=>?_
 generalize hz:(bI l)=z;have hs:=hz.symm
 have HA:=h1 [9,10] 11 (λw=>[(3,I w)]) (λs1 i w=>(bI.L1 (bI.K1)) s1 w)
 exact W
theorem kW(h gp low high)  : Ret prog 145 [I gp,I low,I high] h (.bool (bo gp low high)):=by
 refine sT func145 U ntmps145 U λX hM hX hF=>?_
 generalize hz:(bo gp low high)=z;have hs:=hz.symm
 exact W
instance kC145:Ct 145:=⟨_,Jy,@kW⟩
theorem P6{n a b:Int}(h:bo n a b=true):a<=n/\n<=b:=by simpa[bo]using h
theorem An(rec:aj->Int->List gr)(h)(x:aj)(gG x_q)(depth:Int)(depth_q)(hrec:∀(h:HF)(qx:aj)(ml:eo)(qdepth:Int)(_:aj.ok h qx ml)(_:0<=qdepth/\qdepth+qx.dep<=2000000)(_:qx.dep<x.dep),j4 prog 283 [.agg (aj.cells qx ml).toArray,I qdepth] h (λv h'=>∃rv0:Value,v=rv0/\Itr prog rv0 xr (rec qx qdepth) h'))(hx:aj.ok h x gG)(ax:At h x_q (aj.cells x gG))(adepth:At h depth_q [I depth])(hb:0<=depth/\depth+x.dep<=2000000):Itr prog (.func (.func 314) #[] (xB [.pointer (some x_q),.pointer (some depth_q)])) xr (aT.F rec x depth) h:=by
 refine si call314 ?_
 intro yf ya yb C Sp Pn h1 A db m1 m2 m3 hC hy
 refine jX Jx U ntmps314 U λX hXM hX=>?_
 have hs0:aT.F rec x depth=[]++aT.F rec x depth:=rfl
 refine sr (eL (λb1=>qL 5 [0] U (eJ ty59 (ax.mono db) U U (eE ty3 (adepth.mono db) U (aH (gv (cells:=[I x.Kind,I x.N,I x.No,.string x.Name,.slice gG.oN x.L.length gG.pc,I depth]) (places:=[(0,5),(5,1)]) underlying320 zc320 kr kr ?_))))))
 have hx1:aT.F rec x depth=[]++((gr.mk (aj.mk x.Kind x.N x.No x.Name x.L) depth)::((aT.L1 rec depth (aT.K1)) x.L)):=hs0
 let z1:Nat×Obj:=(b1,O [.func yf ya yb] 354)
 refine aH (me ([z1]) A ap (hy [] (gr.mk (aj.mk x.Kind x.N x.No x.Name x.L) depth) _ _ _ _ hx1 lf hC ⟨(CW.mk (eo.mk gG.oN gG.pc)),U,(show gr.ok h1 (gr.mk (aj.mk x.Kind x.N x.No x.Name x.L) depth) (CW.mk (eo.mk gG.oN gG.pc))from⟨(show aj.ok h1 (aj.mk x.Kind x.N x.No x.Name x.L) (eo.mk gG.oN gG.pc)from aj.ok.of (hx.list.mono aj.aG db))⟩)⟩) U U (λh2 A1 hle1 hC1=>?_) (λh3 A2 hle2 hS1=>?_) (λch1 h4 A3 hle3 hP1 e=>iN (oz [] (A:=A3) Jx (List.sublist_append_right _ _) hP1)))
 .have hs1:aT.F rec x depth=[(gr.mk (aj.mk x.Kind x.N x.No x.Name x.L) depth)]++(((aT.L1 rec depth (aT.K1)) x.L)):=hx1.trans ap
  refine qL 7 [] U (lM (j:=4) ty57 (ax.mono (db.t hle1)) U U (qL 3 [] U (dR (bY (L':=[z1]++(A1++(markB []))) ap ?_))))
  refine uI (ι:=Nat×List gr×LH×List Nat×HF) (λi=>[]) (λi=>marks i.2.2.2.1) (λi=>i.2.2.2.2) (λi=>[z1]++(i.2.2.1++(markB i.2.2.2.1))) (λi=>i.1<=x.L.length/\aT.F rec x depth=i.2.1++((aT.K1))/\C i.2.1 i.2.2.2.2 i.2.2.1/\xJ h2 i.2.2.2.2) ?_ (λhx1=>?_)
  .rintro⟨i1,dn1,A1_,rs1,hh1⟩ ⟨i7,hs2,hC1_,hl1⟩ e
   refine bY (L':=([z1]++(A1_))++markB rs1) ap ?_
   have hs3:aT.F rec x depth=dn1:=hs2.trans (List.append_nil _)
   exact sj rs1 (A:=A1_) Jx U js (.inl (hs3▸hC1_))
  refine zO (ι:=Nat×List gr×LH×List Nat×HF×List aj) (λi=>[(2,.pointer (some depth_q)),(3,Q b1),(14,.slice gG.oN x.L.length gG.pc),(15,I (x.L.length:Int)),(16,I (i.1:Int))]) (λi=>marks i.2.2.2.1) (λi=>i.2.2.2.2.1) (λi=>[z1]++(i.2.2.1++(markB i.2.2.2.1))) (λi=>x.L.drop i.1=i.2.2.2.2.2/\i.1<=x.L.length/\aT.F rec x depth=i.2.1++((aT.L1 rec depth (aT.K1)) i.2.2.2.2.2)/\C i.2.1 i.2.2.2.2.1 i.2.2.1/\xJ h2 i.2.2.2.2.1) (λi=>i.2.2.2.2.2.length) (0,[(gr.mk (aj.mk x.Kind x.N x.No x.Name x.L) depth)],A1,[],h2,x.L) U rd sw ⟨U,xH _,hs1,hC1,lf⟩ ?_
  rintro⟨i1,dn1,A1_,rs1,hh1,s1⟩ ⟨hd1,i7,hs4,hC1_,hl1⟩ ag1 e
  rcases s1 with _|⟨y1,rz1⟩
  .have mE:=nZ hd1
   exact sr (fO mE U (qO 4 U (hx1 (i1,dn1,A1_,rs1,hh1) _ ⟨i7,hs4,hC1_,hl1⟩ trivial)))
  have gg:=tU hd1
  have dL:=sn hd1
  have i5:=il hd1
  have mF:=(hx.list.mono aj.aG (db.t hle1)).1.1
  have hdy:=aj.lD (gP hd1)
  refine sr (tO gg U (qO 8 U (aH (iR qt ty59 (hx.list.mono aj.aG ((db.t hle1).t hl1)).1 dL U U U (λ_ _ _ e=>e) (λq2 r2 A8 ok2=>eJ ty59 A8 U U (bJ zc59 (λb4=>bG 0 ty59 U U U U U U (jf (L':=[(b4,O (aj.cells y1 r2) 59),z1]++(A1_++(markB rs1))) U (qO 3 U (du 0 ty59 U U U (eE ty3 (adepth.mono ((db.t hle1).t hl1)) U (iS (v':=I (depth+1)) U (lI ob) (aH (cw OZ (hrec _ _ _ (depth+1) ok2 ob (aj.lD (gP hd1))) U (λv2 h9 hle8 hp2=>?_)))))))))))))))
  obtain⟨_,rfl,mo2⟩:=hp2
  refine qO 2 U ?_
  let z2:Nat×Obj:=(b4,O (aj.cells y1 r2) 59)
  refine bY (L':=([z2,z1]++(A1_))++markB rs1) ap ?_
  refine j7 (it:=v2) (xs:=(rec y1 (depth+1))) (ι:=List gr×LH×HF) rs1 (λi=>i.2.2) (λi=>[z2,z1]++(i.2.1)) (λs i=>aT.F rec x depth=i.1++((aT.L3 ((aT.L1 rec depth (aT.K1) rz1))) s)/\C i.1 i.2.2 i.2.1/\xJ h9 i.2.2) (λi=>Sp i.2.2 i.2.1/\xJ h9 i.2.2) (λ_=>False) 0 (λch h L=>∃B,B.Sublist L/\Pn ch h B) (dn1,A1_,h9) Jx U mo2 U pJ (λ_ _ _ _ hl⟨B,hs,hp⟩=>⟨B,hs,m3 _ _ _ _ hl hp⟩) U (show[z2,z1]++(A1_)=_ from U) ⟨hs4,(m1 _ _ _ _ hle8 hC1_),lf⟩ ?_ ?_ ?_ ?_ ?_
  .rintro l3 dm3 lp3 y3 rz3 vs3 ⟨dn3,A3_,hh3⟩ hr3 X hFR3 ⟨hs6,hC3_,hl3⟩ hl03 hlr3 hv3 hX hXM hlp3 nx3 rt3 ex3 pn3
   obtain⟨rr3_0,rfl,ok3_0⟩:=hv3
   let z3:Nat×Obj:=(dm3,.deferred (some []))
   refine bY (L':=[(l3,.loop lp3),z3,z2,z1]++(A3_++(markB rs1))) ap (bM (bJ zc320 (λb6=>bG 0 ty320 U U U U U U (jf (L':=[(b6,O (gr.cells y3 rr3_0) 320),(l3,.loop lp3),z3,z2,z1]++(A3_++(markB rs1))) U (bp (kg 1 U hlp3 (qK 4 [4] U (du 0 ty320 U U U ?_))))))))
   have hx4:aT.F rec x depth=dn3++(y3::((aT.L3 ((aT.L1 rec depth (aT.K1) rz1))) rz3)):=hs6
   let z4:Nat×Obj:=(l3,.loop { lp3 with state:=.busy })
   refine aH (RF ([(b6,O (gr.cells y3 rr3_0) 320),z4,z3,z2,z1]) A3_ (markB rs1) ap (hy dn3 y3 _ _ _ _ hx4 ((((hle1.t hl1).t hle8).t hl3).t hlr3) (m1 _ _ _ _ hlr3 hC3_) ⟨rr3_0,U,ok3_0⟩) U U (λh13 A12 hle12 hC4=>?_) (λh14 A13 hle13 hS4=>?_) (λch4 h15 A14 hle14 hP4 e=>Ci (L':=[z4,z3]++(A14++(markB rs1))) js (pn3 _ _ _ A14 ⟨A14,List.Sublist.refl _,hP4⟩)))
   .have hs7:aT.F rec x depth=(dn3++[y3])++(((aT.L3 ((aT.L1 rec depth (aT.K1) rz1))) rz3)):=hx4.trans ap
    exact nv U (qO 4 U (cm (L':=[z4,z3,z2,z1]++(A12++(markB rs1))) js (bY (L':=rdH l3 dm3 lp3 (([z2,z1]++(A12))++markB rs1)) ap (nx3 ((dn3++[y3]),A12,h13) _ _ ⟨hs7,hC4,((hl3.t hlr3).t hle12)⟩ lf))))
   exact nv U (qO 2 U (cm (L':=[z4,z3,z2,z1]++(A13++(markB rs1))) js (bY (L':=rdH l3 dm3 lp3 (([z2,z1]++(A13))++markB rs1)) ap (rt3 (dn3,A13,h14) _ _ _ ⟨hS4,((hl3.t hlr3).t hle13)⟩ lf))))
  .rintro dm3 ⟨dn3,A3_,hh3⟩ hn3 ⟨hs8,hC3_,hl3⟩ hln3 hl03
   exact bY (L':=[z2,z1]++(A3_++(markB (dm3::rs1)))) ap (qT 3 U (oi i1 U (qO 2 U (cm (L':=[z1]++(A3_++(markB (dm3::rs1)))) js (ag1 ((i1+1),dn3,A3_,(dm3::rs1),hn3,rz1) _ (Nat.lt_succ_self _) ⟨ll hd1,il hd1,hs8,(m1 _ _ _ _ hln3 hC3_),(((hl1.t hle8).t hl3).t hln3)⟩ rd)))))
  .rintro dm3 ⟨dn3,A3_,hh3⟩ hn3 ⟨hS5,hl3⟩ hln3 hl03
   exact bY (L':=[z2,z1]++(A3_++(markB (dm3::rs1)))) ap (bY (L':=([z2,z1]++(A3_))++markB (dm3::rs1)) ap (nU (dm3::rs1) (A:=A3_) Jx U js (.inr (m2 _ _ _ hln3 hS5))))
  .exact xf
  rintro dm3 ch hn3 L0 ⟨B,hB,hp⟩ hl03
  exact oz (dm3::rs1) Jx hB hp
 exact nv U (qO 2 U (dR (nU [] (A:=A2) Jx U js (.inr hS1))))
theorem sU:∀(m:Nat)(h:HF)(x:aj)(gG:eo)(depth:Int)(_:aj.ok h x gG)(_:0<=depth/\depth+x.dep<=2000000)(_:x.dep<=m),j4 prog 283 [.agg (aj.cells x gG).toArray,I depth] h (λv h'=>∃rv0:Value,v=rv0/\Itr prog rv0 xr (aT.go m x depth) h')
 |0,h,x,gG,depth,hx,hb,hd=>absurd hd (Nat.not_le.2 (aj.nd _))
 |m+1,h,x,gG,depth,hx,hb,hd=>by
  exact cV func283 U ntmps283 U λX hM hX=>sr (eL (λb1=>eL (λb2=>qO 4 U (cv 1 U hM (λh2 hle2 hb2=>cv 0 U hM (λh3 hle3 hb3=>aH (gB U U (an (lJ [.func (.func 314) #[] #[Q b1,Q b2]] func283 U rd ⟨_,U,An (aT.go m) h3 x gG ⟨b1,0,none⟩ depth ⟨b2,0,none⟩ (λh' y VX d' hy hb' hl=>sU m h' y VX d' hy hb' ob) (hx.mono (hle2.t hle3)) ((dM hb2).mono hle3) (dM hb3) hb⟩)))))))))
theorem oF(h x gG)(depth:Int)(hx:aj.ok h x gG)(hb:0<=depth/\depth+x.dep<=2000000):j4 prog 283 [.agg (aj.cells x gG).toArray,I depth] h (λv h'=>∃rv0:Value,v=rv0/\Itr prog rv0 xr (bx x depth) h'):=sU _ h x gG depth hx hb (vE _)
theorem iP(h ok UQ)  : II prog 309 [.bool ok,I UQ] h (exW stopV (λr:Unit=>(.tuple #[]:Value)) (fu ok UQ)):=by
 refine cV func309 U ntmps309 U λX hM hX=>?_
 have hs0:=@rfl _ (fu ok UQ)
 refine qT 5 U (aI hs0 U (λc1 hs1=>?_) (λc1 hs2=>?_))
 .exact bM (bD (aH (gv (cells:=[I UQ]) (places:=[(0,1)]) underlying347 zc347 kr kr (aH (eu (F8 underlying347 U U) (aH (F4 U Bk (λe=>iN (qz [] func309 hX (congrArg (exW stopV (λr:Unit=>(.tuple #[]:Value))) hs1))))))))))
 refine bO ?_
 have hs3:fu ok UQ=(Except.ok ()):=hs2
 exact dR (Bg [] [] func309 U hX trivial (congrArg (exW stopV (λr:Unit=>(.tuple #[]:Value))) hs3))
theorem Qv{e:Int}{u:Unit}(h:fu c e=.ok u):c=true:=by
 cases c with
 |true=>rfl
 |false=>simp[fu]at h
theorem ns(h p i8)(hp:aw.ok h p i8)(hsz0:p.di.length<=2000000):j4 prog 310 [.agg (aw.cells p i8).toArray] h (λv h'=>∃(rb0:Option Addr)(rc0:Nat),v=.slice rb0 (aE p).length rc0/\SlC aj.rp h' rb0 rc0 (aE p)):=by
 refine sT func310 U ntmps310 U λX hM hX hF=>?_
 generalize hz:(aE p)=z;have hs:=hz.symm
 have HA:=hG [1,6,7] 8 2 aj.rp 59 (λs1 i w=>(aE.L1 (aE.K1 p)) s1 w)
 exact W
theorem PT(p:aw):∀(l:List ft)(g:List aj),aE.L1 (aE.K1 p) l g=g++(l.map (·.aj)++[p.aQ])
 |[],g=>by simp[aE.L1,aE.K1]
 |y::l,g=>by simp[aE.L1,PT p l]
theorem SL(p:aw):aE p=p.di.map (·.aj)++[p.aQ]:=by
 unfold aE;rw[PT];simp
theorem DW{p:aw}(h:smP p){y:aj}(hy:y∈aE p):y.dep<=1500000:=by
 rw[SL]at hy
 rcases List.mem_append.1 hy with hy|hy
 .obtain⟨r,hr,rfl⟩:=List.mem_map.1 hy;exact h.2.1 r hr
 rw[List.mem_singleton.1 hy];exact h.2.2.1
theorem Dr(h p i8)(hp:aw.ok h p i8)(hsm:smP p):II prog 279 [.agg (aw.cells p i8).toArray] h (exW stopV (λr:Unit=>(.tuple #[]:Value)) (cH p)):=by
 refine cV OY U ntmps279 U λX hM hX=>?_
 have hs0:=@rfl _ (cH p)
 have hsr:=hsm.rules
 have hsc:=hsm.change
 refine sr (eL (λb1=>qL 8 [0] U (jO 5 [10,11,12,13,14,15] 10 15 (decide ((p.dQ.length:Int)<=16)) U (λc1 hk1=>?_) (λe=>?_))))
 .exact qL 5 [0] U (hk1 _ U)
 refine bD (jO 5 [16,17,18,19,20,21] 16 21 (decide ((p.di.length:Int)<=16)) U (λc2 hk2=>?_) (λe=>?_))
 .exact qL 5 [0] U (hk2 _ U)
 refine aH (pi BO (iP h ((decide ((p.aB.length:Int)<=32)&&decide ((p.dQ.length:Int)<=16))&&decide ((p.di.length:Int)<=16)) 2) U (λu1 hu1=>?_) (λpv1 hpv1 e=>?_))
 .obtain⟨rx1,hrx1,rfl⟩:=sk hu1
  have hs1:=hs0.trans (wW hrx1)
  cases rx1
  refine qO 3 U (du 0 ty61 U U U (aH (cw call310 (ns _ _ _ hp ob) U (λv1 h1 hle1 hp1=>?_))))
  obtain⟨rb1,rc1,rfl,sl1⟩:=hp1
  refine qL 3 [] U (dR ?_)
  let z1:Nat×Obj:=(b1,O (aw.cells p i8) 61)
  refine bY (L':=[z1]++(markB [])) ap ?_
  refine uI (ι:=Nat×List Nat×HF) (λi=>[]) (λi=>marks i.2.1) (λi=>i.2.2) (λi=>[z1]++(markB i.2.1)) (λi=>i.1<=(aE p).length/\cH p=((cH.K1))/\xJ h1 i.2.2) ?_ (λhx1=>?_)
  .rintro⟨i1,rs1,hh1⟩ ⟨i7,hs2,hl1⟩ e
   have hs3:cH p=(Except.ok ()):=hs2
   exact bY (L':=([z1])++markB rs1) ap (Bg rs1 [] OY U hX trivial (congrArg (exW stopV (λr:Unit=>(.tuple #[]:Value))) hs3))
  refine zO (ι:=Nat×List Nat×HF×List aj) (λi=>[(24,.slice rb1 ((aE p).length) rc1),(25,I ((aE p).length:Int)),(26,I (i.1:Int))]) (λi=>marks i.2.1) (λi=>i.2.2.1) (λi=>[z1]++(markB i.2.1)) (λi=>(aE p).drop i.1=i.2.2.2/\i.1<=(aE p).length/\cH p=((cH.L1 (cH.K1)) i.2.2.2)/\xJ h1 i.2.2.1) (λi=>i.2.2.2.length) (0,[],h1,(aE p)) U rd sw ⟨U,xH _,hs1,lf⟩ ?_
  rintro⟨i1,rs1,hh1,s1⟩ ⟨hd1,i7,hs4,hl1⟩ ag1 e
  rcases s1 with _|⟨y1,rz1⟩
  .have mE:=nZ hd1
   exact sr (fO mE U (qO 4 U (hx1 (i1,rs1,hh1) _ ⟨i7,hs4,hl1⟩ trivial)))
  have gg:=tU hd1
  have dL:=sn hd1
  have i5:=il hd1
  have mF:=sl1.1.1
  try have hsy:=DW hsm (gP hd1)
  refine sr (tO gg U (qO 8 U (aH (iR qt ty59 (sl1.mono aj.aG hl1).1 dL U U U (λ_ _ _ e=>e) (λq2 r2 A2 ok2=>eJ ty59 A2 U U (bJ zc59 (λb5=>bG 0 ty59 U U U U U U (qO 3 U (bJ zc3 (λb6=>cU 0 ty3 U U U U U U (qO 3 U (du 1 ty59 U U U (aH (cw OZ (oF _ _ _ 1 ok2 ob) U (λv3 h3 hle3 hp3=>?_)))))))))))))))
  obtain⟨_,rfl,mo2⟩:=hp3
  refine qO 2 U ?_
  let z2:Nat×Obj:=(b5,O (aj.cells y1 r2) 59)
  refine bY (L':=([(b6,O [I 0] 3),z2,z1])++markB rs1) ap ?_
  refine j7 (it:=v3) (xs:=(bx y1 1)) (ι:=Int×HF) rs1 (λi=>i.2) (λi=>[(b6,O [I i.1] 3),z2,z1]) (λs i=>cH p=((cH.L3 (λzg3_b6_0=>(cH.L1 (cH.K1) rz1))) s i.1)/\xJ h3 i.2) (λ_=>False) (λ_=>False) 0 (λch _ _=>∃pv_,ch=[{ v:=stopV pv_,recovered:=false }]/\cH p=.error pv_) (0,h3) OY U mo2 U pJ (λ_ _ _ _ _ hq=>hq) U (show[(b6,O [I 0] 3),z2,z1]=_ from U) ⟨hs4,lf⟩ ?_ ?_ ?_ ?_ ?_
  .rintro l3 dm3 lp3 y3 rz3 vs3 ⟨sG,hh3⟩ hr3 X hFR3 ⟨hs6,hl3⟩ hl03 hlr3 hv3 hX hXM hlp3 nx3 rt3 ex3 pn3
   obtain⟨rr3_0,rfl,ok3_0⟩:=hv3
   let z4:Nat×Obj:=(dm3,.deferred (some []))
   refine bY (L':=[(l3,.loop lp3),z4,(b6,O [I sG] 3),z2,z1]++(markB rs1)) ap (bM (bJ zc320 (λb8=>bG 0 ty320 U U U U U U (bp (kg 1 U hlp3 (qK 5 [3] U (cU 3 ty3 U U U U U U (qL 5 [3] U (jO 4 [37,38,39,40,41] 37 41 (decide (y3.depth<=16)) U (λc3 hk3=>?_) (λe=>?_))))))))))
   .exact qL 4 [0] U (hk3 _ U)
   refine aH (pi BO (iP hr3 (decide ((vB .i64 (sG+1))<=256)&&decide (y3.depth<=16)) 2) U (λu2 hu2=>?_) (λpv2 hpv2 e=>?_))
   .obtain⟨rx2,hrx2,rfl⟩:=sk hu2
    have hs7:=hs6.trans (wW hrx2)
    cases rx2
    refine qO 2 U ?_
    let z3:Nat×Obj:=(b6,O [I (vB .i64 (sG+1))] 3)
    exact cm (L':=[(l3,.loop { lp3 with state:=.busy }),z4,z3,z2,z1]++(markB rs1)) js (bY (L':=rdH l3 dm3 lp3 (([z3,z2,z1])++markB rs1)) ap (nx3 ((vB .i64 (sG+1)),hr3) _ _ ⟨hs7,(hl3.t hlr3)⟩ lf))
   obtain⟨pv2e,hpv2e,rfl⟩:=po hpv2
   have hs8:=hs6.trans (pP hpv2e)
   exact Ci (L':=[(l3,.loop { lp3 with state:=.busy }),z4]++(markB rs1)) js (pn3 _ _ _ [] ⟨_,U,hs8⟩)
  .rintro dm3 ⟨sG,hh3⟩ hn3 ⟨hs9,hl3⟩ hln3 hl03
   exact bY (L':=[(b6,O [I sG] 3),z2,z1]++(markB (dm3::rs1))) ap (qT 3 U (oi i1 U (qO 2 U (cm (L':=[z1]++(markB (dm3::rs1))) js (ag1 ((i1+1),(dm3::rs1),hn3,rz1) _ (Nat.lt_succ_self _) ⟨ll hd1,il hd1,hs9,(((hl1.t hle3).t hl3).t hln3)⟩ rd)))))
  .exact xf
  .exact xf
  rintro dm3 ch hn3 L0 ⟨pv_,rfl,hpv_⟩ hl03
  exact qz (dm3::rs1) OY hX (congrArg (exW stopV (λr:Unit=>(.tuple #[]:Value))) hpv_)
 obtain⟨pv1e,hpv1e,rfl⟩:=po hpv1
 have hs10:=hs0.trans (pP hpv1e)
 exact iN (qz [] OY hX (congrArg (exW stopV (λr:Unit=>(.tuple #[]:Value))) hs10))
instance kC279:Ct 279:=⟨_,call279,@Dr⟩
theorem pz(h x gG)(hx:aj.ok h x gG):Ret prog 284 [.agg (aj.cells x gG).toArray] h (.bool (dx x)):=by
 refine sT func284 U ntmps284 U λX hM hX hF=>?_
 generalize hz:(dx x)=z;have hs:=hz.symm
 exact W
theorem qv(h s c)  : Ret prog 347 [.string s,Y c] h (I (lU s c)):=by
 refine sT func347 U ntmps347 U λX hM hX hF=>?_
 have hs0:=@rfl _ (lU s c)
 exact sr (qO 6 U (aH (eu (RS U U) (an (nretP [I (idxByte s c)] (ci hs0))))))
instance kC347:Ct 347:=⟨_,call347,@qv⟩
theorem zX(h s c)  : Ret prog 345 [.string s,Y c] h (I (strings_IndexByte s c)):=by
 refine sT func345 U ntmps345 U λX hM hX hF=>?_
 generalize hz:(strings_IndexByte s c)=z;have hs:=hz.symm
 exact W
instance kC345:Ct 345:=⟨_,call345,@zX⟩
theorem Dy(h c)  : Ret prog 340 [Y c] h (I (lT c)):=by
 refine sT func340 U ntmps340 U λX hM hX hF=>?_
 generalize hz:(lT c)=z;have hs:=hz.symm
 exact W
theorem jt(h s)  : Ret prog 329 [.string s] h (.bool (dW s)):=by
 refine sT func329 U ntmps329 U λX hM hX hF=>?_
 have hs0:=@rfl _ (dW s)
 refine qT 10 U (gz 4 [7,8,9,10,11] 7 11 (decide (32<(s.size:Int))) U (λc1 hk1=>?_) (λe=>?_))
 .exact bD (aH (eu (N8 Rr U) (qO 2 U (hk1 _ U))))
 refine bD (gz 5 [12,13,14,15,16,17] 12 17 ((lT ((s.data.getD (0:Int).toNat 0).toNat:Int)) != 2) U (λc2 hk2=>?_) (λe=>?_))
 .refine bD ?_
  have ho1:0<=(0:Int)/\(0:Int)<(s.size:Int):=(by have:=Tf (Bool.or_eq_false_iff.1 ob).1;omega)
  exact aH (eu (N6 Rr U U ho1) (aX call340 (Dy h ((s.data.getD (0:Int).toNat 0).toNat:Int)) U (qO 2 U (hk2 _ U))))
 refine bp (aI hs0 U (λc3 hs1=>?_) (λc3 hs2=>?_))
 .exact sr (an (nretP [.bool false] (cs hs1)))
 refine qT 5 U (aH (eu (N8 Rr U) (qO 2 U ?_)))
 refine gx (ι:=Nat) (λi=>[]) (λi=>h) (λi=>[]) (λi=>i<=(qE s.size).length/\dW s=((dW.K1))) ?_ (λhx1=>?_)
 .rintro i1 ⟨i7,hs4⟩ e
  exact sr (an (nretP [.bool true] (cs hs4)))
 refine jw (ι:=Nat×List Nat) (λi=>[(0,.string s),(19,I (s.size:Int)),(20,I (i.1:Int))]) (λi=>h) (λi=>[]) (λi=>(qE s.size).drop i.1=i.2/\i.1<=(qE s.size).length/\dW s=((dW.L1 s (dW.K1)) i.2 i.1)) (λi=>i.2.length) (0,(qE s.size)) rd sw ⟨U,xH _,hs2⟩ ?_
 rintro⟨i1,s1⟩ ⟨hd1,i7,hs6⟩ ag1 e
 rcases s1 with _|⟨y1,rz1⟩
 .have mE:decide ((i1:Int)<(s.size:Int))=false:=by simpa using nZ hd1
  exact sr (fO mE U (qO 4 U (hx1 i1 _ ⟨i7,hs6⟩ trivial)))
 have gg:decide ((i1:Int)<(s.size:Int))=true:=by simpa using tU hd1
 have i5:i1<s.size:=by simpa using il hd1
 refine sr (tO gg U (qO 15 U ?_))
 have ho3:0<=((i1:Int):Int)/\((i1:Int):Int)<(s.size:Int):=ob
 refine aH (eu (N6 Rr U U ho3) (aX call340 (Dy h ((s.data.getD ((i1:Int):Int).toNat 0).toNat:Int)) U (qO 7 U (jO 3 [29,30,31,32] 29 32 ((lT ((s.data.getD ((i1:Int):Int).toNat 0).toNat:Int)) != 3) U (λc4 hk3=>?_) (λe=>?_)))))
 .exact bD (qO 2 U (hk3 _ U))
 refine bD (jO 3 [33,34,35,36] 33 36 ((lT ((s.data.getD ((i1:Int):Int).toNat 0).toNat:Int)) != 5) U (λc5 hk4=>?_) (λe=>?_))
 .exact bD (qO 2 U (hk4 _ U))
 refine bp (aI hs6 U (λc6 hs8=>?_) (λc6 hs9=>?_))
 .exact sr (an (nretP [.bool false] (cs hs8)))
 exact bO (qT 2 U (oi i1 U (qO 2 U (ag1 ((i1+1),rz1) _ (Nat.lt_succ_self _) ⟨ll hd1,il hd1,hs9⟩ rd))))
theorem pU(h s)  : Ret prog 311 [.string s] h (.bool (ea s)):=by
 refine sT func311 U ntmps311 U λX hM hX hF=>?_
 have hs0:=@rfl _ (ea s)
 refine qT 16 U (aI hs0 U (λc1 hs1=>?_) (λc1 hs2=>?_))
 .refine bO (aI hs1 U (λc2 hs3=>?_) (λc2 hs4=>?_))
  .exact sr (an (nretP [.bool false] (cs hs3)))
  exact bO (qT 4 U (aX Cg (jt h s) U (an (nretP [.bool (dW s)] (cs hs4)))))
 refine qT 5 U (aI hs2 U (λc3 hs7=>?_) (λc3 hs8=>?_))
 .refine bO (aI hs7 U (λc4 hs9=>?_) (λc4 hs10=>?_))
  .exact sr (an (nretP [.bool false] (cs hs9)))
  exact bO (qT 4 U (aX Cg (jt h s) U (an (nretP [.bool (dW s)] (cs hs10)))))
 refine qT 5 U (aI hs8 U (λc5 hs13=>?_) (λc5 hs14=>?_))
 .refine bO (aI hs13 U (λc6 hs15=>?_) (λc6 hs16=>?_))
  .exact sr (an (nretP [.bool false] (cs hs15)))
  exact bO (qT 4 U (aX Cg (jt h s) U (an (nretP [.bool (dW s)] (cs hs16)))))
 refine qT 5 U (aI hs14 U (λc7 hs19=>?_) (λc7 hs20=>?_))
 .refine bO (aI hs19 U (λc8 hs21=>?_) (λc8 hs22=>?_))
  .exact sr (an (nretP [.bool false] (cs hs21)))
  exact bO (qT 4 U (aX Cg (jt h s) U (an (nretP [.bool (dW s)] (cs hs22)))))
 refine qT 5 U (aI hs20 U (λc9 hs25=>?_) (λc9 hs26=>?_))
 .refine bO (aI hs25 U (λc10 hs27=>?_) (λc10 hs28=>?_))
  .exact sr (an (nretP [.bool false] (cs hs27)))
  exact bO (qT 4 U (aX Cg (jt h s) U (an (nretP [.bool (dW s)] (cs hs28)))))
 refine qT 5 U (aI hs26 U (λc11 hs31=>?_) (λc11 hs32=>?_))
 .refine bO (aI hs31 U (λc12 hs33=>?_) (λc12 hs34=>?_))
  .exact sr (an (nretP [.bool false] (cs hs33)))
  exact bO (qT 4 U (aX Cg (jt h s) U (an (nretP [.bool (dW s)] (cs hs34)))))
 refine qT 5 U (aI hs32 U (λc13 hs37=>?_) (λc13 hs38=>?_))
 .refine bO (aI hs37 U (λc14 hs39=>?_) (λc14 hs40=>?_))
  .exact sr (an (nretP [.bool false] (cs hs39)))
  exact bO (qT 4 U (aX Cg (jt h s) U (an (nretP [.bool (dW s)] (cs hs40)))))
 refine qT 5 U (aI hs38 U (λc15 hs43=>?_) (λc15 hs44=>?_))
 .refine bO (aI hs43 U (λc16 hs45=>?_) (λc16 hs46=>?_))
  .exact sr (an (nretP [.bool false] (cs hs45)))
  exact bO (qT 4 U (aX Cg (jt h s) U (an (nretP [.bool (dW s)] (cs hs46)))))
 refine qT 5 U (aI hs44 U (λc17 hs49=>?_) (λc17 hs50=>?_))
 .refine bO (aI hs49 U (λc18 hs51=>?_) (λc18 hs52=>?_))
  .exact sr (an (nretP [.bool false] (cs hs51)))
  exact bO (qT 4 U (aX Cg (jt h s) U (an (nretP [.bool (dW s)] (cs hs52)))))
 refine qT 5 U (aI hs50 U (λc19 hs55=>?_) (λc19 hs56=>?_))
 .refine bO (aI hs55 U (λc20 hs57=>?_) (λc20 hs58=>?_))
  .exact sr (an (nretP [.bool false] (cs hs57)))
  exact bO (qT 4 U (aX Cg (jt h s) U (an (nretP [.bool (dW s)] (cs hs58)))))
 refine qT 5 U (aI hs56 U (λc21 hs61=>?_) (λc21 hs62=>?_))
 .refine bO (aI hs61 U (λc22 hs63=>?_) (λc22 hs64=>?_))
  .exact sr (an (nretP [.bool false] (cs hs63)))
  exact bO (qT 4 U (aX Cg (jt h s) U (an (nretP [.bool (dW s)] (cs hs64)))))
 refine qT 5 U (aI hs62 U (λc23 hs67=>?_) (λc23 hs68=>?_))
 .refine bO (aI hs67 U (λc24 hs69=>?_) (λc24 hs70=>?_))
  .exact sr (an (nretP [.bool false] (cs hs69)))
  exact bO (qT 4 U (aX Cg (jt h s) U (an (nretP [.bool (dW s)] (cs hs70)))))
 refine qT 5 U (aI hs68 U (λc25 hs73=>?_) (λc25 hs74=>?_))
 .refine bO (aI hs73 U (λc26 hs75=>?_) (λc26 hs76=>?_))
  .exact sr (an (nretP [.bool false] (cs hs75)))
  exact bO (qT 4 U (aX Cg (jt h s) U (an (nretP [.bool (dW s)] (cs hs76)))))
 refine qT 5 U (aI hs74 U (λc27 hs79=>?_) (λc27 hs80=>?_))
 .refine bO (aI hs79 U (λc28 hs81=>?_) (λc28 hs82=>?_))
  .exact sr (an (nretP [.bool false] (cs hs81)))
  exact bO (qT 4 U (aX Cg (jt h s) U (an (nretP [.bool (dW s)] (cs hs82)))))
 refine qT 5 U (aI hs80 U (λc29 hs85=>?_) (λc29 hs86=>?_))
 .refine bO (aI hs85 U (λc30 hs87=>?_) (λc30 hs88=>?_))
  .exact sr (an (nretP [.bool false] (cs hs87)))
  exact bO (qT 4 U (aX Cg (jt h s) U (an (nretP [.bool (dW s)] (cs hs88)))))
 refine qT 4 U (aI hs86 U (λc31 hs91=>?_) (λc31 hs92=>?_))
 .exact sr (an (nretP [.bool false] (cs hs91)))
 exact bO (qT 4 U (aX Cg (jt h s) U (an (nretP [.bool (dW s)] (cs hs92)))))
theorem nM(h s pM pD v)(hs:SlC Wc h pM pD s):Ret prog 285 [.slice pM s.length pD,.string v] h (I (bC s v)):=by
 refine sT func285 U ntmps285 U λX hM hX hF=>?_
 generalize hz:(bC s v)=z;have hs:=hz.symm
 have HA:=h0 [0,1,7] 8 (λs1 i=>(bC.L1 v (bC.K1)) s1 i)
 exact W
instance kC285:Ct 285:=⟨_,call285,@nM⟩
theorem oH(h l fg ff)(ok:(ByteArray->Bool))(ok_v)(hl:SlC Wc h fg ff l)(hok:∀(h':HF)(ef:ByteArray),xJ h h'->qw prog ok_v [.string ef] h' [] (.bool (ok ef))):Ret prog 312 [.slice fg l.length ff,ok_v] h (.bool (bN l ok)):=by
 refine sT func312 U ntmps312 U λX hM hX hF=>?_
 generalize hz:(bN l ok)=z;have hs:=hz.symm
 have HA:=h0 [0,1,7,8] 9 (λs1 i=>(bN.L1 l ok (bN.K1)) s1 i)
 exact W
theorem vx(h s pM pD v)(hs:SlC Wc h pM pD s):Ret prog 313 [.slice pM s.length pD,.string v] h (.bool (dg s v)):=by
 refine sT func313 U ntmps313 U λX hM hX hF=>?_
 generalize hz:(dg s v)=z;have hs:=hz.symm
 exact W
theorem Ds(h p i8)(hp:aw.ok h p i8)(hsm:smP p):II prog 280 [.agg (aw.cells p i8).toArray] h (exW stopV (λr:Unit=>(.tuple #[]:Value)) (cI p)):=by
 refine cV OX U ntmps280 U λX hM hX=>?_
 have hs0:=@rfl _ (cI p)
 have hsr:=hsm.rules
 refine sr (eL (λb1=>qL 5 [0] U (aX call311 (pU h p.Name) U (bD (jO 4 [8,9,10,11,12] 8 12 (bN p.aB ea) U (λc1 hk1=>?_) (λe=>?_))))))
 .exact qL 2 [0] U (aX call312 (oH _ _ _ _ ea (.func (.func 311) #[] #[]) hp.aB (λh' ef db=>ip call311 (pU h' ef))) U (mU U (hk1 _ U)))
 refine bD (jO 4 [13,14,15,16,17] 13 17 (bN p.dQ ea) U (λc2 hk2=>?_) (λe=>?_))
 .exact qL 2 [0] U (aX call312 (oH _ _ _ _ ea (.func (.func 311) #[] #[]) hp.dQ (λh' ef db=>ip call311 (pU h' ef))) U (mU U (hk2 _ U)))
 refine aH (pi BO (iP h (((ea p.Name)&&(bN p.aB ea))&&(bN p.dQ ea)) 201) U (λu1 hu1=>?_) (λpv1 hpv1 e=>?_))
 .obtain⟨rx1,hrx1,rfl⟩:=sk hu1
  have hs1:=hs0.trans (wW hrx1)
  cases rx1
  refine qO 3 U (du 0 ty61 U U U (aH (cw call310 (ns _ _ _ hp ob) U (λv1 h1 hle1 hp1=>?_))))
  obtain⟨rb1,rc1,rfl,sl1⟩:=hp1
  refine qL 3 [] U (dR ?_)
  let z1:Nat×Obj:=(b1,O (aw.cells p i8) 61)
  refine bY (L':=[z1]++(markB [])) ap ?_
  refine uI (ι:=Nat×List Nat×HF) (λi=>[]) (λi=>marks i.2.1) (λi=>i.2.2) (λi=>[z1]++(markB i.2.1)) (λi=>i.1<=(aE p).length/\cI p=((cI.K1))/\xJ h1 i.2.2) ?_ (λhx1=>?_)
  .rintro⟨i1,rs1,hh1⟩ ⟨i7,hs2,hl1⟩ e
   have hs3:cI p=(Except.ok ()):=hs2
   exact bY (L':=([z1])++markB rs1) ap (Bg rs1 [] OX U hX trivial (congrArg (exW stopV (λr:Unit=>(.tuple #[]:Value))) hs3))
  refine zO (ι:=Nat×List Nat×HF×List aj) (λi=>[(1,Q b1),(20,.slice rb1 ((aE p).length) rc1),(21,I ((aE p).length:Int)),(22,I (i.1:Int))]) (λi=>marks i.2.1) (λi=>i.2.2.1) (λi=>[z1]++(markB i.2.1)) (λi=>(aE p).drop i.1=i.2.2.2/\i.1<=(aE p).length/\cI p=((cI.L1 p (cI.K1)) i.2.2.2)/\xJ h1 i.2.2.1) (λi=>i.2.2.2.length) (0,[],h1,(aE p)) U rd sw ⟨U,xH _,hs1,lf⟩ ?_
  rintro⟨i1,rs1,hh1,s1⟩ ⟨hd1,i7,hs4,hl1⟩ ag1 e
  rcases s1 with _|⟨y1,rz1⟩
  .have mE:=nZ hd1
   exact sr (fO mE U (qO 4 U (hx1 (i1,rs1,hh1) _ ⟨i7,hs4,hl1⟩ trivial)))
  have gg:=tU hd1
  have dL:=sn hd1
  have i5:=il hd1
  have mF:=sl1.1.1
  try have hsy:=DW hsm (gP hd1)
  refine sr (tO gg U (qO 8 U (aH (iR qt ty59 (sl1.mono aj.aG hl1).1 dL U U U (λ_ _ _ e=>e) (λq2 r2 A2 ok2=>eJ ty59 A2 U U (bJ zc59 (λb4=>bG 0 ty59 U U U U U U (qO 3 U (du 0 ty59 U U U (aH (cw OZ (oF _ _ _ 1 ok2 ob) U (λv3 h3 hle3 hp3=>?_))))))))))))
  obtain⟨_,rfl,mo2⟩:=hp3
  refine qO 2 U ?_
  let z2:Nat×Obj:=(b4,O (aj.cells y1 r2) 59)
  refine bY (L':=([z2,z1])++markB rs1) ap ?_
  refine j7 (it:=v3) (xs:=(bx y1 1)) (ι:=HF) rs1 (λi=>i) (λi=>[z2,z1]) (λs i=>cI p=((cI.L3 p ((cI.L1 p (cI.K1) rz1))) s)/\xJ h3 i) (λ_=>False) (λ_=>False) 0 (λch _ _=>∃pv_,ch=[{ v:=stopV pv_,recovered:=false }]/\cI p=.error pv_) h3 OX U mo2 U pJ (λ_ _ _ _ _ hq=>hq) U (show[z2,z1]=_ from U) ⟨hs4,lf⟩ ?_ ?_ ?_ ?_ ?_
  .rintro l3 dm3 lp3 y3 rz3 vs3 hh3 hr3 X hFR3 ⟨hs6,hl3⟩ hl03 hlr3 hv3 hX hXM hlp3 nx3 rt3 ex3 pn3
   obtain⟨rr3_0,rfl,ok3_0⟩:=hv3
   let z3:Nat×Obj:=(dm3,.deferred (some []))
   refine bY (L':=[(l3,.loop lp3),z3,z2,z1]++(markB rs1)) ap (bM (bJ zc320 (λb6=>bG 0 ty320 U U U U U U (bp (kg 1 U hlp3 (qK 3 [] U (du 0 ty59 U U U (aX call284 (pz _ _ _ ok3_0.x) U (qO 2 U (gz 7 [33,34,35,36,37,38,39,40] 33 40 (dg p.aB y3.x.Name) U (λc3 hk3=>?_) (λe=>?_)))))))))))
   .exact qL 5 [4,0] U (aX call313 (vx _ _ _ _ y3.x.Name (hp.aB.mono WK ((((hle1.t hl1).t hle3).t hl3).t hlr3))) U (mU U (hk3 _ U)))
   refine aH (pi BO (iP hr3 ((!(dx y3.x))||(dg p.aB y3.x.Name)) 201) U (λu2 hu2=>?_) (λpv2 hpv2 e=>?_))
   .obtain⟨rx2,hrx2,rfl⟩:=sk hu2
    have hs7:=hs6.trans (wW hrx2)
    cases rx2
    exact bp (fM (cm (L':=[(l3,.loop { lp3 with state:=.busy }),z3,z2,z1]++(markB rs1)) js (bY (L':=rdH l3 dm3 lp3 (([z2,z1])++markB rs1)) ap (nx3 hr3 _ _ ⟨hs7,(hl3.t hlr3)⟩ lf))))
   obtain⟨pv2e,hpv2e,rfl⟩:=po hpv2
   have hs8:=hs6.trans (pP hpv2e)
   exact Ci (L':=[(l3,.loop { lp3 with state:=.busy }),z3]++(markB rs1)) js (pn3 _ _ _ [] ⟨_,U,hs8⟩)
  .rintro dm3 hh3 hn3 ⟨hs9,hl3⟩ hln3 hl03
   exact bY (L':=[z2,z1]++(markB (dm3::rs1))) ap (qT 3 U (oi i1 U (qO 2 U (cm (L':=[z1]++(markB (dm3::rs1))) js (ag1 ((i1+1),(dm3::rs1),hn3,rz1) _ (Nat.lt_succ_self _) ⟨ll hd1,il hd1,hs9,(((hl1.t hle3).t hl3).t hln3)⟩ rd)))))
  .exact xf
  .exact xf
  rintro dm3 ch hn3 L0 ⟨pv_,rfl,hpv_⟩ hl03
  exact qz (dm3::rs1) OX hX (congrArg (exW stopV (λr:Unit=>(.tuple #[]:Value))) hpv_)
 obtain⟨pv1e,hpv1e,rfl⟩:=po hpv1
 have hs10:=hs0.trans (pP hpv1e)
 exact iN (qz [] OX hX (congrArg (exW stopV (λr:Unit=>(.tuple #[]:Value))) hs10))
instance kC280:Ct 280:=⟨_,call280,@Ds⟩
theorem tN(h x0 U1)(hx0:aj.ok h x0 U1):Ret prog 365 [.agg (aj.cells x0 U1).toArray] h (.bool (rZ x0)):=by
 refine sT func365 U ntmps365 U λX hM hX hF=>?_
 generalize hz:(rZ x0)=z;have hs:=hz.symm
 exact W
instance kC365:Ct 365:=⟨_,call365,@tN⟩
theorem tM(h x gG)(hx:aj.ok h x gG):Ret prog 366 [.agg (aj.cells x gG).toArray] h (.bool (lS x)):=by
 refine sT func366 U ntmps366 U λX hM hX hF=>?_
 generalize hz:(lS x)=z;have hs:=hz.symm
 exact W
instance kC366:Ct 366:=⟨_,call366,@tM⟩
theorem tL(h x gG)(hx:aj.ok h x gG):Ret prog 367 [.agg (aj.cells x gG).toArray] h (.bool (lR x)):=by
 refine sT func367 U ntmps367 U λX hM hX hF=>?_
 generalize hz:(lR x)=z;have hs:=hz.symm
 exact W
instance kC367:Ct 367:=⟨_,call367,@tL⟩
theorem tK(h x gG)(hx:aj.ok h x gG):Ret prog 368 [.agg (aj.cells x gG).toArray] h (.bool (lQ x)):=by
 refine sT func368 U ntmps368 U λX hM hX hF=>?_
 generalize hz:(lQ x)=z;have hs:=hz.symm
 exact W
instance kC368:Ct 368:=⟨_,call368,@tK⟩
theorem tJ(h x gG)(hx:aj.ok h x gG):Ret prog 369 [.agg (aj.cells x gG).toArray] h (.bool (lg x)):=by
 refine sT func369 U ntmps369 U λX hM hX hF=>?_
 generalize hz:(lg x)=z;have hs:=hz.symm
 exact W
instance kC369:Ct 369:=⟨_,call369,@tJ⟩
theorem Oi(h)(i:Int)(hi:0<=i/\i<5)(x gG)(hx:aj.ok h x gG):qw prog (kfun i) [.agg (aj.cells x gG).toArray] h [] (.bool (kindsP i x)):=by
 have:i=0\/i=1\/i=2\/i=3\/i=4:=by omega
 rcases this with rfl|rfl|rfl|rfl|rfl
 .exact ip (cap:=[]) call365 (tN h x gG hx)
 .exact ip (cap:=[]) call366 (tM h x gG hx)
 .exact ip (cap:=[]) call367 (tL h x gG hx)
 .exact ip (cap:=[]) call368 (tK h x gG hx)
 exact ip (cap:=[]) call369 (tJ h x gG hx)
theorem Pr(h:p:=by
  have hs9:=hs8.trans (wW hrx3)
  cases rx3
  exact bp (fM (cm (L':=[z4,z6,z5,z3,z1,z2]++(markB rs2)) js (bY (L':=rdH l4 dm4 lp4 (([z5,z3,z1,z2])++markB rs2)) ap (nx4 hr4 _ _ ⟨hs9,(hl4.t hlr4)⟩ lf))))):p:=h
theorem Pq(h:p:=by
  have hs18:=hs17.trans (wW hrx6)
  cases rx6
  exact⟨jn,(bW kr (qT 2 U (oi i1 U (qO 2 U (cm (L':=[z2]) js (ag2 hs18))))))⟩):p:=h
theorem Eo(h p i8)(hp:aw.ok h p i8)(hsm:smP p)(hk:dQ h):II prog 281 [.agg (aw.cells p i8).toArray] h (exW stopV (λr:Unit=>(.tuple #[]:Value)) (bE p)):=by
 refine cV Jw U ntmps281 U λX hM hX=>?_
 have hs0:=@rfl _ (bE p)
 have hsr:=hsm.rules
 refine sr (eL (λb1=>qL 8 [0] U (jO 8 [12,13,14,15,16,17,18,19,20] 12 20 ((p.di.length:Int)==(p.dQ.length:Int)) U (λc1 hk1=>?_) (λe=>?_))))
 .exact qL 8 [0,0] U (hk1 _ U)
 refine bD (jO 4 [21,22,23,24,25] 21 25 (bo p.Mode 1 4) U (λc2 hk2=>?_) (λe=>?_))
 .exact qL 2 [0] U (aX Jy (kW h p.Mode 1 4) U (mU U (hk2 _ U)))
 refine aH (pi BO (iP h ((decide (0<(p.dQ.length:Int))&&((p.di.length:Int)==(p.dQ.length:Int)))&&(bo p.Mode 1 4)) 200) U (λu1 hu1=>?_) (λpv1 hpv1 e=>?_))
 .obtain⟨rx1,hrx1,rfl⟩:=sk hu1
  have hs1:=hs0.trans (wW hrx1)
  cases rx1
  refine qL 9 [0] U ?_
  let z2:Nat×Obj:=(b1,O (aw.cells p i8) 61)
  refine lp0 p.di (λi=>[(1,Q b1),(28,.slice i8.pt p.di.length i8.pq),(29,I (p.di.length:Int)),(30,I (i:Int))]) ([z2]) (λs1 i=>(bE.L1 p (bE.K1 p)) s1 i) hp.di.1.1 hs1 ?_ ?_
  .rintro i1 i7 hs2 e
   refine sr (du 0 ty61 U U U (aH (cw call310 (ns _ _ _ hp ob) U (λv1 h1 hle1 hp1=>?_))))
   obtain⟨rb1,rc1,rfl,sl1⟩:=hp1
   refine bJ zc57 (λb3=>cU 0 ty57 U U U U U U (qL 7 [0] U (dR ?_)))
   let z1:Nat×Obj:=(b3,O [.slice rb1 ((aE p).length) rc1] 57)
   refine bY (L':=[z1,z2]++(markB [])) ap ?_
   refine uI (ι:=Nat×List Nat×HF) (λi=>[]) (λi=>marks i.2.1) (λi=>i.2.2) (λi=>[z1,z2]++(markB i.2.1)) (λi=>i.1<=(aE p).length/\bE p=((bE.K2))/\xJ h1 i.2.2) ?_ (λhx2=>?_)
   .rintro⟨i2,rs2,hh2⟩ ⟨CI,hs3,hl2⟩ e
    have hs4:bE p=(Except.ok ()):=hs3
    exact bY (L':=([z1,z2])++markB rs2) ap (Bg rs2 [] Jw U hX trivial (congrArg (exW stopV (λr:Unit=>(.tuple #[]:Value))) hs4))
   refine zO (ι:=Nat×List Nat×HF×List aj) (λi=>[(4,Q b3),(52,.slice rb1 ((aE p).length) rc1),(53,I ((aE p).length:Int)),(54,I (i.1:Int))]) (λi=>marks i.2.1) (λi=>i.2.2.1) (λi=>[z1,z2]++(markB i.2.1)) (λi=>(aE p).drop i.1=i.2.2.2/\i.1<=(aE p).length/\bE p=((bE.L2 p (bE.K2)) i.2.2.2 i.1)/\xJ h1 i.2.2.1) (λi=>i.2.2.2.length) (0,[],h1,(aE p)) U rd sw ⟨U,xH _,hs2,lf⟩ ?_
   rintro⟨i2,rs2,hh2,s2⟩ ⟨hd2,CI,hs5,hl2⟩ ag1 e
   rcases s2 with _|⟨y2,rz2⟩
   .have Si:=nZ hd2
    exact sr (fO Si U (qO 4 U (hx2 (i2,rs2,hh2) _ ⟨CI,hs5,hl2⟩ trivial)))
   have xw:=tU hd2
   have rS:=sn hd2
   have Fg:=il hd2
   have Nf:=sl1.1.1
   try have hsy:=DW hsm (gP hd2)
   refine sr (tO xw U (qO 9 U (aH (iR qt ty59 (sl1.mono aj.aG hl2).1 rS U U U (λ_ _ _ e=>e) (λq4 r3 A5 ok3=>eJ ty59 A5 U U (bJ zc3 (λb7=>bJ zc59 (λb8=>cU 1 ty3 U U U U U U (bG 0 ty59 U U U U U U (qO 3 U (du 0 ty59 U U U (aH (cw OZ (oF _ _ _ 1 ok3 ob) U (λv3 h3 hle3 hp3=>?_))))))))))))))
   obtain⟨_,rfl,mo2⟩:=hp3
   refine qO 2 U ?_
   let z3:Nat×Obj:=(b7,O [I (i2:Int)] 3)
   let z5:Nat×Obj:=(b8,O (aj.cells y2 r3) 59)
   refine bY (L':=([z5,z3,z1,z2])++markB rs2) ap ?_
   refine j7 (it:=v3) (xs:=(bx y2 1)) (ι:=HF) rs2 (λi=>i) (λi=>[z5,z3,z1,z2]) (λs i=>bE p=((bE.L4 p i2 ((bE.L2 p (bE.K2) rz2 (i2+1)))) s)/\xJ h3 i) (λ_=>False) (λ_=>False) 0 (λch _ _=>∃pv_,ch=[{ v:=stopV pv_,recovered:=false }]/\bE p=.error pv_) h3 Jw U mo2 U pJ (λ_ _ _ _ _ hq=>hq) U (show[z5,z3,z1,z2]=_ from U) ⟨hs5,lf⟩ ?_ ?_ ?_ ?_ ?_
   .rintro l4 dm4 lp4 y4 rz4 vs4 hh4 hr4 X hFR4 ⟨hs7,hl4⟩ hl04 hlr4 hv4 hX hXM hlp4 nx4 rt4 ex4 pn4
    obtain⟨rr4_0,rfl,ok4_0⟩:=hv4
    let z6:Nat×Obj:=(dm4,.deferred (some []))
    refine bY (L':=[(l4,.loop lp4),z6,z5,z3,z1,z2]++(markB rs2)) ap (bM (bJ zc320 (λb10=>bG 0 ty320 U U U U U U (bp (kg 1 U hlp4 (qT 2 U ?_))))))
    let z4:Nat×Obj:=(l4,.loop { lp4 with state:=.busy })
    let z8:Nat×Obj:=(b10,O (gr.cells y4 rr4_0) 320)
    refine fo ([z8,z4,z6,z5,z3,z1,z2]) mixed kr jn (λim _=>?_)
    refine qB [0,1] U (tf 2 U U (rj 0 ty3 U U U) (tn 3 U (gu Jy (kW hr4 y4.x.Kind 1 4) U (⟨jn,tm 4 U ?_⟩))))
    refine fJ 66 U (λc3=>?_) (λc3=>?_)
    .refine qB [5,6] U (tf 7 U U (rj 0 ty3 U U U) ?_)
     have ho4:0<=(y4.x.Kind:Int)/\(y4.x.Kind:Int)<5:=(by have:=P6 ob;omega)
     have A7:=(hk.mono ((((hle1.t hl2).t hle3).t hl4).t hlr4)).at ho4
     refine tf 8 U U (λ_ _ _=>RQ underlying353 ty237 U U ho4) (tf 9 U U (rh ty237 A7 U) (qB [10] U (tf 11 U U (λ_ _ hj=>lV ty59 U (hj.nth (i:=0) U) U) (tn 12 U (j8 (v:=.bool (kindsP y4.x.Kind y4.x)) [] (List.nil_sublist _) (Oi hr4 y4.x.Kind ho4 y4.x rr4_0.x ok4_0.x) U U (⟨jn,tf 13 U U (λ_ _ _=>pj U (cb (show(kindsP y4.x.Kind y4.x)=((bo y4.x.Kind 1 4)&&(kindsP y4.x.Kind y4.x))from by first|(rw[c3];rfl)|(rw[c3];rfl)|simp[c3]))) ?_⟩))))))
     refine tn 14 U (pi BO (iP hr4 ((bo y4.x.Kind 1 4)&&(kindsP y4.x.Kind y4.x)) 200) U (λu2 hu2=>?_) (λpv2 hpv2 e=>?_))
     .obtain⟨rx2,hrx2,rfl⟩:=sk hu2
      have hs8:=hs7.trans (wW hrx2)
      cases rx2
      refine⟨jn,bW kr (qK 7 [4,5] U (gz 5 [82,83,84,85,86,87] 82 87 (y4.x.Kind != 4) U (λc4 hk3=>?_) (λe=>?_)))⟩
      .exact qL 5 [0] U (hk3 _ U)
      refine aH (pi BO (iP hr4 (decide ((i2:Int)<(vB .i64 (((aE p).length:Int)-1)))||(y4.x.Kind != 4)) 200) U (λu3 hu3=>?_) (λpv3 hpv3 e=>?_))
      .obtain⟨rx3,hrx3,rfl⟩:=sk hu3
       exact Pr
      obtain⟨pv3e,hpv3e,rfl⟩:=po hpv3
      have hs10:=hs8.trans (pP hpv3e)
      exact Ci (L':=[z4,z6]++(markB rs2)) js (pn4 _ _ _ [] ⟨_,U,hs10⟩)
     obtain⟨pv2e,hpv2e,rfl⟩:=po hpv2
     have hs11:=hs7.trans (pP hpv2e)
     exact Ci (L':=[z4,z6]++(markB rs2)) js (pn4 _ _ _ [] ⟨_,U,hs11⟩)
    refine qR 5 8 U (tf 13 U U (λ_ _ _=>pj U (cb (show false=((bo y4.x.Kind 1 4)&&(kindsP y4.x.Kind y4.x))from by first|(rw[c3];rfl)|(rw[c3];rfl)|simp[c3]))) ?_)
    refine tn 14 U (pi BO (iP hr4 ((bo y4.x.Kind 1 4)&&(kindsP y4.x.Kind y4.x)) 200) U (λu4 hu4=>?_) (λpv4 hpv4 e=>?_))
    .obtain⟨rx4,hrx4,rfl⟩:=sk hu4
     have hs8:=hs7.trans (wW hrx4)
     cases rx4
     refine⟨jn,bW kr (qK 7 [4,5] U (gz 5 [82,83,84,85,86,87] 82 87 (y4.x.Kind != 4) U (λc5 hk4=>?_) (λe=>?_)))⟩
     .exact qL 5 [0] U (hk4 _ U)
     refine aH (pi BO (iP hr4 (decide ((i2:Int)<(vB .i64 (((aE p).length:Int)-1)))||(y4.x.Kind != 4)) 200) U (λu5 hu5=>?_) (λpv5 hpv5 e=>?_))
     .obtain⟨rx3,hrx3,rfl⟩:=sk hu5
      exact Pr
     obtain⟨pv5e,hpv5e,rfl⟩:=po hpv5
     have hs14:=hs8.trans (pP hpv5e)
     exact Ci (L':=[z4,z6]++(markB rs2)) js (pn4 _ _ _ [] ⟨_,U,hs14⟩)
    obtain⟨pv4e,hpv4e,rfl⟩:=po hpv4
    have hs15:=hs7.trans (pP hpv4e)
    exact Ci (L':=[z4,z6]++(markB rs2)) js (pn4 _ _ _ [] ⟨_,U,hs15⟩)
   .rintro dm4 hh4 hn4 ⟨hs16,hl4⟩ hln4 hl04
    exact bY (L':=[z5,z3,z1,z2]++(markB (dm4::rs2))) ap (qT 3 U (oi i2 U (qO 2 U (cm (L':=[z1,z2]++(markB (dm4::rs2))) js (ag1 ((i2+1),(dm4::rs2),hn4,rz2) _ (Nat.lt_succ_self _) ⟨ll hd2,il hd2,hs16,(((hl2.t hle3).t hl4).t hln4)⟩ rd)))))
   .exact xf
   .exact xf
   rintro dm4 ch hn4 L0 ⟨pv_,rfl,hpv_⟩ hl04
   exact qz (dm4::rs2) Jw hX (congrArg (exW stopV (λr:Unit=>(.tuple #[]:Value))) hpv_)
  rintro i1 y1 rz1 hd1 gg dL i5 mF hs17 hx1 ag2 e
  try have hsy:=DW hsm (gP hd1)
  refine sr (tO gg U (qO 9 U (aH (iR zI ty65 hp.di.1 dL U U U (λ_ _ _ e=>e) (λq5 r4 A8 ok4=>eJ ty65 A8 U U (bJ zc65 (λb11=>ig (bG 0 ty65 U U U U U U (bp ?_)))))))))
  let z7:Nat×Obj:=(b11,O (ft.cells y1 r4) 65)
  refine fo ([z7,z2]) mixed kr jn (λnJ _=>?_)
  refine qB [0] U (tf 1 U U (rj 0 ty9 U U U) (qB [2] U (tf 3 U U (rj 1 ty55 U U U) (tm 4 U ?_))))
  have ho5:0<=((i1:Int):Int)/\((i1:Int):Int)<((p.dQ).length:Int):=(by have hm:=Qv hrx1;simp only[decide_eq_true_eq,decide_eq_false_iff_not,Bool.and_eq_true,Bool.or_eq_true,Bool.not_eq_true',Bool.not_eq_false',Bool.and_eq_false_iff,Bool.or_eq_false_iff,beq_iff_eq,beq_eq_false_iff_ne,bne_iff_ne,bne_eq_false_iff_eq,List.length_append,zA,zB,List.length_drop]at hm;omega)
  refine kZ 5 (enc:=λy=>[.string y]) nJ jn ei O5 ty9 hp.dQ.1 ho5 (dC ho5) U U U U kr (λq6 A9=>tf 6 U U (rh ty9 A9 U) (qA [7,8] U ?_))
  refine fJ 43 U (λc6=>?_) (λc6=>?_)
  .refine qB [9] U (tf 10 U U (rj 0 ty3 U U U) (tn 11 U (gu Jy (kW h y1.iK 0 1099511627775) U (⟨jn,tf 12 U U (λ_ _ _=>pj U (cb (show(bo y1.iK 0 1099511627775)=((y1.Kind.toList==(nthI p.dQ (i1:Int)).toList)&&(bo y1.iK 0 1099511627775))from by first|(rw[c6];rfl)|(rw[c6];rfl)|simp[c6]))) ?_⟩))))
   refine tn 13 U (pi BO (iP h ((y1.Kind.toList==(nthI p.dQ (i1:Int)).toList)&&(bo y1.iK 0 1099511627775)) 200) U (λu6 hu6=>?_) (λpv6 hpv6 e=>?_))
   .obtain⟨rx6,hrx6,rfl⟩:=sk hu6
    exact Pq
   obtain⟨pv6e,hpv6e,rfl⟩:=po hpv6
   have hs19:=hs17.trans (pP hpv6e)
   exact iN (qz [] Jw hX (congrArg (exW stopV (λr:Unit=>(.tuple #[]:Value))) hs19))
  refine qR 9 3 U (tf 12 U U (λ_ _ _=>pj U (cb (show false=((y1.Kind.toList==(nthI p.dQ (i1:Int)).toList)&&(bo y1.iK 0 1099511627775))from by first|(rw[c6];rfl)|(rw[c6];rfl)|simp[c6]))) ?_)
  refine tn 13 U (pi BO (iP h ((y1.Kind.toList==(nthI p.dQ (i1:Int)).toList)&&(bo y1.iK 0 1099511627775)) 200) U (λu7 hu7=>?_) (λpv7 hpv7 e=>?_))
  .obtain⟨rx6,hrx6,rfl⟩:=sk hu7
   exact Pq
  obtain⟨pv7e,hpv7e,rfl⟩:=po hpv7
  have hs21:=hs17.trans (pP hpv7e)
  exact iN (qz [] Jw hX (congrArg (exW stopV (λr:Unit=>(.tuple #[]:Value))) hs21))
 obtain⟨pv1e,hpv1e,rfl⟩:=po hpv1
 have hs22:=hs0.trans (pP hpv1e)
 exact iN (qz [] Jw hX (congrArg (exW stopV (λr:Unit=>(.tuple #[]:Value))) hs22))
instance kC281:Ct 281:=⟨_,call281,@Eo⟩
theorem zc(h p i8 p_q)(hp:aw.ok h p i8)(ap_z:At h p_q (aw.cells p i8))(hsm:smP p)(hk:dQ h):II prog 278 [.pointer (some p_q)] h (exW stopV (λr:Unit=>(.tuple #[]:Value)) (e9 p)):=by
 refine sT func278 U ntmps278 U λX hM hX hF=>?_
 generalize hz:(e9 p)=z;have hs:=hz.symm
 exact W
theorem La(h:p:=by
  let z12:Nat×Obj:=(b6,O [I ((rec aC y1).Kind),I ((rec aC y1).N),I ((rec aC y1).No),.string ((rec aC y1).Name),.slice rr4.oN ((rec aC y1).L.length) rr4.pc] 59)
  exact tn 6 U (eN aj.dl ([z12,z8,z1,z4]) ([]) (λG=>[z12,z8,z1,z4]++G) ap (λ_=>ap) qt ty59 zc59 U bytes59 (AU.mono aj.aG hle4) U U (gV 0 U (cE (R:=aj.rp) (rec aC y1) U ⟨rr4,U,ok4⟩)) lo lo (λob2 oc2 G2 gr2=>⟨jn,qB [7] U (tn 8 U (lK 3 ty57 U U U U U U (⟨jn,bW kr (qT 2 U (oi i1 U (qO 2 U (cm (L':=[z1,(b1,O [I x.Kind,I x.N,I (bC aC x.Name),.string x.Name,.slice ob2 ((nX++[(rec aC y1)]).length) oc2] 59)]++G2) js (ag1 ((nX++[(rec aC y1)]),ob2,oc2,G2,h4) hs5 ⟨gr2,lo,(hl1.t hle4)⟩)))))⟩)))⟩))):p:=h
theorem K9(h:p:=by
  let z11:Nat×Obj:=(b12,O [I ((rec aC y2).Kind),I ((rec aC y2).N),I ((rec aC y2).No),.string ((rec aC y2).Name),.slice rr9.oN ((rec aC y2).L.length) rr9.pc] 59)
  exact tn 6 U (eN aj.dl ([z11,z7,z2,z6]) ([]) (λG=>[z11,z7,z2,z6]++G) ap (λ_=>ap) qt ty59 zc59 U bytes59 (AO.mono aj.aG hle9) U U (gV 0 U (cE (R:=aj.rp) (rec aC y2) U ⟨rr9,U,ok9⟩)) lo lo (λob6 oc6 G6 gr6=>⟨jn,qB [7] U (tn 8 U (lK 3 ty57 U U U U U U (⟨jn,bW kr (qT 2 U (oi i2 U (qO 2 U (cm (L':=[z2,(b1,O [I x.Kind,I x.N,I 0,.string x.Name,.slice ob6 ((nW++[(rec aC y2)]).length) oc6] 59)]++G6) js (ag2 ((nW++[(rec aC y2)]),ob6,oc6,G6,h9) hs8 ⟨gr6,lo,(hl2.t hle9)⟩)))))⟩)))⟩))):p:=h
theorem Am(rec:List ByteArray->aj->aj)(h aC dP dO)(x:aj)(gG)(hrec:∀(h:HF)(qoffices:List ByteArray)(ly:Option Addr)(lx:Nat)(qx:aj)(ml:eo)(hqoffices:SlC Wc h ly lx qoffices)(hqx:aj.ok h qx ml)(hsz:qx.dep<=2000000)(_:qx.dep<x.dep),j4 prog 282 [.slice ly qoffices.length lx,.agg (aj.cells qx ml).toArray] h (λv h'=>∃(rr0:eo),v=.agg (aj.cells (rec qoffices qx) rr0).toArray/\aj.ok h' (rec qoffices qx) rr0))(gK:SlC Wc h dP dO aC)(hx:aj.ok h x gG)(hsz:x.dep<=2000000):j4 prog 282 [.slice dP aC.length dO,.agg (aj.cells x gG).toArray] h (λv h'=>∃(rr0:eo),v=.agg (aj.cells (aA.F rec aC x) rr0).toArray/\aj.ok h' (aA.F rec aC x) rr0):=by
 refine cV func282 U ntmps282 U λX hM hX=>?_
 have hs0:=@rfl _ (aA.F rec aC x)
 have hln:=aj.Sb x
 refine sr (eL (λb1=>bJ zc59 (λb2=>qL 4 [] U (cU 1 ty3 U U U U U U (qO 4 U (du 1 ty59 U U U (aX call284 (pz _ _ _ (show aj.ok h (aj.mk x.Kind x.N 0 x.Name x.L) (eo.mk gG.oN gG.pc)from aj.ok.of hx.list)) U (bp (aI hs0 U (λc1 hs1=>?_) (λc1 hs2=>?_))))))))))
 .refine qK 4 [1] U (aX call285 (nM _ _ _ _ x.Name gK) U (qL 1 [] U (cU 1 ty3 U U U U U U (qL 10 [1] U (cU 1 ty57 U U U U U U (qL 8 [] U ?_))))))
  let z1:Nat×Obj:=(b2,O [I 0,I 0,I 0,.string (⟨#[]⟩:ByteArray),zSN] 59)
  refine lp2 x.L (λi w=>[(0,.slice dP aC.length dO),(3,Q b1),(4,Q b2),(19,.slice gG.oN x.L.length gG.pc),(20,I (x.L.length:Int)),(21,I (i:Int))]) (λw=>w.2.2.2.2) (λw=>[z1,(b1,O [I x.Kind,I x.N,I (bC aC x.Name),.string x.Name,.slice w.2.1 w.1.length w.2.2.1] 59)]++(w.2.2.2.1)) (λi w=>cN aj.rp 59 w.2.2.2.2 w.1 w.2.1 w.2.2.1 w.2.2.2.1/\w.1.length<=0+i/\xJ h w.2.2.2.2) (λs1 i w=>(aA.L1 rec aC (aA.K1 aC x)) s1 w.1) ([],none,0,[],h) hx.list.1.1 hs1 ⟨cN.nil,lo,lf⟩ ?_ ?_
  .rintro i1 ⟨nX,td,tc,DQ,hh1⟩ i7 hs3 ⟨AU,Ii,hl1⟩ e
   try dsimp only at AU Ii hl1
   let z3:Nat×Obj:=(b1,O [I x.Kind,I x.N,I (bC aC x.Name),.string x.Name,.slice td nX.length tc] 59)
   let z15:Nat×Obj:=(b2,O [I x.Kind,I x.N,I (bC aC x.Name),.string x.Name,.slice td nX.length tc] 59)
   refine sr (du 1 ty59 U U U (bG 0 ty59 U U U U U U (jf (L':=[z15,z3]++(DQ)) U (bp (fF aj.aG ([z15,z3]) DQ ([]) ap hM AU (λh3 hle3 sl2=>?_))))))
   have hs4:aA.F rec aC x=(aj.mk x.Kind x.N (bC aC x.Name) x.Name nX):=hs3
   exact lJ [.agg (xB [I x.Kind,I x.N,I (bC aC x.Name),.string x.Name,.slice td nX.length tc])] func282 U ⟨⟨0,_,_,_,_,U,U,.inl ⟨ty59,U⟩⟩,trivial⟩ ⟨(eo.mk td tc),congrArg (λr:aj=>(.agg (aj.cells r (eo.mk td tc)).toArray:Value)) hs4.symm,(by rw[hs4];exact(show aj.ok h3 (aj.mk x.Kind x.N (bC aC x.Name) x.Name nX) (eo.mk td tc)from aj.ok.of sl2))⟩
  rintro i1 ⟨nX,td,tc,DQ,hh1⟩ y1 rz1 hd1 gg dL i5 mF hs5 ⟨AU,Ii,hl1⟩ hx1 ag1 e
  try dsimp only at AU Ii hl1
  have hdy:=aj.lD (gP hd1)
  refine sr (tO gg U (qO 8 U (aH (iR qt ty59 (hx.list.mono aj.aG hl1).1 dL U U U (λ_ _ _ e=>e) (λq2 r2 A2 ok3=>?_)))))
  let z4:Nat×Obj:=(b1,O [I x.Kind,I x.N,I (bC aC x.Name),.string x.Name,.slice td nX.length tc] 59)
  refine eJ ty59 A2 U U (bJ zc59 (λb5=>bG 0 ty59 U U U U U U (jf (L':=[(b5,O (aj.cells y1 r2) 59),z1,z4]++(DQ)) U (bp ?_))))
  let z8:Nat×Obj:=(b5,O (aj.cells y1 r2) 59)
  refine fo ([z8,z1]) mixed kr jn (λim _=>?_)
  refine qB [0,2] U (tf 3 U U (λ_ _ hj=>lV ty59 U (hj.nth (i:=0) U) U) ?_)
  refine nn 1 4 kr U U ?_ ?_ 
  .refine eu (vy ty57 U (pN (i:=2) U) U) (⟨jn,tn 4 U (cw LW (hrec _ _ _ _ _ _ (gK.mono WK hl1) ok3 ob (aj.lD (gP hd1))) U (λv2 h4 hle4 hp2=>?_))⟩)
   obtain⟨rr4,rfl,ok4⟩:=hp2
   refine⟨jl hle4,tu hle4 (tn 5 U (bT (cells:=[I ((rec aC y1).Kind),I ((rec aC y1).N),I ((rec aC y1).No),.string ((rec aC y1).Name),.slice rr4.oN ((rec aC y1).L.length) rr4.pc]) qt ty59 zc59 U U kr (λb6=>⟨jn,?_⟩)))⟩
   exact La
  refine cw LW (hrec _ _ _ _ _ _ (gK.mono WK hl1) ok3 ob (aj.lD (gP hd1))) U (λv3 h4 hle4 hp3=>?_)
  obtain⟨rr4,rfl,ok4⟩:=hp3
  refine⟨jl hle4,tu hle4 ?_⟩
  refine nn 1 5 kr U U ?_ ?_ 
  .refine eu (vy ty57 U (pN (i:=2) U) U) (⟨jn,tn 5 U (bT (cells:=[I ((rec aC y1).Kind),I ((rec aC y1).N),I ((rec aC y1).No),.string ((rec aC y1).Name),.slice rr4.oN ((rec aC y1).L.length) rr4.pc]) qt ty59 zc59 U U kr (λb6=>⟨jn,?_⟩))⟩)
   exact La
  refine bT (cells:=[I ((rec aC y1).Kind),I ((rec aC y1).N),I ((rec aC y1).No),.string ((rec aC y1).Name),.slice rr4.oN ((rec aC y1).L.length) rr4.pc]) qt ty59 zc59 U U kr (λb6=>⟨jn,tn 1 U (eu (vy ty57 U (pN (i:=3) U) U) (⟨jn,?_⟩))⟩)
  exact La
 refine qK 10 [1] U (cU 1 ty57 U U U U U U (qL 8 [] U ?_))
 let z2:Nat×Obj:=(b2,O [I 0,I 0,I 0,.string (⟨#[]⟩:ByteArray),zSN] 59)
 refine lp2 x.L (λi w=>[(0,.slice dP aC.length dO),(3,Q b1),(4,Q b2),(19,.slice gG.oN x.L.length gG.pc),(20,I (x.L.length:Int)),(21,I (i:Int))]) (λw=>w.2.2.2.2) (λw=>[z2,(b1,O [I x.Kind,I x.N,I 0,.string x.Name,.slice w.2.1 w.1.length w.2.2.1] 59)]++(w.2.2.2.1)) (λi w=>cN aj.rp 59 w.2.2.2.2 w.1 w.2.1 w.2.2.1 w.2.2.2.1/\w.1.length<=0+i/\xJ h w.2.2.2.2) (λs2 i w=>(aA.L2 rec aC (aA.K2 x)) s2 w.1) ([],none,0,[],h) hx.list.1.1 hs2 ⟨cN.nil,lo,lf⟩ ?_ ?_
 .rintro i2 ⟨nW,s9,s8,DK,hh2⟩ CI hs6 ⟨AO,H8,hl2⟩ e
  try dsimp only at AO H8 hl2
  let z5:Nat×Obj:=(b1,O [I x.Kind,I x.N,I 0,.string x.Name,.slice s9 nW.length s8] 59)
  let z16:Nat×Obj:=(b2,O [I x.Kind,I x.N,I 0,.string x.Name,.slice s9 nW.length s8] 59)
  refine sr (du 1 ty59 U U U (bG 0 ty59 U U U U U U (jf (L':=[z16,z5]++(DK)) U (bp (fF aj.aG ([z16,z5]) DK ([]) ap hM AO (λh8 hle8 sl4=>?_))))))
  have hs7:aA.F rec aC x=(aj.mk x.Kind x.N 0 x.Name nW):=hs6
  exact lJ [.agg (xB [I x.Kind,I x.N,I 0,.string x.Name,.slice s9 nW.length s8])] func282 U ⟨⟨0,_,_,_,_,U,U,.inl ⟨ty59,U⟩⟩,trivial⟩ ⟨(eo.mk s9 s8),congrArg (λr:aj=>(.agg (aj.cells r (eo.mk s9 s8)).toArray:Value)) hs7.symm,(by rw[hs7];exact(show aj.ok h8 (aj.mk x.Kind x.N 0 x.Name nW) (eo.mk s9 s8)from aj.ok.of sl4))⟩
 rintro i2 ⟨nW,s9,s8,DK,hh2⟩ y2 rz2 hd2 xw rS Fg Nf hs8 ⟨AO,H8,hl2⟩ hx2 ag2 e
 try dsimp only at AO H8 hl2
 have hdy:=aj.lD (gP hd2)
 refine sr (tO xw U (qO 8 U (aH (iR qt ty59 (hx.list.mono aj.aG hl2).1 rS U U U (λ_ _ _ e=>e) (λq4 r4 A4 ok8=>?_)))))
 let z6:Nat×Obj:=(b1,O [I x.Kind,I x.N,I 0,.string x.Name,.slice s9 nW.length s8] 59)
 refine eJ ty59 A4 U U (bJ zc59 (λb11=>bG 0 ty59 U U U U U U (jf (L':=[(b11,O (aj.cells y2 r4) 59),z2,z6]++(DK)) U (bp ?_))))
 let z7:Nat×Obj:=(b11,O (aj.cells y2 r4) 59)
 refine fo ([z7,z2]) mixed kr jn (λnJ _=>?_)
 refine qB [0,2] U (tf 3 U U (λ_ _ hj=>lV ty59 U (hj.nth (i:=0) U) U) ?_)
 refine nn 1 4 kr U U ?_ ?_ 
 .refine eu (vy ty57 U (pN (i:=2) U) U) (⟨jn,tn 4 U (cw LW (hrec _ _ _ _ _ _ (gK.mono WK hl2) ok8 ob (aj.lD (gP hd2))) U (λv5 h9 hle9 hp5=>?_))⟩)
  obtain⟨rr9,rfl,ok9⟩:=hp5
  refine⟨jl hle9,tu hle9 (tn 5 U (bT (cells:=[I ((rec aC y2).Kind),I ((rec aC y2).N),I ((rec aC y2).No),.string ((rec aC y2).Name),.slice rr9.oN ((rec aC y2).L.length) rr9.pc]) qt ty59 zc59 U U kr (λb12=>⟨jn,?_⟩)))⟩
  exact K9
 refine cw LW (hrec _ _ _ _ _ _ (gK.mono WK hl2) ok8 ob (aj.lD (gP hd2))) U (λv6 h9 hle9 hp6=>?_)
 obtain⟨rr9,rfl,ok9⟩:=hp6
 refine⟨jl hle9,tu hle9 ?_⟩
 refine nn 1 5 kr U U ?_ ?_ 
 .refine eu (vy ty57 U (pN (i:=2) U) U) (⟨jn,tn 5 U (bT (cells:=[I ((rec aC y2).Kind),I ((rec aC y2).N),I ((rec aC y2).No),.string ((rec aC y2).Name),.slice rr9.oN ((rec aC y2).L.length) rr9.pc]) qt ty59 zc59 U U kr (λb12=>⟨jn,?_⟩))⟩)
  exact K9
 refine bT (cells:=[I ((rec aC y2).Kind),I ((rec aC y2).N),I ((rec aC y2).No),.string ((rec aC y2).Name),.slice rr9.oN ((rec aC y2).L.length) rr9.pc]) qt ty59 zc59 U U kr (λb12=>⟨jn,tn 1 U (eu (vy ty57 U (pN (i:=3) U) U) (⟨jn,?_⟩))⟩)
 exact K9
theorem ra:∀(m:Nat)(h:HF)(aC:List ByteArray)(dP:Option Addr)(dO:Nat)(x:aj)(gG:eo)(_:x.dep<=m)(gK:SlC Wc h dP dO aC)(hx:aj.ok h x gG)(hsz:x.dep<=2000000),j4 prog 282 [.slice dP aC.length dO,.agg (aj.cells x gG).toArray] h (λv h'=>∃(rr0:eo),v=.agg (aj.cells (aA.go m aC x) rr0).toArray/\aj.ok h' (aA.go m aC x) rr0)
 |0,h,aC,dP,dO,x,gG,hd,gK,hx,hsz=>absurd hd (Nat.not_le.2 (aj.nd _))
 |m+1,h,aC,dP,dO,x,gG,hd,gK,hx,hsz=>Am (aA.go m) h aC dP dO x gG (λqh_ qoffices ly lx qx ml qhoffices qhx qhsz qd=>ra m qh_ qoffices ly lx qx ml ob qhoffices qhx qhsz) gK hx hsz
theorem tI(h aC dP dO x gG)(gK:SlC Wc h dP dO aC)(hx:aj.ok h x gG)(hsz:x.dep<=2000000):j4 prog 282 [.slice dP aC.length dO,.agg (aj.cells x gG).toArray] h (λv h'=>∃(rr0:eo),v=.agg (aj.cells (aA aC x) rr0).toArray/\aj.ok h' (aA aC x) rr0):=ra _ h aC dP dO x gG (vE _) gK hx hsz
end
section
open Go.Proofs Go.Proofs.Tryz
section runs
variable {P:Program} {e:Env} {X:Cx} {h:HF} {L:LH} {d:Option Nat} {ty:TypeId} {pos:String} {af:Array Edge} {g:Option (Nat×Bool)}
theorem Tm{t:TypeId}(hT:∃ms,P.underlying t=some (.interface ms))(hx:e.ev x=.nilIface):∀w,St X h L w->(execOp e.ev ⟨d,.binOp .neq t x (.const .nilIface) u,ty,pos,af,g⟩).run P w=.ok (.value (.bool false)) w:=
 λw _=>by
  obtain⟨ms,hT⟩:=hT
  have hc:e.ev (.const .nilIface)=.nilIface:=rfl
  have he:(Op.equal t .nilIface .nilIface).run P w=.ok true w:=by
   rw[Op.equal,Op.maxDepth,show(10000:Nat)=9999+1 from rfl,Op.equalIn];simp[run_underlying hT]
  simp[execOp,hx,hc,eqGuard,binOp,he]
theorem Tl{t:TypeId}{T:TypeId}(hT:∃ms,P.underlying t=some (.interface ms))(hx:e.ev x=.iface T v):∀w,St X h L w->(execOp e.ev ⟨d,.binOp .neq t x (.const .nilIface) u,ty,pos,af,g⟩).run P w=.ok (.value (.bool true)) w:=
 λw _=>by
  obtain⟨ms,hT⟩:=hT
  have hc:e.ev (.const .nilIface)=.nilIface:=rfl
  have he:(Op.equal t (.iface T v) .nilIface).run P w=.ok false w:=by
   rw[Op.equal,Op.maxDepth,show(10000:Nat)=9999+1 from rfl,Op.equalIn];simp[run_underlying hT]
  simp[execOp,hx,hc,eqGuard,binOp,he]
theorem Qn{xt T:TypeId}{fs:Array Field}(hT:P.underlying T=some (.struct fs))(hx:e.ev x=.iface T v):∀w,St X h L w->(execOp e.ev ⟨d,.typeAssert x xt T true,ty,pos,af,g⟩).run P w=.ok (.value (.tuple #[v,.bool true])) w:=
 λw _=>by simp[execOp,hx,Instr.typeAssert,run_underlying hT]
end runs
def bodyOf(f:Func):Code:=f.body.getD .skip
theorem N1{t:Nat}(hf:e t=fv)(w:World):
  (execOp e.ev ⟨d,.call ⟨.value (.tmp t),#[],ats⟩,ty,pos,af,g⟩).run P w=(do let d ←qH fv #[];invoke d.target d.args:Sem Next).run P w:=by grind [execOp,resolve,Env.ev]
theorem Jq(h:HF)(b1:Nat)(X':Cx):TT prog (deferFrame 308) 17 [.code (bodyOf Tryz.f308)] (IM prog X' .returning (λh' B=>h'=h/\B=[(b1,jG (xB [.int .i64 0]) 36 (0,0))])) (envArgs [.pointer (some ⟨b1,0,none⟩)]) [] X' h [(b1,jG (xB [.int .i64 0]) 36 (0,0))]:=by
 refine el (bM (?_))
 refine ES (λcs Φ⟨c,rest,hcs,hm,_⟩=>by subst hcs;simp[recoverD,hm]) ?_
 refine ig (bp (el (bM (bD (aH (eu (Tm ⟨_,Rm⟩ rfl) (bp (?_))))))))
 exact oe rfl (bO (KB Rl rfl ⟨rfl,rfl⟩))
theorem Jr(h:HF)(b1:Nat)(ee:Int)(X':Cx):TT prog (deferFrame 308) 17 [.code (bodyOf Tryz.f308)]
  (λcs Φ=>∃c rest,cs=c::rest/\c.mode=.panicking [{ v:=stopV ee,recovered:=false }]/\IM prog X' (.panicking [{ v:=stopV ee,recovered:=true }]) (λh' B=>h'=h/\∃B0,B=B0++[(b1,jG (xB [.int .i64 ee]) 36 (0,0))]) ({ c with mode:=(.panicking [{ v:=stopV ee,recovered:=true }]) }::rest) Φ)
  (envArgs [.pointer (some ⟨b1,0,none⟩)]) [] X' h [(b1,jG (xB [.int .i64 0]) 36 (0,0))]:=by
 refine el (bM (?_))
 refine Gt (F':=IM prog X' (.panicking [{ v:=stopV ee,recovered:=true }]) (λh' B=>h'=h/\∃B0,B=B0++[(b1,jG (xB [.int .i64 ee]) 36 (0,0))])) (stopV ee) (λcs Φ⟨c,rest,hcs,hm,hF⟩=>⟨_,by subst hcs;simp[recoverD,hm],hF⟩) ?_
 refine ig (bp (el (bM (bD (aH (eu (Tl ⟨_,Rm⟩ rfl) (bp (?_))))))))
 refine mq rfl (el (bM (bD (aH (eu (Qn underlying347 rfl) (bD (qj rfl rfl (qj rfl rfl (bJ zc347 (λb2=>?_))))))))))
 refine bG 0 ty347 rfl rfl rfl rfl rfl rfl (ig (bp (?_)))
 refine el (el (bM (bD (nv rfl (bp (?_))))))
 refine oe rfl (bO (?_))
 refine bM (lA SD rfl (?_))
 refine pk 0 ty36 rfl rfl rfl (?_)
 refine cU 1 ty36 rfl rfl rfl rfl rfl rfl (bp (?_))
 exact KB Rl rfl ⟨rfl,[(b2,_)],rfl⟩
theorem BE(h:HF)(fv:Value)(x:Except Int Unit)(hf:nK prog fv #[] h [] (XR (exW stopV (λ_:Unit=>.tuple #[]) x) h)):Ret prog 277 [fv] h (.int .i64 (attR x)):=by
 refine cV func277 rfl ntmps277 rfl λX hM hX=>?_
 refine el (bM (bJ zc36 (λb1=>bp (el (bM (aH (gB rfl rfl (Rx rfl rfl (bp (el (bM (bD (?_)))))))))))))
 have fin:∀(r:Int)(B:LH),attR x=r->(∃B0,B=B0++[(b1,jG (xB [.int .i64 r]) 36 (0,0))])->∀(e:Env),e 2=.pointer (some ⟨b1,0,none⟩)->∀a:Act,envOf a=e->∀w,St X h (B++[]) w ->
   ∃v h2 B2,(results Tryz.f277 a.tmps).run prog w=.ok v w/\St X h2 B2 w/\v=.int .i64 (attR x)/\h2=h/\B2=[]:=by
  rintro r B hr ⟨B0,rfl⟩ e he a ha w hw
  have hw':=hw.sub (L':=[(b1,jG (xB [.int .i64 r]) 36 (0,0))]) (by simp)
  exact⟨_,h,[],oD (rs:=[.cell 2 36]) (vs:=[.int .i64 r]) rfl ⟨⟨0,b1,[.int .i64 r],36,(0,0),rfl,he,.inr ⟨_,ty36,rfl⟩⟩,trivial⟩ a ha w hw',hw'.sub (List.nil_sublist _),by rw[hr];rfl,rfl,rfl⟩
 refine KA rfl (by decide) rfl rfl (λw hw=>?_)
 have hpre:Pre h [] w:=(hw.sub (List.nil_sublist _)).pre
 obtain⟨nx,hrun,hcall⟩:=hf w hpre
 refine⟨nx,w,?_,hcall.mono ?_⟩
 .rw[←hrun];exact N1 rfl w
 rintro y w' ⟨h',B,hst,rfl,rfl,hv⟩
 have hw2:=St.after (A:=[]) (B:=[]) (F:=[(b1,jG (xB [.int .i64 0]) 36 (0,0))]) hw hst
 cases y with
 |outgrown=>trivial
 |returned v=>
  refine⟨h',_,hw2,?_⟩
  have hx:∃u,x=.ok u:=by cases x with
   |ok u=>exact⟨u,rfl⟩
   |error p=>simp[exW]at hv
  obtain⟨u,rfl⟩:=hx
  refine bp (el (bM (cU 0 ty36 rfl rfl rfl rfl rfl rfl (bp (?_)))))
  refine S7 (c:=bodyOf Tryz.f308) (cap:=[.pointer (some ⟨b1,0,none⟩)]) (A:=[(b1,jG (xB [.int .i64 0]) 36 (0,0))]) (R':=λh'' B=>h''=h'/\B=[(b1,jG (xB [.int .i64 0]) 36 (0,0))]) func277 Rl rfl ntmps308 rfl call308 (λX' _=>Jq h' b1 X') (Fr:=[]) rfl ?_
  rintro h'' B _ ⟨rfl,rfl⟩ a ha w hw
  obtain⟨v,h2,B2,h3,h4,rfl,rfl,rfl⟩:=fin 0 _ rfl ⟨[],rfl⟩ _ rfl a ha w hw
  exact⟨_,_,_,h3,h4,rfl,rfl,rfl⟩
 |panicked ch=>
  refine⟨h',_,hw2,?_⟩
  have hx:∃ee,x=.error ee:=by cases x with
   |ok u=>simp[exW]at hv
   |error p=>exact⟨p,rfl⟩
  obtain⟨ee,rfl⟩:=hx
  simp only[exW]at hv
  cases hv
  refine Tb (c:=bodyOf Tryz.f308) (cap:=[.pointer (some ⟨b1,0,none⟩)]) (A:=[(b1,jG (xB [.int .i64 0]) 36 (0,0))]) (R':=λh'' B=>h''=h'/\∃B0,B=B0++[(b1,jG (xB [.int .i64 ee]) 36 (0,0))]) func277 Rl rfl ntmps308 rfl call308 (λX' _=>Jr h' b1 ee X') (Fr:=[]) rfl ?_
  rintro h'' B _ ⟨rfl,hB⟩ a ha w hw
  obtain⟨v,h2,B2,h3,h4,rfl,rfl,rfl⟩:=fin ee _ rfl hB _ rfl a ha w hw
  exact⟨_,_,_,h3,h4,rfl,rfl,rfl⟩
end
section
open Go.Proofs Go.Proofs.Tryz
set_option maxHeartbeats 2000000
theorem BF(h p i8)(hp:aw.ok h p i8)(hsm:smP p)(hk:dQ h):j4 prog 216 [.agg (aw.cells p i8).toArray] h (λv h'=>∃(rr0:jm),v=.tuple #[.agg (aw.cells ((ew p).1) rr0).toArray,I ((ew p).2)]/\aw.ok h' ((ew p).1) rr0):=by
 refine cV func216 U ntmps216 U λX hM hX=>?_
 have hs0:=@rfl _ (ew p)
 have hsc:=hsm.change
 have hsr:=hsm.rules
 refine sr (eL (λb1=>bJ zc61 (λb2=>qO 4 U (cv 1 U hM (λh1 hle1 hb1=>aH (gB U U (aX (v:=I (attR (e9 p))) call277 (BE h1 (.func (.func 278) #[] #[Q b1]) (e9 p) (np (args:=[]) (cap:=[Q b1]) call278 (zc h1 p i8 ⟨b1,0,none⟩ (hp.mono hle1) (dM hb1) (by first|assumption|omega) (hk.mono hle1)))) U (qO 8 U (aI hs0 U (λc1 hs1=>?_) (λc1 hs2=>?_))))))))))
 .refine sr (du 0 ty61 U U U (bD (bG 0 ty61 U U U U U U (an ?_))))
  have hs3:ew p=((aw.mk (⟨#[]⟩:ByteArray) ([]) ([]) ([]) (aj.mk 0 0 0 (⟨#[]⟩:ByteArray) ([])) 0),(attR (e9 p))):=hs1
  exact lJ [.agg (xB [.string (⟨#[]⟩:ByteArray),zSN,zSN,zSN,I 0,I 0,I 0,.string (⟨#[]⟩:ByteArray),zSN,I 0]),I (attR (e9 p))] func216 U ⟨⟨0,_,_,_,_,U,U,.inl ⟨ty61,U⟩⟩,U,trivial⟩ ⟨(jm.mk none 0 none 0 none 0 (eo.mk none 0)),congrArg (λr:(aw×Int)=>(.tuple #[.agg (aw.cells r.1 (jm.mk none 0 none 0 none 0 (eo.mk none 0))).toArray,I r.2]:Value)) hs3.symm,(by rw[hs3];exact(show aw.ok h1 (aw.mk (⟨#[]⟩:ByteArray) ([]) ([]) ([]) (aj.mk 0 0 0 (⟨#[]⟩:ByteArray) ([])) 0) (jm.mk none 0 none 0 none 0 (eo.mk none 0))from⟨qG,qG,qG,(show aj.ok h1 (aj.mk 0 0 0 (⟨#[]⟩:ByteArray) ([])) (eo.mk none 0)from aj.ok.of qG)⟩))⟩
 refine qT 3 U (eJ ty61 (dM hb1) U U (bG 0 ty61 U U U U U U (qL 4 [] U (cU 0 ty56 U U U U U U (qL 5 [] U (lM (j:=3) ty56 (dM hb1) U U (qL 3 [] U ?_)))))))
 refine lp2 p.di (λi w=>[(1,Q b1),(2,Q b2),(15,.slice i8.pt p.di.length i8.pq),(16,I (p.di.length:Int)),(17,I (i:Int))]) (λw=>w.2.2.2.2) (λw=>[(b2,O [.string p.Name,.slice i8.ke p.dQ.length i8.kd,.slice i8.gR p.aB.length i8.gQ,.slice w.2.1 w.1.length w.2.2.1,I p.aQ.Kind,I p.aQ.N,I p.aQ.No,.string p.aQ.Name,.slice i8.aQ.oN p.aQ.L.length i8.aQ.pc,I p.Mode] 61)]++(w.2.2.2.1)) (λi w=>cN ft.rp 65 w.2.2.2.2 w.1 w.2.1 w.2.2.1 w.2.2.2.1/\w.1.length<=0+i/\xJ h1 w.2.2.2.2) (λs1 i w=>(ew.L1 p (ew.K1 p)) s1 i w.1) ([],none,0,[],h1) ((hp.di.mono ft.aG hle1).1.1) hs2 ⟨cN.nil,lo,lf⟩ ?_ ?_
 .rintro i1 ⟨oL,vj,vi,DP,hh1⟩ i7 hs4 ⟨AT,Ig,hl1⟩ e
  try dsimp only at AT Ig hl1
  refine qK 3 [] U (lM (j:=2) ty55 ((dM hb1).mono hl1) U U (qL 1 [] U (Eu (j:=4) ty59 ((dM hb1).mono hl1) U U (aH (cw LW (tI _ _ _ _ _ _ (hp.aB.mono WK (hle1.t hl1)) (hp.aQ.mono (hle1.t hl1)) ob) U (λv3 h5 hle5 hp3=>?_))))))
  obtain⟨rr4,rfl,ok4⟩:=hp3
  let z2:Nat×Obj:=(b2,O [.string p.Name,.slice i8.ke p.dQ.length i8.kd,.slice i8.gR p.aB.length i8.gQ,.slice vj oL.length vi,I ((aA p.aB p.aQ).Kind),I ((aA p.aB p.aQ).N),I ((aA p.aB p.aQ).No),.string ((aA p.aB p.aQ).Name),.slice rr4.oN ((aA p.aB p.aQ).L.length) rr4.pc,I p.Mode] 61)
  refine qL 1 [] U (cU 0 ty59 U U U U U U (qO 3 U (du 0 ty61 U U U (bG 0 ty61 U U U U U U (jf (L':=[z2]++(DP)) U (an (fF ft.aG ([z2]) DP ([]) ap hM (AT.mono ft.aG hle5) (λh6 hle6 sl2=>?_))))))))
  have hs5:ew p=((aw.mk p.Name p.dQ p.aB oL (aj.mk ((aA p.aB p.aQ).Kind) ((aA p.aB p.aQ).N) ((aA p.aB p.aQ).No) ((aA p.aB p.aQ).Name) ((aA p.aB p.aQ).L)) p.Mode),0):=hs4
  exact lJ [.agg (aw.cells (aw.mk p.Name p.dQ p.aB oL (aj.mk ((aA p.aB p.aQ).Kind) ((aA p.aB p.aQ).N) ((aA p.aB p.aQ).No) ((aA p.aB p.aQ).Name) ((aA p.aB p.aQ).L)) p.Mode) (jm.mk i8.ke i8.kd i8.gR i8.gQ vj vi (eo.mk rr4.oN rr4.pc))).toArray,I 0] func216 U ⟨⟨0,_,_,_,_,U,U,.inl ⟨ty61,U⟩⟩,U,trivial⟩ ⟨(jm.mk i8.ke i8.kd i8.gR i8.gQ vj vi (eo.mk rr4.oN rr4.pc)),congrArg (λr:(aw×Int)=>(.tuple #[.agg (aw.cells r.1 (jm.mk i8.ke i8.kd i8.gR i8.gQ vj vi (eo.mk rr4.oN rr4.pc))).toArray,I r.2]:Value)) hs5.symm,(by rw[hs5];exact(show aw.ok h6 (aw.mk p.Name p.dQ p.aB oL (aj.mk ((aA p.aB p.aQ).Kind) ((aA p.aB p.aQ).N) ((aA p.aB p.aQ).No) ((aA p.aB p.aQ).Name) ((aA p.aB p.aQ).L)) p.Mode) (jm.mk i8.ke i8.kd i8.gR i8.gQ vj vi (eo.mk rr4.oN rr4.pc))from⟨(hp.dQ.mono WK (((hle1.t hl1).t hle5).t hle6)),(hp.aB.mono WK (((hle1.t hl1).t hle5).t hle6)),sl2,(show aj.ok h6 (aj.mk ((aA p.aB p.aQ).Kind) ((aA p.aB p.aQ).N) ((aA p.aB p.aQ).No) ((aA p.aB p.aQ).Name) ((aA p.aB p.aQ).L)) (eo.mk rr4.oN rr4.pc)from aj.ok.of (ok4.list.mono aj.aG hle6))⟩))⟩
 rintro i1 ⟨oL,vj,vi,DP,hh1⟩ y1 rz1 hd1 gg dL i5 mF hs6 ⟨AT,Ig,hl1⟩ hx1 ag1 e
 try dsimp only at AT Ig hl1
 have hsy:=hsm.2.1 y1 (gP hd1)
 refine sr (tO gg U (qO 9 U (aH (iR zI ty65 (hp.di.mono ft.aG (hle1.t hl1)).1 dL U U U (λ_ _ _ e=>e) (λq2 r2 A2 ok5=>?_)))))
 let z1:Nat×Obj:=(b2,O [.string p.Name,.slice i8.ke p.dQ.length i8.kd,.slice i8.gR p.aB.length i8.gQ,.slice vj oL.length vi,I p.aQ.Kind,I p.aQ.N,I p.aQ.No,.string p.aQ.Name,.slice i8.aQ.oN p.aQ.L.length i8.aQ.pc,I p.Mode] 61)
 refine eJ ty65 A2 U U (bJ zc65 (λb5=>ig (bG 0 ty65 U U U U U U (jf (L':=[(b5,O (ft.cells y1 r2) 65),z1]++(DP)) U (qL 5 [] U (lM (j:=2) ty55 ((dM hb1).mono hl1) U U (qL 1 [] U (du 0 ty59 U U U (aH (cw LW (tI _ _ _ _ _ _ (hp.aB.mono WK (hle1.t hl1)) ok5.aj ob) U (λv4 h7 hle7 hp4=>?_)))))))))))
 obtain⟨rr6,rfl,ok6⟩:=hp4
 refine qL 1 [] U (cU 0 ty3 U U U U U U (qL 1 [] U (cU 0 ty59 U U U U U U (qL 4 [1] U (du 0 ty65 U U U (aH (bT (cells:=[.string y1.Kind,I (i1:Int),I y1.iK,I ((aA p.aB y1.aj).Kind),I ((aA p.aB y1.aj).N),I ((aA p.aB y1.aj).No),.string ((aA p.aB y1.aj).Name),.slice rr6.oN ((aA p.aB y1.aj).L.length) rr6.pc]) zI ty65 zc65 U U kr (λb6=>?_))))))))
 let z3:Nat×Obj:=(b6,O [.string y1.Kind,I (i1:Int),I y1.iK,I ((aA p.aB y1.aj).Kind),I ((aA p.aB y1.aj).N),I ((aA p.aB y1.aj).No),.string ((aA p.aB y1.aj).Name),.slice rr6.oN ((aA p.aB y1.aj).L.length) rr6.pc] 65)
 let z4:Nat×Obj:=(b5,O [.string y1.Kind,I (i1:Int),I y1.iK,I ((aA p.aB y1.aj).Kind),I ((aA p.aB y1.aj).N),I ((aA p.aB y1.aj).No),.string ((aA p.aB y1.aj).Name),.slice rr6.oN ((aA p.aB y1.aj).L.length) rr6.pc] 65)
 refine aH (eN ft.dl ([z3,z4,z1]) ([]) (λG=>[z3,z4,z1]++G) ap (λ_=>ap) zI ty65 zc65 U bytes65 (AT.mono ft.aG hle7) U U (gV 0 U (cE (R:=ft.rp) (ft.mk y1.Kind (i1:Int) y1.iK (aj.mk ((aA p.aB y1.aj).Kind) ((aA p.aB y1.aj).N) ((aA p.aB y1.aj).No) ((aA p.aB y1.aj).Name) ((aA p.aB y1.aj).L))) U ⟨(Cd.mk (eo.mk rr6.oN rr6.pc)),U,(show ft.ok h7 (ft.mk y1.Kind (i1:Int) y1.iK (aj.mk ((aA p.aB y1.aj).Kind) ((aA p.aB y1.aj).N) ((aA p.aB y1.aj).No) ((aA p.aB y1.aj).Name) ((aA p.aB y1.aj).L))) (Cd.mk (eo.mk rr6.oN rr6.pc))from⟨(show aj.ok h7 (aj.mk ((aA p.aB y1.aj).Kind) ((aA p.aB y1.aj).N) ((aA p.aB y1.aj).No) ((aA p.aB y1.aj).Name) ((aA p.aB y1.aj).L)) (eo.mk rr6.oN rr6.pc)from aj.ok.of ok6.list)⟩)⟩)) lo lo (λob2 oc2 G2 gr2=>qL 1 [] U (cU 2 ty56 U U U U U U (qO 3 U (oi i1 U (qO 2 U (cm (L':=[(b2,O [.string p.Name,.slice i8.ke p.dQ.length i8.kd,.slice i8.gR p.aB.length i8.gQ,.slice ob2 ((oL++[(ft.mk y1.Kind (i1:Int) y1.iK (aj.mk ((aA p.aB y1.aj).Kind) ((aA p.aB y1.aj).N) ((aA p.aB y1.aj).No) ((aA p.aB y1.aj).Name) ((aA p.aB y1.aj).L)))]).length) oc2,I p.aQ.Kind,I p.aQ.N,I p.aQ.No,.string p.aQ.Name,.slice i8.aQ.oN p.aQ.L.length i8.aQ.pc,I p.Mode] 61)]++G2) js ?_)))))))
 exact ag1 ((oL++[(ft.mk y1.Kind (i1:Int) y1.iK (aj.mk ((aA p.aB y1.aj).Kind) ((aA p.aB y1.aj).N) ((aA p.aB y1.aj).No) ((aA p.aB y1.aj).Name) ((aA p.aB y1.aj).L)))]),ob2,oc2,G2,h7) hs6 ⟨gr2,lo,(hl1.t hle7)⟩
theorem sS(h aC dP dO x gG)(gK:SlC Wc h dP dO aC)(hx:aj.ok h x gG)(hsz:x.dep<=1500000):Ret prog 217 [.slice dP aC.length dO,.agg (aj.cells x gG).toArray] h (.bool (ck aC x)):=by
 refine cV Rk U ntmps217 U λX hM hX=>?_
 have hs0:=@rfl _ (ck aC x)
 refine sr (eL (λb1=>eL (λb2=>bJ zc4 (λb3=>qO 4 U (du 1 ty59 U U U (aH (cw OZ (oF _ _ _ 1 hx ob) U (λv1 h1 hle1 hp1=>?_))))))))
 obtain⟨_,rfl,mo1⟩:=hp1
 refine qO 2 U (dR ?_)
 let z1:Nat×Obj:=(b1,O [.slice dP aC.length dO] 55)
 let z2:Nat×Obj:=(b2,O (aj.cells x gG) 59)
 refine bY (L':=([(b3,O [.bool false] 4),z2,z1])++markB []) ap ?_
 refine j7 (it:=v1) (xs:=(bx x 1)) (ι:=HF) [] (λi=>i) (λi=>[(b3,O [.bool false] 4),z2,z1]) (λs i=>ck aC x=((ck.L1 aC (ck.K1)) s)/\xJ h1 i) (λi=>ck aC x=false/\xJ h1 i) (λ_=>False) 0 (λ_ _ _=>False) h1 Rk U mo1 U pJ (λ_ _ _ _ _ hq=>hq) U (show[(b3,O [.bool false] 4),z2,z1]=_ from U) ⟨hs0,lf⟩ ?_ ?_ ?_ ?_ ?_
 .rintro l1 dm1 lp1 y1 rz1 vs1 hh1 hr1 X hFR1 ⟨hs1,hl1⟩ hl01 hlr1 hv1 hX hXM hlp1 nx1 rt1 ex1 pn1
  try dsimp only at hl1 hlr1
  obtain⟨rr1_0,rfl,ok1_0⟩:=hv1
  let z3:Nat×Obj:=(dm1,.deferred (some []))
  refine bY (L':=[(l1,.loop lp1),z3,(b3,O [.bool false] 4),z2,z1]++(markB [])) ap (bM (bJ zc320 (λb5=>bG 0 ty320 U U U U U U (bp (kg 1 U hlp1 (qK 9 [] U (du 0 ty59 U U U (aX call284 (pz _ _ _ ok1_0.x) U (bp (aI hs1 U (λc4 hs2=>?_) (λc4 hs3=>?_)))))))))))
  .refine qK 5 [5,0] U (aX call285 (nM _ _ _ _ y1.x.Name (gK.mono WK ((hle1.t hl1).t hlr1))) U (qL 10 [0] U (aI hs2 U (λc5 hs4=>?_) (λc5 hs5=>?_))))
   .exact sr (cU 3 ty4 U U U U U U (bp (cm (L':=[(l1,.loop { lp1 with state:=.busy }),z3,(b3,O [.bool false] 4),z2,z1]++(markB [])) js (bY (L':=rdH l1 dm1 lp1 (([(b3,O [.bool false] 4),z2,z1])++markB [])) ap (rt1 hr1 _ _ _ ⟨hs4,(hl1.t hlr1)⟩ lf)))))
   exact bO (fM (cm (L':=[(l1,.loop { lp1 with state:=.busy }),z3,(b3,O [.bool false] 4),z2,z1]++(markB [])) js (bY (L':=rdH l1 dm1 lp1 (([(b3,O [.bool false] 4),z2,z1])++markB [])) ap (nx1 hr1 _ _ ⟨hs5,(hl1.t hlr1)⟩ lf))))
  refine qK 9 [0] U (aI hs3 U (λc6 hs6=>?_) (λc6 hs7=>?_))
  .exact sr (cU 3 ty4 U U U U U U (bp (cm (L':=[(l1,.loop { lp1 with state:=.busy }),z3,(b3,O [.bool false] 4),z2,z1]++(markB [])) js (bY (L':=rdH l1 dm1 lp1 (([(b3,O [.bool false] 4),z2,z1])++markB [])) ap (rt1 hr1 _ _ _ ⟨hs6,(hl1.t hlr1)⟩ lf)))))
  exact bO (fM (cm (L':=[(l1,.loop { lp1 with state:=.busy }),z3,(b3,O [.bool false] 4),z2,z1]++(markB [])) js (bY (L':=rdH l1 dm1 lp1 (([(b3,O [.bool false] 4),z2,z1])++markB [])) ap (nx1 hr1 _ _ ⟨hs7,(hl1.t hlr1)⟩ lf))))
 .rintro dm1 hh1 hn1 ⟨hs8,hl1⟩ hln1 hl01
  try dsimp only at hl1 hln1
  refine bY (L':=[(b3,O [.bool false] 4),z2,z1]++(markB (dm1::[]))) ap (qT 3 U (cU 0 ty4 U U U U U U (bp ?_)))
  have hs9:ck aC x=true:=hs8
  exact bY (L':=([(b3,O [.bool true] 4),z2,z1])++markB (dm1::[])) ap (uH (dm1::[]) [.bool true] Rk U hX ⟨⟨0,_,_,_,_,U,U,.inr ⟨_,ty4,U⟩⟩,trivial⟩ (cs hs9))
 .rintro dm1 hh1 hn1 ⟨hs10,hl1⟩ hln1 hl01
  try dsimp only at hl1 hln1
  refine bY (L':=[(b3,O [.bool false] 4),z2,z1]++(markB (dm1::[]))) ap ?_
  have hs11:ck aC x=false:=hs10
  exact bY (L':=([(b3,O [.bool false] 4),z2,z1])++markB (dm1::[])) ap (uH (dm1::[]) [.bool false] Rk U hX ⟨⟨0,_,_,_,_,U,U,.inr ⟨_,ty4,U⟩⟩,trivial⟩ (cs hs11))
 .exact xf
 exact xf
theorem wh(h p i8)(hp:aw.ok h p i8)(hsm:smP p)(hk:dQ h):Ret prog 146 [.agg (aw.cells p i8).toArray] h (I (dt p)):=by
 refine sT func146 U ntmps146 U λX hM hX hF=>?_
 have hs0:=@rfl _ (dt p)
 have hsc:=hsm.change
 refine sr (eL (λb1=>qO 5 U (du 0 ty61 U U U (aH (cw call216 (BF _ _ _ hp ob hk) U (λv1 h1 hle1 hp1=>?_))))))
 obtain⟨rr1,rfl,ok1⟩:=hp1
 refine qO 10 U (aI hs0 U (λc1 hs1=>?_) (λc1 hs2=>?_))
 .exact sr (qO 3 U (nretP [I ((ew p).2)] (ci hs1)))
 refine qK 9 [0] U ?_
 refine lp0 p.di (λi=>[(1,Q b1),(14,.slice i8.pt p.di.length i8.pq),(15,I (p.di.length:Int)),(16,I (i:Int))]) ([(b1,O (aw.cells p i8) 61)]) (λs1 i=>(dt.L1 p (dt.K1 p)) s1 i) ((hp.di.mono ft.aG hle1).1.1) hs2 ?_ ?_
 .rintro i1 i7 hs4 e
  refine qK 6 [0] U (du 0 ty59 U U U (aX call217 (sS _ _ _ _ _ _ (hp.aB.mono WK hle1) (hp.aQ.mono hle1) ob) U (qO 2 U (aI hs4 U (λc2 hs5=>?_) (λc2 hs6=>?_)))))
  .exact sr (an (nretP [I 200] (ci hs5)))
  exact bO (qT 4 U (nretP [I 0] (ci hs6)))
 rintro i1 y1 rz1 hd1 gg dL i5 mF hs9 hx1 ag1 e
 have hsy:=hsm.2.1 y1 (gP hd1)
 refine sr (tO gg U (qO 9 U (aH (iR zI ty65 (hp.di.mono ft.aG hle1).1 dL U U U (λ_ _ _ e=>e) (λq2 r2 A2 ok3=>eJ ty65 A2 U U (bJ zc65 (λb3=>ig (bG 0 ty65 U U U U U U (qL 8 [0] U (gz 7 [25,26,27,28,29,30,31,32] 25 32 (!(ck p.aB y1.aj)) U (λc3 hk1=>?_) (λe=>?_)))))))))))
 .exact qL 3 [1] U (du 0 ty59 U U U (aX call217 (sS _ _ _ _ _ _ (hp.aB.mono WK hle1) ok3.aj ob) U (qO 2 U (hk1 _ U))))
 refine bp (aI hs9 U (λc4 hs10=>?_) (λc4 hs11=>?_))
 .exact sr (an (nretP [I 200] (ci hs10)))
 exact bO (qT 2 U (oi i1 U (qO 2 U (cm (L':=[(b1,O (aw.cells p i8) 61)]) js (ag1 hs11)))))
theorem sV(h l fg ff)(hl:SlC aD.rp h fg ff l)(hsm:smV l)(hk:dQ h):Ret prog 76 [.slice fg l.length ff] h (I (bQ l)):=by
 refine sT func76 U ntmps76 U λX hM hX hF=>?_
 have hs0:=@rfl _ (bQ l)
 have hsl:=hsm.len
 refine qK 11 [] U (aI hs0 U (λc1 hs1=>?_) (λc1 hs2=>?_))
 .have c1p:=of_decide_eq_true c1
  exact sr (an (nretP [I 2] (ci hs1)))
 have c1p:=of_decide_eq_false c1
 refine qK 12 [] U ?_
 refine lp1 l (λi w=>[(3,I w),(9,.slice fg l.length ff),(10,I (l.length:Int)),(11,I (i:Int))]) ([]) (λs1 i w=>(bQ.L1 (bQ.K1)) s1 w) (-1) hl.1.1 hs2 ?_ ?_
 .rintro i1 lB i7 hs4 e
  exact sr (an (nretP [I 0] (ci hs4)))
 rintro i1 lB y1 rz1 hd1 gg dL i5 mF hs6 hx1 ag1 e
 have hsy:=hsm.2 y1 (gP hd1)
 refine sr (tO gg U (qO 8 U (aH (iR Ch ty63 hl.1 dL U U U (λ_ _ _ e=>e) (λq2 r2 A2 ok2=>eJ ty63 A2 U U (bJ zc63 (λb2=>bG 0 ty63 U U U U U U (qL 8 [0] U (aX Jy (kW h y1.No (vB .i64 (lB+1)) 1048576) U (qO 2 U (gz 5 [21,22,23,24,25,26] 21 26 (!(bo y1.At 0 1099511627775)) U (λc2 hk1=>?_) (λe=>?_))))))))))))
 .exact qL 2 [0] U (aX Jy (kW h y1.At 0 1099511627775) U (qO 2 U (hk1 _ U)))
 refine bD (gz 5 [27,28,29,30,31,32] 27 32 (!(bo y1.dU 0 1099511627775)) U (λc3 hk2=>?_) (λe=>?_))
 .exact qL 2 [0] U (aX Jy (kW h y1.dU 0 1099511627775) U (qO 2 U (hk2 _ U)))
 refine bD (gz 5 [33,34,35,36,37,38] 33 38 ((dt y1.aw) != 0) U (λc4 hk3=>?_) (λe=>?_))
 .exact qL 1 [] U (du 0 ty61 U U U (aX call146 (wh _ _ _ ok2.aw ob hk) U (qO 2 U (hk3 _ U))))
 refine bp (aI hs6 U (λc5 hs7=>?_) (λc5 hs8=>?_))
 .exact sr (an (nretP [I 200] (ci hs7)))
 exact qK 8 [0] U (oi i1 U (qO 2 U (cm (L':=[]) js (ag1 y1.No hs8))))
theorem rU(h l fg ff)(hl:SlC ao.rp h fg ff l):j4 prog 147 [.slice fg l.length ff] h (λv h'=>∃(rr0:rJ),v=.agg (ie.cells (aJ l) rr0).toArray/\ie.ok h' (aJ l) rr0):=by
 refine cV func147 U ntmps147 U λX hM hX=>?_
 have hs0:=@rfl _ (aJ l)
 refine sr (bJ zc212 (λb1=>qO 4 U (aH (oC (λb2=>aH (gv (cells:=[.slice fg l.length ff,.map (some b2)]) (places:=[(0,1),(1,1)]) underlying212 zc212 kr kr (bJ zc212 (λb3=>bG 0 ty212 U U U U U U (qL 8 [] U ?_)))))))))
 let z1:Nat×Obj:=(b3,O [.slice fg l.length ff,.map (some b2)] 212)
 refine lp2 l (λi w=>[(2,Q b1),(3,Q b3),(9,.slice fg l.length ff),(10,I (l.length:Int)),(11,I (i:Int))]) (λ_=>h) (λw=>[z1,(b2,w.2),(b1,O [zSN,.map none] 212)]) (λi w=>kY (qC .i64) tq h w.2 w.1/\w.1.length<=0+i) (λs1 i w=>(aJ.L1 (aJ.K1 l)) s1 i w.1) ([],.map #[] 0) hl.1.1 hs0 ⟨(kY.nil (enc:=(qC .i64)) (V:=tq) (h:=h)),lc⟩ ?_ ?_
 .rintro i1 ⟨cg,eB⟩ i7 hs1 ⟨iD,Ih⟩ e
  refine sr (du 0 ty212 U U U (bG 2 ty212 U U U U U U (bp (gl 1 U hM (λh2 hle2 hb2=>?_)))))
  have mc2:vO (qC .i64) tq h2 b2 cg:=⟨_,hb2,iD.mono tq.mono hle2⟩
  have hs2:aJ l=(ie.mk l cg):=hs1
  exact lJ [.agg (xB [.slice fg l.length ff,.map (some b2)])] func147 U ⟨⟨1,_,_,_,_,U,U,.inl ⟨ty212,U⟩⟩,trivial⟩ ⟨(rJ.mk fg ff b2),congrArg (λr:ie=>(.agg (ie.cells r (rJ.mk fg ff b2)).toArray:Value)) hs2.symm,(by rw[hs2];exact(show ie.ok h2 (ie.mk l cg) (rJ.mk fg ff b2)from⟨(hl.mono ao.aG hle2),mc2⟩))⟩
 rintro i1 ⟨cg,eB⟩ y1 rz1 hd1 gg dL i5 mF hs3 ⟨iD,Ih⟩ hx1 ag1 e
 exact sr (tO gg U (qO 9 U (aH (iR w7 ty54 hl.1 dL U U U (λ_ _ _ e=>e) (λq2 r2 A2 ok2=>eJ ty54 A2 U U (bJ zc54 (λb5=>ig (bG 0 ty54 U U U U U U (qL 7 [1,0] U (aH (mt 2 (k:=y1.No) (x:=(i1:Int)) Cf (fe mR) U iD U U U (λmo2 hm2=>qO 3 U (oi i1 U (qO 2 U (cm (L':=[z1,(b2,mo2),(b1,O [zSN,.map none] 212)]) js (ag1 ((mput cg y1.No (i1:Int)),mo2) hs3 ⟨hm2,(by have:=nw cg y1.No (i1:Int);first|omega|(simp only[zB,zA]at *;omega))⟩))))))))))))))))
instance kC147:Ct 147:=⟨_,call147,@rU⟩
theorem rE(h t)  : Ret prog 79 [I t] h (.bool (jk t)):=by
 refine sT func79 U ntmps79 U λX hM hX hF=>?_
 generalize hz:(jk t)=z;have hs:=hz.symm
 exact W
instance kC79:Ct 79:=⟨_,call79,@rE⟩
theorem DX(h l fg ff dJ)(hl:SlC jB h fg ff l):Ret prog 218 [.slice fg l.length ff,I dJ] h (.bool (fj l dJ)):=by
 refine sT func218 U ntmps218 U λX hM hX hF=>?_
 generalize hz:(fj l dJ)=z;have hs:=hz.symm
 have HA:=h1 [0,1,8,9] 10 (λw=>[(5,I w)]) (λs1 i w=>(fj.L1 dJ (fj.K1 l)) s1 w)
 exact W
instance kC218:Ct 218:=⟨_,call218,@DX⟩
theorem CN(h d AW)(hd:ao.ok h d AW):Ret prog 148 [.agg (ao.cells d AW).toArray] h (.bool (mp d)):=by
 refine sT func148 U ntmps148 U λX hM hX hF=>?_
 generalize hz:(mp d)=z;have hs:=hz.symm
 exact W
instance kC148:Ct 148:=⟨_,call148,@CN⟩
theorem wX(h no v0 QX v0_q)(hv0:ie.ok h v0 QX)(av0:At h v0_q (ie.cells v0 QX)):Ret prog 219 [I no,.pointer (some v0_q)] h (.bool (iJ no v0)):=by
 refine sT func219 U ntmps219 U λX hM hX hF=>?_
 have hs0:=@rfl _ (iJ no v0)
 refine qK 7 [] U (lM (j:=1) ty43 av0 U U (bD ?_))
 obtain⟨o1,hb1,hm1⟩:=hv0.at_
 refine aH (vW (k:=no) Cf (fe mR) hb1 hm1 (eG zv3) (show tq _ (I 0) 0 from U) U U (λv1 hv1=>?_))
 obtain rfl:=hv1
 exact bD (qO 11 U (nretP [.bool (!(mhas v0.at_ no))] (cs hs0)))
instance kC219:Ct 219:=⟨_,call219,@wX⟩
theorem yC(h s VQ d AW)(hs:ie.ok h s VQ)(hd:ao.ok h d AW):Ret prog 149 [.agg (ie.cells s VQ).toArray,.agg (ao.cells d AW).toArray] h (.bool (kl s d)):=by
 refine sT func149 U ntmps149 U λX hM hX hF=>?_
 generalize hz:(kl s d)=z;have hs:=hz.symm
 exact W
instance kC149:Ct 149:=⟨_,call149,@yC⟩
theorem pY(h l fg ff)(hl:SlC ao.rp h fg ff l):Ret prog 77 [.slice fg l.length ff] h (I (bh l)):=by
 refine sT func77 U ntmps77 U λX hM hX hF=>?_
 generalize hz:(bh l)=z;have hs:=hz.symm
 have HA:=h0 [0,3,11,12] 13 (λs1 i=>(bh.L1 l (bh.K1)) s1 i)
 exact W
theorem AF(h cK gH)(mS:Register.ok h cK gH)(hsm:smR cK)(hk:dQ h):Ret prog 26 [.agg (kC cK gH).toArray] h (I (dY cK)):=by
 refine sT func26 U ntmps26 U λX hM hX hF=>?_
 have hs0:=@rfl _ (dY cK)
 have hsv:=hsm.vers
 refine sr (eL (λb1=>qO 4 U ?_))
 let z1:Nat×Obj:=(b1,O (kC cK gH) 30)
 refine fo ([z1]) mixed kr jn (λim _=>?_)
 refine qB [0] U (tf 1 U U (rj 0 ty22 U U U) (qB [3] U (tf 4 U U (rj 0 ty23 U U U) (qB [6] U (tf 7 U U (rj 0 ty24 U U U) (qB [9] U (tf 10 U U (rj 0 ty25 U U U) (qB [12] U (tf 13 U U (rj 0 ty26 U U U) (qB [15] U (tf 16 U U (rj 0 ty27 U U U) (qB [18] U (tf 19 U U (rj 0 ty28 U U U) (tm 23 U (tn 2 U (gu call72 (sd _ _ _ _ mS.dD) U (⟨jn,tn 5 U (gu call73 (wp _ _ _ _ mS.fR) U (⟨jn,tn 8 U (gu call74 (vh _ _ _ _ mS.ej) U (⟨jn,tn 11 U (gu call75 (ss _ _ _ _ mS.dN) U (⟨jn,tn 14 U (gu call76 (sV _ _ _ _ mS.Versions ob hk) U (⟨jn,(tn 17 U (gu call77 (pY _ _ _ _ mS.cj) U (⟨jn,(tn 20 U (gu call45 (vt _ _ _ _ mS.dy) U (⟨jn,(tn 21 U (bT (cells:=[I (dz cK.dD),I (dS cK.fR),I (dj cK.ej),I (bI cK.dN),I (bQ cK.Versions),I (bh cK.cj),I (cf cK.dy)]) underlying148 ty36 zc36 U U kr (λb2=>⟨jn,(tf 22 U U (λ_ _ _=>JW underlying148 U) (bW kr (gl 0 U hM (λh1 hle1 hb1=>?_))))⟩)))⟩)))⟩)))⟩))⟩))⟩))⟩))⟩)))))))))))))))))
 have sl1:SlC jB h1 (zAD b2) 7 ([(dz cK.dD),(dS cK.fR),(dj cK.ej),(bI cK.dN),(bQ cK.Versions),(bh cK.cj),(cf cK.dy)]):=cY.slB0 (T:=36) (fz:=(0,0)) ((show cY jB h [I (dz cK.dD),I (dS cK.fR),I (dj cK.ej),I (bI cK.dN),I (bQ cK.Versions),I (bh cK.cj),I (cf cK.dy)] ([(dz cK.dD),(dS cK.fR),(dj cK.ej),(bI cK.dN),(bQ cK.Versions),(bh cK.cj),(cf cK.dy)])from⟨[I (dz cK.dD)],[I (dS cK.fR),I (dj cK.ej),I (bI cK.dN),I (bQ cK.Versions),I (bh cK.cj),I (cf cK.dy)],rfl,rfl,rfl,⟨[I (dS cK.fR)],[I (dj cK.ej),I (bI cK.dN),I (bQ cK.Versions),I (bh cK.cj),I (cf cK.dy)],rfl,rfl,rfl,⟨[I (dj cK.ej)],[I (bI cK.dN),I (bQ cK.Versions),I (bh cK.cj),I (cf cK.dy)],rfl,rfl,rfl,⟨[I (bI cK.dN)],[I (bQ cK.Versions),I (bh cK.cj),I (cf cK.dy)],rfl,rfl,rfl,⟨[I (bQ cK.Versions)],[I (bh cK.cj),I (cf cK.dy)],rfl,rfl,rfl,⟨[I (bh cK.cj)],[I (cf cK.dy)],rfl,rfl,rfl,⟨[I (cf cK.dy)],[],rfl,rfl,rfl,rfl⟩⟩⟩⟩⟩⟩⟩).mono Rp.bH hle1) hb1
 refine gx (ι:=Nat) (λi=>[]) (λi=>h1) (λi=>[z1]) (λi=>i<=(qE 7).length/\dY cK=((dY.K1))) ?_ (λhx1=>?_)
 .rintro i1 ⟨i7,hs1⟩ e
  exact sr (an (nretP [I 0] (ci hs1)))
 refine jw (ι:=Nat×List Nat) (λi=>[(26,.slice (zAD b2) 7 7),(27,I 7),(28,I (i.1:Int))]) (λi=>h1) (λi=>[z1]) (λi=>(qE 7).drop i.1=i.2/\i.1<=(qE 7).length/\dY cK=((dY.L1 cK (dY.K1)) i.2 i.1)) (λi=>i.2.length) (0,(qE 7)) rd sw ⟨U,xH _,hs0⟩ ?_
 rintro⟨i1,s1⟩ ⟨hd1,i7,hs3⟩ ag1 e
 rcases s1 with _|⟨y1,rz1⟩
 .have mE:decide ((i1:Int)<7)=false:=by simpa using nZ hd1
  exact sr (fO mE U (qO 4 U (hx1 i1 _ ⟨i7,hs3⟩ trivial)))
 have gg:decide ((i1:Int)<7)=true:=by simpa using tU hd1
 have i5:i1<7:=by simpa using il hd1
 refine sr (tO gg U (qO 8 U ?_))
 have ho2:0<=((i1:Int):Int)/\((i1:Int):Int)<(([(dz cK.dD),(dS cK.fR),(dj cK.ej),(bI cK.dN),(bQ cK.Versions),(bh cK.cj),(cf cK.dy)]).length:Int):=ob
 refine aH (tA (enc:=λy=>[I y]) ei underlying148 ty36 sl1.1 ho2 (dC ho2) U U U (λq2 A2=>eE ty36 A2 U (qO 7 U (aI hs3 U (λc2 hs5=>?_) (λc2 hs6=>?_)))))
 .exact sr (an (nretP [I 300] (ci hs5)))
 exact bO (qT 2 U (oi i1 U (qO 2 U (ag1 ((i1+1),rz1) _ (Nat.lt_succ_self _) ⟨ll hd1,il hd1,hs6⟩ rd))))
theorem xy(h t)  : Ret prog 150 [I t] h (.bool (ma t)):=by
 refine sT func150 U ntmps150 U λX hM hX hF=>?_
 generalize hz:(ma t)=z;have hs:=hz.symm
 exact W
instance kC150:Ct 150:=⟨_,call150,@xy⟩
theorem rT(h l fg ff signed cu ct)(hl:SlC ao.rp h fg ff l)(eT:SlC jB h cu ct signed):Ret prog 78 [.slice fg l.length ff,.slice cu signed.length ct] h (.bool (cC l signed)):=by
 refine sT func78 U ntmps78 U λX hM hX hF=>?_
 generalize hz:(cC l signed)=z;have hs:=hz.symm
 exact W
theorem C7(h x Ui T1)(hx:SlC jB h Ui T1 x)(hne:0<x.length):Ret prog 153 [.slice Ui x.length T1] h (I (gZ x)):=by
 refine sT func153 U ntmps153 U λX hM hX hF=>?_
 have hs0:=@rfl _ (gZ x)
 refine qK 11 [] U (lu U (λc1=>?_) (λc1=>?_))
 .exact absurd c1 (by simp only[decide_eq_true_eq,Bool.not_eq_true,decide_eq_false_iff_not];omega)
 have c1p:=of_decide_eq_false c1
 refine qT 4 U ?_
 have ho1:0<=(0:Int)/\(0:Int)<((x).length:Int):=ob
 refine aH (tA (enc:=λy=>[I y]) ei eM ty3 hx.1 ho1 (dC ho1) U U U (λq1 A1=>eE ty3 A1 U (qO 7 U ?_)))
 refine gx (ι:=Nat×Int) (λi=>[(3,I i.2)]) (λi=>h) (λi=>[]) (λi=>i.1<=x.length/\gZ x=((gZ.K1) i.2)) ?_ (λhx1=>?_)
 .rintro⟨i1,lB⟩ ⟨i7,hs1⟩ e
  exact sr (qO 3 U (nretP [I lB] (ci hs1)))
 refine jw (ι:=Nat×Int×List Int) (λi=>[(0,.slice Ui x.length T1),(3,I i.2.1),(4,I (i.1:Int))]) (λi=>h) (λi=>[]) (λi=>x.drop i.1=i.2.2/\i.1<=x.length/\gZ x=((gZ.L1 (gZ.K1)) i.2.2 i.2.1)) (λi=>i.2.2.length) (1,(nthI x 0),(x.drop 1)) rd sw ⟨U,ob,hs0⟩ ?_
 rintro⟨i1,lB,s1⟩ ⟨hd1,i7,hs3⟩ ag1 e
 rcases s1 with _|⟨y1,rz1⟩
 .have mE:=nZ hd1
  exact qK 6 [] U (fO mE U (qO 3 U (hx1 (i1,lB) _ ⟨i7,hs3⟩ rd)))
 have gg:=tU hd1
 have dL:=sn hd1
 have i5:=il hd1
 have mF:=hx.1.1
 exact qK 6 [] U (tO gg U (qO 9 U (aH (iF (λy=>[I y]) eM ty3 hx.1 dL U U U (λq3 A3=>eE ty3 A3 U (aH (eu (T5 U U) (qO 5 U (oi i1 U (an (ag1 ((i1+1),(min lB y1),rz1) _ (Nat.lt_succ_self _) ⟨ll hd1,il hd1,hs3⟩ rd)))))))))))
theorem nA(h p i8 p_q)(sF:Int)(bq)(hp:e8.ok h p i8)(ap_z:At h p_q (e8.cells p i8))(hi:0<=sF/\sF<(p.shelf.docs.length:Int))(hlen:p.done.length=p.shelf.docs.length/\p.lacks.length=p.shelf.docs.length):Ret prog 81 [.pointer (some p_q),I sF,I bq] h (.tuple #[I ((cX p sF bq).1),I ((cX p sF bq).2)]):=by
 refine sT func81 U ntmps81 U λX hM hX hF=>?_
 have hs0:=@rfl _ (cX p sF bq)
 refine qT 8 U (aH (eu (gf U) (qL 2 [] U (eE ty27 ap_z U (bD ?_)))))
 have ho1:0<=(sF:Int)/\(sF:Int)<((p.shelf.docs).length:Int):=ob
 refine aH (yl w7 ty54 hp.shelf.docs.1 ho1 (dC ho1) U U U (λ_ _ _ e=>e) (λq1 r1 A1 ok1=>eJ ty54 A1 U U (bJ zc54 (λb1=>bG 0 ty54 U U U U U U (qO 6 U (aH (eu (gf U) (qL 1 [] U (lM (j:=3) ty136 ap_z U U (bD ?_))))))))))
 have ho2:0<=(sF:Int)/\(sF:Int)<((p.done).length:Int):=ob
 refine aH (tA (enc:=λy=>[.bool y]) ei Ef ty4 hp.done.1 ho2 (dC ho2) U U U (λq2 A2=>eE ty4 A2 U (qO 3 U (aI hs0 U (λc1 hs1=>?_) (λc1 hs2=>?_)))))
 .refine qT 5 U ?_
  have hs3:cX p sF bq=(1,(-1)):=hs1
  exact nretP [I 1,I (-1)] (hs3▸U)
 refine qT 3 U (aH (eu (gf U) (qL 1 [] U (lM (j:=4) ty31 ap_z U U (bD ?_)))))
 have ho3:0<=(sF:Int)/\(sF:Int)<((p.lacks).length:Int):=ob
 refine aH (tA (enc:=λy=>[I y]) ei eM ty3 hp.lacks.1 ho3 (dC ho3) U U U (λq3 A3=>eE ty3 A3 U (qO 3 U (aI hs2 U (λc2 hs4=>?_) (λc2 hs5=>?_)))))
 .have c2p:=of_decide_eq_true c2
  refine el (fo ([(b1,O (ao.cells (nthI p.shelf.docs sF) r1) 54)]) mixed kr jn (λim _=>tm 0 U (tf 1 U U (λ_ _ _=>gf U) (qB [2] U (tf 3 U U (rH 4 ty31 ap_z U U) (tm 4 U ?_))))))
  have ho4:0<=(sF:Int)/\(sF:Int)<((p.lacks).length:Int):=ob
  refine kZ 5 (enc:=λy=>[I y]) im jn ei eM ty3 hp.lacks.1 ho4 (dC ho4) U U U U kr (λq4 A4=>tf 6 U U (rh ty3 A4 U) (qA [7,8] U (bW kr ?_)))
  have hs6:cX p sF bq=(4,(nthI p.lacks sF)):=hs4
  exact nretP [I 4,I (nthI p.lacks sF)] (hs6▸U)
 have c2p:=of_decide_eq_false c2
 refine el ?_
 let z1:Nat×Obj:=(b1,O (ao.cells (nthI p.shelf.docs sF) r1) 54)
 refine fo ([z1]) mixed kr jn (λnJ _=>?_)
 refine tm 0 U (tf 1 U U (λ_ _ _=>gf U) (qB [2] U (tf 3 U U (rH 5 ty105 ap_z U U) (qB [4] U (tf 5 U U (rj 0 ty3 U U U) (tn 6 U ?_))))))
 obtain⟨o1,hb1,hm1⟩:=hp.revoked
 refine ph (k:=(nthI p.shelf.docs sF).No) Gm (fe mR) hb1 hm1 (eG zv31) (show(VSl jB) _ (zSN) []from⟨none,0,U,qG⟩) U U (λv1 hv1=>?_)
 obtain⟨rb1,rc1,rfl,sl1⟩:=hv1
 refine⟨jn,(tf 7 U U (λ_ _ _=>JW eM U) (qA [8,9] U (bW kr (aI hs5 U (λc3 hs7=>?_) (λc3 hs8=>?_)))))⟩
 .have c3p:=of_decide_eq_true c3
  refine el (fo ([z1]) mixed kr jn (λNa _=>tm 0 U (tf 1 U U (λ_ _ _=>gf U) (qB [2] U (tf 3 U U (rH 5 ty105 ap_z U U) (qB [4] U (tf 5 U U (rj 0 ty3 U U U) (tn 6 U ?_))))))))
  obtain⟨o2,hb2,hm2⟩:=hp.revoked
  refine ph (k:=(nthI p.shelf.docs sF).No) Gm (fe mR) hb2 hm2 (eG zv31) (show(VSl jB) _ (zSN) []from⟨none,0,U,qG⟩) U U (λv2 hv2=>?_)
  obtain⟨rb2,rc2,rfl,sl2⟩:=hv2
  refine⟨jn,(tn 7 U (gu call153 (C7 _ _ _ _ sl2 ob) U (⟨jn,(qA [8,9] U (bW kr ?_))⟩)))⟩
  have hs9:cX p sF bq=(5,(gZ (mgetD p.revoked ((nthI p.shelf.docs sF).No) []))):=hs7
  exact nretP [I 5,I (gZ (mgetD p.revoked ((nthI p.shelf.docs sF).No) []))] (hs9▸U)
 have c3p:=of_decide_eq_false c3
 refine qK 8 [0] U (aI hs8 U (λc4 hs10=>?_) (λc4 hs11=>?_))
 .have c4p:=of_decide_eq_true c4
  refine qT 5 U ?_
  have hs12:cX p sF bq=(2,(-1)):=hs10
  exact nretP [I 2,I (-1)] (hs12▸U)
 have c4p:=of_decide_eq_false c4
 refine qK 8 [0] U (aI hs11 U (λc5 hs13=>?_) (λc5 hs14=>?_))
 .have c5p:=of_decide_eq_true c5
  refine qT 5 U ?_
  have hs15:cX p sF bq=(3,(-1)):=hs13
  exact nretP [I 3,I (-1)] (hs15▸U)
 have c5p:=of_decide_eq_false c5
 refine qT 7 U ?_
 have hs16:cX p sF bq=(0,(-1)):=hs14
 exact nretP [I 0,I (-1)] (hs16▸U)
end
end Go.Sg

namespace Go.Proofs
open Go.Shelf
def Tryz.MY:Go.Shelf.Ren:=⟨λ| 137=>345|217=>347|266=>348|n=>n,λ| 9=>9|5=>5|3=>3|n=>n,λ| n=>n⟩
theorem Tryz.lays137:Go.Proofs.Lays.n137 Tryz.prog Tryz.MY:={
 mixed:=by kernel_rfl
 f137:=Tryz.func345.trans (congrArg some (by kernel_rfl))
 f217:=Tryz.func347.trans (congrArg some (by kernel_rfl))
 f266:=Tryz.func348.trans (congrArg some (by kernel_rfl))
 t3:=Tryz.underlying3
 a3:=Tryz.isAgg3
 z3:=Tryz.sizeOf3
 v3:=Tryz.zeroValue3
 t5:=Tryz.underlying5
 a5:=Tryz.isAgg5
 z5:=Tryz.sizeOf5
 v5:=Tryz.zeroValue5
 t9:=Tryz.underlying9
 a9:=Tryz.isAgg9
 z9:=Tryz.sizeOf9
 v9:=Tryz.zeroValue9 }
open Go.RowKit in
theorem Tryz.strings_IndexByte(s:ByteArray)(c:Int)(w:World):
  Calls Tryz.prog 345 #[.string s,.int .u8 c] w λe w'=>e=.returned (.int .i64 (Lib.indexByte s.data.toList c.toNat.toUInt8))/\w'=w:=Any.strings_IndexByte Tryz.lays137 s c w
open Go.RowKit Go.Lib in
def Tryz.MX:Go.Shelf.Ren:=⟨λ| 189=>94|125=>163|257=>162|128=>237|129=>238|294=>228|295=>229|296=>230|297=>231|298=>232|299=>233|216=>234|300=>235|301=>236|328=>294|329=>295|330=>296|331=>297|332=>298|215=>98|343=>324|n=>n,λ| 28=>31|3=>3|46=>139|0=>0|51=>199|53=>201|4=>4|183=>286|182=>285|131=>110|5=>5|9=>9|218=>331|222=>335|228=>369|229=>152|n=>n,λ| n=>n⟩
theorem Tryz.lays189:Go.Proofs.Lays.n189 Tryz.prog Tryz.MX:={
 mixed:=by kernel_rfl
 f125:=Tryz.func163.trans (congrArg some (by kernel_rfl))
 f128:=Tryz.func237.trans (congrArg some (by kernel_rfl))
 f129:=Tryz.func238.trans (congrArg some (by kernel_rfl))
 f189:=Tryz.func94.trans (congrArg some (by kernel_rfl))
 f215:=Tryz.func98.trans (congrArg some (by kernel_rfl))
 f216:=Tryz.func234.trans (congrArg some (by kernel_rfl))
 f257:=Tryz.func162.trans (congrArg some (by kernel_rfl))
 f294:=Tryz.func228.trans (congrArg some (by kernel_rfl))
 f295:=Tryz.func229.trans (congrArg some (by kernel_rfl))
 f296:=Tryz.func230.trans (congrArg some (by kernel_rfl))
 f297:=Tryz.func231.trans (congrArg some (by kernel_rfl))
 f298:=Tryz.func232.trans (congrArg some (by kernel_rfl))
 f299:=Tryz.func233.trans (congrArg some (by kernel_rfl))
 f300:=Tryz.func235.trans (congrArg some (by kernel_rfl))
 f301:=Tryz.func236.trans (congrArg some (by kernel_rfl))
 f328:=Tryz.func294.trans (congrArg some (by kernel_rfl))
 f329:=Tryz.func295.trans (congrArg some (by kernel_rfl))
 f330:=Tryz.func296.trans (congrArg some (by kernel_rfl))
 f331:=Tryz.func297.trans (congrArg some (by kernel_rfl))
 f332:=Tryz.func298.trans (congrArg some (by kernel_rfl))
 f343:=Tryz.func324.trans (congrArg some (by kernel_rfl))
 t0:=Tryz.underlying0
 a0:=Tryz.isAgg0
 z0:=Tryz.sizeOf0
 v0:=Tryz.zeroValue0
 t3:=Tryz.underlying3
 a3:=Tryz.isAgg3
 z3:=Tryz.sizeOf3
 v3:=Tryz.zeroValue3
 t4:=Tryz.underlying4
 a4:=Tryz.isAgg4
 z4:=Tryz.sizeOf4
 v4:=Tryz.zeroValue4
 t5:=Tryz.underlying5
 a5:=Tryz.isAgg5
 z5:=Tryz.sizeOf5
 v5:=Tryz.zeroValue5
 t9:=Tryz.underlying9
 a9:=Tryz.isAgg9
 z9:=Tryz.sizeOf9
 v9:=Tryz.zeroValue9
 t28:=Tryz.underlying31
 a28:=Tryz.isAgg31
 z28:=Tryz.sizeOf31
 v28:=Tryz.zeroValue31
 t46:=Tryz.underlying139
 a46:=Tryz.isAgg139
 z46:=Tryz.sizeOf139
 v46:=Tryz.zeroValue139
 t51:=Tryz.underlying199
 a51:=Tryz.isAgg199
 z51:=Tryz.sizeOf199
 v51:=Tryz.zeroValue199
 t53:=Tryz.underlying201
 a53:=Tryz.isAgg201
 z53:=Tryz.sizeOf201
 v53:=Tryz.zeroValue201
 t131:=Tryz.underlying110
 a131:=Tryz.isAgg110
 z131:=Tryz.sizeOf110
 v131:=Tryz.zeroValue110
 t182:=Tryz.underlying285
 a182:=Tryz.isAgg285
 z182:=Tryz.sizeOf285
 v182:=Tryz.zeroValue285
 t183:=Tryz.underlying286
 a183:=Tryz.isAgg286
 z183:=Tryz.sizeOf286
 v183:=Tryz.zeroValue286
 t218:=Tryz.underlying331
 a218:=Tryz.isAgg331
 z218:=Tryz.sizeOf331
 v218:=Tryz.zeroValue331
 t222:=Tryz.underlying335
 a222:=Tryz.isAgg335
 z222:=Tryz.sizeOf335
 v222:=Tryz.zeroValue335
 t228:=Tryz.underlying369
 a228:=Tryz.isAgg369
 z228:=Tryz.sizeOf369
 v228:=Tryz.zeroValue369
 t229:=Tryz.underlying152
 a229:=Tryz.isAgg152
 z229:=Tryz.sizeOf152
 v229:=Tryz.zeroValue152 }
open Go.Sort Go.RowKit in
theorem Tryz.slices_Sort_int(blk off cap:Nat)(zs:List Int)(w:World)(hH:Holds (Value.int .i64) w blk off zs.toArray)(hblk:blk<w.heap.size)(hsz:zs.length<4611686018427387904):
  Calls Tryz.prog 94 #[.slice (some ⟨blk,off,none⟩) zs.length cap] w λe w'=>
   e=.returned (.tuple #[])/\∃n os,w'=grow (putRow (Value.int .i64) (Sort.ahead w n) blk off (zs.mergeSort λx y=>decide (x<=y)).toArray) os:=Any.slices_Sort_int Tryz.lays189 blk off cap zs w hH hblk hsz
def Tryz.Je:Go.Shelf.Ren:=⟨λ| 15=>43|n=>n,λ| 22=>31|3=>3|4=>4|n=>n,λ| n=>n⟩
theorem Tryz.laysNm215:Go.Proofs.Lays2.n15 Tryz.prog Tryz.Je:={
 mixed:=by kernel_rfl
 f15:=Tryz.func43.trans (congrArg some (by kernel_rfl))
 t3:=Tryz.underlying3
 a3:=Tryz.isAgg3
 z3:=Tryz.sizeOf3
 v3:=Tryz.zeroValue3
 t4:=Tryz.underlying4
 a4:=Tryz.isAgg4
 z4:=Tryz.sizeOf4
 v4:=Tryz.zeroValue4
 t22:=Tryz.underlying31
 a22:=Tryz.isAgg31
 z22:=Tryz.sizeOf31
 v22:=Tryz.zeroValue31
 i3:=by kernel_rfl }
open Go.RowKit Go.Lib in
theorem Tryz.slices_Clone_int(b off n c:Nat)(zs:List Int)(w:World)(hz:n<=zs.length)(hbig:n*8<=140737488355328)(hc:∀j,j<zs.length->w.cell? ⟨b,off+j,none⟩=some (.int .i64 (zs.getD j 0))):
  Calls Tryz.prog 43 #[.slice (some ⟨b,off,none⟩) n c] w λe w'=>∃v',e=.returned v'/\w'.ownsRow w.heap.size 3 1 v' n ((zs.take n).map (Value.int .i64))/\v'≠.slice none 0 0/\Below w.heap.size w w':=Any.slices_Clone_int Tryz.laysNm215 b off n c zs w hz hbig hc
open Go.RowKit Go.Lib in
theorem Tryz.slices_Clone_int_nil(n c:Nat)(w:World):
  Calls Tryz.prog 43 #[.slice none n c] w λe w'=>e=.returned (.slice none 0 0)/\w'=w:=Any.slices_Clone_int_nil Tryz.laysNm215 n c w
open Go.RowKit Go.Lib in
theorem Tryz.slices_Clone_int_zero(a:Addr)(c:Nat)(w:World):
  Calls Tryz.prog 43 #[.slice (some a) 0 c] w λe w'=>∃v',e=.returned v'/\w'.ownsRow w.heap.size 3 1 v' 0 []/\v'≠.slice none 0 0/\Below w.heap.size w w':=Any.slices_Clone_int_zero Tryz.laysNm215 a c w
def Tryz.Jd:Go.Shelf.Ren:=⟨λ| 20=>95|n=>n,λ| 22=>31|3=>3|4=>4|0=>0|n=>n,λ| n=>n⟩
theorem Tryz.laysNm220:Go.Proofs.Lays2.n20 Tryz.prog Tryz.Jd:={
 mixed:=by kernel_rfl
 f20:=Tryz.func95.trans (congrArg some (by kernel_rfl))
 t0:=Tryz.underlying0
 a0:=Tryz.isAgg0
 z0:=Tryz.sizeOf0
 v0:=Tryz.zeroValue0
 t3:=Tryz.underlying3
 a3:=Tryz.isAgg3
 z3:=Tryz.sizeOf3
 v3:=Tryz.zeroValue3
 t4:=Tryz.underlying4
 a4:=Tryz.isAgg4
 z4:=Tryz.sizeOf4
 v4:=Tryz.zeroValue4
 t22:=Tryz.underlying31
 a22:=Tryz.isAgg31
 z22:=Tryz.sizeOf31
 v22:=Tryz.zeroValue31
 i3:=by kernel_rfl }
open Go.RowKit Go.Lib Go.Sort in
open Go.RowKit Go.Lib Go.Sort in
theorem Tryz.slices_Compact_int(blk off cap:Nat)(zs:List Int)(w:World)(hH:Holds (Value.int .i64) w blk off zs.toArray)(hsz:zs.length<=9223372036854775807)(hcap:zs.length<=cap):
  Calls Tryz.prog 95 #[.slice (some ⟨blk,off,none⟩) zs.length cap] w λe w'=>e=.returned (.slice (some ⟨blk,off,none⟩) (Lib.compact zs).length cap)/\∃q,w'=putRow (Value.int .i64) (Sort.ahead w q) blk off (Lib.compact zs++List.replicate (zs.length-(Lib.compact zs).length) 0).toArray:=Any.slices_Compact_int Tryz.laysNm220 blk off cap zs w hH hsz hcap
open Go.RowKit Go.Lib Go.Sort in
theorem Tryz.slices_Compact_int_empty(a:Option Addr)(cap:Nat)(w:World):
  Calls Tryz.prog 95 #[.slice a 0 cap] w λe w'=>e=.returned (.slice a 0 cap)/\w'=w:=Any.slices_Compact_int_empty Tryz.laysNm220 a cap w
open Go.RowKit Go.Lib in
open Go.RowKit Go.Lib in
open Go.RowKit Go.Lib in
def Tryz.Jc:Go.Shelf.Ren:=⟨λ| 25=>193|31=>234|32=>265|37=>98|n=>n,λ| 22=>31|3=>3|4=>4|40=>139|0=>0|n=>n,λ| n=>n⟩
theorem Tryz.laysNm225:Go.Proofs.Lays2.n25 Tryz.prog Tryz.Jc:={
 mixed:=by kernel_rfl
 f25:=Tryz.func193.trans (congrArg some (by kernel_rfl))
 f31:=Tryz.func234.trans (congrArg some (by kernel_rfl))
 f32:=Tryz.func265.trans (congrArg some (by kernel_rfl))
 f37:=Tryz.func98.trans (congrArg some (by kernel_rfl))
 t0:=Tryz.underlying0
 a0:=Tryz.isAgg0
 z0:=Tryz.sizeOf0
 v0:=Tryz.zeroValue0
 t3:=Tryz.underlying3
 a3:=Tryz.isAgg3
 z3:=Tryz.sizeOf3
 v3:=Tryz.zeroValue3
 t4:=Tryz.underlying4
 a4:=Tryz.isAgg4
 z4:=Tryz.sizeOf4
 v4:=Tryz.zeroValue4
 t22:=Tryz.underlying31
 a22:=Tryz.isAgg31
 z22:=Tryz.sizeOf31
 v22:=Tryz.zeroValue31
 t40:=Tryz.underlying139
 a40:=Tryz.isAgg139
 z40:=Tryz.sizeOf139
 v40:=Tryz.zeroValue139 }
open Go.RowKit Go.Lib in
theorem Tryz.slices_BinarySearch_int(b off n c:Nat)(zs:List Int)(x:Int)(w:World)(hz:n<=zs.length)(hbig:n<4611686018427387904)(hc:∀j,j<zs.length->w.cell? ⟨b,off+j,none⟩=some (.int .i64 (zs.getD j 0)))(hs:(zs.take n).Pairwise (·<=·)):
  Calls Tryz.prog 193 #[.slice (some ⟨b,off,none⟩) n c,.int .i64 x] w λe w'=>e=.returned (.tuple #[.int .i64 ((zs.take n).countP (·<x):Nat),.bool ((zs.take n).contains x)])/\∃q,w'=w.drewN q:=Any.slices_BinarySearch_int Tryz.laysNm225 b off n c zs x w hz hbig hc hs
open Go.RowKit Go.Sort in
theorem Tryz.slices_Sort_int_none(p:Option Addr)(cap:Nat)(w:World):
  Calls Tryz.prog 94 #[.slice p 0 cap] w λe w'=>e=.returned (.tuple #[])/\w'=w:=Any.slices_Sort_int_none Tryz.lays189 p cap w
open Go.RowKit Go.Lib in
theorem Tryz.slices_BinarySearch_int_empty(a:Option Addr)(c:Nat)(x:Int)(w:World):
  Calls Tryz.prog 193 #[.slice a 0 c,.int .i64 x] w λe w'=>e=.returned (.tuple #[.int .i64 0,.bool false])/\w'=w:=Any.slices_BinarySearch_int_empty Tryz.laysNm225 a c x w
def Tryz.Dz:Go.Shelf.Ren:=⟨λ| 7=>98|n=>n,λ| 22=>3|4=>4|n=>n,λ| n=>n⟩
theorem Tryz.Ja:Go.Proofs.SlLaysC2.n7 Tryz.prog Tryz.Dz:={
 mixed:=by kernel_rfl
 f7:=⟨Tryz.f98.name,by decide,Tryz.func98.trans (congrArg some (by kernel_rfl))⟩
 t4:=Tryz.underlying4
 a4:=Tryz.isAgg4
 z4:=Tryz.sizeOf4
 v4:=Tryz.zeroValue4
 t22:=Tryz.underlying3
 a22:=Tryz.isAgg3
 z22:=Tryz.sizeOf3
 v22:=Tryz.zeroValue3 }
open Go.Lib in
theorem Tryz.cmp_isNaN_int(x:Int)(w:World):
  Calls Tryz.prog 98 #[.int .i64 x] w λe w'=>e=.returned (.bool false)/\w'=w:=AnyG.cmp_isNaN_int Tryz.Ja x w
def Tryz.DA:Go.Shelf.Ren:=⟨λ| 5=>48|7=>98|n=>n,λ| 22=>3|3=>3|4=>4|n=>n,λ| n=>n⟩
theorem Tryz.Jb:Go.Proofs.SlLaysC2.n5 Tryz.prog Tryz.DA:={
 mixed:=by kernel_rfl
 f5:=⟨Tryz.f48.name,by decide,Tryz.func48.trans (congrArg some (by kernel_rfl))⟩
 f7:=⟨Tryz.f98.name,by decide,Tryz.func98.trans (congrArg some (by kernel_rfl))⟩
 t3:=Tryz.underlying3
 a3:=Tryz.isAgg3
 z3:=Tryz.sizeOf3
 v3:=Tryz.zeroValue3
 t4:=Tryz.underlying4
 a4:=Tryz.isAgg4
 z4:=Tryz.sizeOf4
 v4:=Tryz.zeroValue4
 t22:=Tryz.underlying3
 a22:=Tryz.isAgg3
 z22:=Tryz.sizeOf3
 v22:=Tryz.zeroValue3 }
open Go.Lib in
theorem Tryz.cmp_Compare_int(x y:Int)(w:World):
  Calls Tryz.prog 48 #[.int .i64 x,.int .i64 y] w λe w'=>e=.returned (.int .i64 (Lib.compareInt x y))/\w'=w:=AnyG.cmp_Compare_int Tryz.Jb x y w
def Tryz.KG:Go.Shelf.Ren:=⟨λ| 6=>304|15=>163|14=>327|28=>237|29=>238|20=>332|21=>333|22=>334|23=>335|24=>336|25=>337|26=>338|27=>339|46=>342|47=>295|48=>296|49=>343|50=>344|57=>346|n=>n,λ| 22=>306|24=>252|25=>305|3=>3|39=>139|0=>0|53=>199|55=>201|4=>4|46=>286|45=>285|50=>110|5=>5|9=>9|66=>331|70=>335|76=>369|77=>152|n=>n,λ| n=>n⟩
theorem Tryz.sortSeat:Go.Proofs.SlLaysF0.n6 Tryz.prog Tryz.KG:={
 mixed:=by kernel_rfl
 f6:=⟨Tryz.f304.name,by decide,Tryz.func304.trans (congrArg some (by kernel_rfl))⟩
 f14:=⟨Tryz.f327.name,by decide,Tryz.func327.trans (congrArg some (by kernel_rfl))⟩
 f15:=Tryz.func163.trans (congrArg some (by kernel_rfl))
 f20:=⟨Tryz.f332.name,by decide,Tryz.func332.trans (congrArg some (by kernel_rfl))⟩
 f21:=⟨Tryz.f333.name,by decide,Tryz.func333.trans (congrArg some (by kernel_rfl))⟩
 f22:=⟨Tryz.f334.name,by decide,Tryz.func334.trans (congrArg some (by kernel_rfl))⟩
 f23:=⟨Tryz.f335.name,by decide,Tryz.func335.trans (congrArg some (by kernel_rfl))⟩
 f24:=⟨Tryz.f336.name,by decide,Tryz.func336.trans (congrArg some (by kernel_rfl))⟩
 f25:=⟨Tryz.f337.name,by decide,Tryz.func337.trans (congrArg some (by kernel_rfl))⟩
 f26:=⟨Tryz.f338.name,by decide,Tryz.func338.trans (congrArg some (by kernel_rfl))⟩
 f27:=⟨Tryz.f339.name,by decide,Tryz.func339.trans (congrArg some (by kernel_rfl))⟩
 f28:=Tryz.func237.trans (congrArg some (by kernel_rfl))
 f29:=Tryz.func238.trans (congrArg some (by kernel_rfl))
 f46:=⟨Tryz.f342.name,by decide,Tryz.func342.trans (congrArg some (by kernel_rfl))⟩
 f47:=Tryz.func295.trans (congrArg some (by kernel_rfl))
 f48:=Tryz.func296.trans (congrArg some (by kernel_rfl))
 f49:=⟨Tryz.f343.name,by decide,Tryz.func343.trans (congrArg some (by kernel_rfl))⟩
 f50:=⟨Tryz.f344.name,by decide,Tryz.func344.trans (congrArg some (by kernel_rfl))⟩
 f57:=⟨Tryz.f346.name,by decide,Tryz.func346.trans (congrArg some (by kernel_rfl))⟩
 t0:=Tryz.underlying0
 a0:=Tryz.isAgg0
 z0:=Tryz.sizeOf0
 v0:=Tryz.zeroValue0
 t3:=Tryz.underlying3
 a3:=Tryz.isAgg3
 z3:=Tryz.sizeOf3
 v3:=Tryz.zeroValue3
 t4:=Tryz.underlying4
 a4:=Tryz.isAgg4
 z4:=Tryz.sizeOf4
 v4:=Tryz.zeroValue4
 t5:=Tryz.underlying5
 a5:=Tryz.isAgg5
 z5:=Tryz.sizeOf5
 v5:=Tryz.zeroValue5
 t9:=Tryz.underlying9
 a9:=Tryz.isAgg9
 z9:=Tryz.sizeOf9
 v9:=Tryz.zeroValue9
 t22:=Tryz.underlying306
 a22:=Tryz.isAgg306
 z22:=Tryz.sizeOf306
 v22:=Tryz.zeroValue306
 t25:=Tryz.underlying305
 a25:=Tryz.isAgg305
 z25:=Tryz.sizeOf305
 v25:=Tryz.zeroValue305
 t39:=Tryz.underlying139
 a39:=Tryz.isAgg139
 z39:=Tryz.sizeOf139
 v39:=Tryz.zeroValue139
 t45:=Tryz.underlying285
 a45:=Tryz.isAgg285
 z45:=Tryz.sizeOf285
 v45:=Tryz.zeroValue285
 t46:=Tryz.underlying286
 a46:=Tryz.isAgg286
 z46:=Tryz.sizeOf286
 v46:=Tryz.zeroValue286
 t50:=Tryz.underlying110
 a50:=Tryz.isAgg110
 z50:=Tryz.sizeOf110
 v50:=Tryz.zeroValue110
 t53:=Tryz.underlying199
 a53:=Tryz.isAgg199
 z53:=Tryz.sizeOf199
 v53:=Tryz.zeroValue199
 t55:=Tryz.underlying201
 a55:=Tryz.isAgg201
 z55:=Tryz.sizeOf201
 v55:=Tryz.zeroValue201
 t66:=Tryz.underlying331
 a66:=Tryz.isAgg331
 z66:=Tryz.sizeOf331
 v66:=Tryz.zeroValue331
 t70:=Tryz.underlying335
 a70:=Tryz.isAgg335
 z70:=Tryz.sizeOf335
 v70:=Tryz.zeroValue335
 t76:=Tryz.underlying369
 a76:=Tryz.isAgg369
 z76:=Tryz.sizeOf369
 v76:=Tryz.zeroValue369
 t77:=Tryz.underlying152
 a77:=Tryz.isAgg152
 z77:=Tryz.sizeOf152
 v77:=Tryz.zeroValue152 }
end Go.Proofs
