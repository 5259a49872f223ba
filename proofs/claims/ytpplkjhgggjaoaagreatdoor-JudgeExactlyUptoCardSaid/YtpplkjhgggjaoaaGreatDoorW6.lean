import Derived.Test.YtpplkjhgggjaoaaGreatDoorProg
import Derived.ChangeArms
import Derived.OpenShut
import Derived.Test.YtpplkjhgggjaoaaGreatDoorRows
import Derived.LaidHandle
import Derived.WordedOn
import Derived.ChangeSame
import Derived.Carry
import Derived.Test.YtpplkjhgggjaoaaGreatDoorW5
/- A part of the proof of JudgeExactly. -/
set_option linter.unusedVariables false
set_option linter.unusedSimpArgs false
set_option maxRecDepth 100000
open List renaming length_cons→zA,length_append→jA,not_mem_nil→kA,length_nil→jB,toArray→vB,mem_cons→kB,append_assoc→qE,getElem?_eq_getElem→kF,nil_append→jG,range→kG,mem_append→qH,map_cons→xK,getElem?_eq_none→vL,cons_append→jN,ext_getElem?→aBk,map_nil→aCe
open Bool renaming and_eq_true→xB,eq_iff_iff→qN
open Go.Sg.Rp renaming int→qC,aO→vG
open Go.Sg.Expr renaming cells→zC,ok→jF,mk→qG,aj→aAi,rp→aAF
open Go.Value renaming int→xC,bool→aAB
open Go.IntKind renaming wrap→vC
open Go.Sg.Approval renaming cells→zD
open Go.Sg.Interest renaming cells→jD,rp→kM
open Go.Sg.Policy renaming cells→kD,ok→zN
open Go.Sg.OSeat renaming cells→jE,enc→aAl
open Nat renaming le_refl→xG,zero_le→jL,lt_or_ge→jP,blt→kR
open Go.Sg.Appoint renaming rp→xH,cells→jR
open Go.Obj renaming cells→kH
open Go.Deferred renaming ofValue→kJ
open Go.Sg.Budget renaming cells→zK,rp→aAk
open Go.Result renaming andThen_ok→zM
open Go.Sg.HF renaming le→jM
open Go.Sg.Deputy renaming cells→vN,rp→aAq
open Go.Sem renaming run_bind→xP
open Option.some renaming injEq→kQ,inj→vT
open Go.Addr renaming add→jT
open Go.Frame renaming enter→aAb
open Go.Sg.Expr.ok renaming of→aAf
open Array renaming replicate→aAL
open Prod.mk renaming injEq→aBG
open Go.Sg.Rule renaming cells→aBN
open Go.RowKit renaming Below→aCD

namespace Go.Sg
theorem U.{u}{α : Sort u}{a:α}:a=a:=rfl
theorem kr{p:Prop}(h:p:=by kernel_rfl):p:=h
theorem ob{p:Prop}(h:p:=by first|assumption|omega|(simp only[] ;assumption)|(simp only[decide_eq_true_eq,decide_eq_false_iff_not,Bool.and_eq_true,Bool.or_eq_true,Bool.not_eq_true',Bool.not_eq_false',Bool.and_eq_false_iff,Bool.or_eq_false_iff,beq_iff_eq,beq_eq_false_iff_ne,bne_iff_ne,bne_eq_false_iff_eq,List.length_append,List.length_cons,List.length_nil,List.length_drop]at *;omega)):p:=h
theorem lo{p:Prop}(h:p:=by simp only[List.length_append,List.length_cons,List.length_nil,List.length_take,List.length_drop];omega):p:=h
theorem ap{p:Prop}(h:p:=by first|rfl|(simp only[List.append_assoc,List.cons_append,List.nil_append,List.append_nil];done)|(simp only[List.append_assoc,List.cons_append,List.nil_append,List.append_nil];rfl)|(rw[List.append_nil]<;>rfl)|(simp only[dropNth,List.append_assoc,List.cons_append,List.nil_append,List.append_nil];done)):p:=h
theorem lc{p:Prop}(h:p:=by first|omega|(simp only[List.length_nil,List.length_cons]at *;omega)):p:=h
theorem rd{p:Prop}(h:p:=by repeat (first|exact trivial|refine⟨rfl,?_⟩)):p:=h
theorem jn{h:HF}{K L:LH}(hs:K.Sublist L:=by repeat (first|exact List.Sublist.refl _|exact List.nil_sublist _|exact List.sublist_append_left _ _|refine List.Sublist.cons_cons _ ?_|refine List.Sublist.cons _ ?_)):Jst h K h L:=Bb hs
theorem js{K L:LH}(hs:K.Sublist L:=by repeat (first|exact List.Sublist.refl _|exact List.nil_sublist _|exact List.sublist_append_left _ _|refine List.Sublist.cons_cons _ ?_|refine List.Sublist.cons _ ?_)):K.Sublist L:=hs
theorem mh{G L:LH}(h:∀p∈G,p∈L:=by intro p hp;simp only[List.mem_append,List.mem_cons,hp,true_or,or_true]):∀p∈G,p∈L:=h
theorem ei{α : Type}{R:Rp α}{enc:α->List Value}(h:∀h cs x,R.rep h cs x->cs=enc x:=by exact λ_ _ _ e=>e):∀h cs x,R.rep h cs x->cs=enc x:=h
theorem lf{h:HF}:h.le h:=HF.le_refl h
theorem xf{p:Prop}(h:p:=by first|exact λ_ _ _ h=>h.elim|exact λ_ _ _ _ h=>h.elim):p:=h
theorem cb{a b:Bool}(h:a=b):aAB a=aAB b:=congrArg aAB h
theorem cs{a b:Bool}(h:a=b):aAB b=aAB a:=congrArg aAB h.symm
theorem ci{a b:Int}(h:a=b):xC .i64 b=xC .i64 a:=congrArg (xC .i64) h.symm
abbrev O(l:List Value)(t:Nat):Obj:=kH l.toArray t (0,0)
abbrev Y(x:Int):Value:=.int .u8 x
abbrev Q(b:Nat):Value:=.pointer (some ⟨b,0,none⟩)
abbrev I(x:Int):Value:=.int .i64 x
theorem HF.le.t{a b c:HF}(x:a.le b)(y:b.le c):a.le c:=HF.le_trans x y
section
variable {P:Program} {b:Frame} {n:Nat} {k:List Item} {F:List Frame->(Machine->Prop)->Prop} {ds:List Deferred} {X:Cx}
theorem tf(i:Nat){l:List Oper}{h1:HF}{K:LH}{m d:Nat}{oi:Oper}{v:Value}{dn:List Nat}{e:Env}{h:HF}{L:LH}(hi:nth l i=some oi)(hd:oi.dst=some d)(hr:∀h' L',Jst h1 K h' L'->∀w,St X h' L' w->(execOp e.ev oi).run P w=.ok (.value v) w)(t:TA P b n l.toArray k F ds X (Jst h1 K) m (i::dn) (upd e d v) h L)(hsep:sepAll l.toArray=true:=by assumption)(hJ:Jst h1 K h L:=by exact jn)(hn:(nexts l.toArray dn).contains i=true:=by kernel_rfl)(hg:guardB l.toArray e oi=true:=by rfl):TA P b n l.toArray k F ds X (Jst h1 K) (m+1) dn e h L:=
 i9 i hsep hJ hi hd hn hg hr t
theorem tm(i:Nat){l:List Oper}{h1:HF}{K:LH}{m d:Nat}{x:Operand}{ty:TypeId}{pos:String}{af:Array Edge}{g:Option (Nat×Bool)}{dn:List Nat}{e:Env}{h:HF}{L:LH}(hi:nth l i=some ⟨some d,.move x,ty,pos,af,g⟩)(t:TA P b n l.toArray k F ds X (Jst h1 K) m (i::dn) (upd e d (e.ev x)) h L)(hsep:sepAll l.toArray=true:=by assumption)(hJ:Jst h1 K h L:=by exact jn)(hn:(nexts l.toArray dn).contains i=true:=by kernel_rfl)(hg:guardB l.toArray e ⟨some d,.move x,ty,pos,af,g⟩=true:=by rfl):TA P b n l.toArray k F ds X (Jst h1 K) (m+1) dn e h L:=
 i9 i hsep hJ hi rfl hn hg (λ_ _ _=>mE) t
theorem tk(i:Nat){l:List Oper}{h1:HF}{K:LH}{m d:Nat}{oi:Oper}{dn:List Nat}{e:Env}{h:HF}{L:LH}(hi:nth l i=some oi)(hd:oi.dst=some d)(t:TA P b n l.toArray k F ds X (Jst h1 K) m (i::dn) (upd e d undef) h L)(hsep:sepAll l.toArray=true:=by assumption)(hJ:Jst h1 K h L:=by exact jn)(hn:(nexts l.toArray dn).contains i=true:=by kernel_rfl)(hg:guardB l.toArray e oi=false:=by rfl):TA P b n l.toArray k F ds X (Jst h1 K) (m+1) dn e h L:=
 mt i hsep hJ hi hd hn hg t
theorem tn(i:Nat){l:List Oper}{h1:HF}{K:LH}{m:Nat}{oi:Oper}{dn:List Nat}{e:Env}{h:HF}{L:LH}(hi:nth l i=some oi)(t:Stp P b n l.toArray F ds X oi e h L λe' h' L'=>Jst h1 K h' L'/\TA P b n l.toArray k F ds X (Jst h1 K) m (i::dn) e' h' L')(hn:nexts l.toArray dn=[i]:=by kernel_rfl):TA P b n l.toArray k F ds X (Jst h1 K) (m+1) dn e h L:=
 Qm i hn hi t
theorem sr{id:Nat}{l:List Oper}{y:Code}{e:Env}{h:HF}{L:LH}(t:TO P b n l.toArray l (.code y::k) F e ds X h L):TT P b n (.code (.seq (.region id l.toArray false) y)::k) F e ds X h L:=el (bE t)
theorem an{ops:Array Oper}{d:Nat}{x:Operand}{ty:TypeId}{pos:String}{af:Array Edge}{g:Option (Nat×Bool)}{e:Env}{h:HF}{L:LH}(t:TT P b n k F (upd e d (e.ev x)) ds X h L)(hd:Nat.blt d n=true:=by rfl)(hg:guardB ops e ⟨some d,.assign x,ty,pos,af,g⟩=true:=by rfl):TO P b n ops [⟨some d,.assign x,ty,pos,af,g⟩] k F e ds X h L:=gj (aJ t) hd hg
theorem kq{ops:Array Oper}{l:List Oper}{d d':Nat}{op op':Op}{ty ty':TypeId}{pos pos':String}{af af':Array Edge}{g g':Option (Nat×Bool)}{e:Env}{h:HF}{L:LH}(t:TO P b n ops l k F (upd (upd e d undef) d' undef) ds X h L)(hd:Nat.blt d n=true:=by rfl)(hg:guardB ops e ⟨some d,op,ty,pos,af,g⟩=false:=by rfl)(hd':Nat.blt d' n=true:=by rfl)(hg':guardB ops (upd e d undef) ⟨some d',op',ty',pos',af',g'⟩=false:=by rfl):TO P b n ops (⟨some d,op,ty,pos,af,g⟩::⟨some d',op',ty',pos',af',g'⟩::l) k F e ds X h L:=HW (HW t hd' hg') hd hg
def runA(l:List Oper):List Nat->Nat->List Nat->Env->Option (Nat×List Nat×Env)
 |[],m,dn,e=>some (m,dn,e)
 |i::is,m,dn,e=>match m with
  |0=>none
  |m+1=>match nth l i with
   |some ⟨some d,op,ty,pos,af,g⟩=>match guardB l.toArray e ⟨some d,op,ty,pos,af,g⟩with
    |false=>runA l is m (i::dn) (upd e d undef)
    |true=>match opQ e op with
     |some v=>runA l is m (i::dn) (upd e d v)
     |none=>none
   |_=>none
def allNext(l:List Oper):List Nat->List Nat->Bool
 |[],_=>true
 |i::is,dn=>(nexts l.toArray dn).contains i&&allNext l is (i::dn)
theorem DN{l:List Oper}{h1:HF}{K:LH}{h:HF}{L:LH}(hsep:sepAll l.toArray=true)(hJ:Jst h1 K h L):∀(is:List Nat)(m:Nat)(dn:List Nat)(e:Env){m':Nat}{dn':List Nat}{e':Env},runA l is m dn e=some (m',dn',e')->allNext l is dn=true->TA P b n l.toArray k F ds X (Jst h1 K) m' dn' e' h L->TA P b n l.toArray k F ds X (Jst h1 K) m dn e h L
 |[],m,dn,e,_,_,_,hr,_,t=>by cases hr;exact t
 |i::is,0,dn,e,_,_,_,hr,_,_=>by simp[runA]at hr
 |i::is,m+1,dn,e,_,_,_,hr,hn,t=>by
  simp only[allNext,xB]at hn
  simp only[runA]at hr
  split at hr
  .next hi=>
   split at hr
   .next hg=>exact mt i hsep hJ hi rfl hn.1 hg (DN hsep hJ is m _ _ hr hn.2 t)
   .next hg=>
    split at hr
    .next v hv=>exact i9 i hsep hJ hi rfl hn.1 hg (λ_ _ _ w _=>(HV hv).2 _ _ _ _ _ w) (DN hsep hJ is m _ _ hr hn.2 t)
    .cases hr
  .cases hr
theorem qA(is:List Nat){l:List Oper}{h1:HF}{K:LH}{m:Nat}{dn:List Nat}{e:Env}{h:HF}{L:LH}{m':Nat}{dn':List Nat}{e':Env}(hr:runA l is m dn e=some (m',dn',e'))(t:TA P b n l.toArray k F ds X (Jst h1 K) m' dn' e' h L)(hsep:sepAll l.toArray=true:=by assumption)(hJ:Jst h1 K h L:=by exact jn)(hn:allNext l is dn=true:=by kernel_rfl):TA P b n l.toArray k F ds X (Jst h1 K) m dn e h L:=DN hsep hJ is m dn e hr hn t
theorem qR(a c:Nat){l:List Oper}{h1:HF}{K:LH}{m:Nat}{dn:List Nat}{e:Env}{h:HF}{L:LH}{m':Nat}{dn':List Nat}{e':Env}(hr:runA l (List.range' a c) m dn e=some (m',dn',e'))(t:TA P b n l.toArray k F ds X (Jst h1 K) m' dn' e' h L)(hsep:sepAll l.toArray=true:=by assumption)(hJ:Jst h1 K h L:=by exact jn)(hn:allNext l (List.range' a c) dn=true:=by kernel_rfl):TA P b n l.toArray k F ds X (Jst h1 K) m dn e h L:=DN hsep hJ _ m dn e hr hn t
def opB(tF:List (Nat×Nat×Nat))(e:Env):Op->Option Value
 |.fieldAddr s x i=>match e.ev x,look3 tF s i with
  |.pointer (some a),some off=>some (.pointer (some (a.add off)))
  |_,_=>none
 |op=>opQ e op
theorem Qz{tF:List (Nat×Nat×Nat)}(hT:(tF.all λx=>fldOf P x.1 x.2.1==some x.2.2)=true){op:Op}{e:Env}{v:Value}(hv:opB tF e op=some v)(h:HF)(L:LH)(d:Option Nat)(ty:TypeId)(pos:String)(af:Array Edge)(g:Option (Nat×Bool)):∀w,St X h L w->(execOp e.ev ⟨d,op,ty,pos,af,g⟩).run P w=.ok (.value v) w:=by
 unfold opB at hv
 split at hv
 .split at hv
  .next hx hl=>
   cases hv
   exact tx (by simpa using(List.all_eq_true.1 hT) _ (Cc hl)) hx
  .cases hv
 .exact λw _=>(HV hv).2 _ _ _ _ _ w
def runB(tF:List (Nat×Nat×Nat))(l:List Oper):List Nat->Nat->List Nat->Env->Option (Nat×List Nat×Env)
 |[],m,dn,e=>some (m,dn,e)
 |i::is,m,dn,e=>match m with
  |0=>none
  |m+1=>match nth l i with
   |some ⟨some d,op,ty,pos,af,g⟩=>match guardB l.toArray e ⟨some d,op,ty,pos,af,g⟩with
    |false=>runB tF l is m (i::dn) (upd e d undef)
    |true=>match opB tF e op with
     |some v=>runB tF l is m (i::dn) (upd e d v)
     |none=>none
   |_=>none
theorem DM{tF:List (Nat×Nat×Nat)}(hT:(tF.all λx=>fldOf P x.1 x.2.1==some x.2.2)=true){l:List Oper}{h1:HF}{K:LH}{h:HF}{L:LH}(hsep:sepAll l.toArray=true)(hJ:Jst h1 K h L):∀(is:List Nat)(m:Nat)(dn:List Nat)(e:Env){m':Nat}{dn':List Nat}{e':Env},runB tF l is m dn e=some (m',dn',e')->allNext l is dn=true->TA P b n l.toArray k F ds X (Jst h1 K) m' dn' e' h L->TA P b n l.toArray k F ds X (Jst h1 K) m dn e h L
 |[],m,dn,e,_,_,_,hr,_,t=>by cases hr;exact t
 |i::is,0,dn,e,_,_,_,hr,_,_=>by simp[runB]at hr
 |i::is,m+1,dn,e,_,_,_,hr,hn,t=>by
  simp only[allNext,xB]at hn
  simp only[runB]at hr
  split at hr
  .next hi=>
   split at hr
   .next hg=>exact mt i hsep hJ hi rfl hn.1 hg (DM hT hsep hJ is m _ _ hr hn.2 t)
   .next hg=>
    split at hr
    .next v hv=>exact i9 i hsep hJ hi rfl hn.1 hg (λh' L' _ w hw=>Qz hT hv h' L' _ _ _ _ _ w hw) (DM hT hsep hJ is m _ _ hr hn.2 t)
    .cases hr
  .cases hr
theorem tu{ops:Array Oper}{h1 h2:HF}{K:LH}(hle:h1.le h2){m:Nat}{dn:List Nat}{e:Env}{h:HF}{L:LH}(t:TA P b n ops k F ds X (Jst h2 K) m dn e h L):TA P b n ops k F ds X (Jst h1 K) m dn e h L:=nQ hle (λ_ hp=>hp) t
end
theorem jl{h h2:HF}{K L:LH}(hle:h.le h2)(hs:K.Sublist L:=by repeat (first|exact List.Sublist.refl _|exact List.nil_sublist _|exact List.sublist_append_left _ _|refine List.Sublist.cons_cons _ ?_|refine List.Sublist.cons _ ?_)):Jst h K h2 L:=⟨hle,λ_ hp=>hs.subset hp⟩
theorem sw{p:Prop}(h:p:=by first|exact λw hw=>hw|(intro w hw;first|simpa only[List.append_assoc,List.cons_append,List.nil_append,List.append_nil]using hw|(simp only[List.append_assoc,List.cons_append,List.nil_append,List.append_nil]at hw ⊢;exact hw))):p:=h
section
variable {P:Program} {b:Frame} {n:Nat} {k:List Item} {F:List Frame->(Machine->Prop)->Prop} {ds:List Deferred} {X:Cx} {ops:Array Oper} {l:List Oper} {d:Nat} {op:BinOp} {t u ty:TypeId} {x y:Operand} {pos:String} {af:Array Edge} {g:Option (Nat×Bool)} {e:Env} {h:HF} {L:LH}
theorem oi(i:Nat)(hv:binV op (e.ev x) (e.ev y)=some (.int .i64 (IntKind.i64.wrap ((i:Int)+1))))(t':TO P b n ops l k F (upd e d (.int .i64 (((i+1):Nat):Int))) ds X h L)(hb:i<9223372036854775807:=by exact ob)(hd:Nat.blt d n=true:=by rfl)(hg:guardB ops e ⟨some d,.binOp op t x y u,ty,pos,af,g⟩=true:=by rfl):
  TO P b n ops (⟨some d,.binOp op t x y u,ty,pos,af,g⟩::l) k F e ds X h L:=iQ hv (KW hb) t' hd hg
theorem tO{a:Bool}(ha:a=true)(hv:binV op (e.ev x) (e.ev y)=some (.bool a))(t':TO P b n ops l k F (upd e d (.bool true)) ds X h L)(hd:Nat.blt d n=true:=by rfl)(hg:guardB ops e ⟨some d,.binOp op t x y u,ty,pos,af,g⟩=true:=by rfl):
  TO P b n ops (⟨some d,.binOp op t x y u,ty,pos,af,g⟩::l) k F e ds X h L:=iQ hv (cb ha) t' hd hg
theorem fO{a:Bool}(ha:a=false)(hv:binV op (e.ev x) (e.ev y)=some (.bool a))(t':TO P b n ops l k F (upd e d (.bool false)) ds X h L)(hd:Nat.blt d n=true:=by rfl)(hg:guardB ops e ⟨some d,.binOp op t x y u,ty,pos,af,g⟩=true:=by rfl):
  TO P b n ops (⟨some d,.binOp op t x y u,ty,pos,af,g⟩::l) k F e ds X h L:=iQ hv (cb ha) t' hd hg
end
section
variable {P:Program} {d:Option Nat} {ty t:TypeId} {pos:String} {af:Array Edge} {g:Option (Nat×Bool)} {x:Operand} {m bk off T:Nat} {fz:Nat×Nat} {cl cs:List Value} {v:Value} {e:Env} {X:Cx} {h1:HF} {K:LH} {q:Addr}
theorem rj(i:Nat)(hT:tySz P t=some (m,false))(hx:e.ev x=.pointer (some ⟨bk,off,none⟩))(hi:nth K i=some (bk,kH cl.toArray T fz))(hv:nth cl off=some v):∀h' L',Jst h1 K h' L'->∀w,St X h' L' w->(execOp e.ev ⟨d,.load t x,ty,pos,af,g⟩).run P w=.ok (.value v) w:=λ_ _ hj=>zw hT hx (hj.nth hi) hv
theorem rh(hT:tySz P t=some (m,false))(ha:At h1 q (v::cs))(hx:e.ev x=.pointer (some q)):∀h' L',Jst h1 K h' L'->∀w,St X h' L' w->(execOp e.ev ⟨d,.load t x,ty,pos,af,g⟩).run P w=.ok (.value v) w:=λ_ _ hj=>Qv hT (ha.mono hj.1) hx
theorem rH(j:Nat)(hT:tySz P t=some (m,false))(ha:At h1 q cs)(hx:e.ev x=.pointer (some (q.add j)))(hv:nth cs j=some v):∀h' L',Jst h1 K h' L'->∀w,St X h' L' w->(execOp e.ev ⟨d,.load t x,ty,pos,af,g⟩).run P w=.ok (.value v) w:=λ_ _ hj=>P8 j hT (ha.mono hj.1) hx hv
end
section
variable {P:Program} {b:Frame} {n:Nat} {ops:Array Oper} {F:List Frame->(Machine->Prop)->Prop} {ds:List Deferred} {X:Cx} {e:Env} {h:HF} {L:LH} {d:Option Nat} {ty:TypeId} {pos:String} {af:Array Edge} {g:Option (Nat×Bool)} {K:Env->HF->LH->Prop} {α : Type} {R:Rp α} {t E:TypeId} {x ix:Operand} {a:Bool} {base:Option Addr} {m cap:Nat} {xs:List α} {y:α} {i:Nat}
theorem iF(enc:α->List Value)(hT:P.underlying t=some (.slice E))(hS:tySz P E=some (R.sz,a))(hR:SlB R h base xs)(hj:xs[i]? = some y)(hx:e.ev x=.slice base m cap)(hm:m=xs.length)(hix:e.ev ix=.int .i64 (i:Int))(t':∀q,At h q (enc y)->K (pute e d (.pointer (some q))) h L)(hR':∀h cs x,R.rep h cs x->cs=enc x:=by exact λ_ _ _ e=>e)(hg:guardB ops e ⟨d,.indexAddr t x ix,ty,pos,af,g⟩=true:=by rfl):Stp P b n ops F ds X ⟨d,.indexAddr t x ix,ty,pos,af,g⟩ e h L K:=na hR' hT hS hR (nthZ hj) (fq hj) hx hm hix t' hg
theorem iG(hT:P.underlying t=some (.slice E))(hS:tySz P E=some (R.sz,a))(hR:SlB R h base xs)(hj:xs[i]? = some y)(hx:e.ev x=.slice base m cap)(hm:m=xs.length)(hix:e.ev ix=.int .i64 (i:Int))(t':∀q cs,At h q cs->cs.length=R.sz->R.rep h cs y->K (pute e d (.pointer (some q))) h L)(hg:guardB ops e ⟨d,.indexAddr t x ix,ty,pos,af,g⟩=true:=by rfl):Stp P b n ops F ds X ⟨d,.indexAddr t x ix,ty,pos,af,g⟩ e h L K:=Lw hT hS hR (nthZ hj) (fq hj) hx hm hix t' hg
theorem iR{ρ : Type}{C:α->ρ->List Value}{ok:HF->α->ρ->Prop}(hT:P.underlying t=some (.slice E))(hS:tySz P E=some (R.sz,a))(hR:SlB R h base xs)(hj:xs[i]? = some y)(hx:e.ev x=.slice base m cap)(hm:m=xs.length)(hix:e.ev ix=.int .i64 (i:Int))(hC:∀h cs y,R.rep h cs y->∃r,cs=C y r/\ok h y r)(t':∀q r,At h q (C y r)->ok h y r->K (pute e d (.pointer (some q))) h L)(hg:guardB ops e ⟨d,.indexAddr t x ix,ty,pos,af,g⟩=true:=by rfl):Stp P b n ops F ds X ⟨d,.indexAddr t x ix,ty,pos,af,g⟩ e h L K:=si hT hS hR (nthZ hj) (fq hj) hx hm hix hC t' hg
end
theorem cE{α : Type}(y:α){R:Rp α}{h:HF}{cs:List Value}(hl:cs.length=R.sz)(hr:R.rep h cs y):bI R h cs [y]:=⟨cs,[],by simp,hl,hr,rfl⟩
end Go.Sg

namespace Go.Sg
open Go.Proofs
abbrev dY := @Tryz.underlying31
abbrev lB := @Tryz.underlying60
abbrev m6 := @Tryz.underlying3
abbrev nA := @Tryz.underlying27
abbrev uo := @Tryz.underlying25
abbrev wF := @Tryz.func5
abbrev wi := @Tryz.underlying59
abbrev wh := @Tryz.call100
abbrev yz := @Tryz.underlying26
abbrev zk := @Tryz.underlying28
abbrev rX := @Tryz.call363
abbrev rW := @Tryz.underlying57
abbrev ur := @Tryz.underlying32
abbrev uq := @Tryz.call51
abbrev vy := @Tryz.underlying58
abbrev vx := @Tryz.underlying24
abbrev Ay := @Tryz.underlying9
abbrev vw := @Tryz.call47
abbrev wG := @Tryz.underlying23
abbrev yO := @Tryz.call324
abbrev Aw := @Tryz.call149
abbrev Av := @Tryz.underlying190
abbrev Au := @Tryz.func195
abbrev CB := @Tryz.call201
abbrev CA := @Tryz.call207
abbrev DY := @Tryz.underlying22
abbrev DX := @Tryz.call90
abbrev tz_27 := @Tryz.underlying4
abbrev DW := @Tryz.func205
abbrev DV := @Tryz.func27
abbrev DU := @Tryz.call227
abbrev GE := @Tryz.call175
abbrev GD := @Tryz.func329
abbrev GC := @Tryz.func280
abbrev GB := @Tryz.call103
abbrev GA := @Tryz.underlying270
abbrev Gz := @Tryz.underlying56
abbrev Gy := @Tryz.func50
abbrev Gx := @Tryz.call48
abbrev IC := @Tryz.underlying182
abbrev IB := @Tryz.call132
abbrev IA := @Tryz.call281
abbrev Iz := @Tryz.call199
abbrev Iy := @Tryz.func208
abbrev Ix := @Tryz.underlying153
abbrev Iw := @Tryz.func22
abbrev Iv := @Tryz.underlying236
abbrev Iu := @Tryz.underlying67
abbrev It := @Tryz.underlying129
abbrev Is := @Tryz.call11
abbrev Ir := @Tryz.call243
abbrev Iq := @Tryz.call228
abbrev Ip := @Tryz.call307
abbrev Io := @Tryz.call252
abbrev Lm := @Tryz.underlying64
abbrev NH := @Tryz.underlying30
abbrev Ll := @Tryz.underlying267
abbrev Lk := @Tryz.underlying279
abbrev Lj := @Tryz.underlying284
abbrev Li := @Tryz.call282
abbrev Lh := @Tryz.func278
abbrev Lg := @Tryz.func279
abbrev Le := @Tryz.func277
abbrev Rr := @Tryz.func211
abbrev Ld := @Tryz.underlying162
abbrev Lc := @Tryz.func31
abbrev Lb := @Tryz.underlying193
abbrev La := @Tryz.func255
abbrev K9 := @Tryz.ntmps50
abbrev K8 := @Tryz.call50
abbrev K7 := @Tryz.func249
abbrev Rq := @Tryz.underlying5
abbrev NF := @Tryz.underlying274
abbrev NE := @Tryz.call89
abbrev ND := @Tryz.call202
abbrev NC := @Tryz.call200
abbrev NB := @Tryz.call284
abbrev NA := @Tryz.underlying20
abbrev Nz := @Tryz.func323
abbrev Ny := @Tryz.func185
abbrev Nx := @Tryz.call125
abbrev Nw := @Tryz.underlying37
abbrev tz_82 := @Tryz.underlying0
abbrev P4 := @Tryz.underlying249
abbrev Nv := @Tryz.func288
abbrev Nu := @Tryz.func105
abbrev Nt := @Tryz.func262
abbrev Ns := @Tryz.underlying240
abbrev Nr := @Tryz.func275
abbrev Nq := @Tryz.call88
abbrev Np := @Tryz.func16
abbrev Nn := @Tryz.call13
abbrev Nm := @Tryz.func167
abbrev Nl := @Tryz.func333
abbrev Nk := @Tryz.func293
abbrev Nj := @Tryz.underlying68
abbrev Ni := @Tryz.func177
abbrev Nh := @Tryz.func330
abbrev Ng := @Tryz.func186
abbrev Nf := @Tryz.call97
abbrev Kj := @Tryz.call27
abbrev Ki := @Tryz.underlying126
abbrev Kh := @Tryz.call157
abbrev Kg := @Tryz.call160
end Go.Sg

namespace Go.Sg
open Go.Proofs Go.Proofs.Tryz
set_option maxHeartbeats 2000000
def hOf(w:World):HF:=λb=>w.heap[b]?
theorem pre_hOf(w:World):Pre (hOf w) [] w:=⟨λ_ _ h=>h,λ_ hp=>(kA hp).elim,List.nodup_nil,λ_ hp=>(kA hp).elim⟩
theorem Mm{w:World}{a:Addr}{v:Value}(h:w.cell? a=some v):a.spot=none/\∃c T fz,w.heap[a.block]? = some (.cells c T fz)/\c[a.off]? = some v:=by
 unfold World.cell? at h
 split at h
 .next c T fz e=>
  split at h
  .cases h
  .next hs=>exact⟨by simpa using hs,c,T,fz,e,h⟩
 .cases h
theorem Jj{α β : Type}{f:α->Option β}:∀{l:List α}{r:List β},l.mapM f=some r->l.length=r.length/\∀(j:Nat)(x:α),l[j]? = some x->f x=r[j]?
 |[],r,h=>by simp at h;subst h;exact⟨rfl,λj x hj=>by simp at hj⟩
 |a::l,r,h=>by
  rw[List.mapM_cons]at h
  simp only[Option.bind_eq_bind,Option.bind_eq_some_iff,Option.pure_def,kQ]at h
  obtain⟨b,hb,r',hr,rfl⟩:=h
  obtain⟨h1,h2⟩:=Jj hr
  refine⟨by simp[h1],λj x hj=>?_⟩
  cases j with
  |zero=>simp at hj;subst hj;simpa using hb
  |succ j=>simpa using h2 j x (by simpa using hj)
theorem O5{w:World}{base n:Nat}{a:Addr}{cs:List Value}(hn:0<n)(h:w.cells? base a n=some cs):At (hOf w) a cs/\cs.length=n:=by
 unfold World.cells? at h
 split at h
 .obtain⟨h1,h2⟩:=Jj h
  rw[List.length_range]at h1
  have hc:∀j v,cs[j]? = some v->w.cell? (a.add j)=some v:=λj v hv=>by
   have hj:=(List.getElem?_eq_some_iff.1 hv).1
   rw[h2 j j (List.getElem?_range (by omega))];exact hv
  obtain⟨v,hv⟩:∃v,cs[0]? = some v:=⟨cs[0],kF (by omega)⟩
  obtain⟨s1,c,T,fz,s2,s3⟩:=Mm (hc 0 v hv)
  have hsp:a.spot=none:=by simpa[jT]using s1
  have hbl:∀j,(a.add j).block=a.block/\(a.add j).off=a.off+j:=λj=>by
   unfold jT
   split
   .next e=>subst e;exact⟨rfl,rfl⟩
   .exact⟨rfl,rfl⟩
  refine⟨⟨c,T,fz,?_,hsp,λj u hu=>?_⟩,h1.symm⟩
  .rw[(hbl 0).1]at s2;exact s2
  .obtain⟨_,c',T',fz',t2,t3⟩:=Mm (hc j u hu)
   rw[(hbl j).1]at t2
   rw[(hbl 0).1,t2]at s2
   cases s2
   rw[(hbl j).2]at t3;exact t3
 .cases h
def szL{α : Type}(f:α->Nat):List α->Nat
 |[]=>0
 |x::xs=>f x+szL f xs
theorem D7{α : Type}(f:α->Nat):∀(l r:List α),szL f (l++r)=szL f l+szL f r
 |[],r=>by simp[szL]
 |x::l,r=>by simp[szL,D7 f l r,Nat.add_assoc]
theorem szL_len{α : Type}{f:α->Nat}(hf:∀x,1<=f x):∀(l:List α),l.length<=szL f l
 |[]=>xG _
 |x::l=>by have:=szL_len hf l;have:=hf x;simp[szL];omega
theorem HA{α : Type}{f:α->Nat}{x:α}:∀{l:List α},x∈l->f x<=szL f l
 |y::l,h=>by
  rcases kB.1 h with rfl|h
  .simp[szL]
  .have:=HA (f:=f) h;simp[szL];omega
theorem Lr:∀(l:List Expr),szL Expr.dep l=Expr.depL l
 |[]=>rfl
 |y::l=>by simp[szL,Expr.depL,Lr l]
open YtpplkjhgggjaoaaGreatDoor.Rows in
theorem bulk_one{H:Type}(d:DataW H):1<=uptoBulk d:=by
 cases d with
 |lit l=>cases l<;>simp[uptoBulk]
 |nil=>simp[uptoBulk]
 |ptr d=>simp[uptoBulk]
 |slice elems spare=>simp[uptoBulk]
 |agg parts=>simp[uptoBulk]
 |iface t d=>simp[uptoBulk]
 |map entries=>simp[uptoBulk]
 |held h=>simp[uptoBulk]
open YtpplkjhgggjaoaaGreatDoor.Rows in
theorem J9{H:Type}(l r:List (DataW H)):uptoBulkAll (l++r)=uptoBulkAll l+uptoBulkAll r:=by
 induction l with
 |nil=>simp[uptoBulkAll]
 |cons x l ih=>simp only[jN,uptoBulkAll,ih];omega
section opn
open YtpplkjhgggjaoaaGreatDoor.Rows
variable {H:Type} {enc:TypeId×Value->H} {P:Program} {w:World} {base:Nat} {sp:Nat->Bool} {held:Bool}
def Opn(enc:TypeId×Value->H)(P:Program)(w:World)(base:Nat)(sp:Nat->Bool)(held:Bool){α : Type}(T:TypeId)(R:Rp α)(sz:α->Nat)(fuel:Nat):Prop:=
 ∀cs d ps,DataW.trod enc P w base sp held fuel T cs=some (d,ps)->∃x,R.rep (hOf w) cs x/\sz x<=uptoBulk d
theorem opn_slice{α : Type}{R:Rp α}{sz:α->Nat}{T E:TypeId}{fuel:Nat}(ht:P.underlying T=some (.slice E))(hc:P.cellsOf E=R.sz)(hp:0<R.sz)(he:∀n,fuel=n+1->Opn enc P w base sp held E R sz n){cs:List Value}{d:DataW H}{ps:List MemPlace}(h:DataW.trod enc P w base sp held fuel T cs=some (d,ps)):∃b c xs,cs=[.slice b (List.length xs) c]/\SlC R (hOf w) b c xs/\szL sz xs+1<=uptoBulk d:=by
 rcases DataW.trod_slice ht h with⟨rfl,e⟩|⟨a,len,cap,elems,rest,n,hn,rfl,hx,h1,h2,h3,h4,h5,_,_⟩
 .cases e
  exact⟨none,0,[],rfl,SlC.nil,by simp[szL,uptoBulk]⟩
 .cases hx
  have key:∀k,k<=len->∃xs:List α,xs.length=k/\(∀i x,xs[i]? = some x->∃cs',At (hOf w) (a.add (i*R.sz)) cs'/\cs'.length=R.sz/\R.rep (hOf w) cs' x)/\szL sz xs<=uptoBulkAll ((elems.take k).map (·.1)):=by
   intro k
   induction k with
   |zero=>exact λ_=>⟨[],rfl,λi x hx=>by simp at hx,by simp[szL]⟩
   |succ k ih=>
    intro hk
    obtain⟨xs,e1,e2,e3⟩:=ih (by omega)
    have hkl:k<elems.length:=by omega
    have c0:=h5 k (by omega)
    rw[kF hkl]at c0
    obtain⟨cs',c1,c2⟩:=Option.bind_eq_some_iff.1 c0
    rw[hc]at c1
    obtain⟨x,x1,x2⟩:=he n hn _ _ _ c2
    obtain⟨k1,k2⟩:=O5 hp c1
    refine⟨xs++[x],by simp[e1],λi y hy=>?_,?_⟩
    .rcases jP i xs.length with hi|hi
     .rw[List.getElem?_append_left hi]at hy;exact e2 i y hy
     .rw[List.getElem?_append_right hi]at hy
      have hi2:i=k:=by
       have:=(List.getElem?_eq_some_iff.1 hy).1
       simp at this;omega
      subst hi2
      rw[show i-xs.length=0 from by omega]at hy
      simp at hy;subst hy
      exact⟨cs',k1,k2,x1⟩
    .rw[D7,List.take_add_one,List.map_append,J9,kF hkl]
     simp only[szL,Option.toList_some,xK,aCe,uptoBulkAll]
     have x3:sz x<=uptoBulk (elems[k]).1:=x2
     omega
  obtain⟨xs,e1,e2,e3⟩:=key len (xG _)
  refine⟨some a,cap,xs,by rw[e1],⟨⟨?_,λi x hx=>?_⟩,by omega⟩,?_⟩
  .have:maxLen<=9223372036854775807:=by decide
   omega
  .obtain⟨cs',k1,k2,k3⟩:=e2 i x hx
   exact⟨a,cs',rfl,k1,k2,k3⟩
  .rw[List.take_of_length_le (by omega)]at e3
   simp only[uptoBulk]
   omega
theorem opn_int{T:TypeId}(ht:P.underlying T=some (.int .i64))(n:Nat):Opn enc P w base sp held T qC (λ_=>1) n:=by
 intro cs d ps h
 refine(?_:∃x,Rp.int.rep (hOf w) cs x).imp λ_ h=>⟨h,bulk_one d⟩
 cases n with
 |zero=>simp[DataW.trod]at h
 |succ n=>
  unfold DataW.trod at h
  rw[ht]at h
  split at h<;>simp_all
  next k k' z e=>
   obtain⟨⟨h1,_⟩,h2,_⟩:=h
   subst h1
   exact⟨z,by first|rfl|(subst e;rfl)|(cases e;rfl)⟩
theorem Qy{T:TypeId}(ht:P.underlying T=some (.int .u8))(n:Nat):Opn enc P w base sp held T ⟨1,λ_ cs(x:Int)=>cs=[.int .u8 x]⟩ (λ_=>1) n:=by
 intro cs d ps h
 refine(?_:∃x:Int,cs=[.int .u8 x]).imp λ_ h=>⟨h,bulk_one d⟩
 cases n with
 |zero=>simp[DataW.trod]at h
 |succ n=>
  unfold DataW.trod at h
  rw[ht]at h
  split at h<;>simp_all
theorem uw{T:TypeId}(ht:P.underlying T=some .bool)(n:Nat):Opn enc P w base sp held T Rp.bool (λ_=>1) n:=by
 intro cs d ps h
 obtain⟨b,rfl,_⟩:=DataW.trod_bool ht h
 exact⟨b,rfl,bulk_one d⟩
theorem AZ{T:TypeId}(ht:P.underlying T=some .string)(n:Nat):Opn enc P w base sp held T Rp.str (λ_=>1) n:=by
 intro cs d ps h
 refine(?_:∃x,Rp.str.rep (hOf w) cs x).imp λ_ h=>⟨h,bulk_one d⟩
 cases n with
 |zero=>simp[DataW.trod]at h
 |succ n=>
  unfold DataW.trod at h
  rw[ht]at h
  split at h<;>simp_all
  all_goals exact⟨_,rfl⟩
def TrF(enc:TypeId×Value->H)(P:Program)(w:World)(base:Nat)(sp:Nat->Bool)(held:Bool)(fuel:Nat):List TypeId->List Value->List (DataW H)->Prop
 |[],cs,ds=>cs=[]/\ds=[]
 |t::ts,cs,ds=>∃c cs' d ds' p,cs=c++cs'/\ds=d::ds'/\DataW.trod enc P w base sp held fuel t c=some (d,p)/\TrF enc P w base sp held fuel ts cs' ds'
def contig(P:Program):List Field->Nat->Option Nat
 |[],o=>some o
 |f::fs,o=>if f.offset=o then contig P fs (o+P.cellsOf f.type)else none
theorem NK{n:Nat}{cs:List Value}:∀(fs:List Field)(xs:List (DataW H×List MemPlace))(o:Nat),xs.length=fs.length->contig P fs o=some cs.length ->
  (∀(i:Nat)(f:Field),fs[i]? = some f->DataW.trod enc P w base sp held n f.type ((cs.drop f.offset).take (P.cellsOf f.type))=xs[i]?)->TrF enc P w base sp held n (fs.map (·.type)) (cs.drop o) (xs.map (·.1))
 |[],xs,o,hl,hc,_=>by
  simp only[contig,kQ]at hc
  subst hc
  rw[jB,List.length_eq_zero_iff]at hl
  subst hl
  exact⟨by simp,rfl⟩
 |f::fs,[],o,hl,hc,hx=>by simp at hl
 |f::fs,x::xs,o,hl,hc,hx=>by
  unfold contig at hc
  split at hc
  .next ho=>
   have h0:=hx 0 f rfl
   rw[ho]at h0
   simp only[List.getElem?_cons_zero]at h0
   refine⟨(cs.drop o).take (P.cellsOf f.type),cs.drop (o+P.cellsOf f.type),x.1,xs.map (·.1),x.2,?_,rfl,h0,NK fs xs _ (by simpa using hl) hc (λi g hg=>by simpa using hx (i+1) g (by simpa using hg))⟩
   rw[←List.drop_drop,List.take_append_drop]
  .cases hc
theorem lC{T:TypeId}{fs:Array Field}{fuel:Nat}{cs:List Value}{d:DataW H}{ps:List MemPlace}(ht:P.underlying T=some (.struct fs))(hk:contig P fs.toList 0=some (P.cellsOf T))(h:DataW.trod enc P w base sp held fuel T cs=some (d,ps)):
  ∃n ds,fuel=n+1/\d=.agg ds/\TrF enc P w base sp held n (fs.toList.map (·.type)) cs ds:=by
 obtain⟨xs,n,hn,hx,hl,hlen,hf⟩:=DataW.trod_struct ht h
 cases hx
 refine⟨n,_,hn,rfl,?_⟩
 have:=NK (enc:=enc) (w:=w) (base:=base) (sp:=sp) (held:=held) (n:=n) (cs:=cs) fs.toList xs 0 (by simpa using hlen) (by rw[hk,hl]) (λi f hi=>hf i f (by simpa using hi))
 simpa using this
theorem MO{T E:TypeId}{m:Nat}(ht:P.underlying T=some (.array m E))(hE:P.underlying E=some (.int .u8))(hc:P.cellsOf E=1)(hcT:P.cellsOf T=m){n:Nat}{cs:List Value}{d:DataW H}{ps:List MemPlace}(h:DataW.trod enc P w base sp held n T cs=some (d,ps)):∃f:Nat->Int,cs=(kG m).map λi=>xC .u8 (f i):=by
 obtain⟨xs,k,hk,hx,hl,hlen,hf⟩:=DataW.trod_array ht h
 rw[hcT]at hl
 have h1:∀i,∃z:Int,i<m->cs[i]? = some (.int .u8 z):=by
  intro i
  rcases jP i m with hi|hi
  .have h0:=hf i hi
   rw[hc,Nat.mul_one,kF (by omega)]at h0
   obtain⟨z,hz,_⟩:=Qy (enc:=enc) (w:=w) (base:=base) (sp:=sp) (held:=held) hE k _ _ _ h0
   refine⟨z,λ_=>?_⟩
   have hz':(cs.drop i).take 1=[.int .u8 z]:=hz
   have:=congrArg (·[0]?) hz'
   simpa using this
  .exact⟨0,λh=>by omega⟩
 obtain⟨f,hf'⟩:=Classical.axiomOfChoice h1
 refine⟨f,aBk λi=>?_⟩
 rcases jP i m with hi|hi
 .rw[hf' i hi];simp[hi]
 .rw[vL (by omega)];simp[hi]
end opn
section openings
variable {H:Type} {enc:TypeId×Value->H} {w:World} {base:Nat} {sp:Nat->Bool} {held:Bool}
theorem I9(n:Nat):Opn enc prog w base sp held 89 xH (λ_=>1) n:=by
 intro cs d ps h
 obtain⟨m,ds,rfl,rfl,c0,_,d0,_,p0,rfl,rfl,h0,c1,_,d1,_,p1,rfl,rfl,h1,c2,_,d2,_,p2,rfl,rfl,h2,c3,_,d3,_,p3,rfl,rfl,h3,c4,_,d4,_,p4,rfl,rfl,h4,c5,_,d5,_,p5,rfl,rfl,h5,c6,_,d6,_,p6,rfl,rfl,h6,rfl,rfl⟩:=lC (fs:=_) underlying89 (by kernel_rfl) h
 obtain⟨x0,rfl,_⟩:=(opn_int (by kernel_rfl)) m _ _ _ h0
 obtain⟨x1,rfl,_⟩:=(opn_int (by kernel_rfl)) m _ _ _ h1
 obtain⟨x2,rfl,_⟩:=(opn_int (by kernel_rfl)) m _ _ _ h2
 obtain⟨x3,rfl,_⟩:=(opn_int (by kernel_rfl)) m _ _ _ h3
 obtain⟨x4,rfl,_⟩:=(opn_int (by kernel_rfl)) m _ _ _ h4
 obtain⟨x5,rfl,_⟩:=(opn_int (by kernel_rfl)) m _ _ _ h5
 obtain⟨x6,rfl,_⟩:=(uw (by kernel_rfl)) m _ _ _ h6
 exact⟨⟨x0,x1,x2,x3,x4,x5,x6⟩,rfl,bulk_one _⟩
theorem Ky(n:Nat):Opn enc prog w base sp held 93 aAq (λ_=>1) n:=by
 intro cs d ps h
 obtain⟨m,ds,rfl,rfl,c0,_,d0,_,p0,rfl,rfl,h0,c1,_,d1,_,p1,rfl,rfl,h1,c2,_,d2,_,p2,rfl,rfl,h2,c3,_,d3,_,p3,rfl,rfl,h3,c4,_,d4,_,p4,rfl,rfl,h4,c5,_,d5,_,p5,rfl,rfl,h5,c6,_,d6,_,p6,rfl,rfl,h6,c7,_,d7,_,p7,rfl,rfl,h7,c8,_,d8,_,p8,rfl,rfl,h8,c9,_,d9,_,p9,rfl,rfl,h9,rfl,rfl⟩:=lC (fs:=_) underlying93 (by kernel_rfl) h
 obtain⟨x0,rfl,_⟩:=(opn_int (by kernel_rfl)) m _ _ _ h0
 obtain⟨x1,rfl,_⟩:=(opn_int (by kernel_rfl)) m _ _ _ h1
 obtain⟨x2,rfl,_⟩:=(opn_int (by kernel_rfl)) m _ _ _ h2
 obtain⟨x3,rfl,_⟩:=(opn_int (by kernel_rfl)) m _ _ _ h3
 obtain⟨x4,rfl,_⟩:=(opn_int (by kernel_rfl)) m _ _ _ h4
 obtain⟨x5,rfl,_⟩:=(opn_int (by kernel_rfl)) m _ _ _ h5
 obtain⟨x6,rfl,_⟩:=(opn_int (by kernel_rfl)) m _ _ _ h6
 obtain⟨x7,rfl,_⟩:=(opn_int (by kernel_rfl)) m _ _ _ h7
 obtain⟨x8,rfl,_⟩:=(opn_int (by kernel_rfl)) m _ _ _ h8
 obtain⟨x9,rfl,_⟩:=(uw (by kernel_rfl)) m _ _ _ h9
 exact⟨⟨x0,x1,x2,x3,x4,x5,x6,x7,x8,x9⟩,rfl,bulk_one _⟩
theorem HP(n:Nat):Opn enc prog w base sp held 97 kM (λ_=>1) n:=by
 intro cs d ps h
 obtain⟨m,ds,rfl,rfl,c0,_,d0,_,p0,rfl,rfl,h0,c1,_,d1,_,p1,rfl,rfl,h1,c2,_,d2,_,p2,rfl,rfl,h2,c3,_,d3,_,p3,rfl,rfl,h3,c4,_,d4,_,p4,rfl,rfl,h4,c5,_,d5,_,p5,rfl,rfl,h5,c6,_,d6,_,p6,rfl,rfl,h6,rfl,rfl⟩:=lC (fs:=_) underlying97 (by kernel_rfl) h
 obtain⟨x0,rfl,_⟩:=(opn_int (by kernel_rfl)) m _ _ _ h0
 obtain⟨x1,rfl,_⟩:=(opn_int (by kernel_rfl)) m _ _ _ h1
 obtain⟨x2,rfl,_⟩:=(opn_int (by kernel_rfl)) m _ _ _ h2
 obtain⟨x3,rfl,_⟩:=(opn_int (by kernel_rfl)) m _ _ _ h3
 obtain⟨x4,rfl,_⟩:=(opn_int (by kernel_rfl)) m _ _ _ h4
 obtain⟨x5,rfl,_⟩:=(uw (by kernel_rfl)) m _ _ _ h5
 obtain⟨x6,rfl,_⟩:=(uw (by kernel_rfl)) m _ _ _ h6
 exact⟨⟨x0,x1,x2,x3,x4,x5,x6⟩,rfl,bulk_one _⟩
theorem Kz(n:Nat):Opn enc prog w base sp held 101 aAk (λ_=>1) n:=by
 intro cs d ps h
 obtain⟨m,ds,rfl,rfl,c0,_,d0,_,p0,rfl,rfl,h0,c1,_,d1,_,p1,rfl,rfl,h1,c2,_,d2,_,p2,rfl,rfl,h2,c3,_,d3,_,p3,rfl,rfl,h3,c4,_,d4,_,p4,rfl,rfl,h4,c5,_,d5,_,p5,rfl,rfl,h5,c6,_,d6,_,p6,rfl,rfl,h6,c7,_,d7,_,p7,rfl,rfl,h7,rfl,rfl⟩:=lC (fs:=_) underlying101 (by kernel_rfl) h
 obtain⟨x0,rfl,_⟩:=(opn_int (by kernel_rfl)) m _ _ _ h0
 obtain⟨x1,rfl,_⟩:=(opn_int (by kernel_rfl)) m _ _ _ h1
 obtain⟨x2,rfl,_⟩:=(opn_int (by kernel_rfl)) m _ _ _ h2
 obtain⟨x3,rfl,_⟩:=(opn_int (by kernel_rfl)) m _ _ _ h3
 obtain⟨x4,rfl,_⟩:=(opn_int (by kernel_rfl)) m _ _ _ h4
 obtain⟨x5,rfl,_⟩:=(opn_int (by kernel_rfl)) m _ _ _ h5
 obtain⟨x6,rfl,_⟩:=(opn_int (by kernel_rfl)) m _ _ _ h6
 obtain⟨x7,rfl,_⟩:=(uw (by kernel_rfl)) m _ _ _ h7
 exact⟨⟨x0,x1,x2,x3,x4,x5,x6,x7⟩,rfl,bulk_one _⟩
abbrev Expr.hold(x:Expr):Nat:=x.dep
theorem I8(n:Nat):Opn enc prog w base sp held 62 aAF Expr.hold n:=by
 induction n using Nat.strongRecOn with
 |_ n ih=>
 intro cs d ps h
 obtain⟨m,ds,rfl,rfl,c0,_,d0,_,p0,rfl,rfl,h0,c1,_,d1,_,p1,rfl,rfl,h1,c2,_,d2,_,p2,rfl,rfl,h2,c3,_,d3,_,p3,rfl,rfl,h3,c4,_,d4,_,p4,rfl,rfl,h4,rfl,rfl⟩:=lC (fs:=_) underlying62 (by kernel_rfl) h
 obtain⟨x0,rfl,_⟩:=(opn_int (by kernel_rfl)) m _ _ _ h0
 obtain⟨x1,rfl,_⟩:=(opn_int (by kernel_rfl)) m _ _ _ h1
 obtain⟨x2,rfl,_⟩:=(opn_int (by kernel_rfl)) m _ _ _ h2
 obtain⟨x3,rfl,_⟩:=(AZ (by kernel_rfl)) m _ _ _ h3
 obtain⟨b4,k4,x4,rfl,o4,q4⟩:=opn_slice lB (by kernel_rfl) (by decide) (λk hk=>ih k (by omega)) h4
 refine⟨qG x0 x1 x2 x3 x4,⟨⟨b4,k4⟩,rfl,aAf o4⟩,?_⟩
 rw[Lr]at q4
 simp only[Expr.hold,Expr.dep,YtpplkjhgggjaoaaGreatDoor.Rows.uptoBulk,YtpplkjhgggjaoaaGreatDoor.Rows.uptoBulkAll]at *
 omega
def Rule.hold(x:Rule):Nat:=Expr.hold x.Expr+1
theorem Oh(n:Nat):Opn enc prog w base sp held 79 Rule.rp Rule.hold n:=by
 intro cs d ps h
 obtain⟨m,ds,rfl,rfl,c0,_,d0,_,p0,rfl,rfl,h0,c1,_,d1,_,p1,rfl,rfl,h1,c2,_,d2,_,p2,rfl,rfl,h2,c3,_,d3,_,p3,rfl,rfl,h3,rfl,rfl⟩:=lC (fs:=_) underlying79 (by kernel_rfl) h
 obtain⟨x0,rfl,_⟩:=(AZ (by kernel_rfl)) m _ _ _ h0
 obtain⟨x1,rfl,_⟩:=(opn_int (by kernel_rfl)) m _ _ _ h1
 obtain⟨x2,rfl,_⟩:=(opn_int (by kernel_rfl)) m _ _ _ h2
 obtain⟨x3,⟨r3,rfl,o3⟩,q3⟩:=I8 m _ _ _ h3
 refine⟨⟨x0,x1,x2,x3⟩,⟨⟨r3⟩,rfl,⟨o3⟩⟩,?_⟩
 simp only[Rule.hold,YtpplkjhgggjaoaaGreatDoor.Rows.uptoBulk,YtpplkjhgggjaoaaGreatDoor.Rows.uptoBulkAll]
 omega
def Policy.hold(x:Policy):Nat:=szL (λ_=>1) x.Kinds+szL (λ_=>1) x.Offices+szL Rule.hold x.Rules+Expr.hold x.Change+1
theorem Kx(n:Nat):Opn enc prog w base sp held 64 Policy.rp Policy.hold n:=by
 intro cs d ps h
 obtain⟨m,ds,rfl,rfl,c0,_,d0,_,p0,rfl,rfl,h0,c1,_,d1,_,p1,rfl,rfl,h1,c2,_,d2,_,p2,rfl,rfl,h2,c3,_,d3,_,p3,rfl,rfl,h3,c4,_,d4,_,p4,rfl,rfl,h4,c5,_,d5,_,p5,rfl,rfl,h5,rfl,rfl⟩:=lC (fs:=_) Lm (by kernel_rfl) h
 obtain⟨x0,rfl,_⟩:=(AZ (by kernel_rfl)) m _ _ _ h0
 obtain⟨b1,k1,x1,rfl,o1,q1⟩:=opn_slice vy (by kernel_rfl) (by decide) (λk _=>(AZ (by kernel_rfl)) k) h1
 obtain⟨b2,k2,x2,rfl,o2,q2⟩:=opn_slice vy (by kernel_rfl) (by decide) (λk _=>(AZ (by kernel_rfl)) k) h2
 obtain⟨b3,k3,x3,rfl,o3,q3⟩:=opn_slice wi (by kernel_rfl) (by decide) (λk _=>Oh k) h3
 obtain⟨x4,⟨r4,rfl,o4⟩,q4⟩:=I8 m _ _ _ h4
 obtain⟨x5,rfl,_⟩:=(opn_int (by kernel_rfl)) m _ _ _ h5
 refine⟨⟨x0,x1,x2,x3,x4,x5⟩,⟨⟨b1,k1,b2,k2,b3,k3,r4⟩,rfl,⟨o1,o2,o3,o4⟩⟩,?_⟩
 simp only[Policy.hold,YtpplkjhgggjaoaaGreatDoor.Rows.uptoBulk,YtpplkjhgggjaoaaGreatDoor.Rows.uptoBulkAll]
 omega
def Version.hold(x:Version):Nat:=Policy.hold x.Policy+1
theorem I7(n:Nat):Opn enc prog w base sp held 105 Version.rp Version.hold n:=by
 intro cs d ps h
 obtain⟨m,ds,rfl,rfl,c0,_,d0,_,p0,rfl,rfl,h0,c1,_,d1,_,p1,rfl,rfl,h1,c2,_,d2,_,p2,rfl,rfl,h2,c3,_,d3,_,p3,rfl,rfl,h3,rfl,rfl⟩:=lC (fs:=_) underlying105 (by kernel_rfl) h
 obtain⟨x0,rfl,_⟩:=(opn_int (by kernel_rfl)) m _ _ _ h0
 obtain⟨x1,rfl,_⟩:=(opn_int (by kernel_rfl)) m _ _ _ h1
 obtain⟨x2,rfl,_⟩:=(opn_int (by kernel_rfl)) m _ _ _ h2
 obtain⟨x3,⟨r3,rfl,o3⟩,q3⟩:=Kx m _ _ _ h3
 refine⟨⟨x0,x1,x2,x3⟩,⟨⟨r3⟩,rfl,⟨o3⟩⟩,?_⟩
 simp only[Version.hold,YtpplkjhgggjaoaaGreatDoor.Rows.uptoBulk,YtpplkjhgggjaoaaGreatDoor.Rows.uptoBulkAll]
 omega
def Document.hold(x:Document):Nat:=szL (λ_=>1) x.Parties+szL (λ_=>1) x.Revokes+szL (λ_=>1) x.Needs+1
theorem HQ(n:Nat):Opn enc prog w base sp held 51 Document.rp Document.hold n:=by
 intro cs d ps h
 obtain⟨m,ds,rfl,rfl,c0,_,d0,_,p0,rfl,rfl,h0,c1,_,d1,_,p1,rfl,rfl,h1,c2,_,d2,_,p2,rfl,rfl,h2,c3,_,d3,_,p3,rfl,rfl,h3,c4,_,d4,_,p4,rfl,rfl,h4,c5,_,d5,_,p5,rfl,rfl,h5,c6,_,d6,_,p6,rfl,rfl,h6,c7,_,d7,_,p7,rfl,rfl,h7,c8,_,d8,_,p8,rfl,rfl,h8,c9,_,d9,_,p9,rfl,rfl,h9,rfl,rfl⟩:=lC (fs:=_) underlying51 (by kernel_rfl) h
 obtain⟨x0,rfl,_⟩:=(opn_int (by kernel_rfl)) m _ _ _ h0
 obtain⟨x1,rfl,_⟩:=(opn_int (by kernel_rfl)) m _ _ _ h1
 obtain⟨x2,rfl,_⟩:=(opn_int (by kernel_rfl)) m _ _ _ h2
 obtain⟨x3,rfl,_⟩:=(opn_int (by kernel_rfl)) m _ _ _ h3
 obtain⟨x4,rfl,_⟩:=(opn_int (by kernel_rfl)) m _ _ _ h4
 obtain⟨x5,rfl,_⟩:=(opn_int (by kernel_rfl)) m _ _ _ h5
 obtain⟨b6,k6,x6,rfl,o6,q6⟩:=opn_slice dY (by kernel_rfl) (by decide) (λk _=>(opn_int (by kernel_rfl)) k) h6
 obtain⟨b7,k7,x7,rfl,o7,q7⟩:=opn_slice dY (by kernel_rfl) (by decide) (λk _=>(opn_int (by kernel_rfl)) k) h7
 obtain⟨b8,k8,x8,rfl,o8,q8⟩:=opn_slice dY (by kernel_rfl) (by decide) (λk _=>(opn_int (by kernel_rfl)) k) h8
 obtain⟨x9,rfl⟩:=MO underlying49 Rq (by kernel_rfl) (by kernel_rfl) h9
 refine⟨⟨x0,x1,x2,x3,x4,x5,x6,x7,x8,x9⟩,⟨⟨b6,k6,b7,k7,b8,k8⟩,rfl,⟨o6,o7,o8⟩⟩,?_⟩
 simp only[Document.hold,YtpplkjhgggjaoaaGreatDoor.Rows.uptoBulk,YtpplkjhgggjaoaaGreatDoor.Rows.uptoBulkAll]
 omega
theorem HR(n:Nat):Opn enc prog w base sp held 81 Approval.rp (λ_=>1) n:=by
 intro cs d ps h
 obtain⟨m,ds,rfl,rfl,c0,_,d0,_,p0,rfl,rfl,h0,c1,_,d1,_,p1,rfl,rfl,h1,c2,_,d2,_,p2,rfl,rfl,h2,c3,_,d3,_,p3,rfl,rfl,h3,c4,_,d4,_,p4,rfl,rfl,h4,c5,_,d5,_,p5,rfl,rfl,h5,c6,_,d6,_,p6,rfl,rfl,h6,c7,_,d7,_,p7,rfl,rfl,h7,rfl,rfl⟩:=lC (fs:=_) underlying81 (by kernel_rfl) h
 obtain⟨x0,rfl,_⟩:=(opn_int (by kernel_rfl)) m _ _ _ h0
 obtain⟨x1,rfl,_⟩:=(opn_int (by kernel_rfl)) m _ _ _ h1
 obtain⟨x2,rfl,_⟩:=(opn_int (by kernel_rfl)) m _ _ _ h2
 obtain⟨x3,rfl,_⟩:=(opn_int (by kernel_rfl)) m _ _ _ h3
 obtain⟨x4,rfl,_⟩:=(opn_int (by kernel_rfl)) m _ _ _ h4
 obtain⟨x5,rfl,_⟩:=(opn_int (by kernel_rfl)) m _ _ _ h5
 obtain⟨x6,rfl,_⟩:=(opn_int (by kernel_rfl)) m _ _ _ h6
 obtain⟨x7,rfl,_⟩:=(uw (by kernel_rfl)) m _ _ _ h7
 exact⟨⟨x0,x1,x2,x3,x4,x5,x6,x7⟩,rfl,bulk_one _⟩
def Register.hold(x:Register):Nat:=szL (λ_=>1) x.Appoints+szL (λ_=>1) x.Deputies+szL (λ_=>1) x.Interests+szL (λ_=>1) x.Budgets+szL Version.hold x.Versions+szL Document.hold x.Docs+szL (λ_=>1) x.Approvals+1
theorem opn_Register(n:Nat):Opn enc prog w base sp held 30 Register.rp Register.hold n:=by
 intro cs d ps h
 obtain⟨m,ds,rfl,rfl,c0,_,d0,_,p0,rfl,rfl,h0,c1,_,d1,_,p1,rfl,rfl,h1,c2,_,d2,_,p2,rfl,rfl,h2,c3,_,d3,_,p3,rfl,rfl,h3,c4,_,d4,_,p4,rfl,rfl,h4,c5,_,d5,_,p5,rfl,rfl,h5,c6,_,d6,_,p6,rfl,rfl,h6,rfl,rfl⟩:=lC (fs:=_) NH (by kernel_rfl) h
 obtain⟨b0,k0,x0,rfl,o0,q0⟩:=opn_slice DY (by kernel_rfl) (by decide) (λk _=>I9 k) h0
 obtain⟨b1,k1,x1,rfl,o1,q1⟩:=opn_slice wG (by kernel_rfl) (by decide) (λk _=>Ky k) h1
 obtain⟨b2,k2,x2,rfl,o2,q2⟩:=opn_slice vx (by kernel_rfl) (by decide) (λk _=>HP k) h2
 obtain⟨b3,k3,x3,rfl,o3,q3⟩:=opn_slice uo (by kernel_rfl) (by decide) (λk _=>Kz k) h3
 obtain⟨b4,k4,x4,rfl,o4,q4⟩:=opn_slice yz (by kernel_rfl) (by decide) (λk _=>I7 k) h4
 obtain⟨b5,k5,x5,rfl,o5,q5⟩:=opn_slice nA (by kernel_rfl) (by decide) (λk _=>HQ k) h5
 obtain⟨b6,k6,x6,rfl,o6,q6⟩:=opn_slice zk (by kernel_rfl) (by decide) (λk _=>HR k) h6
 refine⟨⟨x0,x1,x2,x3,x4,x5,x6⟩,⟨⟨b0,k0,b1,k1,b2,k2,b3,k3,b4,k4,b5,k5,b6,k6⟩,rfl,⟨o0,o1,o2,o3,o4,o5,o6⟩⟩,?_⟩
 simp only[Register.hold,YtpplkjhgggjaoaaGreatDoor.Rows.uptoBulk,YtpplkjhgggjaoaaGreatDoor.Rows.uptoBulkAll]
 omega
theorem opn_Use(n:Nat):Opn enc prog w base sp held 111 Use.rp (λ_=>1) n:=by
 intro cs d ps h
 obtain⟨m,ds,rfl,rfl,c0,_,d0,_,p0,rfl,rfl,h0,c1,_,d1,_,p1,rfl,rfl,h1,c2,_,d2,_,p2,rfl,rfl,h2,c3,_,d3,_,p3,rfl,rfl,h3,c4,_,d4,_,p4,rfl,rfl,h4,rfl,rfl⟩:=lC (fs:=_) underlying111 (by kernel_rfl) h
 obtain⟨x0,rfl,_⟩:=(opn_int (by kernel_rfl)) m _ _ _ h0
 obtain⟨x1,rfl,_⟩:=(opn_int (by kernel_rfl)) m _ _ _ h1
 obtain⟨x2,rfl,_⟩:=(opn_int (by kernel_rfl)) m _ _ _ h2
 obtain⟨x3,rfl,_⟩:=(opn_int (by kernel_rfl)) m _ _ _ h3
 obtain⟨x4,rfl,_⟩:=(opn_int (by kernel_rfl)) m _ _ _ h4
 exact⟨⟨x0,x1,x2,x3,x4⟩,rfl,bulk_one _⟩
end openings
theorem Qq{p:Policy}(h:Policy.hold p<=1048576):smP p:=by
 unfold Policy.hold Expr.hold at h
 have h1:=szL_len (f:=λ_:ByteArray=>1) (λ_=>xG _) p.Kinds
 have h2:=szL_len (f:=λ_:ByteArray=>1) (λ_=>xG _) p.Offices
 have h3:=szL_len (f:=Rule.hold) (λx=>by unfold Rule.hold;omega) p.Rules
 refine⟨by omega,λr hr=>?_,by omega,by omega,by omega⟩
 have h4:=HA (f:=Rule.hold) hr
 unfold Rule.hold Expr.hold at h4
 have:szL (λx=>Rule.hold x) p.Rules=szL Rule.hold p.Rules:=rfl
 unfold Rule.hold Expr.hold at this h
 omega
theorem Qp{l:List Version}(h:szL Version.hold l<=1048576):smV l:=by
 have h1:=szL_len (f:=Version.hold) (λx=>by unfold Version.hold;omega) l
 refine⟨by omega,λv hv=>Qq ?_⟩
 have h2:=HA (f:=Version.hold) hv
 have h3:Policy.hold v.Policy<=Version.hold v:=by unfold Version.hold;omega
 omega
theorem smR_of{r:Register}(h:Register.hold r<=1048576):smR r:=by
 unfold Register.hold at h
 have h1:=szL_len (f:=λ_:Appoint=>1) (λ_=>xG _) r.Appoints
 have h2:=szL_len (f:=λ_:Deputy=>1) (λ_=>xG _) r.Deputies
 have h3:=szL_len (f:=λ_:Interest=>1) (λ_=>xG _) r.Interests
 have h4:=szL_len (f:=λ_:Budget=>1) (λ_=>xG _) r.Budgets
 have h5:=szL_len (f:=Document.hold) (λx=>by unfold Document.hold;omega) r.Docs
 have h6:=szL_len (f:=λ_:Approval=>1) (λ_=>xG _) r.Approvals
 exact⟨Qp (by omega),by omega,by omega,by omega,by omega,by omega,by omega⟩
end Go.Sg

namespace Go.Sg
def Ra(P:Program)(f:FuncId)(X:Cx)(v:Value)(cs:List Frame)(Φ : Machine->Prop):Prop:=
 X.M=[]/\∀fr w',aCD X.w0.heap.size X.w0 w'->fr.fn=f->fr.leaving P w' (.returned v)->To P Φ (lone fr cs w')
theorem J8{P:Program}{f:FuncId}{fn:Func}{c:Code}{n:Nat}{args:List Value}{h:HF}{v:Value}{w:World}(hp:Pre h [] w)(hf:P.funcs[f]? = some fn)(hb:fn.body=some c)(hn:fn.ntmps=n)(hle:Nat.ble args.length n=true)(t:∀X:Cx,X.M=([]:LH).map (·.1)->X.h0=h->TT P (bodyFrame f) n [.code c] (Ra P f X v) (envArgs args) [] X h []):Calls P f args.toArray w λe w'=>e=.returned v/\aCD w.heap.size w w':=by
 intro cs
 have hle:=Nat.le_of_ble_eq_true hle
 have henter:aAb P f args.toArray .normal=(bodyFrame f).atR { tmps:=args.toArray++aAL (n-args.length) undef,defers:=[] } [.code c]:=by
  simp[aAb,Frame.atR,hf,hb,hn,bodyFrame]
 obtain⟨m',s,w',fr,rfl,h1,h2,h3⟩:=t ⟨w,h,[]⟩ rfl rfl w (St.start hp) { tmps:=args.toArray++aAL (n-args.length) undef,defers:=[] } cs
  (λm=>∃w' fr,m=lone fr cs w'/\aCD w.heap.size w w'/\fr.fn=f/\fr.leaving P w' (.returned v)) (by simp;omega) (oz _ _) rfl
  ⟨rfl,λfr w' hb hfn hl=>.now ⟨w',fr,rfl,hb,hfn,hl⟩⟩
 refine⟨.returned v,w',fr,⟨rfl,h1⟩,?_,h2,h3⟩
 rw[henter];exact s
section ending
variable {P:Program} {f:FuncId} {n:Nat} {k:List Item} {e:Env} {X:Cx} {h:HF} {L:LH} {fn:Func}
theorem kj{rs:List ResultVar}{v:Value}{hh:HF}(vs:List Value)(hf:P.funcs[f]? = some fn)(hr:fn.results=rs.toArray)(_:X.h0=hh)(hv:tJ P e L rs vs)(hvv:retVal vs=v):
  TT P (bodyFrame f) n (.code .ret::k) (Ra P f X v) e [] X h L:=by
 intro w hw a cs Φ hn he hds hF
 exact .step (stepR_ret rfl) (hF.2 _ w (hw.below hF.1) rfl ⟨rfl,hds,rfl,fn,hf,hvv▸mA hr hv a he w hw⟩)
end ending
end Go.Sg

namespace Go.Sg
open Go.Proofs Go.Proofs.Tryz
theorem MW{P:Program}{w:World}{sp:Nat->Bool}{m:Nat}{E:TypeId}{ps rs:Array TypeId}{vd:Bool}{c:List Value}{b:UInt8}{r:List UInt8}{p:List MemPlace}(hE:P.underlying E=some (.func ps rs vd))(h:DataW.trod (funcToken P) P w 0 sp true m E c=some (.held (b::r),p)):∃f fn,c=[.func (.func f) #[] #[]]/\P.funcs[f]? = some fn/\P.funcNamed fn.name=some f/\fn.name.toUTF8.data.toList=b::r:=by
 cases m with
 |zero=>simp[DataW.trod]at h
 |succ m=>
  unfold DataW.trod at h
  rw[hE]at h
  split at h<;>try (simp_all;done)
  next fn fi ca _ _=>
   simp only[if_true,kQ,aBG,DataW.held.injEq]at h
   obtain⟨f,g,e,h1,h2,h3⟩:=funcToken_tells h.1
   exact⟨f,g,by rw[e],h1,h2,h3⟩
theorem PL{P:Program}{k:FuncId}{g:Func}{f:FuncId}{fn:Func}{l:List UInt8}(hg:P.funcNamed g.name=some k)(hl:g.name.toUTF8.data.toList=l)(h2:P.funcNamed fn.name=some f)(h3:fn.name.toUTF8.data.toList=l):f=k:=by
 have:fn.name=g.name:=bytes_inj (h3.trans hl.symm)
 rw[this,hg]at h2
 exact(vT h2).symm
theorem NO{α : Type}{l:List α}{i:Nat}{x:α}(h:(l.drop i).take 1=[x]):l[i]? = some x:=by
 have:=congrArg (·[0]?) h
 simpa using this
theorem kinds_of{W:World}(hL:laidMetH prog YtpplkjhgggjaoaaGreatDoor.Rows.judgeReasonUptoRow.laid W):Kinds (hOf W):=by
 obtain⟨d, hd⟩ : ∃d, (YtpplkjhgggjaoaaGreatDoor.Rows.laid_signatory_policies_kinds : DataW Unit) = .iface "func table" d := ⟨_, rfl⟩
 obtain⟨g,t,cs,fuel,p,hg,ht,hv,hr⟩:=hL.funcs (d:=d) (by rw[←hd];exact List.mem_cons_self ..)
 unfold World.var? at hv
 rw[hg]at hv
 obtain rfl:g=0:=vT (hg.symm.trans (by kernel_rfl))
 obtain rfl:t=365:=vT (ht.symm.trans (by kernel_rfl))
 obtain⟨xs,m,_,hx,hl,hlen,hf⟩:=DataW.trod_array (n:=5) (e:=168) (by kernel_rfl) hr
 rw[show prog.cellsOf 365=5 by kernel_rfl]at hl
 rw[show prog.cellsOf 168=1 by kernel_rfl]at hf
 unfold YtpplkjhgggjaoaaGreatDoor.Rows.laid_signatory_policies_kinds at hd
 cases hd
 simp only[DataW.funcsOut,DataW.funcsOutAll,aBG]at hx
 match xs,hlen with
 |[x0,x1,x2,x3,x4],_=>
  simp only[xK,aCe,beq_self_eq_true,if_true,DataW.agg.injEq,List.cons.injEq,and_true]at hx
  have key:∀(i:Nat)(x:DataW (List UInt8)×List MemPlace)(b:UInt8)(r:List UInt8)(k:FuncId)(fk:Func),i<5->[x0,x1,x2,x3,x4][i]? = some x->DataW.held (b::r)=x.1->prog.funcNamed fk.name=some k->fk.name.toUTF8.data.toList=b::r->cs.toList[i]? = some (.func (.func k) #[] #[]):=by
   intro i x b r k fk hi hxi hb hk hn
   have h0:=hf i hi
   rw[hxi,Nat.mul_one]at h0
   obtain⟨f,fn,e,_,h2,h3⟩:=MW (P:=prog) (E:=168) underlying168 (h0.trans (show some x=some (DataW.held (b::r),x.2) by rw[hb]))
   obtain rfl:=PL hk hn h2 h3
   exact NO e
  obtain⟨⟨e0,e1,e2,e3,e4⟩,_⟩:=hx
  have k0:=key 0 x0 _ _ 405 Tryz.f405 (by omega) rfl e0 (by kernel_rfl) (by kernel_rfl)
  have k1:=key 1 x1 _ _ 406 Tryz.f406 (by omega) rfl e1 (by kernel_rfl) (by kernel_rfl)
  have k2:=key 2 x2 _ _ 407 Tryz.f407 (by omega) rfl e2 (by kernel_rfl) (by kernel_rfl)
  have k3:=key 3 x3 _ _ 408 Tryz.f408 (by omega) rfl e3 (by kernel_rfl) (by kernel_rfl)
  have k4:=key 4 x4 _ _ 409 Tryz.f409 (by omega) rfl e4 (by kernel_rfl) (by kernel_rfl)
  have hcs:cs=kindsC.toArray:=by
   apply Array.toList_inj.1
   apply aBk
   intro i
   match i with
   |0=>exact k0
   |1=>exact k1
   |2=>exact k2
   |3=>exact k3
   |4=>exact k4
   |i+5=>rw[vL (by omega)];rfl
  simp only[Option.bind_some]at hv
  split at hv
  .next c T fz e=>
   cases hv
   exact⟨T,fz,by rw[←hcs];exact e⟩
  .cases hv
end Go.Sg

namespace Go.Sg
open Go.ChangeShapes Go.WideShapes Go.RowKit
variable {H:Type} {enc:TypeId×Value->H} {P:Program}
theorem post_below{f:Func}{s:ChangeSpec}{apart fresh handsOn again:Bool}{W W':World}{args:Array Value}{v:Value}{ds gs:List (DataW H)}{before pa pv:List MemPlace}(hW:DataW.Whole enc P f.params.toList s.vars apart W args.toList ds gs before)(hres:∀(b:Nat)(sp:Nat->Bool)(hd:Bool),DataW.TrodAll enc P W' b sp hd f.resultTypes.toList (v.resultList f.resultTypes.size) (s.fn H (ds++gs)).results [])(hargs:∀sp:Nat->Bool,(∀p∈before,sp p.block=true)->DataW.TrodAll enc P W' 0 sp true f.params.toList args.toList (s.fn H (ds++gs)).args pa)(hvars:∀sp:Nat->Bool,(∀p∈before,sp p.block=true)->DataW.TrodVars enc P W' sp s.vars (s.fn H (ds++gs)).vars pv)(hps:before=pa++pv)(hb:Below W.heap.size W W')(hok:∀(j:Nat)(t:TypeId)(r:Value),f.resultTypes[j]? = some t->(v.resultList f.resultTypes.size)[j]? = some r->Value.okWide P W' .any 0 t r):
  s.post enc P f apart fresh handsOn again W args v W':=by
 have hlt:=hW.lt
 have hold:∀p∈before,(λb=>decide (b<W.heap.size)) p.block=true:=λp hp=>by simpa using hlt p hp
 refine⟨ds,gs,before,[],pa,pv,hW,hres _ _ _,hargs _ hold,hvars _ hold,World.keptBut_mono (λp hp=>⟨hp,?_⟩) (hb.frame (·∈before)),λ_=>?_⟩
 .rw[hps,qH]at hp
  exact Or.inr hp
 .obtain⟨_,_,_,_,_,hz,hn⟩:=hW
  refine⟨hok,_,_,([]++pa)++pv,⟨[]++pa,pv,trodAll_append (hargs _ (λ_ _=>rfl)) (hres _ _ _),hvars _ (λ_ _=>rfl),rfl,?_,?_⟩,?_⟩
  .intro b off hp
   have hp':MemPlace.cell b off∈before:=by rw[hps];simpa using hp
   rw[hb.frozen (p:=⟨b,off,none⟩) (hlt _ hp')]
   exact hz b off hp'
  .intro ha
   have:=hn ha
   rw[hps]at this
   simpa using this
  .intro p hp _
   rw[hps]
   simpa using hp
theorem stays{t:TypeId}(hl:laidOutB P=true)(hr:P.readableRec t=true)(hrow:decide (t<P.types.size)=true){W W':World}{v:Value}{d:DataW H}{ps before:List MemPlace}(h:DataW.Trod enc P W 0 (λ_=>true) true t v d ps)(hb:Below W.heap.size W W')(hlt:∀x∈before,x.block<W.heap.size)(hm:∀x∈ps,x∈before){sp:Nat->Bool}(hsp:∀p∈before,sp p.block=true):DataW.Trod enc P W' 0 sp true t v d ps:=
 WideElems.Trod_stays hl hr (of_decide_eq_true hrow) h (λx hx=>hb.same (hlt x (hm x hx))) (λx hx=>hsp _ (hm x hx))
end Go.Sg

namespace Go.Sg
theorem Ke{κ α : Type}{enc:κ->Value}{V:HF->Value->α->Prop}{h:HF}:∀{es:List MapEntry}{m:List (κ×α)},oK enc V h es m->es.length=m.length
 |[],[],_=>rfl
 |_::_,(_,_)::_,⟨_,_,t⟩=>by simp[Ke t]
 |[],_::_,x=>x.elim
 |_::_,[],x=>x.elim
theorem N8{P:Program}{e:Env}{X:Cx}{h:HF}{L:LH}{d:Option Nat}{ty:TypeId}{pos:String}{af:Array Edge}{g:Option (Nat×Bool)}{κ α : Type}[DecidableEq κ]{enc:κ->Value}{V:HF->Value->α->Prop}(i:Nat){t kt vt:TypeId}{x:Operand}{bk:Nat}{o:Obj}{m:List (κ×α)}(hT:P.underlying t=some (.map kt vt))(hx:e.ev x=.map (some bk))(hL:nth L i=some (bk,o))(hm:ja enc V h o m):
  ∀w,St X h L w->(execOp e.ev ⟨d,.call ⟨.builtin .len,#[x],#[t]⟩,ty,pos,af,g⟩).run P w=.ok (.value (.int .i64 (m.length:Int))) w:=λw hw=>by
 obtain⟨m',hp,hn,es,c,rfl,hE,_⟩:=hm
 have hb:w.heap[bk]? = some (.map es.toArray c):=by
  rw[im]at hL
  exact hw.own _ (List.mem_of_getElem? hL)
 have hl:es.length=m.length:=(Ke hE).trans hp.length_eq
 have hg:(getObj bk:Sem Obj).run P w=.ok (.map es.toArray c) w:=by simp[getObj,Sem.run,hb]
 simp only[execOp,resolve,invoke,builtin]
 simp[hx,Builtin.len_,run_underlying hT,hg,goInt,hl]
end Go.Sg

namespace Go.Sg
theorem bI.rep{α : Type}{R:Rp α}{h:HF}{z:Value}{x:α}(h1:R.sz=1)(hr:R.rep h [z] x):∀m,bI R h (List.replicate m z) (List.replicate m x)
 |0=>rfl
 |m+1=>⟨[z],List.replicate m z,by simp[List.replicate_succ],h1.symm▸rfl,hr,bI.rep h1 hr m⟩
section
variable {P:Program} {b:Frame} {n:Nat} {ops:Array Oper} {F:List Frame->(Machine->Prop)->Prop} {e:Env} {ds:List Deferred} {X:Cx} {h:HF} {L:LH} {K:Env->HF->LH->Prop}
variable {d:Option Nat} {ty:TypeId} {pos:String} {af:Array Edge} {g:Option (Nat×Bool)}
theorem N0{α : Type}{R:Rp α}{x0:α}(LL:LH->LH){t E:TypeId}{ln cp:Operand}{m Aq:Nat}{z:Value}{a:Bool}(h1:R.sz=1)(hr:R.rep h [z] x0)(hLL:∀G,L++G=LL G)(hT:P.underlying t=some (.slice E))(hz:zeroC P E=some [z])(hS:tySz P E=some (1,a))(hby:bytesOf P E=some Aq)(hl:e.ev ln=.int .i64 (m:Nat))(hc:e.ev cp=.int .i64 (m:Nat))(hb:Aq*m<=281474976710656)(h63:m<=9223372036854775807)(t':∀bk G,dG R E h (List.replicate m x0) (some ⟨bk,0,none⟩) m G->K (pute e d (.slice (some ⟨bk,0,none⟩) (List.replicate m x0).length m)) h (LL G))(hg:guardB ops e ⟨d,.makeSlice t ln cp,ty,pos,af,g⟩=true:=by rfl):Stp P b n ops F ds X ⟨d,.makeSlice t ln cp,ty,pos,af,g⟩ e h L K:=
 iM hg λw hw=>by
  obtain⟨i,hi,hby'⟩:∃i,P.info? E=some i/\i.bytes=Aq:=by
   unfold bytesOf at hby
   cases hi:P.info? E with
   |none=>simp[hi]at hby
   |some i=>exact⟨i,rfl,by simpa[hi]using hby⟩
  have hsz:i.size=1:=by
   have:=gD hS w
   simpa[sizeOf,typeInfo,hi]using this
  obtain⟨zv,hzz,hzc⟩:∃zv,i.zero=some zv/\zv.cells=#[z]:=by
   unfold zeroC at hz
   cases hzz:i.zero with
   |none=>simp[hi,hzz]at hz
   |some zv=>exact⟨zv,rfl,by simp[hi,hzz]at hz;rw[lY,hz]⟩
  have hr':=run_make (P:=P) w t E i zv hT hi hzz .i64 .i64 (m:Int) (m:Int) (by omega) (Int.le_refl _) (by rw[hby'];omega) (by omega)
  have hcells:madeCells zv.cells ((m:Int).toNat*i.size)=(List.replicate m z).toArray:=by
   rw[hzc,hsz]
   apply Array.ext
   .simp[madeCells]
   .intro j h1 h2;simp[madeCells,Nat.mod_one]
  rw[hcells]at hr'
  simp only[Int.toNat_natCast]at hr'
  have hG:dG R E h (List.replicate m x0) (some ⟨w.heap.size,0,none⟩) m [(w.heap.size,.cells (List.replicate m z).toArray E (0,0))]:=dG.lit (bI.rep h1 hr m) (by simp) (by simp;omega)
  have ht:=t' w.heap.size _ hG
  rw[←hLL,show(List.replicate m x0).length=m from List.length_replicate]at ht
  refine⟨_,_,h,_,?_,(hw.alloc (.cells (List.replicate m z).toArray E (0,0))).perm (List.perm_append_comm (l₁:=[_])),ht⟩
  have e1:w.alloc (.cells (List.replicate m z).toArray E)={ w with heap:=w.heap.push (.cells (List.replicate m z).toArray E (0,0)) }:=rfl
  rw[e1]at hr'
  simp[execOp,hl,hc,hr']
end
theorem Mh{N i:Nat}(h:i<N)(hb:N<=9223372036854775807):xC .i64 (IntKind.i64.wrap ((((N-i:Nat):Int)-1)-1))=.int .i64 (((N-(i+1):Nat):Int)-1):=by
 rw[jv (by omega)]
 congr 1;omega
section
variable {P:Program} {b:Frame} {n:Nat} {k:List Item} {F:List Frame->(Machine->Prop)->Prop} {e:Env} {ds:List Deferred} {X:Cx} {h:HF} {L:LH}
theorem lp4{α γ ρ : Type}{id:Nat}{c:Code}{x0:ρ}(xs:List α)(sl:Nat->γ->List (Nat×Value))(hh:γ->HF)(LL:γ->LH)(J JX:Nat->γ->Prop)(hJX:∀i g,i=xs.length->J i g->JX i g)(Lf:List α->Nat->γ->ρ)(g0:γ)(hb:xs.length<=9223372036854775807)(hs:x0=Lf xs 0 g0)(hJ:J 0 g0)(after:∀i g,i<=xs.length->x0=Lf [] i g->JX i g->∀e',TT P b n k F (upds e' (sl i g)) ds X (hh g) (LL g))(cons:∀i g y r,xs.drop i=y::r->decide ((i:Int)<(xs.length:Int))=true->xs[i]? = some y->i<xs.length->xs.length<=9223372036854775807->x0=Lf (y::r) i g->J i g ->
   (∀i' g' {e'},x0=Lf [] i' g'->JX i' g'->(hi:i'<=xs.length:=by omega)->(hr:jd e' (sl i' g'):=by exact rds)->TT P b n k F e' ds X (hh g') (LL g')) ->
   (∀g' {e'},x0=Lf r (i+1) g'->J (i+1) g'->(hr:jd e' (sl (i+1) g'):=by exact rds)->TT P b n (.inLoop c::.inBlock id::k) F e' ds X (hh g') (LL g')) ->
   ∀e',TT P b n (.code c::.inLoop c::.inBlock id::k) F (upds e' (sl i g)) ds X (hh g) (LL g))(nil:∀i g,xs.drop i=[]->decide ((i:Int)<(xs.length:Int))=false->(∀e',jd e' (sl i g)->TT P b n k F e' ds X (hh g) (LL g)) ->
   ∀e',TT P b n (.code c::.inLoop c::.inBlock id::k) F (upds e' (sl i g)) ds X (hh g) (LL g):=by exact ndA)(h0:jd e (sl 0 g0):=by exact rds)(hw:∀w,St X h L w->St X (hh g0) (LL g0) w:=by exact sws):
  TT P b n (.code (.block id (.loop c))::k) F e ds X h L:=by
 refine iL (ι:=Nat×γ) (λi=>sl i.1 i.2) (λi=>hh i.2) (λi=>LL i.2) (λi=>i.1<=xs.length/\x0=Lf [] i.1 i.2/\JX i.1 i.2) ?_ (λhx=>?_)
 .rintro⟨i,g⟩ ⟨h1,h2,h3⟩ e'
  exact after i g h1 h2 h3 e'
 .refine kg (ι:=Nat×γ×List α) (λi=>sl i.1 i.2.1) (λi=>hh i.2.1) (λi=>LL i.2.1) (λi=>xs.drop i.1=i.2.2/\i.1<=xs.length/\x0=Lf i.2.2 i.1 i.2.1/\J i.1 i.2.1) (λi=>i.2.2.length) (0,g0,xs) h0 hw ⟨rfl,jL _,hs,hJ⟩ ?_
  rintro⟨i,g,s⟩ ⟨hd,hi,hs,hJ⟩ ag e'
  dsimp only at hd hi hs hJ
  rcases s with _|⟨y,r⟩
  .exact nil i g hd (mR hd) (λe'' hr=>hx (i,g) e'' ⟨hi,hs,hJX _ _ (Nat.le_antisymm hi (by rcases jP i xs.length with q|q;(rw[List.drop_eq_getElem_cons q]at hd;cases hd);exact q)) hJ⟩ hr) e'
  .exact cons i g y r hd (sQ hd) (rg hd) (io hd) hb hs hJ (λi' g' e'' a b c d=>hx (i',g') e'' ⟨c,a,b⟩ d)
    (λg' e'' a b hr=>ag (i+1,g',r) e'' (Nat.lt_succ_self _) ⟨kx hd,io hd,a,b⟩ hr) e'
end
end Go.Sg

namespace Go.Sg
open Go.Proofs Go.Proofs.Tryz
theorem ty56:tySz prog 56=some (1,false):=kr
theorem ty240:tySz prog 240=some (1,false):=kr
theorem ty162:tySz prog 162=some (1,false):=kr
theorem ty182:tySz prog 182=some (2,true):=kr
theorem ty31:tySz prog 31=some (1,false):=kr
theorem ty249:tySz prog 249=some (1,false):=kr
theorem ty3:tySz prog 3=some (1,false):=kr
theorem zc182:zeroC prog 182=some [.int .i64 0,.int .i64 0]:=kr
theorem bytes182:bytesOf prog 182=some 16:=kr
theorem zc3:zeroC prog 3=some [.int .i64 0]:=kr
theorem bytes3:bytesOf prog 3=some 8:=kr
theorem zc37:zeroC prog 37=some [.int .i64 0]:=kr
theorem ty37:tySz prog 37=some (1,false):=kr
theorem zc358:zeroC prog 358=some [.int .i64 0]:=kr
theorem ty358:tySz prog 358=some (1,true):=kr
theorem OR:fldOf prog 358 0=some 0:=kr
theorem ty196:tySz prog 196=some (2,true):=kr
theorem ty194:tySz prog 194=some (1,false):=kr
theorem ty193:tySz prog 193=some (1,false):=kr
theorem ty197:tySz prog 197=some (1,false):=kr
theorem ty97:tySz prog 97=some (7,true):=kr
theorem ty24:tySz prog 24=some (1,false):=kr
theorem ty4:tySz prog 4=some (1,false):=kr
theorem ty26:tySz prog 26=some (1,false):=kr
theorem zc196:zeroC prog 196=some [.slice none 0 0,.int .i64 0]:=kr
theorem zc97:zeroC prog 97=some [.int .i64 0,.int .i64 0,.int .i64 0,.int .i64 0,.int .i64 0,.bool false,.bool false]:=kr
theorem zc193:zeroC prog 193=some [.map none]:=kr
theorem zc56:zeroC prog 56=some [.map none]:=kr
theorem zc194:zeroC prog 194=some [.chan none]:=kr
theorem zc197:zeroC prog 197=some [.nilFunc]:=kr
theorem zc31:zeroC prog 31=some [.slice none 0 0]:=kr
theorem zv4:zeroV prog 4=some (.bool false):=kr
theorem zv24:zeroV prog 24=some (.slice none 0 0):=kr
theorem zv196:zeroV prog 196=some (.agg (vB [.slice none 0 0,.int .i64 0])):=kr
theorem bytes97:bytesOf prog 97=some 48:=kr
theorem bytes196:bytesOf prog 196=some 32:=kr
theorem OT:fldOf prog 196 0=some 0:=kr
theorem PO:fldOf prog 97 0=some 0:=kr
theorem Md:fldOf prog 97 3=some 3:=kr
theorem PN:fldOf prog 97 4=some 4:=kr
theorem OU:fldOf prog 158 1=some 1:=kr
theorem zc238:zeroC prog 238=some [.slice none 0 0,.map none,.slice none 0 0,.slice none 0 0,.slice none 0 0,.map none]:=kr
theorem ty211:tySz prog 211=some (1,false):=kr
theorem zc211:zeroC prog 211=some [.pointer none]:=kr
theorem ty236:tySz prog 236=some (1,false):=kr
theorem ty57:tySz prog 57=some (1,false):=kr
theorem ty228:tySz prog 228=some (2,true):=kr
theorem zc228:zeroC prog 228=some [.slice none 0 0,.map none]:=kr
theorem ty51:tySz prog 51=some (41,true):=kr
theorem zc51:zeroC prog 51=some (.int .i64 0::.int .i64 0::.int .i64 0::.int .i64 0::.int .i64 0::.int .i64 0::.slice none 0 0::.slice none 0 0::.slice none 0 0::.int .u8 0::.int .u8 0::.int .u8 0::.int .u8 0::.int .u8 0::.int .u8 0::.int .u8 0::.int .u8 0::.int .u8 0::.int .u8 0::.int .u8 0::.int .u8 0::.int .u8 0::.int .u8 0::.int .u8 0::.int .u8 0::.int .u8 0::.int .u8 0::.int .u8 0::.int .u8 0::.int .u8 0::.int .u8 0::.int .u8 0::.int .u8 0::.int .u8 0::.int .u8 0::.int .u8 0::.int .u8 0::.int .u8 0::.int .u8 0::.int .u8 0::.int .u8 0::[]):=kr
theorem ty190:tySz prog 190=some (1,false):=kr
theorem bytes4:bytesOf prog 4=some 1:=kr
theorem OS:fldOf prog 238 3=some 4:=kr
theorem PV:fldOf prog 51 0=some 0:=kr
theorem PR:fldOf prog 51 7=some 7:=kr
theorem Ib:fldOf prog 51 8=some 8:=kr
theorem Bq:fldOf prog 36 0=some 0:=kr
theorem Me:fldOf prog 36 1=some 1:=kr
theorem PW:fldOf prog 36 2=some 2:=kr
theorem Bp:fldOf prog 36 3=some 3:=kr
theorem Bs:fldOf prog 126 0=some 0:=kr
theorem Br:fldOf prog 126 1=some 1:=kr
theorem ty36:tySz prog 36=some (4,true):=kr
theorem ty126:tySz prog 126=some (2,true):=kr
theorem ty33:tySz prog 33=some (1,false):=kr
theorem ty123:tySz prog 123=some (50,true):=kr
theorem ty25:tySz prog 25=some (1,false):=kr
theorem ty32:tySz prog 32=some (1,false):=kr
theorem ty64:tySz prog 64=some (10,true):=kr
theorem zc36:zeroC prog 36=some [.int .i64 0,.int .i64 0,.slice none 0 0,.slice none 0 0]:=kr
theorem zc126:zeroC prog 126=some [.int .i64 0,.nilFunc]:=kr
theorem zc123:zeroC prog 123=some (.slice none 0 0::.slice none 0 0::.slice none 0 0::.slice none 0 0::.slice none 0 0::.slice none 0 0::.slice none 0 0::.int .i64 0::.int .i64 0::.int .i64 0::.int .i64 0::.int .i64 0::.int .i64 0::.slice none 0 0::.slice none 0 0::.slice none 0 0::.int .u8 0::.int .u8 0::.int .u8 0::.int .u8 0::.int .u8 0::.int .u8 0::.int .u8 0::.int .u8 0::.int .u8 0::.int .u8 0::.int .u8 0::.int .u8 0::.int .u8 0::.int .u8 0::.int .u8 0::.int .u8 0::.int .u8 0::.int .u8 0::.int .u8 0::.int .u8 0::.int .u8 0::.int .u8 0::.int .u8 0::.int .u8 0::.int .u8 0::.int .u8 0::.int .u8 0::.int .u8 0::.int .u8 0::.int .u8 0::.int .u8 0::.int .u8 0::.int .i64 0::.int .i64 0::[]):=kr
theorem zc64:zeroC prog 64=some [.string (⟨#[]⟩:ByteArray),.slice none 0 0,.slice none 0 0,.slice none 0 0,.int .i64 0,.int .i64 0,.int .i64 0,.string (⟨#[]⟩:ByteArray),.slice none 0 0,.int .i64 0]:=kr
theorem zc4:zeroC prog 4=some [.bool false]:=kr
theorem Mf:fldOf prog 30 3=some 3:=kr
theorem PY:fldOf prog 30 4=some 4:=kr
theorem PX:fldOf prog 30 5=some 5:=kr
theorem OX:fldOf prog 123 0=some 0:=kr
theorem Fu:fldOf prog 123 1=some 7:=kr
theorem OW:fldOf prog 123 2=some 48:=kr
theorem OV:fldOf prog 123 3=some 49:=kr
theorem PU:fldOf prog 51 1=some 1:=kr
theorem PT:fldOf prog 51 2=some 2:=kr
theorem PS:fldOf prog 51 3=some 3:=kr
theorem PP:fldOf prog 89 2=some 2:=kr
theorem ty89:tySz prog 89=some (7,true):=kr
theorem zc89:zeroC prog 89=some [.int .i64 0,.int .i64 0,.int .i64 0,.int .i64 0,.int .i64 0,.int .i64 0,.bool false]:=kr
theorem ty93:tySz prog 93=some (10,true):=kr
theorem zc93:zeroC prog 93=some [.int .i64 0,.int .i64 0,.int .i64 0,.int .i64 0,.int .i64 0,.int .i64 0,.int .i64 0,.int .i64 0,.int .i64 0,.bool false]:=kr
theorem ty101:tySz prog 101=some (8,true):=kr
theorem zc101:zeroC prog 101=some [.int .i64 0,.int .i64 0,.int .i64 0,.int .i64 0,.int .i64 0,.int .i64 0,.int .i64 0,.bool false]:=kr
theorem ty62:tySz prog 62=some (5,true):=kr
theorem zc327:zeroC prog 327=some [.int .i64 0,.int .i64 0,.int .i64 0,.string (⟨#[]⟩:ByteArray),.slice none 0 0,.int .i64 0]:=kr
theorem ty60:tySz prog 60=some (1,false):=kr
theorem zc62:zeroC prog 62=some [.int .i64 0,.int .i64 0,.int .i64 0,.string (⟨#[]⟩:ByteArray),.slice none 0 0]:=kr
theorem ty327:tySz prog 327=some (6,true):=kr
theorem ty59:tySz prog 59=some (1,false):=kr
theorem ty79:tySz prog 79=some (8,true):=kr
theorem zc79:zeroC prog 79=some [.string (⟨#[]⟩:ByteArray),.int .i64 0,.int .i64 0,.int .i64 0,.int .i64 0,.int .i64 0,.string (⟨#[]⟩:ByteArray),.slice none 0 0]:=kr
theorem PQ:fldOf prog 79 3=some 3:=kr
theorem bytes62:bytesOf prog 62=some 64:=kr
theorem ty58:tySz prog 58=some (1,false):=kr
theorem ty9:tySz prog 9=some (1,false):=kr
theorem zc60:zeroC prog 60=some [.slice none 0 0]:=kr
theorem ty168:tySz prog 168=some (1,false):=kr
theorem bytes79:bytesOf prog 79=some 96:=kr
theorem ty105:tySz prog 105=some (13,true):=kr
theorem zc105:zeroC prog 105=some [.int .i64 0,.int .i64 0,.int .i64 0,.string (⟨#[]⟩:ByteArray),.slice none 0 0,.slice none 0 0,.slice none 0 0,.int .i64 0,.int .i64 0,.int .i64 0,.string (⟨#[]⟩:ByteArray),.slice none 0 0,.int .i64 0]:=kr
theorem JM:fldOf prog 105 3=some 3:=kr
theorem zv3:zeroV prog 3=some (.int .i64 0):=kr
theorem ty81:tySz prog 81=some (8,true):=kr
theorem zc81:zeroC prog 81=some [.int .i64 0,.int .i64 0,.int .i64 0,.int .i64 0,.int .i64 0,.int .i64 0,.int .i64 0,.bool false]:=kr
theorem ty22:tySz prog 22=some (1,false):=kr
theorem ty23:tySz prog 23=some (1,false):=kr
theorem ty27:tySz prog 27=some (1,false):=kr
theorem ty28:tySz prog 28=some (1,false):=kr
theorem ty30:tySz prog 30=some (7,true):=kr
theorem zc274:zeroC prog 274=some [.int .i64 0,.int .i64 0,.int .i64 0,.int .i64 0]:=kr
theorem ty274:tySz prog 274=some (4,true):=kr
theorem zc28:zeroC prog 28=some [.slice none 0 0]:=kr
theorem zc270:zeroC prog 270=some [.map none]:=kr
theorem ty270:tySz prog 270=some (1,false):=kr
theorem zv81:zeroV prog 81=some (.agg (vB [.int .i64 0,.int .i64 0,.int .i64 0,.int .i64 0,.int .i64 0,.int .i64 0,.int .i64 0,.bool false])):=kr
theorem eqg81:prog.eqGuardType prog.depth 81=false:=kr
theorem bytes81:bytesOf prog 81=some 64:=kr
theorem zv89:zeroV prog 89=some (.agg (vB [.int .i64 0,.int .i64 0,.int .i64 0,.int .i64 0,.int .i64 0,.int .i64 0,.bool false])):=kr
theorem bytes93:bytesOf prog 93=some 80:=kr
theorem ty277:tySz prog 277=some (1,false):=kr
theorem zc279:zeroC prog 279=some [.int .i64 0,.int .i64 0,.int .i64 0,.int .i64 0]:=kr
theorem zv93:zeroV prog 93=some (.agg (vB [.int .i64 0,.int .i64 0,.int .i64 0,.int .i64 0,.int .i64 0,.int .i64 0,.int .i64 0,.int .i64 0,.int .i64 0,.bool false])):=kr
theorem eqg93:prog.eqGuardType prog.depth 93=false:=kr
theorem ty223:tySz prog 223=some (1,false):=kr
theorem ty184:tySz prog 184=some (5,true):=kr
theorem zc223:zeroC prog 223=some [.nilFunc]:=kr
theorem zc277:zeroC prog 277=some [.map none]:=kr
theorem ty279:tySz prog 279=some (4,true):=kr
theorem zc184:zeroC prog 184=some [.int .i64 0,.int .i64 0,.int .i64 0,.int .i64 0,.int .i64 0]:=kr
theorem ty282:tySz prog 282=some (1,false):=kr
theorem zc284:zeroC prog 284=some [.int .i64 0,.int .i64 0,.bool false]:=kr
theorem zv97:zeroV prog 97=some (.agg (vB [.int .i64 0,.int .i64 0,.int .i64 0,.int .i64 0,.int .i64 0,.bool false,.bool false])):=kr
theorem eqg97:prog.eqGuardType prog.depth 97=false:=kr
theorem zc282:zeroC prog 282=some [.map none]:=kr
theorem ty284:tySz prog 284=some (3,true):=kr
theorem zv105:zeroV prog 105=some (.agg (vB [.int .i64 0,.int .i64 0,.int .i64 0,.string (⟨#[]⟩:ByteArray),.slice none 0 0,.slice none 0 0,.slice none 0 0,.int .i64 0,.int .i64 0,.int .i64 0,.string (⟨#[]⟩:ByteArray),.slice none 0 0,.int .i64 0])):=kr
theorem zc26:zeroC prog 26=some [.slice none 0 0]:=kr
theorem bytes105:bytesOf prog 105=some 184:=kr
theorem zv152:zeroV prog 152=some (.nilFunc):=kr
theorem ty111:tySz prog 111=some (5,true):=kr
theorem zc111:zeroC prog 111=some [.int .i64 0,.int .i64 0,.int .i64 0,.int .i64 0,.int .i64 0]:=kr
theorem zc267:zeroC prog 267=some [.int .i64 0,.int .i64 0]:=kr
theorem ty267:tySz prog 267=some (2,true):=kr
theorem zv101:zeroV prog 101=some (.agg (vB [.int .i64 0,.int .i64 0,.int .i64 0,.int .i64 0,.int .i64 0,.int .i64 0,.int .i64 0,.bool false])):=kr
theorem eqg101:prog.eqGuardType prog.depth 101=false:=kr
theorem bytes101:bytesOf prog 101=some 64:=kr
theorem zv31:zeroV prog 31=some (.slice none 0 0):=kr
theorem zc158:zeroC prog 158=some [.int .i64 0,.int .i64 0]:=kr
theorem ty158:tySz prog 158=some (2,true):=kr
theorem ty68:tySz prog 68=some (1,false):=kr
theorem bytes158:bytesOf prog 158=some 16:=kr
theorem ty67:tySz prog 67=some (1,false):=kr
theorem ty167:tySz prog 167=some (3,true):=kr
theorem zc330:zeroC prog 330=some [.nilFunc]:=kr
theorem ty330:tySz prog 330=some (1,false):=kr
theorem zc261:zeroC prog 261=some [.nilFunc,.nilFunc,.nilFunc,.nilFunc,.nilFunc]:=kr
theorem ty260:tySz prog 260=some (1,false):=kr
theorem ty261:tySz prog 261=some (5,true):=kr
theorem zc167:zeroC prog 167=some [.int .i64 0,.slice none 0 0,.slice none 0 0]:=kr
theorem zc68:zeroC prog 68=some [.slice none 0 0]:=kr
theorem bytes68:bytesOf prog 68=some 24:=kr
theorem zc9:zeroC prog 9=some [.string (⟨#[]⟩:ByteArray)]:=kr
theorem zc30:zeroC prog 30=some [.slice none 0 0,.slice none 0 0,.slice none 0 0,.slice none 0 0,.slice none 0 0,.slice none 0 0,.slice none 0 0]:=kr
def uB(x:gx)(h:HF)(vs:List Go.Value):Prop:=∃(r0:Cu),vs=[.agg (gx.cells x r0).toArray]/\gx.ok h x r0
theorem n0(x:gx)(h:HF)(vs:List Go.Value)(e:uB x h vs):vs.length=1:=by
 obtain⟨_,e,_⟩:=e;rw[e];rfl
def xj(x:(Int×Int))(h:HF)(vs:List Go.Value):Prop:=vs=[.int .i64 x.1,.int .i64 x.2]
theorem Dz(x:(Int×Int))(h:HF)(vs:List Go.Value)(e:xj x h vs):vs.length=2:=by
 rw[e];rfl
def oY(x:Approval)(h:HF)(vs:List Go.Value):Prop:=vs=[.agg (zD x).toArray]
theorem pL(x:Approval)(h:HF)(vs:List Go.Value)(e:oY x h vs):vs.length=1:=by
 rw[e];rfl
def sD(x:Deputy)(h:HF)(vs:List Go.Value):Prop:=vs=[.agg (vN x).toArray]
theorem EW(x:Deputy)(h:HF)(vs:List Go.Value)(e:sD x h vs):vs.length=1:=by
 rw[e];rfl
def ve(x:Interest)(h:HF)(vs:List Go.Value):Prop:=vs=[.agg (jD x).toArray]
theorem Cg(x:Interest)(h:HF)(vs:List Go.Value)(e:ve x h vs):vs.length=1:=by
 rw[e];rfl
def ym(x:Int)(h:HF)(vs:List Go.Value):Prop:=vs=[.int .i64 x]
theorem CW(x:Int)(h:HF)(vs:List Go.Value)(e:ym x h vs):vs.length=1:=by
 rw[e];rfl
def ra(x:(Int×Version))(h:HF)(vs:List Go.Value):Prop:=∃(r0:pq),vs=[.int .i64 x.1,.agg (Version.cells x.2 r0).toArray]/\Version.ok h x.2 r0
theorem yK(x:(Int×Version))(h:HF)(vs:List Go.Value)(e:ra x h vs):vs.length=2:=by
 obtain⟨_,e,_⟩:=e;rw[e];rfl
def ox(x:Holder)(h:HF)(vs:List Go.Value):Prop:=vs=[.agg (Holder.cells x).toArray]
theorem sC(x:Holder)(h:HF)(vs:List Go.Value)(e:ox x h vs):vs.length=1:=by
 rw[e];rfl
theorem If(a b:Approval)(w:World):(Op.equal 81 (Approval.enc a) (Approval.enc b)).run prog w=.ok (decide (a=b)) w:=
 rB underlying81 (by kernel_rfl) (by kernel_rfl) (by rw[qN];cases a;cases b;simp[eqv,nth,zD]) w
theorem KT(a b:Deputy)(w:World):(Op.equal 93 (Deputy.enc a) (Deputy.enc b)).run prog w=.ok (decide (a=b)) w:=
 rB underlying93 (by kernel_rfl) (by kernel_rfl) (by rw[qN];cases a;cases b;simp[eqv,nth,vN]) w
theorem Ic(a b:Interest)(w:World):(Op.equal 97 (Interest.enc a) (Interest.enc b)).run prog w=.ok (decide (a=b)) w:=
 rB underlying97 (by kernel_rfl) (by kernel_rfl) (by rw[qN];cases a;cases b;simp[eqv,nth,jD]) w
theorem KU(a b:Budget)(w:World):(Op.equal 101 (Budget.enc a) (Budget.enc b)).run prog w=.ok (decide (a=b)) w:=
 rB underlying101 (by kernel_rfl) (by kernel_rfl) (by rw[qN];cases a;cases b;simp[eqv,nth,zK]) w
theorem M0(a b:OSeat)(w:World):(Op.equal 182 (aAl a) (aAl b)).run prog w=.ok (decide (a=b)) w:=
 rB IC (by kernel_rfl) (by kernel_rfl) (by rw[qN];cases a;cases b;simp[eqv,nth,jE]) w
theorem uY:wz prog 182 aAl:=w9 IC (λe a w=>sn e IC (by kernel_rfl) w) M0 (λa=>by
 show Instr.sameBits (9999+1) _ _=true
 simp[Instr.sameBits,aAl,jE])
theorem KV(a b:gN)(w:World):(Op.equal 267 (gN.enc a) (gN.enc b)).run prog w=.ok (decide (a=b)) w:=
 rB Ll (by kernel_rfl) (by kernel_rfl) (by rw[qN];cases a;cases b;simp[eqv,nth,gN.cells]) w
theorem xa:wz prog 267 gN.enc:=w9 Ll (λe a w=>sn e Ll (by kernel_rfl) w) KV (λa=>by
 show Instr.sameBits (9999+1) _ _=true
 simp[Instr.sameBits,gN.enc,gN.cells])
theorem Ig(a b:fh)(w:World):(Op.equal 274 (fh.enc a) (fh.enc b)).run prog w=.ok (decide (a=b)) w:=
 rB NF (by kernel_rfl) (by kernel_rfl) (by rw[qN];cases a;cases b;simp[eqv,nth,fh.cells]) w
theorem lQ:wz prog 274 fh.enc:=w9 NF (λe a w=>sn e NF (by kernel_rfl) w) Ig (λa=>by
 show Instr.sameBits (9999+1) _ _=true
 simp[Instr.sameBits,fh.enc,fh.cells])
theorem Ie(a b:eo)(w:World):(Op.equal 279 (eo.enc a) (eo.enc b)).run prog w=.ok (decide (a=b)) w:=
 rB Lk (by kernel_rfl) (by kernel_rfl) (by rw[qN];cases a;cases b;simp[eqv,nth,eo.cells]) w
theorem ug:wz prog 279 eo.enc:=w9 Lk (λe a w=>sn e Lk (by kernel_rfl) w) Ie (λa=>by
 show Instr.sameBits (9999+1) _ _=true
 simp[Instr.sameBits,eo.enc,eo.cells])
theorem Id(a b:ed)(w:World):(Op.equal 284 (ed.enc a) (ed.enc b)).run prog w=.ok (decide (a=b)) w:=
 rB Lj (by kernel_rfl) (by kernel_rfl) (by rw[qN];cases a;cases b;simp[eqv,nth,ed.cells]) w
theorem uf:wz prog 284 ed.enc:=w9 Lj (λe a w=>sn e Lj (by kernel_rfl) w) Id (λa=>by
 show Instr.sameBits (9999+1) _ _=true
 simp[Instr.sameBits,ed.enc,ed.cells])
def tabF:List (Nat×Nat×Nat):=(358,0,0)::(196,0,0)::(196,1,1)::(97,0,0)::(97,3,3)::(97,4,4)::(97,5,5)::(158,1,1)::(381,0,0)::(381,1,1)::(238,0,0)::(238,1,2)::(238,2,3)::(238,3,4)::(238,4,5)::(228,0,0)::(228,1,1)::(51,0,0)::(51,7,7)::(51,8,8)::(36,0,0)::(36,1,1)::(36,2,2)::(36,3,3)::(126,0,0)::(126,1,1)::(30,3,3)::(30,4,4)::(30,5,5)::(123,0,0)::(123,1,7)::(123,2,48)::(123,3,49)::(51,1,1)::(51,2,2)::(51,3,3)::(89,6,6)::(89,0,0)::(89,1,1)::(89,2,2)::(89,3,3)::(89,4,4)::(89,5,5)::(93,0,0)::(93,1,1)::(93,2,2)::(93,4,4)::(93,5,5)::(93,6,6)::(93,7,7)::(93,9,9)::(93,3,3)::(93,8,8)::(97,1,1)::(97,2,2)::(101,7,7)::(101,0,0)::(101,1,1)::(101,2,2)::(101,3,3)::(101,4,4)::(101,5,5)::(101,6,6)::(62,4,4)::(64,3,3)::(79,3,3)::(64,4,4)::(64,2,2)::(64,1,1)::(327,1,5)::(62,0,0)::(64,0,0)::(327,0,0)::(62,3,3)::(62,1,1)::(64,5,9)::(79,0,0)::(79,2,2)::(62,2,2)::(79,1,1)::(105,0,0)::(105,1,1)::(105,2,2)::(105,3,3)::(51,4,4)::(51,5,5)::(51,6,6)::(81,0,0)::(81,1,1)::(81,2,2)::(81,3,3)::(81,4,4)::(81,5,5)::(81,6,6)::(30,0,0)::(30,1,1)::(30,2,2)::(30,6,6)::(81,7,7)::(184,0,0)::(184,1,1)::(184,2,2)::(184,3,3)::(184,4,4)::(97,6,6)::(111,0,0)::(111,1,1)::(111,2,2)::(111,3,3)::(111,4,4)::(182,1,1)::(182,0,0)::(158,0,0)::(167,1,1)::(167,2,2)::(167,0,0)::[]
def tabY:List Nat:=56::240::162::31::249::3::37::194::193::197::24::4::26::281::211::236::57::190::33::25::32::366::60::59::58::9::168::22::23::27::28::270::277::223::282::68::67::330::260::[]
def tabS:List Nat:=22::23::24::25::26::27::28::31::32::57::58::59::60::67::68::129::141::249::378::[]
theorem tabs:tabOk prog tabF tabY tabS=true:=kr
theorem qK(m:Nat)(is:List Nat){b:Frame}{n:Nat}{k:List Item}{F:List Frame->(Machine->Prop)->Prop}{e:Env}{ds:List Deferred}{X:Cx}{h:HF}{L:LH}{s:Qs}{q:List (Nat×Nat)}(hr:runL tabF tabY tabS n L m is (.tt k e)=some (s,q))(t:s.holds prog b n F ds X h L)(hq:P2 q:=by repeat (first|exact trivial|refine⟨rfl,?_⟩)):TT prog b n k F e ds X h L:=rC tabs m is _ hr hq t
theorem qL(m:Nat)(is:List Nat){ops:Array Oper}{l:List Oper}{b:Frame}{n:Nat}{k:List Item}{F:List Frame->(Machine->Prop)->Prop}{e:Env}{ds:List Deferred}{X:Cx}{h:HF}{L:LH}{s:Qs}{q:List (Nat×Nat)}(hr:runL tabF tabY tabS n L m is (.to ops l k e)=some (s,q))(t:s.holds prog b n F ds X h L)(hq:P2 q:=by repeat (first|exact trivial|refine⟨rfl,?_⟩)):TO prog b n ops l k F e ds X h L:=rC tabs m is _ hr hq t
theorem tabsF:(tabF.all λx=>fldOf prog x.1 x.2.1==some x.2.2)=true:=kr
theorem qB(is:List Nat){l:List Oper}{h1:HF}{K:LH}{m:Nat}{dn:List Nat}{m':Nat}{dn':List Nat}{e':Env}{b:Frame}{n:Nat}{k:List Item}{F:List Frame->(Machine->Prop)->Prop}{e:Env}{ds:List Deferred}{X:Cx}{h:HF}{L:LH}(hr:runB tabF l is m dn e=some (m',dn',e'))(t:TA prog b n l.toArray k F ds X (Jst h1 K) m' dn' e' h L)(hsep:sepAll l.toArray=true:=by assumption)(hJ:Jst h1 K h L:=by exact jn)(hn:allNext l is dn=true:=by kernel_rfl):TA prog b n l.toArray k F ds X (Jst h1 K) m dn e h L:=DM tabsF hsep hJ is m dn e hr hn t
theorem qD(a c:Nat){l:List Oper}{h1:HF}{K:LH}{m:Nat}{dn:List Nat}{m':Nat}{dn':List Nat}{e':Env}{b:Frame}{n:Nat}{k:List Item}{F:List Frame->(Machine->Prop)->Prop}{e:Env}{ds:List Deferred}{X:Cx}{h:HF}{L:LH}(hr:runB tabF l (List.range' a c) m dn e=some (m',dn',e'))(t:TA prog b n l.toArray k F ds X (Jst h1 K) m' dn' e' h L)(hsep:sepAll l.toArray=true:=by assumption)(hJ:Jst h1 K h L:=by exact jn)(hn:allNext l (List.range' a c) dn=true:=by kernel_rfl):TA prog b n l.toArray k F ds X (Jst h1 K) m dn e h L:=DM tabsF hsep hJ _ m dn e hr hn t
theorem mixed:prog.follows .mixedOrders=true:=kr
end Go.Sg

namespace Go.Sg
open Go.Proofs Go.Proofs.Tryz
set_option maxHeartbeats 2000000
theorem jX(h:HF)(ep:Int)(low:Int)(high:Int)  : Ret prog 175 [I ep,I low,I high] h (.bool (dZ ep low high)):=by
 refine sT func175 U ntmps175 U λX hM hX hF=>?_
 have hs0:dZ ep low high=dZ ep low high:=rfl
 refine qT 10 U (bj 4 [10,11,12,13,14] 10 14 (decide (ep<=high)) U (λc1 hk1=>?_) (λe=>?_))
 .exact av (qO 3 U (hk1 _ U))
 exact an (nretP [.bool (decide (low<=ep)&&decide (ep<=high))] (cs hs0))
theorem lU(h:HF)(ep:Int)  : Ret prog 89 [I ep] h (.bool (fa ep)):=by
 refine sT func89 U ntmps89 U λX hM hX hF=>?_
 have hs0:fa ep=fa ep:=rfl
 exact sr (qO 5 U (ai GE (jX h ep 0 31) U (an (nretP [.bool (dZ ep 0 31)] (cs hs0)))))
theorem iZ(h:HF)(ep:Int)  : Ret prog 90 [I ep] h (.bool (dv ep)):=by
 refine sT func90 U ntmps90 U λX hM hX hF=>?_
 have hs0:dv ep=dv ep:=rfl
 exact sr (qO 5 U (ai GE (jX h ep 0 1099511627775) U (an (nretP [.bool (dZ ep 0 1099511627775)] (cs hs0)))))
theorem nV(h:HF)(ep:Int)  : Ret prog 107 [I ep] h (.bool (fR ep)):=by
 refine sT func107 U ntmps107 U λX hM hX hF=>?_
 have hs0:fR ep=fR ep:=rfl
 exact sr (qO 5 U (ai GE (jX h ep 0 63) U (an (nretP [.bool (dZ ep 0 63)] (cs hs0)))))
theorem BU(h:HF)(x:Appoint)  : Ret prog 145 [.agg (jR x).toArray] h (.bool (mM x)):=by
 refine sT func145 U ntmps145 U λX hM hX hF=>?_
 have hs0:mM x=mM x:=rfl
 refine sr (cy (λb1=>qL 13 [0] U (ae hs0 U (λc1 hs1=>?_) (λc1 hs2=>?_))))
 .refine qK 8 [0] U (ai GE (jX h x.No 0 1048576) U (av (bj 4 [10,11,12,13,14] 10 14 (dv x.At) U (λc2 hk1=>?_) (λe=>?_))))
  .exact qL 2 [0] U (ai DX (iZ h x.At) U (eN U (hk1 _ U)))
  refine av (bj 4 [15,16,17,18,19] 15 19 (dv x.Known) U (λc3 hk2=>?_) (λe=>?_))
  .exact qL 2 [0] U (ai DX (iZ h x.Known) U (eN U (hk2 _ U)))
  refine av (bj 4 [20,21,22,23,24] 20 24 (fa x.Office) U (λc4 hk3=>?_) (λe=>?_))
  .exact qL 2 [0] U (ai NE (lU h x.Office) U (eN U (hk3 _ U)))
  refine av (bj 4 [25,26,27,28,29] 25 29 (fR x.Person) U (λc5 hk4=>?_) (λe=>?_))
  .exact qL 2 [0] U (ai call107 (nV h x.Person) U (eN U (hk4 _ U)))
  refine av (bj 6 [30,31,32,33,34,35,36] 30 36 (dZ x.Weight 0 0) U (λc6 hk5=>?_) (λe=>?_))
  .exact qL 4 [0] U (ai GE (jX h x.Weight 0 0) U (eN U (hk5 _ U)))
  exact an (nretP [.bool ((((((dZ x.No 0 1048576)&&(dv x.At))&&(dv x.Known))&&(fa x.Office))&&(fR x.Person))&&(dZ x.Weight 0 0))] (cs hs1))
 refine qK 5 [0] U (ai GE (jX h x.No 0 1048576) U (av (bj 4 [10,11,12,13,14] 10 14 (dv x.At) U (λc7 hk6=>?_) (λe=>?_))))
 .exact qL 2 [0] U (ai DX (iZ h x.At) U (eN U (hk6 _ U)))
 refine av (bj 4 [15,16,17,18,19] 15 19 (dv x.Known) U (λc8 hk7=>?_) (λe=>?_))
 .exact qL 2 [0] U (ai DX (iZ h x.Known) U (eN U (hk7 _ U)))
 refine av (bj 4 [20,21,22,23,24] 20 24 (fa x.Office) U (λc9 hk8=>?_) (λe=>?_))
 .exact qL 2 [0] U (ai NE (lU h x.Office) U (eN U (hk8 _ U)))
 refine av (bj 4 [25,26,27,28,29] 25 29 (fR x.Person) U (λc10 hk9=>?_) (λe=>?_))
 .exact qL 2 [0] U (ai call107 (nV h x.Person) U (eN U (hk9 _ U)))
 refine av (bj 6 [30,31,32,33,34,35,36] 30 36 (dZ x.Weight 1 64) U (λc11 hk10=>?_) (λe=>?_))
 .exact qL 4 [0] U (ai GE (jX h x.Weight 1 64) U (eN U (hk10 _ U)))
 exact an (nretP [.bool ((((((dZ x.No 0 1048576)&&(dv x.At))&&(dv x.Known))&&(fa x.Office))&&(fR x.Person))&&(dZ x.Weight 1 64))] (cs hs2))
theorem pK(h:HF)(l:List Appoint)(eP:Option Addr)(eO:Nat)(hl:SlC xH h eP eO l):Ret prog 65 [.slice eP l.length eO] h (I (dg l)):=by
 refine sT func65 U ntmps65 U λX hM hX hF=>?_
 have hs0:dg l=dg l:=rfl
 refine qK 11 [] U (ae hs0 U (λc1 hs1=>?_) (λc1 hs2=>?_))
 .have c1p:=of_decide_eq_true c1
  exact sr (an (nretP [I 2] (ci hs1)))
 have c1p:=of_decide_eq_false c1
 refine qK 12 [] U ?_
 refine lp1 l (λi w=>[(3,I w),(9,.slice eP l.length eO),(10,I (l.length:Int)),(11,I (i:Int))]) ([]) (λs1 i w=>(dg.L1 (dg.K1)) s1 w) (-1) hl.1.1 hs2 ?_ ?_
 .rintro i1 iB fp hs4 e
  exact sr (an (nretP [I 0] (ci hs4)))
 rintro i1 iB y1 rz1 hd1 dj aY er gr hs6 hx1 ag1 e
 refine sr (tO dj U (qO 8 U (aC (iF jR DY ty89 hl.1 aY U U U (λq2 A2=>dz ty89 A2 U U (ba zc89 (λb2=>aQ 0 ty89 U U U U U U (qO 4 U (cK 0 ty89 U U U (ai call145 (BU h y1) U (qO 2 U (bV 5 [18,19,20,21,22,23] 18 23 (decide (y1.No<=iB)) U (λc2 hk1=>?_) (λe=>?_)))))))))))))
 .exact qL 5 [0] U (hk1 _ U)
 refine aJ (ae hs6 U (λc3 hs7=>?_) (λc3 hs8=>?_))
 .exact sr (an (nretP [I 150] (ci hs7)))
 exact qK 8 [0] U (oi i1 U (qO 2 U (bz (L':=[]) js (ag1 y1.No hs8))))
theorem iA(h:HF)(ep:Int)(low:Int)(high:Int)  : Ret prog 201 [I ep,I low,I high] h (.bool (cY ep low high)):=by
 refine sT func201 U ntmps201 U λX hM hX hF=>?_
 have hs0:cY ep low high=cY ep low high:=rfl
 refine qT 10 U (bj 4 [10,11,12,13,14] 10 14 (decide (ep<=high)) U (λc1 hk1=>?_) (λe=>?_))
 .exact av (qO 3 U (hk1 _ U))
 exact an (nretP [.bool (decide (low<=ep)&&decide (ep<=high))] (cs hs0))
theorem lN(h:HF)(ep:Int)  : Ret prog 200 [I ep] h (.bool (fS ep)):=by
 refine sT func200 U ntmps200 U λX hM hX hF=>?_
 have hs0:fS ep=fS ep:=rfl
 exact sr (qO 5 U (ai CB (iA h ep 0 63) U (an (nretP [.bool (cY ep 0 63)] (cs hs0)))))
theorem mH(h:HF)(ep:Int)  : Ret prog 202 [I ep] h (.bool (gh ep)):=by
 refine sT func202 U ntmps202 U λX hM hX hF=>?_
 have hs0:gh ep=gh ep:=rfl
 exact sr (qO 5 U (ai CB (iA h ep 0 1099511627775) U (an (nretP [.bool (cY ep 0 1099511627775)] (cs hs0)))))
theorem Bu(h:HF)(x:Deputy)  : Ret prog 146 [.agg (vN x).toArray] h (.bool (ml x)):=by
 refine sT func146 U ntmps146 U λX hM hX hF=>?_
 have hs0:ml x=ml x:=rfl
 refine sr (cy (λb1=>qL 7 [0] U (ai CB (iA h x.No 0 1048576) U (qO 2 U (bV 5 [7,8,9,10,11,12] 7 12 (!(gh x.At)) U (λc1 hk1=>?_) (λe=>?_))))))
 .exact qL 2 [0] U (ai ND (mH h x.At) U (qO 2 U (hk1 _ U)))
 refine av (bV 5 [13,14,15,16,17,18] 13 18 (!(gh x.Known)) U (λc2 hk2=>?_) (λe=>?_))
 .exact qL 2 [0] U (ai ND (mH h x.Known) U (qO 2 U (hk2 _ U)))
 refine av (bV 5 [19,20,21,22,23,24] 19 24 (!(fS x.From)) U (λc3 hk3=>?_) (λe=>?_))
 .exact qL 2 [0] U (ai NC (lN h x.From) U (qO 2 U (hk3 _ U)))
 refine av (bV 5 [25,26,27,28,29,30] 25 30 (!(fS x.To)) U (λc4 hk4=>?_) (λe=>?_))
 .exact qL 2 [0] U (ai NC (lN h x.To) U (qO 2 U (hk4 _ U)))
 refine av (bV 6 [31,32,33,34,35,36,37] 31 37 (x.From==x.To) U (λc5 hk5=>?_) (λe=>?_))
 .exact qL 6 [0,0] U (hk5 _ U)
 refine av (bV 5 [38,39,40,41,42,43] 38 43 (!(cY x.Office 0 31)) U (λc6 hk6=>?_) (λe=>?_))
 .exact qL 2 [0] U (ai CB (iA h x.Office 0 31) U (qO 2 U (hk6 _ U)))
 refine av (bV 5 [44,45,46,47,48,49] 44 49 (!(cY x.Kind (-1) 15)) U (λc7 hk7=>?_) (λe=>?_))
 .exact qL 2 [0] U (ai CB (iA h x.Kind (-1) 15) U (qO 2 U (hk7 _ U)))
 refine aJ (ae hs0 U (λc8 hs1=>?_) (λc8 hs2=>?_))
 .exact sr (an (nretP [.bool false] (cs hs1)))
 refine qK 7 [0] U (ae hs2 U (λc9 hs4=>?_) (λc9 hs5=>?_))
 .refine qK 6 [0] U (bj 4 [55,56,57,58,59] 55 59 (x.Most==0) U (λc10 hk8=>?_) (λe=>?_))
  .exact qL 4 [0] U (hk8 _ U)
  exact an (nretP [.bool ((x.Until==0)&&(x.Most==0))] (cs hs4))
 refine qK 9 [0,0] U (bj 4 [65,66,67,68,69] 65 69 (decide (x.Until<=1099511627776)) U (λc11 hk9=>?_) (λe=>?_))
 .exact qL 4 [0] U (hk9 _ U)
 refine av (bj 4 [70,71,72,73,74] 70 74 (cY x.Most 0 1099511627776) U (λc12 hk10=>?_) (λe=>?_))
 .exact qL 2 [0] U (ai CB (iA h x.Most 0 1099511627776) U (eN U (hk10 _ U)))
 exact an (nretP [.bool ((decide (x.At<x.Until)&&decide (x.Until<=1099511627776))&&(cY x.Most 0 1099511627776))] (cs hs5))
theorem tH(h:HF)(l:List Deputy)(eP:Option Addr)(eO:Nat)(hl:SlC aAq h eP eO l):Ret prog 66 [.slice eP l.length eO] h (I (dB l)):=by
 refine sT func66 U ntmps66 U λX hM hX hF=>?_
 have hs0:dB l=dB l:=rfl
 refine qK 11 [] U (ae hs0 U (λc1 hs1=>?_) (λc1 hs2=>?_))
 .have c1p:=of_decide_eq_true c1
  exact sr (an (nretP [I 2] (ci hs1)))
 have c1p:=of_decide_eq_false c1
 refine qK 12 [] U ?_
 refine lp1 l (λi w=>[(3,I w),(9,.slice eP l.length eO),(10,I (l.length:Int)),(11,I (i:Int))]) ([]) (λs1 i w=>(dB.L1 (dB.K1)) s1 w) (-1) hl.1.1 hs2 ?_ ?_
 .rintro i1 iB fp hs4 e
  exact sr (an (nretP [I 0] (ci hs4)))
 rintro i1 iB y1 rz1 hd1 dj aY er gr hs6 hx1 ag1 e
 refine sr (tO dj U (qO 8 U (aC (iF vN wG ty93 hl.1 aY U U U (λq2 A2=>dz ty93 A2 U U (ba zc93 (λb2=>aQ 0 ty93 U U U U U U (qO 4 U (cK 0 ty93 U U U (ai call146 (Bu h y1) U (qO 2 U (bV 5 [18,19,20,21,22,23] 18 23 (decide (y1.No<=iB)) U (λc2 hk1=>?_) (λe=>?_)))))))))))))
 .exact qL 5 [0] U (hk1 _ U)
 refine aJ (ae hs6 U (λc3 hs7=>?_) (λc3 hs8=>?_))
 .exact sr (an (nretP [I 160] (ci hs7)))
 exact qK 8 [0] U (oi i1 U (qO 2 U (bz (L':=[]) js (ag1 y1.No hs8))))
theorem hO(h:HF)(ep:Int)(limit:Int)  : Ret prog 207 [I ep,I limit] h (.bool (bJ ep limit)):=by
 refine sT func207 U ntmps207 U λX hM hX hF=>?_
 have hs0:bJ ep limit=bJ ep limit:=rfl
 refine qT 9 U (bj 4 [7,8,9,10,11] 7 11 (decide (ep<limit)) U (λc1 hk1=>?_) (λe=>?_))
 .exact av (qO 3 U (hk1 _ U))
 exact an (nretP [.bool (decide (0<=ep)&&decide (ep<limit))] (cs hs0))
theorem Aa(h:HF)(x:Interest)  : Ret prog 147 [.agg (jD x).toArray] h (.bool (lG x)):=by
 refine sT func147 U ntmps147 U λX hM hX hF=>?_
 have hs0:lG x=lG x:=rfl
 refine sr (cy (λb1=>qL 6 [0] U (ai CA (hO h x.No 1048577) U (av (bj 4 [7,8,9,10,11] 7 11 (bJ x.At 1099511627776) U (λc1 hk1=>?_) (λe=>?_))))))
 .exact qL 2 [0] U (ai CA (hO h x.At 1099511627776) U (eN U (hk1 _ U)))
 refine av (bj 4 [12,13,14,15,16] 12 16 (bJ x.Known 1099511627776) U (λc2 hk2=>?_) (λe=>?_))
 .exact qL 2 [0] U (ai CA (hO h x.Known 1099511627776) U (eN U (hk2 _ U)))
 refine av (bj 4 [17,18,19,20,21] 17 21 (bJ x.Party 1048577) U (λc3 hk3=>?_) (λe=>?_))
 .exact qL 2 [0] U (ai CA (hO h x.Party 1048577) U (eN U (hk3 _ U)))
 refine qL 8 [0] U (ae hs0 U (λc4 hs1=>?_) (λc4 hs2=>?_))
 .refine qT 4 U (bj 4 [25,26,27,28,29] 25 29 (bJ x.Person 1048577) U (λc5 hk4=>?_) (λe=>?_))
  .exact qL 2 [0] U (ai CA (hO h x.Person 1048577) U (eN U (hk4 _ U)))
  refine av (bj 6 [30,31,32,33,34,35,36] 30 36 (x.Person != x.Party) U (λc6 hk5=>?_) (λe=>?_))
  .exact qL 6 [0,0] U (hk5 _ U)
  exact an (nretP [.bool ((((((bJ x.No 1048577)&&(bJ x.At 1099511627776))&&(bJ x.Known 1099511627776))&&(bJ x.Party 1048577))&&(bJ x.Person 1048577))&&(x.Person != x.Party))] (cs hs1))
 refine qT 5 U (bj 4 [38,39,40,41,42] 38 42 (bJ x.Person 64) U (λc7 hk6=>?_) (λe=>?_))
 .exact qL 2 [0] U (ai CA (hO h x.Person 64) U (eN U (hk6 _ U)))
 exact an (nretP [.bool (((((bJ x.No 1048577)&&(bJ x.At 1099511627776))&&(bJ x.Known 1099511627776))&&(bJ x.Party 1048577))&&(bJ x.Person 64))] (cs hs2))
theorem sG(h:HF)(l:List Interest)(eP:Option Addr)(eO:Nat)(hl:SlC kM h eP eO l):Ret prog 67 [.slice eP l.length eO] h (I (cX l)):=by
 refine sT func67 U ntmps67 U λX hM hX hF=>?_
 have hs0:cX l=cX l:=rfl
 refine qK 11 [] U (ae hs0 U (λc1 hs1=>?_) (λc1 hs2=>?_))
 .have c1p:=of_decide_eq_true c1
  exact sr (an (nretP [I 2] (ci hs1)))
 have c1p:=of_decide_eq_false c1
 refine qK 12 [] U ?_
 refine lp1 l (λi w=>[(3,I w),(9,.slice eP l.length eO),(10,I (l.length:Int)),(11,I (i:Int))]) ([]) (λs1 i w=>(cX.L1 (cX.K1)) s1 w) (-1) hl.1.1 hs2 ?_ ?_
 .rintro i1 iB fp hs4 e
  exact sr (an (nretP [I 0] (ci hs4)))
 rintro i1 iB y1 rz1 hd1 dj aY er gr hs6 hx1 ag1 e
 refine sr (tO dj U (qO 8 U (aC (iF jD vx ty97 hl.1 aY U U U (λq2 A2=>dz ty97 A2 U U (ba zc97 (λb2=>aQ 0 ty97 U U U U U U (qO 4 U (cK 0 ty97 U U U (ai call147 (Aa h y1) U (qO 2 U (bV 5 [18,19,20,21,22,23] 18 23 (decide (y1.No<=iB)) U (λc2 hk1=>?_) (λe=>?_)))))))))))))
 .exact qL 5 [0] U (hk1 _ U)
 refine aJ (ae hs6 U (λc3 hs7=>?_) (λc3 hs8=>?_))
 .exact sr (an (nretP [I 290] (ci hs7)))
 exact qK 8 [0] U (oi i1 U (qO 2 U (bz (L':=[]) js (ag1 y1.No hs8))))
theorem uu(h:HF)(s:List Int)(sk:Option Addr)(sj:Nat)(f:(Int->Bool))(f_v:Value)(hs:SlC qC h sk sj s)(hf:∀(h':HF)(dF:Int),jM h h'->um prog f_v [I dF] h' [] (.bool (f dF))):Ret prog 220 [.slice sk s.length sj,f_v] h (I (dN s f)):=by
 refine sT func220 U ntmps220 U λX hM hX hF=>?_
 have hs0:dN s f=dN s f:=rfl
 refine qK 11 [] U ?_
 refine lp0 s (λi=>[(0,.slice sk s.length sj),(1,f_v),(7,I (s.length:Int)),(8,I (i:Int))]) ([]) (λs1 i=>(dN.L1 f (dN.K1)) s1 i) hs.1.1 hs0 ?_ ?_
 .rintro i1 fp hs1 e
  exact sr (an (nretP [I (-1)] (ci hs1)))
 rintro i1 y1 rz1 hd1 dj aY er gr hs3 hx1 ag1 e
 refine sr (tO dj U (qO 16 U (aC (iF (λy=>[I y]) dY ty3 hs.1 aY U U U (λq2 A2=>dh ty3 A2 U (aC (lT (v:=.bool (f y1)) [] (List.nil_sublist _) (hf h y1 lf) U U (aJ (ae hs3 U (λc2 hs4=>?_) (λc2 hs5=>?_))))))))))
 .exact sr (qO 3 U (nretP [I (i1:Int)] (ci hs4)))
 exact aN (qT 2 U (oi i1 U (qO 2 U (ag1 hs5))))
theorem hY(h:HF)(s:List Int)(sk:Option Addr)(sj:Nat)(f:(Int->Bool))(f_v:Value)(hs:SlC qC h sk sj s)(hf:∀(h':HF)(dF:Int),jM h h'->um prog f_v [I dF] h' [] (.bool (f dF))):Ret prog 132 [.slice sk s.length sj,f_v] h (.bool (cC s f)):=by
 refine sT func132 U ntmps132 U λX hM hX hF=>?_
 have hs0:cC s f=cC s f:=rfl
 exact sr (qO 6 U (ai call220 (uu _ _ _ _ f f_v hs hf) U (qO 3 U (nretP [.bool (decide (0<=(dN s f)))] (cs hs0)))))
theorem xX(h:HF)(ep:Int)(v0:Int)(v0_q:Addr)(v1:Int)(v1_q:Addr)(av0:At h v0_q [I v0])(av1:At h v1_q [I v1]):Ret prog 194 [I ep,.pointer (some v0_q),.pointer (some v1_q)] h (.bool (ik ep v0 v1)):=by
 refine sT func194 U ntmps194 U λX hM hX hF=>?_
 have hs0:ik ep v0 v1=ik ep v0 v1:=rfl
 refine qT 7 U (dh ty3 av0 U (qO 2 U (bV 4 [8,9,10,11,12] 8 12 (decide (v1<ep)) U (λc1 hk1=>?_) (λe=>?_))))
 .exact av (dh ty3 av1 U (qO 2 U (hk1 _ U)))
 exact an (nretP [.bool (decide (ep<v0)||decide (v1<ep))] (cs hs0))
theorem dT(h:HF)(least:Int)(most:Int)(l:List Int)(eP:Option Addr)(eO:Nat)(hl:SlC qC h eP eO l):Ret prog 100 [I least,I most,.slice eP l.length eO] h (.bool (aR least most l)):=by
 refine sT func100 U ntmps100 U λX hM hX hF=>?_
 have hs0:aR least most l=aR least most l:=rfl
 exact sr (cy (λb1=>cy (λb2=>qO 5 U (aX 1 U hM (λh1 hle1 hb1=>aX 0 U hM (λh2 hle2 hb2=>aC (eG U U (ai IB (hY _ _ _ _ (λdF=>ik dF least most) (.func (.func 194) #[] #[Q b1,Q b2]) (hl.mono vG (hle1.t hle2)) (λh' dF hle=>iJ call194 (xX h' dF least ⟨b1,0,none⟩ most ⟨b2,0,none⟩  (((cA hb1).mono hle2).mono hle) ((cA hb2).mono hle)))) U (qO 3 U (nretP [.bool (!(cC l (λdF=>ik dF least most)))] (cs hs0)))))))))))
theorem Cs(h:HF)(x:Budget)  : Ret prog 148 [.agg (zK x).toArray] h (.bool (ju x)):=by
 refine sT func148 U ntmps148 U λX hM hX hF=>?_
 have hs0:ju x=ju x:=rfl
 refine sr (cy (λb1=>qL 13 [0] U (ae hs0 U (λc1 hs1=>?_) (λc1 hs2=>?_))))
 .refine qK 8 [0] U (aC (bK (cells:=[I x.No]) dY ty3 zc3 U U kr (λb2=>aX 0 U hM (λh1 hle1 hb1=>?_))))
  have sl1:SlC qC h1 (some ⟨b2,0,none⟩) 1 ([x.No]):=bI.slB0 (T:=3) (fz:=(0,0)) ((show bI qC h [I x.No] ([x.No])from⟨[I x.No],[],rfl,rfl,rfl,rfl⟩).mono vG hle1) hb1
  refine ai wh (dT _ 0 1048576 _ _ _ sl1) U (av (bj 7 [11,12,13,14,15,16,17,18] 11 18 (aR 0 1099511627775 ([x.At,x.Known])) U (λc2 hk1=>?_) (λe=>?_)))
  .refine qL 4 [0,0] U (aC (bK (cells:=[I x.At,I x.Known]) dY ty3 zc3 U U kr (λb3=>aX 0 U hM (λh2 hle2 hb2=>?_))))
   have sl2:SlC qC h2 (some ⟨b3,0,none⟩) 2 ([x.At,x.Known]):=bI.slB0 (T:=3) (fz:=(0,0)) ((show bI qC h1 [I x.At,I x.Known] ([x.At,x.Known])from⟨[I x.At],[I x.Known],rfl,rfl,rfl,⟨[I x.Known],[],rfl,rfl,rfl,rfl⟩⟩).mono vG hle2) hb2
   exact ai wh (dT _ 0 1099511627775 _ _ _ sl2) U (eN U (kh (h:=h1) hle2 hX hle1 (hk1 _ U)))
  refine av (bj 5 [19,20,21,22,23,24] 19 24 (aR (-1) 15 ([x.Kind])) U (λc3 hk2=>?_) (λe=>?_))
  .refine qL 2 [0] U (aC (bK (cells:=[I x.Kind]) dY ty3 zc3 U U kr (λb4=>aX 0 U hM (λh3 hle3 hb3=>?_))))
   have sl3:SlC qC h3 (some ⟨b4,0,none⟩) 1 ([x.Kind]):=bI.slB0 (T:=3) (fz:=(0,0)) ((show bI qC h1 [I x.Kind] ([x.Kind])from⟨[I x.Kind],[],rfl,rfl,rfl,rfl⟩).mono vG hle3) hb3
   exact ai wh (dT _ (-1) 15 _ _ _ sl3) U (eN U (kh (h:=h1) hle3 hX hle1 (hk2 _ U)))
  refine av (bj 5 [25,26,27,28,29,30] 25 30 (aR 1 1099511627776 ([x.Period])) U (λc4 hk3=>?_) (λe=>?_))
  .refine qL 2 [0] U (aC (bK (cells:=[I x.Period]) dY ty3 zc3 U U kr (λb5=>aX 0 U hM (λh4 hle4 hb4=>?_))))
   have sl4:SlC qC h4 (some ⟨b5,0,none⟩) 1 ([x.Period]):=bI.slB0 (T:=3) (fz:=(0,0)) ((show bI qC h1 [I x.Period] ([x.Period])from⟨[I x.Period],[],rfl,rfl,rfl,rfl⟩).mono vG hle4) hb4
   exact ai wh (dT _ 1 1099511627776 _ _ _ sl4) U (eN U (kh (h:=h1) hle4 hX hle1 (hk3 _ U)))
  refine av (bj 6 [31,32,33,34,35,36,37] 31 37 (aR 0 0 ([x.Count])) U (λc5 hk4=>?_) (λe=>?_))
  .refine qL 3 [0] U (aC (bK (cells:=[I x.Count]) dY ty3 zc3 U U kr (λb6=>aX 0 U hM (λh5 hle5 hb5=>?_))))
   have sl5:SlC qC h5 (some ⟨b6,0,none⟩) 1 ([x.Count]):=bI.slB0 (T:=3) (fz:=(0,0)) ((show bI qC h1 [I x.Count] ([x.Count])from⟨[I x.Count],[],rfl,rfl,rfl,rfl⟩).mono vG hle5) hb5
   exact ai wh (dT _ 0 0 _ _ _ sl5) U (eN U (kh (h:=h1) hle5 hX hle1 (hk4 _ U)))
  refine av (bj 6 [38,39,40,41,42,43,44] 38 44 (aR 0 0 ([x.Value])) U (λc6 hk5=>?_) (λe=>?_))
  .refine qL 3 [0] U (aC (bK (cells:=[I x.Value]) dY ty3 zc3 U U kr (λb7=>aX 0 U hM (λh6 hle6 hb6=>?_))))
   have sl6:SlC qC h6 (some ⟨b7,0,none⟩) 1 ([x.Value]):=bI.slB0 (T:=3) (fz:=(0,0)) ((show bI qC h1 [I x.Value] ([x.Value])from⟨[I x.Value],[],rfl,rfl,rfl,rfl⟩).mono vG hle6) hb6
   exact ai wh (dT _ 0 0 _ _ _ sl6) U (eN U (kh (h:=h1) hle6 hX hle1 (hk5 _ U)))
  exact an (nretP [.bool ((((((aR 0 1048576 ([x.No]))&&(aR 0 1099511627775 ([x.At,x.Known])))&&(aR (-1) 15 ([x.Kind])))&&(aR 1 1099511627776 ([x.Period])))&&(aR 0 0 ([x.Count])))&&(aR 0 0 ([x.Value])))] (cs hs1))
 refine qK 5 [0] U (aC (bK (cells:=[I x.No]) dY ty3 zc3 U U kr (λb8=>aX 0 U hM (λh7 hle7 hb7=>?_))))
 have sl7:SlC qC h7 (some ⟨b8,0,none⟩) 1 ([x.No]):=bI.slB0 (T:=3) (fz:=(0,0)) ((show bI qC h [I x.No] ([x.No])from⟨[I x.No],[],rfl,rfl,rfl,rfl⟩).mono vG hle7) hb7
 refine ai wh (dT _ 0 1048576 _ _ _ sl7) U (av (bj 7 [11,12,13,14,15,16,17,18] 11 18 (aR 0 1099511627775 ([x.At,x.Known])) U (λc7 hk6=>?_) (λe=>?_)))
 .refine qL 4 [0,0] U (aC (bK (cells:=[I x.At,I x.Known]) dY ty3 zc3 U U kr (λb9=>aX 0 U hM (λh8 hle8 hb8=>?_))))
  have sl8:SlC qC h8 (some ⟨b9,0,none⟩) 2 ([x.At,x.Known]):=bI.slB0 (T:=3) (fz:=(0,0)) ((show bI qC h7 [I x.At,I x.Known] ([x.At,x.Known])from⟨[I x.At],[I x.Known],rfl,rfl,rfl,⟨[I x.Known],[],rfl,rfl,rfl,rfl⟩⟩).mono vG hle8) hb8
  exact ai wh (dT _ 0 1099511627775 _ _ _ sl8) U (eN U (kh (h:=h7) hle8 hX hle7 (hk6 _ U)))
 refine av (bj 5 [19,20,21,22,23,24] 19 24 (aR (-1) 15 ([x.Kind])) U (λc8 hk7=>?_) (λe=>?_))
 .refine qL 2 [0] U (aC (bK (cells:=[I x.Kind]) dY ty3 zc3 U U kr (λb10=>aX 0 U hM (λh9 hle9 hb9=>?_))))
  have sl9:SlC qC h9 (some ⟨b10,0,none⟩) 1 ([x.Kind]):=bI.slB0 (T:=3) (fz:=(0,0)) ((show bI qC h7 [I x.Kind] ([x.Kind])from⟨[I x.Kind],[],rfl,rfl,rfl,rfl⟩).mono vG hle9) hb9
  exact ai wh (dT _ (-1) 15 _ _ _ sl9) U (eN U (kh (h:=h7) hle9 hX hle7 (hk7 _ U)))
 refine av (bj 5 [25,26,27,28,29,30] 25 30 (aR 1 1099511627776 ([x.Period])) U (λc9 hk8=>?_) (λe=>?_))
 .refine qL 2 [0] U (aC (bK (cells:=[I x.Period]) dY ty3 zc3 U U kr (λb11=>aX 0 U hM (λh10 hle10 hb10=>?_))))
  have sl10:SlC qC h10 (some ⟨b11,0,none⟩) 1 ([x.Period]):=bI.slB0 (T:=3) (fz:=(0,0)) ((show bI qC h7 [I x.Period] ([x.Period])from⟨[I x.Period],[],rfl,rfl,rfl,rfl⟩).mono vG hle10) hb10
  exact ai wh (dT _ 1 1099511627776 _ _ _ sl10) U (eN U (kh (h:=h7) hle10 hX hle7 (hk8 _ U)))
 refine av (bj 6 [31,32,33,34,35,36,37] 31 37 (aR 0 1048576 ([x.Count])) U (λc10 hk9=>?_) (λe=>?_))
 .refine qL 3 [0] U (aC (bK (cells:=[I x.Count]) dY ty3 zc3 U U kr (λb12=>aX 0 U hM (λh11 hle11 hb11=>?_))))
  have sl11:SlC qC h11 (some ⟨b12,0,none⟩) 1 ([x.Count]):=bI.slB0 (T:=3) (fz:=(0,0)) ((show bI qC h7 [I x.Count] ([x.Count])from⟨[I x.Count],[],rfl,rfl,rfl,rfl⟩).mono vG hle11) hb11
  exact ai wh (dT _ 0 1048576 _ _ _ sl11) U (eN U (kh (h:=h7) hle11 hX hle7 (hk9 _ U)))
 refine av (bj 6 [38,39,40,41,42,43,44] 38 44 (aR 0 1099511627776 ([x.Value])) U (λc11 hk10=>?_) (λe=>?_))
 .refine qL 3 [0] U (aC (bK (cells:=[I x.Value]) dY ty3 zc3 U U kr (λb13=>aX 0 U hM (λh12 hle12 hb12=>?_))))
  have sl12:SlC qC h12 (some ⟨b13,0,none⟩) 1 ([x.Value]):=bI.slB0 (T:=3) (fz:=(0,0)) ((show bI qC h7 [I x.Value] ([x.Value])from⟨[I x.Value],[],rfl,rfl,rfl,rfl⟩).mono vG hle12) hb12
  exact ai wh (dT _ 0 1099511627776 _ _ _ sl12) U (eN U (kh (h:=h7) hle12 hX hle7 (hk10 _ U)))
 exact an (nretP [.bool ((((((aR 0 1048576 ([x.No]))&&(aR 0 1099511627775 ([x.At,x.Known])))&&(aR (-1) 15 ([x.Kind])))&&(aR 1 1099511627776 ([x.Period])))&&(aR 0 1048576 ([x.Count])))&&(aR 0 1099511627776 ([x.Value])))] (cs hs2))
theorem uI(h:HF)(l:List Budget)(eP:Option Addr)(eO:Nat)(hl:SlC aAk h eP eO l):Ret prog 68 [.slice eP l.length eO] h (I (cw l)):=by
 refine sT func68 U ntmps68 U λX hM hX hF=>?_
 have hs0:cw l=cw l:=rfl
 refine qK 11 [] U (ae hs0 U (λc1 hs1=>?_) (λc1 hs2=>?_))
 .have c1p:=of_decide_eq_true c1
  exact sr (an (nretP [I 2] (ci hs1)))
 have c1p:=of_decide_eq_false c1
 refine qK 12 [] U ?_
 refine lp1 l (λi w=>[(3,I w),(9,.slice eP l.length eO),(10,I (l.length:Int)),(11,I (i:Int))]) ([]) (λs1 i w=>(cw.L1 (cw.K1)) s1 w) (-1) hl.1.1 hs2 ?_ ?_
 .rintro i1 iB fp hs4 e
  exact sr (an (nretP [I 0] (ci hs4)))
 rintro i1 iB y1 rz1 hd1 dj aY er gr hs6 hx1 ag1 e
 refine sr (tO dj U (qO 8 U (aC (iF zK uo ty101 hl.1 aY U U U (λq2 A2=>dz ty101 A2 U U (ba zc101 (λb2=>aQ 0 ty101 U U U U U U (qO 4 U (cK 0 ty101 U U U (ai call148 (Cs h y1) U (qO 2 U (bV 5 [18,19,20,21,22,23] 18 23 (decide (y1.No<=iB)) U (λc2 hk1=>?_) (λe=>?_)))))))))))))
 .exact qL 5 [0] U (hk1 _ U)
 refine aJ (ae hs6 U (λc3 hs7=>?_) (λc3 hs8=>?_))
 .exact sr (an (nretP [I 180] (ci hs7)))
 exact qK 8 [0] U (oi i1 U (qO 2 U (bz (L':=[]) js (ag1 y1.No hs8))))
theorem w4(rec:Expr->Int->List gx)(h:HF)(x:Expr)(gd:cL)(x_q:Addr)(depth:Int)(depth_q:Addr)(hrec:∀(h:HF)(qx:Expr)(kU:cL)(qdepth:Int)(_:jF h qx kU)(_:0<=qdepth/\qdepth+qx.dep<=2000000)(_:qx.dep<x.dep),j1 prog 282 [.agg (zC qx kU).toArray,I qdepth] h (λv h'=>∃rv0:Value,v=rv0/\Itr prog rv0 uB (rec qx qdepth) h'))(hx:jF h x gd)(ax:At h x_q (zC x gd))(adepth:At h depth_q [I depth])(hb:0<=depth/\depth+x.dep<=2000000):Itr prog (.func (.func 329) #[] (vB [.pointer (some x_q),.pointer (some depth_q)])) uB (aM.F rec x depth) h:=by
 refine sE call329 ?_
 intro yf ya yb C Sp Pn h1 A hle m1 m2 m3 hC hy
 refine jg GD U ntmps329 U λX hXM hX=>?_
 have hs0:aM.F rec x depth=[]++aM.F rec x depth:=rfl
 refine sr (cy (λb1=>qL 5 [0] U (dz ty62 (ax.mono hle) U U (dh ty3 (adepth.mono hle) U (aC (fN (cells:=[I x.Kind,I x.N,I x.No,.string x.Name,.slice gd.lX x.L.length gd.mm,I depth]) (places:=[(0,5),(5,1)]) underlying327 zc327 kr kr ?_))))))
 have hx1:aM.F rec x depth=[]++((gx.mk (qG x.Kind x.N x.No x.Name x.L) depth)::((aM.L1 rec depth (aM.K1)) x.L)):=hs0
 let z1:Nat×Obj:=(b1,O [.func yf ya yb] 366)
 refine aC (kp ([z1]) A ap (hy [] (gx.mk (qG x.Kind x.N x.No x.Name x.L) depth) _ _ _ _ hx1 lf hC ⟨(Cu.mk (cL.mk gd.lX gd.mm)),U,(show gx.ok h1 (gx.mk (qG x.Kind x.N x.No x.Name x.L) depth) (Cu.mk (cL.mk gd.lX gd.mm))from⟨(show jF h1 (qG x.Kind x.N x.No x.Name x.L) (cL.mk gd.lX gd.mm)from aAf (hx.list.mono aAi hle))⟩)⟩) U U (λh2 A1 hle1 hC1=>?_) (λh3 A2 hle2 hS1=>?_) (λch1 h4 A3 hle3 hP1 e=>gH (mP [] (A:=A3) GD (List.sublist_append_right _ _) hP1)))
 .have hs1:aM.F rec x depth=[(gx.mk (qG x.Kind x.N x.No x.Name x.L) depth)]++(((aM.L1 rec depth (aM.K1)) x.L)):=hx1.trans ap
  refine qL 7 [] U (jb (j:=4) ty60 (ax.mono (hle.t hle1)) U U (qL 3 [] U (et (cn (L':=[z1]++(A1++(markB []))) ap ?_))))
  refine rZ (ι:=Nat×List gx×LH×List Nat×HF) (λi=>[]) (λi=>marks i.2.2.2.1) (λi=>i.2.2.2.2) (λi=>[z1]++(i.2.2.1++(markB i.2.2.2.1))) (λi=>i.1<=x.L.length/\aM.F rec x depth=i.2.1++((aM.K1))/\C i.2.1 i.2.2.2.2 i.2.2.1/\jM h2 i.2.2.2.2) ?_ (λhx1=>?_)
  .rintro⟨i1,dn1,A1_,rs1,hh1⟩ ⟨fp,hs2,hC1_,hl1⟩ e
   refine cn (L':=([z1]++(A1_))++markB rs1) ap ?_
   have hs3:aM.F rec x depth=dn1:=hs2.trans (List.append_nil _)
   exact sF rs1 (A:=A1_) GD U js (.inl (hs3▸hC1_))
  refine wH (ι:=Nat×List gx×LH×List Nat×HF×List Expr) (λi=>[(2,.pointer (some depth_q)),(3,Q b1),(14,.slice gd.lX x.L.length gd.mm),(15,I (x.L.length:Int)),(16,I (i.1:Int))]) (λi=>marks i.2.2.2.1) (λi=>i.2.2.2.2.1) (λi=>[z1]++(i.2.2.1++(markB i.2.2.2.1))) (λi=>x.L.drop i.1=i.2.2.2.2.2/\i.1<=x.L.length/\aM.F rec x depth=i.2.1++((aM.L1 rec depth (aM.K1)) i.2.2.2.2.2)/\C i.2.1 i.2.2.2.2.1 i.2.2.1/\jM h2 i.2.2.2.2.1) (λi=>i.2.2.2.2.2.length) (0,[(gx.mk (qG x.Kind x.N x.No x.Name x.L) depth)],A1,[],h2,x.L) U rd sw ⟨U,jL _,hs1,hC1,lf⟩ ?_
  rintro⟨i1,dn1,A1_,rs1,hh1,s1⟩ ⟨hd1,fp,hs4,hC1_,hl1⟩ ag1 e
  rcases s1 with _|⟨y1,rz1⟩
  .have ga:=mR hd1
   exact sr (fO ga U (qO 4 U (hx1 (i1,dn1,A1_,rs1,hh1) _ ⟨fp,hs4,hC1_,hl1⟩ trivial)))
  have dj:=sQ hd1
  have aY:=rg hd1
  have er:=io hd1
  have gr:=(hx.list.mono aAi (hle.t hle1)).1.1
  have hdy:=Expr.jf (fX hd1)
  refine sr (tO dj U (qO 8 U (aC (iR lB ty62 (hx.list.mono aAi ((hle.t hle1).t hl1)).1 aY U U U (λ_ _ _ e=>e) (λq2 r2 A8 ok2=>dz ty62 A8 U U (ba zc62 (λb4=>aQ 0 ty62 U U U U U U (il (L':=[(b4,O (zC y1 r2) 62),z1]++(A1_++(markB rs1))) U (qO 3 U (cK 0 ty62 U U U (dh ty3 (adepth.mono ((hle.t hle1).t hl1)) U (iQ (v':=I (depth+1)) U (jv ob) (aC (cS Li (hrec _ _ _ (depth+1) ok2 ob (Expr.jf (fX hd1))) U (λv2 h9 hle8 hp2=>?_)))))))))))))))
  obtain⟨_,rfl,mo2⟩:=hp2
  refine qO 2 U ?_
  let z2:Nat×Obj:=(b4,O (zC y1 r2) 62)
  refine cn (L':=([z2,z1]++(A1_))++markB rs1) ap ?_
  refine j3 (it:=v2) (xs:=(rec y1 (depth+1))) (ι:=List gx×LH×HF) rs1 (λi=>i.2.2) (λi=>[z2,z1]++(i.2.1)) (λs i=>aM.F rec x depth=i.1++((aM.L3 ((aM.L1 rec depth (aM.K1) rz1))) s)/\C i.1 i.2.2 i.2.1/\jM h9 i.2.2) (λi=>Sp i.2.2 i.2.1/\jM h9 i.2.2) (λ_=>False) 0 (λch h L=>∃B,B.Sublist L/\Pn ch h B) (dn1,A1_,h9) GD U mo2 U n0 (λ_ _ _ _ hl⟨B,hs,hp⟩=>⟨B,hs,m3 _ _ _ _ hl hp⟩) U (show[z2,z1]++(A1_)=_ from U) ⟨hs4,(m1 _ _ _ _ hle8 hC1_),lf⟩ ?_ ?_ ?_ ?_ ?_
  .rintro l3 dm3 lp3 y3 rz3 vs3 ⟨dn3,A3_,hh3⟩ hr3 X hFR3 ⟨hs6,hC3_,hl3⟩ hl03 hlr3 hv3 hX hXM hlp3 nx3 rt3 ex3 pn3
   obtain⟨rr3_0,rfl,ok3_0⟩:=hv3
   let z3:Nat×Obj:=(dm3,.deferred (some []))
   refine cn (L':=[(l3,.loop lp3),z3,z2,z1]++(A3_++(markB rs1))) ap (bE (ba zc327 (λb6=>aQ 0 ty327 U U U U U U (il (L':=[(b6,O (gx.cells y3 rr3_0) 327),(l3,.loop lp3),z3,z2,z1]++(A3_++(markB rs1))) U (aJ (jy 1 U hlp3 (qK 4 [4] U (cK 0 ty327 U U U ?_))))))))
   have hx4:aM.F rec x depth=dn3++(y3::((aM.L3 ((aM.L1 rec depth (aM.K1) rz1))) rz3)):=hs6
   let z4:Nat×Obj:=(l3,.loop { lp3 with state:=.busy })
   refine aC (NT ([(b6,O (gx.cells y3 rr3_0) 327),z4,z3,z2,z1]) A3_ (markB rs1) ap (hy dn3 y3 _ _ _ _ hx4 ((((hle1.t hl1).t hle8).t hl3).t hlr3) (m1 _ _ _ _ hlr3 hC3_) ⟨rr3_0,U,ok3_0⟩) U U (λh13 A12 hle12 hC4=>?_) (λh14 A13 hle13 hS4=>?_) (λch4 h15 A14 hle14 hP4 e=>zm (L':=[z4,z3]++(A14++(markB rs1))) js (pn3 _ _ _ A14 ⟨A14,List.Sublist.refl _,hP4⟩)))
   .have hs7:aM.F rec x depth=(dn3++[y3])++(((aM.L3 ((aM.L1 rec depth (aM.K1) rz1))) rz3)):=hx4.trans ap
    exact mU U (qO 4 U (bz (L':=[z4,z3,z2,z1]++(A12++(markB rs1))) js (cn (L':=rdH l3 dm3 lp3 (([z2,z1]++(A12))++markB rs1)) ap (nx3 ((dn3++[y3]),A12,h13) _ _ ⟨hs7,hC4,((hl3.t hlr3).t hle12)⟩ lf))))
   exact mU U (qO 2 U (bz (L':=[z4,z3,z2,z1]++(A13++(markB rs1))) js (cn (L':=rdH l3 dm3 lp3 (([z2,z1]++(A13))++markB rs1)) ap (rt3 (dn3,A13,h14) _ _ _ ⟨hS4,((hl3.t hlr3).t hle13)⟩ lf))))
  .rintro dm3 ⟨dn3,A3_,hh3⟩ hn3 ⟨hs8,hC3_,hl3⟩ hln3 hl03
   exact cn (L':=[z2,z1]++(A3_++(markB (dm3::rs1)))) ap (qT 3 U (oi i1 U (qO 2 U (bz (L':=[z1]++(A3_++(markB (dm3::rs1)))) js (ag1 ((i1+1),dn3,A3_,(dm3::rs1),hn3,rz1) _ (Nat.lt_succ_self _) ⟨kx hd1,io hd1,hs8,(m1 _ _ _ _ hln3 hC3_),(((hl1.t hle8).t hl3).t hln3)⟩ rd)))))
  .rintro dm3 ⟨dn3,A3_,hh3⟩ hn3 ⟨hS5,hl3⟩ hln3 hl03
   exact cn (L':=[z2,z1]++(A3_++(markB (dm3::rs1)))) ap (cn (L':=([z2,z1]++(A3_))++markB (dm3::rs1)) ap (mF (dm3::rs1) (A:=A3_) GD U js (.inr (m2 _ _ _ hln3 hS5))))
  .exact xf
  rintro dm3 ch hn3 L0 ⟨B,hB,hp⟩ hl03
  exact mP (dm3::rs1) GD hB hp
 exact mU U (qO 2 U (et (mF [] (A:=A2) GD U js (.inr hS1))))
theorem qf:∀(m:Nat)(h:HF)(x:Expr)(gd:cL)(depth:Int)(_:jF h x gd)(_:0<=depth/\depth+x.dep<=2000000)(_:x.dep<=m),j1 prog 282 [.agg (zC x gd).toArray,I depth] h (λv h'=>∃rv0:Value,v=rv0/\Itr prog rv0 uB (aM.go m x depth) h')
 |0,h,x,gd,depth,hx,hb,hd=>absurd hd (Nat.not_le.2 (Expr.lO _))
 |m+1,h,x,gd,depth,hx,hb,hd=>by
  exact cJ func282 U ntmps282 U λX hM hX=>sr (cy (λb1=>cy (λb2=>qO 4 U (aX 1 U hM (λh2 hle2 hb2=>aX 0 U hM (λh3 hle3 hb3=>aC (eG U U (an (jx [.func (.func 329) #[] #[Q b1,Q b2]] func282 U rd ⟨_,U,w4 (aM.go m) h3 x gd ⟨b1,0,none⟩ depth ⟨b2,0,none⟩ (λh' y Rz d' hy hb' hl=>qf m h' y Rz d' hy hb' ob) (hx.mono (hle2.t hle3)) ((cA hb2).mono hle3) (cA hb3) hb⟩)))))))))
theorem mS(h:HF)(x:Expr)(gd:cL)(depth:Int)(hx:jF h x gd)(hb:0<=depth/\depth+x.dep<=2000000):j1 prog 282 [.agg (zC x gd).toArray,I depth] h (λv h'=>∃rv0:Value,v=rv0/\Itr prog rv0 uB (bx x depth) h'):=qf _ h x gd depth hx hb (xG _)
theorem ia(h:HF)(ok:Bool)(Qg:Int)  : Gu prog 324 [.bool ok,I Qg] h (exW stopV (λr:Unit=>(.tuple #[]:Value)) (eU ok Qg)):=by
 refine cJ func324 U ntmps324 U λX hM hX=>?_
 have hs0:eU ok Qg=eU ok Qg:=rfl
 refine qT 5 U (ae hs0 U (λc1 hs1=>?_) (λc1 hs2=>?_))
 .exact bE (av (aC (fN (cells:=[I Qg]) (places:=[(0,1)]) underlying358 zc358 kr kr (aC (fw (DO underlying358 U U) (aC (DK U yg (λe=>gH (nB [] func324 hX (congrArg (exW stopV (λr:Unit=>(.tuple #[]:Value))) hs1))))))))))
 refine aN ?_
 have hs3:eU ok Qg=(Except.ok ()):=hs2
 exact et (yc [] [] func324 U hX trivial (congrArg (exW stopV (λr:Unit=>(.tuple #[]:Value))) hs3))
theorem MP{c:Bool}{e:Int}{u:Unit}(h:eU c e=.ok u):c=true:=by
 cases c with
 |true=>rfl
 |false=>simp[eU]at h
theorem md(h:HF)(p:Policy)(gS:eA)(hp:zN h p gS)(hsz0:p.Rules.length<=2000000):j1 prog 325 [.agg (kD p gS).toArray] h (λv h'=>∃(rb0:Option Addr)(rc0:Nat),v=.slice rb0 (ay p).length rc0/\SlC aAF h' rb0 rc0 (ay p)):=by
 refine sT func325 U ntmps325 U λX hM hX hF=>?_
 have hs0:ay p=ay p:=rfl
 refine sr (cy (λb1=>qL 10 [0] U ?_))
 let z2:Nat×Obj:=(b1,O (kD p gS) 64)
 refine lp2 p.Rules (λi w=>[(1,Q b1),(2,.slice w.2.1 w.1.length w.2.2.1),(6,.slice gS.nO p.Rules.length gS.nN),(7,I (p.Rules.length:Int)),(8,I (i:Int))]) (λ_=>h) (λw=>[z2]++(w.2.2.2)) (λi w=>dG aAF 62 h w.1 w.2.1 w.2.2.1 w.2.2.2/\w.1.length<=0+i) (λs1 i w=>(ay.L1 (ay.K1 p)) s1 w.1) ([],none,0,[]) hp.Rules.1.1 hs0 ⟨dG.nil,lo⟩ ?_ ?_
 .rintro i1 ⟨Gl,Q6,Q5,Qf⟩ fp hs1 ⟨JK,OM⟩ e
  try dsimp only at JK OM
  refine qK 4 [] U (cK 0 ty62 U U U (aC (bK (cells:=[I p.Change.Kind,I p.Change.N,I p.Change.No,.string p.Change.Name,.slice gS.Change.lX p.Change.L.length gS.Change.mm]) lB ty62 zc62 U U kr (λb5=>?_))))
  let z1:Nat×Obj:=(b5,O [I p.Change.Kind,I p.Change.N,I p.Change.No,.string p.Change.Name,.slice gS.Change.lX p.Change.L.length gS.Change.mm] 62)
  refine aC (dK Expr.eQ ([z1,z2]) ([]) (λG=>[z1,z2]++G) ap (λ_=>ap) lB ty62 zc62 U bytes62 JK U U (fd 0 U (cE (R:=aAF) (p.Change) U ⟨gS.Change,U,hp.Change⟩)) lo lo (λob3 oc3 G3 gr3=>an (fF aAi ([z1,z2]) G3 ([]) ap hM gr3 (λh2 hle2 sl2=>?_))))
  have hs2:ay p=(Gl++[p.Change]):=hs1
  exact nretH [.slice ob3 ((Gl++[p.Change]).length) oc3] ⟨ob3,oc3,congrArg (λr:List Expr=>(.slice ob3 r.length oc3:Value)) hs2.symm,(by rw[hs2];exact sl2)⟩
 rintro i1 ⟨Gl,Q6,Q5,Qf⟩ y1 rz1 hd1 dj aY er gr hs3 ⟨JK,OM⟩ hx1 ag1 e
 try dsimp only at JK OM
 exact sr (tO dj U (qO 8 U (aC (iR wi ty79 hp.Rules.1 aY U U U (λ_ _ _ e=>e) (λq2 r2 A2 ok2=>dz ty79 A2 U U (ba zc79 (λb6=>aQ 0 ty79 U U U U U U (il (L':=[(b6,O (aBN y1 r2) 79),z2]++(Qf)) U (qL 4 [] U (cK 0 ty62 U U U (aC (bK (cells:=[I y1.Expr.Kind,I y1.Expr.N,I y1.Expr.No,.string y1.Expr.Name,.slice r2.Expr.lX y1.Expr.L.length r2.Expr.mm]) lB ty62 zc62 U U kr (λb7=>aC (dK Expr.eQ ([(b7,O [I y1.Expr.Kind,I y1.Expr.N,I y1.Expr.No,.string y1.Expr.Name,.slice r2.Expr.lX y1.Expr.L.length r2.Expr.mm] 62),(b6,O (aBN y1 r2) 79),z2]) ([]) (λG=>[(b7,O [I y1.Expr.Kind,I y1.Expr.N,I y1.Expr.No,.string y1.Expr.Name,.slice r2.Expr.lX y1.Expr.L.length r2.Expr.mm] 62),(b6,O (aBN y1 r2) 79),z2]++G) ap (λ_=>ap) lB ty62 zc62 U bytes62 JK U U (fd 0 U (cE (R:=aAF) (y1.Expr) U ⟨r2.Expr,U,ok2.Expr⟩)) lo lo (λob4 oc4 G4 gr4=>qO 4 U (oi i1 U (qO 2 U (bz (L':=[z2]++G4) js (ag1 ((Gl++[y1.Expr]),ob4,oc4,G4) hs3 ⟨gr4,lo⟩)))))))))))))))))))
theorem Mg(p:Policy):∀(l:List Rule)(g:List Expr),ay.L1 (ay.K1 p) l g=g++(l.map (·.Expr)++[p.Change])
 |[],g=>by simp[ay.L1,ay.K1]
 |y::l,g=>by simp[ay.L1,Mg p l]
theorem OY(p:Policy):ay p=p.Rules.map (·.Expr)++[p.Change]:=by
 unfold ay;rw[Mg];simp
theorem Bt{p:Policy}(h:smP p){y:Expr}(hy:y∈ay p):y.dep<=1500000:=by
 rw[OY]at hy
 rcases qH.1 hy with hy|hy
 .obtain⟨r,hr,rfl⟩:=List.mem_map.1 hy;exact h.2.1 r hr
 rw[List.mem_singleton.1 hy];exact h.2.2.1
theorem AW(h:HF)(p:Policy)(gS:eA)(hp:zN h p gS)(hsm:smP p):Gu prog 278 [.agg (kD p gS).toArray] h (exW stopV (λr:Unit=>(.tuple #[]:Value)) (co p)):=by
 refine cJ Lh U ntmps278 U λX hM hX=>?_
 have hs0:co p=co p:=rfl
 have hsr:=hsm.rules
 have hsc:=hsm.change
 refine sr (cy (λb1=>qL 8 [0] U (bj 5 [10,11,12,13,14,15] 10 15 (decide ((p.Kinds.length:Int)<=16)) U (λc1 hk1=>?_) (λe=>?_))))
 .exact qL 5 [0] U (hk1 _ U)
 refine av (bj 5 [16,17,18,19,20,21] 16 21 (decide ((p.Rules.length:Int)<=16)) U (λc2 hk2=>?_) (λe=>?_))
 .exact qL 5 [0] U (hk2 _ U)
 refine aC (my yO (ia h ((decide ((p.Offices.length:Int)<=32)&&decide ((p.Kinds.length:Int)<=16))&&decide ((p.Rules.length:Int)<=16)) 2) U (λu1 hu1=>?_) (λpv1 hpv1 e=>?_))
 .obtain⟨rx1,hrx1,rfl⟩:=oy hu1
  have hs1:=hs0.trans (pi hrx1)
  cases rx1
  refine qO 3 U (cK 0 ty64 U U U (aC (cS call325 (md _ _ _ hp ob) U (λv1 h1 hle1 hp1=>?_))))
  obtain⟨rb1,rc1,rfl,sl1⟩:=hp1
  refine qL 3 [] U (et ?_)
  let z1:Nat×Obj:=(b1,O (kD p gS) 64)
  refine cn (L':=[z1]++(markB [])) ap ?_
  refine rZ (ι:=Nat×List Nat×HF) (λi=>[]) (λi=>marks i.2.1) (λi=>i.2.2) (λi=>[z1]++(markB i.2.1)) (λi=>i.1<=(ay p).length/\co p=((co.K1))/\jM h1 i.2.2) ?_ (λhx1=>?_)
  .rintro⟨i1,rs1,hh1⟩ ⟨fp,hs2,hl1⟩ e
   have hs3:co p=(Except.ok ()):=hs2
   exact cn (L':=([z1])++markB rs1) ap (yc rs1 [] Lh U hX trivial (congrArg (exW stopV (λr:Unit=>(.tuple #[]:Value))) hs3))
  refine wH (ι:=Nat×List Nat×HF×List Expr) (λi=>[(24,.slice rb1 ((ay p).length) rc1),(25,I ((ay p).length:Int)),(26,I (i.1:Int))]) (λi=>marks i.2.1) (λi=>i.2.2.1) (λi=>[z1]++(markB i.2.1)) (λi=>(ay p).drop i.1=i.2.2.2/\i.1<=(ay p).length/\co p=((co.L1 (co.K1)) i.2.2.2)/\jM h1 i.2.2.1) (λi=>i.2.2.2.length) (0,[],h1,(ay p)) U rd sw ⟨U,jL _,hs1,lf⟩ ?_
  rintro⟨i1,rs1,hh1,s1⟩ ⟨hd1,fp,hs4,hl1⟩ ag1 e
  rcases s1 with _|⟨y1,rz1⟩
  .have ga:=mR hd1
   exact sr (fO ga U (qO 4 U (hx1 (i1,rs1,hh1) _ ⟨fp,hs4,hl1⟩ trivial)))
  have dj:=sQ hd1
  have aY:=rg hd1
  have er:=io hd1
  have gr:=sl1.1.1
  try have hsy:=Bt hsm (fX hd1)
  refine sr (tO dj U (qO 8 U (aC (iR lB ty62 (sl1.mono aAi hl1).1 aY U U U (λ_ _ _ e=>e) (λq2 r2 A2 ok2=>dz ty62 A2 U U (ba zc62 (λb5=>aQ 0 ty62 U U U U U U (qO 3 U (ba zc3 (λb6=>cT 0 ty3 U U U U U U (qO 3 U (cK 1 ty62 U U U (aC (cS Li (mS _ _ _ 1 ok2 ob) U (λv3 h3 hle3 hp3=>?_)))))))))))))))
  obtain⟨_,rfl,mo2⟩:=hp3
  refine qO 2 U ?_
  let z2:Nat×Obj:=(b5,O (zC y1 r2) 62)
  refine cn (L':=([(b6,O [I 0] 3),z2,z1])++markB rs1) ap ?_
  refine j3 (it:=v3) (xs:=(bx y1 1)) (ι:=Int×HF) rs1 (λi=>i.2) (λi=>[(b6,O [I i.1] 3),z2,z1]) (λs i=>co p=((co.L3 (λzg3_b6_0=>(co.L1 (co.K1) rz1))) s i.1)/\jM h3 i.2) (λ_=>False) (λ_=>False) 0 (λch _ _=>∃pv_,ch=[{ v:=stopV pv_,recovered:=false }]/\co p=.error pv_) (0,h3) Lh U mo2 U n0 (λ_ _ _ _ _ hq=>hq) U (show[(b6,O [I 0] 3),z2,z1]=_ from U) ⟨hs4,lf⟩ ?_ ?_ ?_ ?_ ?_
  .rintro l3 dm3 lp3 y3 rz3 vs3 ⟨pS,hh3⟩ hr3 X hFR3 ⟨hs6,hl3⟩ hl03 hlr3 hv3 hX hXM hlp3 nx3 rt3 ex3 pn3
   obtain⟨rr3_0,rfl,ok3_0⟩:=hv3
   let z4:Nat×Obj:=(dm3,.deferred (some []))
   refine cn (L':=[(l3,.loop lp3),z4,(b6,O [I pS] 3),z2,z1]++(markB rs1)) ap (bE (ba zc327 (λb8=>aQ 0 ty327 U U U U U U (aJ (jy 1 U hlp3 (qK 5 [3] U (cT 3 ty3 U U U U U U (qL 5 [3] U (bj 4 [37,38,39,40,41] 37 41 (decide (y3.depth<=16)) U (λc3 hk3=>?_) (λe=>?_))))))))))
   .exact qL 4 [0] U (hk3 _ U)
   refine aC (my yO (ia hr3 (decide ((vC .i64 (pS+1))<=256)&&decide (y3.depth<=16)) 2) U (λu2 hu2=>?_) (λpv2 hpv2 e=>?_))
   .obtain⟨rx2,hrx2,rfl⟩:=oy hu2
    have hs7:=hs6.trans (pi hrx2)
    cases rx2
    refine qO 2 U ?_
    let z3:Nat×Obj:=(b6,O [I (vC .i64 (pS+1))] 3)
    exact bz (L':=[(l3,.loop { lp3 with state:=.busy }),z4,z3,z2,z1]++(markB rs1)) js (cn (L':=rdH l3 dm3 lp3 (([z3,z2,z1])++markB rs1)) ap (nx3 ((vC .i64 (pS+1)),hr3) _ _ ⟨hs7,(hl3.t hlr3)⟩ lf))
   obtain⟨pv2e,hpv2e,rfl⟩:=mG hpv2
   have hs8:=hs6.trans (mZ hpv2e)
   exact zm (L':=[(l3,.loop { lp3 with state:=.busy }),z4]++(markB rs1)) js (pn3 _ _ _ [] ⟨_,U,hs8⟩)
  .rintro dm3 ⟨pS,hh3⟩ hn3 ⟨hs9,hl3⟩ hln3 hl03
   exact cn (L':=[(b6,O [I pS] 3),z2,z1]++(markB (dm3::rs1))) ap (qT 3 U (oi i1 U (qO 2 U (bz (L':=[z1]++(markB (dm3::rs1))) js (ag1 ((i1+1),(dm3::rs1),hn3,rz1) _ (Nat.lt_succ_self _) ⟨kx hd1,io hd1,hs9,(((hl1.t hle3).t hl3).t hln3)⟩ rd)))))
  .exact xf
  .exact xf
  rintro dm3 ch hn3 L0 ⟨pv_,rfl,hpv_⟩ hl03
  exact nB (dm3::rs1) Lh hX (congrArg (exW stopV (λr:Unit=>(.tuple #[]:Value))) hpv_)
 obtain⟨pv1e,hpv1e,rfl⟩:=mG hpv1
 have hs10:=hs0.trans (mZ hpv1e)
 exact gH (nB [] Lh hX (congrArg (exW stopV (λr:Unit=>(.tuple #[]:Value))) hs10))
end Go.Sg

namespace Go.Sg
open Go.Proofs Go.Proofs.Tryz
theorem ext282:Extern.find Tryz.f388=some Extern.BytealgIndexByte.indexByte:=by kernel_rfl
theorem ext282n:Extern.findNext Tryz.f388=none:=by kernel_rfl
theorem run282(s:ByteArray)(c:Int)(w:World):(Extern.BytealgIndexByte.indexByte #[.string s,.int .u8 c]).run prog w=.ok (.int .i64 (idxByte s c)) w:=by
 show(do
  let b ←Extern.Bytes.bytesOf (.string s)
  let c ←Extern.Bytes.asByte (.int .u8 c)
  match(kG b.size).find? λi=>b[i]! == c with
  |some i=>pure (goInt i)
  |none=>pure (goInt (-1)):Sem Value).run prog w=_
 simp only[Extern.Bytes.bytesOf,Extern.Bytes.asByte,xP,Sem.run_pure,zM,idxByte,goInt]
 cases hf:(kG s.size).find? (λi=>s[i]! == UInt8.ofNat c.toNat)with
 |none=>simp only[show c.toNat.toUInt8=UInt8.ofNat c.toNat from rfl,hf];simp
 |some i=>simp only[show c.toNat.toUInt8=UInt8.ofNat c.toNat from rfl,hf];simp
theorem call282(s:ByteArray)(c:Int)(w:World):(callFunc 388 #[.string s,.int .u8 c]).run prog w=.ok (.value (.int .i64 (idxByte s c))) w:=by
 have hb:Tryz.f388.body.isNone=true:=by kernel_rfl
 have hn : (Tryz.f388.name == "runtime.NumGoroutine") = false := by kernel_rfl
 simp only[callFunc,xP,run_program,zM,func388,hn,hb,ext282,ext282n]
 simp[run282]
theorem Ob{e:Env}{X:Cx}{h:HF}{L:LH}{d:Option Nat}{ty:TypeId}{pos:String}{af:Array Edge}{g:Option (Nat×Bool)}{x y:Operand}{ats:Array TypeId}{s:ByteArray}{c:Int}(hx:e.ev x=.string s)(hy:e.ev y=.int .u8 c):
  ∀w,St X h L w->(execOp e.ev ⟨d,.call ⟨.value (.func 388),#[x,y],ats⟩,ty,pos,af,g⟩).run prog w=.ok (.value (.int .i64 (idxByte s c))) w:=
 λw _=>by
  have hf:e.ev (.func 388)=.func (.func 388) #[] #[]:=rfl
  simp[execOp,resolve,hf,kJ,invoke,hx,hy,call282]
end Go.Sg

namespace Go.Sg
open Go.Proofs Go.Proofs.Tryz
set_option maxHeartbeats 2000000
theorem nU(h:HF)(x:Expr)(gd:cL)(hx:jF h x gd):Ret prog 283 [.agg (zC x gd).toArray] h (.bool (dp x)):=by
 refine sT func283 U ntmps283 U λX hM hX hF=>?_
 have hs0:dp x=dp x:=rfl
 refine sr (cy (λb1=>qL 8 [0] U (bV 4 [6,7,8,9,10] 6 10 (x.Kind==2) U (λc1 hk1=>?_) (λe=>?_))))
 .exact qL 4 [0] U (hk1 _ U)
 exact an (nretP [.bool ((x.Kind==1)||(x.Kind==2))] (cs hs0))
theorem oJ(h:HF)(s:ByteArray)(c:Int)  : Ret prog 387 [.string s,Y c] h (I (ic s c)):=by
 refine sT func387 U ntmps387 U λX hM hX hF=>?_
 have hs0:ic s c=ic s c:=rfl
 exact sr (qO 6 U (aC (fw (Ob U U) (an (nretP [I (idxByte s c)] (ci hs0))))))
theorem wJ(h:HF)(s:ByteArray)(c:Int)  : Ret prog 384 [.string s,Y c] h (I (strings_IndexByte s c)):=by
 refine sT func384 U ntmps384 U λX hM hX hF=>?_
 have hs0:strings_IndexByte s c=strings_IndexByte s c:=rfl
 exact sr (qO 6 U (ai call387 (oJ h s c) U (an (nretP [I (ic s c)] (ci hs0)))))
theorem Ba(h:HF)(c:Int)  : Ret prog 377 [Y c] h (I (j4 c)):=by
 refine sT func377 U ntmps377 U λX hM hX hF=>?_
 have hs0:j4 c=j4 c:=rfl
 refine qT 11 U (bj 3 [6,7,8,9] 6 9 (decide (c<=122)) U (λc1 hk1=>?_) (λe=>?_))
 .exact av (qO 2 U (hk1 _ U))
 refine av (bV 7 [10,11,12,13,14,15,16,17] 10 17 (decide (65<=c)&&decide (c<=90)) U (λc2 hk2=>?_) (λe=>?_))
 .refine qO 3 U (bj 3 [13,14,15,16] 13 16 (decide (c<=90)) U (λc3 hk3=>?_) (λe=>?_))
  .exact av (qO 2 U (hk3 _ U))
  exact eN U (hk2 _ U)
 refine an (ae hs0 U (λc4 hs1=>?_) (λc4 hs2=>?_))
 .exact sr (an (nretP [I 2] (ci hs1)))
 refine qT 5 U (bj 3 [21,22,23,24] 21 24 (decide (c<=57)) U (λc5 hk4=>?_) (λe=>?_))
 .exact av (qO 2 U (hk4 _ U))
 refine an (ae hs2 U (λc6 hs4=>?_) (λc6 hs5=>?_))
 .exact sr (an (nretP [I 3] (ci hs4)))
 refine qT 6 U (ae hs5 U (λc7 hs7=>?_) (λc7 hs8=>?_))
 .exact sr (an (nretP [I 5] (ci hs7)))
 refine qT 5 U (bV 3 [31,32,33,34] 31 34 (c==9) U (λc8 hk5=>?_) (λe=>?_))
 .exact av (qO 2 U (hk5 _ U))
 refine av (bV 3 [35,36,37,38] 35 38 (c==10) U (λc9 hk6=>?_) (λe=>?_))
 .exact av (qO 2 U (hk6 _ U))
 refine av (bV 3 [39,40,41,42] 39 42 (c==13) U (λc10 hk7=>?_) (λe=>?_))
 .exact av (qO 2 U (hk7 _ U))
 refine an (ae hs8 U (λc11 hs10=>?_) (λc11 hs11=>?_))
 .exact sr (an (nretP [I 1] (ci hs10)))
 refine qT 3 U (ai call384 (wJ h (⟨#[123,125,40,41,59,44,61,58,46,60,62,33,43,45,42,47]⟩:ByteArray) c) U (qO 3 U (ae hs11 U (λc12 hs13=>?_) (λc12 hs14=>?_))))
 .have c12p:=of_decide_eq_true c12
  exact sr (an (nretP [I 4] (ci hs13)))
 have c12p:=of_decide_eq_false c12
 exact aN (qT 5 U (nretP [I 0] (ci hs14)))
theorem iC(h:HF)(s:ByteArray)  : Ret prog 363 [.string s] h (.bool (dQ s)):=by
 refine sT func363 U ntmps363 U λX hM hX hF=>?_
 have hs0:dQ s=dQ s:=rfl
 refine qT 10 U (bV 4 [7,8,9,10,11] 7 11 (decide (32<(s.size:Int))) U (λc1 hk1=>?_) (λe=>?_))
 .exact av (aC (fw (BP Ay U) (qO 2 U (hk1 _ U))))
 refine av (bV 5 [12,13,14,15,16,17] 12 17 ((j4 ((s.data.getD (0:Int).toNat 0).toNat:Int)) != 2) U (λc2 hk2=>?_) (λe=>?_))
 .refine av ?_
  have ho1:0<=(0:Int)/\(0:Int)<(s.size:Int):=(by have:=Pq (Bool.or_eq_false_iff.1 ob).1;omega)
  exact aC (fw (HL Ay U U ho1) (ai call377 (Ba h ((s.data.getD (0:Int).toNat 0).toNat:Int)) U (qO 2 U (hk2 _ U))))
 refine aJ (ae hs0 U (λc3 hs1=>?_) (λc3 hs2=>?_))
 .exact sr (an (nretP [.bool false] (cs hs1)))
 refine qT 5 U (aC (fw (BP Ay U) (qO 2 U ?_)))
 refine iL (ι:=Nat) (λi=>[]) (λi=>h) (λi=>[]) (λi=>i<=(kG s.size).length/\dQ s=((dQ.K1))) ?_ (λhx1=>?_)
 .rintro i1 ⟨fp,hs4⟩ e
  exact sr (an (nretP [.bool true] (cs hs4)))
 refine kg (ι:=Nat×List Nat) (λi=>[(0,.string s),(19,I (s.size:Int)),(20,I (i.1:Int))]) (λi=>h) (λi=>[]) (λi=>(kG s.size).drop i.1=i.2/\i.1<=(kG s.size).length/\dQ s=((dQ.L1 s (dQ.K1)) i.2 i.1)) (λi=>i.2.length) (0,(kG s.size)) rd sw ⟨U,jL _,hs2⟩ ?_
 rintro⟨i1,s1⟩ ⟨hd1,fp,hs6⟩ ag1 e
 rcases s1 with _|⟨y1,rz1⟩
 .have ga:decide ((i1:Int)<(s.size:Int))=false:=by simpa using mR hd1
  exact sr (fO ga U (qO 4 U (hx1 i1 _ ⟨fp,hs6⟩ trivial)))
 have dj:decide ((i1:Int)<(s.size:Int))=true:=by simpa using sQ hd1
 have er:i1<s.size:=by simpa using io hd1
 refine sr (tO dj U (qO 15 U ?_))
 have ho3:0<=((i1:Int):Int)/\((i1:Int):Int)<(s.size:Int):=ob
 refine aC (fw (HL Ay U U ho3) (ai call377 (Ba h ((s.data.getD ((i1:Int):Int).toNat 0).toNat:Int)) U (qO 7 U (bj 3 [29,30,31,32] 29 32 ((j4 ((s.data.getD ((i1:Int):Int).toNat 0).toNat:Int)) != 3) U (λc4 hk3=>?_) (λe=>?_)))))
 .exact av (qO 2 U (hk3 _ U))
 refine av (bj 3 [33,34,35,36] 33 36 ((j4 ((s.data.getD ((i1:Int):Int).toNat 0).toNat:Int)) != 5) U (λc5 hk4=>?_) (λe=>?_))
 .exact av (qO 2 U (hk4 _ U))
 refine aJ (ae hs6 U (λc6 hs8=>?_) (λc6 hs9=>?_))
 .exact sr (an (nretP [.bool false] (cs hs8)))
 exact aN (qT 2 U (oi i1 U (qO 2 U (ag1 ((i1+1),rz1) _ (Nat.lt_succ_self _) ⟨kx hd1,io hd1,hs9⟩ rd))))
theorem ov(h:HF)(s:ByteArray)  : Ret prog 326 [.string s] h (.bool (dM s)):=by
 refine sT func326 U ntmps326 U λX hM hX hF=>?_
 have hs0:dM s=dM s:=rfl
 refine qT 16 U (ae hs0 U (λc1 hs1=>?_) (λc1 hs2=>?_))
 .refine aN (ae hs1 U (λc2 hs3=>?_) (λc2 hs4=>?_))
  .exact sr (an (nretP [.bool false] (cs hs3)))
  exact aN (qT 4 U (ai rX (iC h s) U (an (nretP [.bool (dQ s)] (cs hs4)))))
 refine qT 5 U (ae hs2 U (λc3 hs7=>?_) (λc3 hs8=>?_))
 .refine aN (ae hs7 U (λc4 hs9=>?_) (λc4 hs10=>?_))
  .exact sr (an (nretP [.bool false] (cs hs9)))
  exact aN (qT 4 U (ai rX (iC h s) U (an (nretP [.bool (dQ s)] (cs hs10)))))
 refine qT 5 U (ae hs8 U (λc5 hs13=>?_) (λc5 hs14=>?_))
 .refine aN (ae hs13 U (λc6 hs15=>?_) (λc6 hs16=>?_))
  .exact sr (an (nretP [.bool false] (cs hs15)))
  exact aN (qT 4 U (ai rX (iC h s) U (an (nretP [.bool (dQ s)] (cs hs16)))))
 refine qT 5 U (ae hs14 U (λc7 hs19=>?_) (λc7 hs20=>?_))
 .refine aN (ae hs19 U (λc8 hs21=>?_) (λc8 hs22=>?_))
  .exact sr (an (nretP [.bool false] (cs hs21)))
  exact aN (qT 4 U (ai rX (iC h s) U (an (nretP [.bool (dQ s)] (cs hs22)))))
 refine qT 5 U (ae hs20 U (λc9 hs25=>?_) (λc9 hs26=>?_))
 .refine aN (ae hs25 U (λc10 hs27=>?_) (λc10 hs28=>?_))
  .exact sr (an (nretP [.bool false] (cs hs27)))
  exact aN (qT 4 U (ai rX (iC h s) U (an (nretP [.bool (dQ s)] (cs hs28)))))
 refine qT 5 U (ae hs26 U (λc11 hs31=>?_) (λc11 hs32=>?_))
 .refine aN (ae hs31 U (λc12 hs33=>?_) (λc12 hs34=>?_))
  .exact sr (an (nretP [.bool false] (cs hs33)))
  exact aN (qT 4 U (ai rX (iC h s) U (an (nretP [.bool (dQ s)] (cs hs34)))))
 refine qT 5 U (ae hs32 U (λc13 hs37=>?_) (λc13 hs38=>?_))
 .refine aN (ae hs37 U (λc14 hs39=>?_) (λc14 hs40=>?_))
  .exact sr (an (nretP [.bool false] (cs hs39)))
  exact aN (qT 4 U (ai rX (iC h s) U (an (nretP [.bool (dQ s)] (cs hs40)))))
 refine qT 5 U (ae hs38 U (λc15 hs43=>?_) (λc15 hs44=>?_))
 .refine aN (ae hs43 U (λc16 hs45=>?_) (λc16 hs46=>?_))
  .exact sr (an (nretP [.bool false] (cs hs45)))
  exact aN (qT 4 U (ai rX (iC h s) U (an (nretP [.bool (dQ s)] (cs hs46)))))
 refine qT 5 U (ae hs44 U (λc17 hs49=>?_) (λc17 hs50=>?_))
 .refine aN (ae hs49 U (λc18 hs51=>?_) (λc18 hs52=>?_))
  .exact sr (an (nretP [.bool false] (cs hs51)))
  exact aN (qT 4 U (ai rX (iC h s) U (an (nretP [.bool (dQ s)] (cs hs52)))))
 refine qT 5 U (ae hs50 U (λc19 hs55=>?_) (λc19 hs56=>?_))
 .refine aN (ae hs55 U (λc20 hs57=>?_) (λc20 hs58=>?_))
  .exact sr (an (nretP [.bool false] (cs hs57)))
  exact aN (qT 4 U (ai rX (iC h s) U (an (nretP [.bool (dQ s)] (cs hs58)))))
 refine qT 5 U (ae hs56 U (λc21 hs61=>?_) (λc21 hs62=>?_))
 .refine aN (ae hs61 U (λc22 hs63=>?_) (λc22 hs64=>?_))
  .exact sr (an (nretP [.bool false] (cs hs63)))
  exact aN (qT 4 U (ai rX (iC h s) U (an (nretP [.bool (dQ s)] (cs hs64)))))
 refine qT 5 U (ae hs62 U (λc23 hs67=>?_) (λc23 hs68=>?_))
 .refine aN (ae hs67 U (λc24 hs69=>?_) (λc24 hs70=>?_))
  .exact sr (an (nretP [.bool false] (cs hs69)))
  exact aN (qT 4 U (ai rX (iC h s) U (an (nretP [.bool (dQ s)] (cs hs70)))))
 refine qT 5 U (ae hs68 U (λc25 hs73=>?_) (λc25 hs74=>?_))
 .refine aN (ae hs73 U (λc26 hs75=>?_) (λc26 hs76=>?_))
  .exact sr (an (nretP [.bool false] (cs hs75)))
  exact aN (qT 4 U (ai rX (iC h s) U (an (nretP [.bool (dQ s)] (cs hs76)))))
 refine qT 5 U (ae hs74 U (λc27 hs79=>?_) (λc27 hs80=>?_))
 .refine aN (ae hs79 U (λc28 hs81=>?_) (λc28 hs82=>?_))
  .exact sr (an (nretP [.bool false] (cs hs81)))
  exact aN (qT 4 U (ai rX (iC h s) U (an (nretP [.bool (dQ s)] (cs hs82)))))
 refine qT 5 U (ae hs80 U (λc29 hs85=>?_) (λc29 hs86=>?_))
 .refine aN (ae hs85 U (λc30 hs87=>?_) (λc30 hs88=>?_))
  .exact sr (an (nretP [.bool false] (cs hs87)))
  exact aN (qT 4 U (ai rX (iC h s) U (an (nretP [.bool (dQ s)] (cs hs88)))))
 refine qT 4 U (ae hs86 U (λc31 hs91=>?_) (λc31 hs92=>?_))
 .exact sr (an (nretP [.bool false] (cs hs91)))
 exact aN (qT 4 U (ai rX (iC h s) U (an (nretP [.bool (dQ s)] (cs hs92)))))
theorem li(h:HF)(s:List ByteArray)(sk:Option Addr)(sj:Nat)(v:ByteArray)(hs:SlC Rp.str h sk sj s):Ret prog 284 [.slice sk s.length sj,.string v] h (I (aW s v)):=by
 refine sT func284 U ntmps284 U λX hM hX hF=>?_
 have hs0:aW s v=aW s v:=rfl
 refine qK 11 [] U ?_
 refine lp0 s (λi=>[(0,.slice sk s.length sj),(1,.string v),(7,I (s.length:Int)),(8,I (i:Int))]) ([]) (λs1 i=>(aW.L1 v (aW.K1)) s1 i) hs.1.1 hs0 ?_ ?_
 .rintro i1 fp hs1 e
  exact sr (an (nretP [I (-1)] (ci hs1)))
 rintro i1 y1 rz1 hd1 dj aY er gr hs3 hx1 ag1 e
 refine sr (tO dj U (qO 16 U (aC (iF (λy=>[.string y]) vy ty9 hs.1 aY U U U (λq2 A2=>dh ty9 A2 U (qO 2 U (ae hs3 U (λc2 hs4=>?_) (λc2 hs5=>?_))))))))
 .exact sr (qO 3 U (nretP [I (i1:Int)] (ci hs4)))
 exact aN (qT 2 U (oi i1 U (qO 2 U (ag1 hs5))))
theorem mT(h:HF)(l:List ByteArray)(eP:Option Addr)(eO:Nat)(ok:(ByteArray->Bool))(ok_v:Value)(hl:SlC Rp.str h eP eO l)(hok:∀(h':HF)(dF:ByteArray),jM h h'->um prog ok_v [.string dF] h' [] (.bool (ok dF))):Ret prog 327 [.slice eP l.length eO,ok_v] h (.bool (bF l ok)):=by
 refine sT func327 U ntmps327 U λX hM hX hF=>?_
 have hs0:bF l ok=bF l ok:=rfl
 refine qK 11 [] U ?_
 refine lp0 l (λi=>[(0,.slice eP l.length eO),(1,ok_v),(7,.slice eP l.length eO),(8,I (l.length:Int)),(9,I (i:Int))]) ([]) (λs1 i=>(bF.L1 l ok (bF.K1)) s1 i) hl.1.1 hs0 ?_ ?_
 .rintro i1 fp hs1 e
  exact sr (an (nretP [.bool true] (cs hs1)))
 rintro i1 y1 rz1 hd1 dj aY er gr hs3 hx1 ag1 e
 refine sr (tO dj U (qO 9 U (aC (iF (λy=>[.string y]) vy ty9 hl.1 aY U U U (λq2 A2=>dh ty9 A2 U (qO 7 U (aC (lT (v:=.bool (ok y1)) [] (List.nil_sublist _) (hok h y1 lf) U U (qO 2 U (bV 6 [18,19,20,21,22,23,24] 18 24 ((aW l y1) != (i1:Int)) U (λc1 hk1=>?_) (λe=>?_)))))))))))
 .exact av (av (ai NB (li _ _ _ _ y1 hl) U (qO 3 U (hk1 _ U))))
 refine aJ (ae hs3 U (λc2 hs4=>?_) (λc2 hs5=>?_))
 .exact sr (an (nretP [.bool false] (cs hs4)))
 exact aN (qT 2 U (oi i1 U (qO 2 U (ag1 hs5))))
theorem sW(h:HF)(s:List ByteArray)(sk:Option Addr)(sj:Nat)(v:ByteArray)(hs:SlC Rp.str h sk sj s):Ret prog 328 [.slice sk s.length sj,.string v] h (.bool (cZ s v)):=by
 refine sT func328 U ntmps328 U λX hM hX hF=>?_
 have hs0:cZ s v=cZ s v:=rfl
 exact sr (qO 6 U (ai NB (li _ _ _ _ v hs) U (qO 3 U (nretP [.bool (decide (0<=(aW s v)))] (cs hs0)))))
theorem AX(h:HF)(p:Policy)(gS:eA)(hp:zN h p gS)(hsm:smP p):Gu prog 279 [.agg (kD p gS).toArray] h (exW stopV (λr:Unit=>(.tuple #[]:Value)) (cq p)):=by
 refine cJ Lg U ntmps279 U λX hM hX=>?_
 have hs0:cq p=cq p:=rfl
 have hsr:=hsm.rules
 refine sr (cy (λb1=>qL 5 [0] U (ai call326 (ov h p.Name) U (av (bj 4 [8,9,10,11,12] 8 12 (bF p.Offices dM) U (λc1 hk1=>?_) (λe=>?_))))))
 .exact qL 2 [0] U (ai call327 (mT _ _ _ _ dM (.func (.func 326) #[] #[]) hp.Offices (λh' dF hle=>iJ call326 (ov h' dF))) U (eN U (hk1 _ U)))
 refine av (bj 4 [13,14,15,16,17] 13 17 (bF p.Kinds dM) U (λc2 hk2=>?_) (λe=>?_))
 .exact qL 2 [0] U (ai call327 (mT _ _ _ _ dM (.func (.func 326) #[] #[]) hp.Kinds (λh' dF hle=>iJ call326 (ov h' dF))) U (eN U (hk2 _ U)))
 refine aC (my yO (ia h (((dM p.Name)&&(bF p.Offices dM))&&(bF p.Kinds dM)) 201) U (λu1 hu1=>?_) (λpv1 hpv1 e=>?_))
 .obtain⟨rx1,hrx1,rfl⟩:=oy hu1
  have hs1:=hs0.trans (pi hrx1)
  cases rx1
  refine qO 3 U (cK 0 ty64 U U U (aC (cS call325 (md _ _ _ hp ob) U (λv1 h1 hle1 hp1=>?_))))
  obtain⟨rb1,rc1,rfl,sl1⟩:=hp1
  refine qL 3 [] U (et ?_)
  let z1:Nat×Obj:=(b1,O (kD p gS) 64)
  refine cn (L':=[z1]++(markB [])) ap ?_
  refine rZ (ι:=Nat×List Nat×HF) (λi=>[]) (λi=>marks i.2.1) (λi=>i.2.2) (λi=>[z1]++(markB i.2.1)) (λi=>i.1<=(ay p).length/\cq p=((cq.K1))/\jM h1 i.2.2) ?_ (λhx1=>?_)
  .rintro⟨i1,rs1,hh1⟩ ⟨fp,hs2,hl1⟩ e
   have hs3:cq p=(Except.ok ()):=hs2
   exact cn (L':=([z1])++markB rs1) ap (yc rs1 [] Lg U hX trivial (congrArg (exW stopV (λr:Unit=>(.tuple #[]:Value))) hs3))
  refine wH (ι:=Nat×List Nat×HF×List Expr) (λi=>[(1,Q b1),(20,.slice rb1 ((ay p).length) rc1),(21,I ((ay p).length:Int)),(22,I (i.1:Int))]) (λi=>marks i.2.1) (λi=>i.2.2.1) (λi=>[z1]++(markB i.2.1)) (λi=>(ay p).drop i.1=i.2.2.2/\i.1<=(ay p).length/\cq p=((cq.L1 p (cq.K1)) i.2.2.2)/\jM h1 i.2.2.1) (λi=>i.2.2.2.length) (0,[],h1,(ay p)) U rd sw ⟨U,jL _,hs1,lf⟩ ?_
  rintro⟨i1,rs1,hh1,s1⟩ ⟨hd1,fp,hs4,hl1⟩ ag1 e
  rcases s1 with _|⟨y1,rz1⟩
  .have ga:=mR hd1
   exact sr (fO ga U (qO 4 U (hx1 (i1,rs1,hh1) _ ⟨fp,hs4,hl1⟩ trivial)))
  have dj:=sQ hd1
  have aY:=rg hd1
  have er:=io hd1
  have gr:=sl1.1.1
  try have hsy:=Bt hsm (fX hd1)
  refine sr (tO dj U (qO 8 U (aC (iR lB ty62 (sl1.mono aAi hl1).1 aY U U U (λ_ _ _ e=>e) (λq2 r2 A2 ok2=>dz ty62 A2 U U (ba zc62 (λb4=>aQ 0 ty62 U U U U U U (qO 3 U (cK 0 ty62 U U U (aC (cS Li (mS _ _ _ 1 ok2 ob) U (λv3 h3 hle3 hp3=>?_))))))))))))
  obtain⟨_,rfl,mo2⟩:=hp3
  refine qO 2 U ?_
  let z2:Nat×Obj:=(b4,O (zC y1 r2) 62)
  refine cn (L':=([z2,z1])++markB rs1) ap ?_
  refine j3 (it:=v3) (xs:=(bx y1 1)) (ι:=HF) rs1 (λi=>i) (λi=>[z2,z1]) (λs i=>cq p=((cq.L3 p ((cq.L1 p (cq.K1) rz1))) s)/\jM h3 i) (λ_=>False) (λ_=>False) 0 (λch _ _=>∃pv_,ch=[{ v:=stopV pv_,recovered:=false }]/\cq p=.error pv_) h3 Lg U mo2 U n0 (λ_ _ _ _ _ hq=>hq) U (show[z2,z1]=_ from U) ⟨hs4,lf⟩ ?_ ?_ ?_ ?_ ?_
  .rintro l3 dm3 lp3 y3 rz3 vs3 hh3 hr3 X hFR3 ⟨hs6,hl3⟩ hl03 hlr3 hv3 hX hXM hlp3 nx3 rt3 ex3 pn3
   obtain⟨rr3_0,rfl,ok3_0⟩:=hv3
   let z3:Nat×Obj:=(dm3,.deferred (some []))
   refine cn (L':=[(l3,.loop lp3),z3,z2,z1]++(markB rs1)) ap (bE (ba zc327 (λb6=>aQ 0 ty327 U U U U U U (aJ (jy 1 U hlp3 (qK 3 [] U (cK 0 ty62 U U U (ai call283 (nU _ _ _ ok3_0.x) U (qO 2 U (bV 7 [33,34,35,36,37,38,39,40] 33 40 (cZ p.Offices y3.x.Name) U (λc3 hk3=>?_) (λe=>?_)))))))))))
   .exact qL 5 [4,0] U (ai call328 (sW _ _ _ _ y3.x.Name (hp.Offices.mono Rp.hU ((((hle1.t hl1).t hle3).t hl3).t hlr3))) U (eN U (hk3 _ U)))
   refine aC (my yO (ia hr3 ((!(dp y3.x))||(cZ p.Offices y3.x.Name)) 201) U (λu2 hu2=>?_) (λpv2 hpv2 e=>?_))
   .obtain⟨rx2,hrx2,rfl⟩:=oy hu2
    have hs7:=hs6.trans (pi hrx2)
    cases rx2
    exact aJ (eF (bz (L':=[(l3,.loop { lp3 with state:=.busy }),z3,z2,z1]++(markB rs1)) js (cn (L':=rdH l3 dm3 lp3 (([z2,z1])++markB rs1)) ap (nx3 hr3 _ _ ⟨hs7,(hl3.t hlr3)⟩ lf))))
   obtain⟨pv2e,hpv2e,rfl⟩:=mG hpv2
   have hs8:=hs6.trans (mZ hpv2e)
   exact zm (L':=[(l3,.loop { lp3 with state:=.busy }),z3]++(markB rs1)) js (pn3 _ _ _ [] ⟨_,U,hs8⟩)
  .rintro dm3 hh3 hn3 ⟨hs9,hl3⟩ hln3 hl03
   exact cn (L':=[z2,z1]++(markB (dm3::rs1))) ap (qT 3 U (oi i1 U (qO 2 U (bz (L':=[z1]++(markB (dm3::rs1))) js (ag1 ((i1+1),(dm3::rs1),hn3,rz1) _ (Nat.lt_succ_self _) ⟨kx hd1,io hd1,hs9,(((hl1.t hle3).t hl3).t hln3)⟩ rd)))))
  .exact xf
  .exact xf
  rintro dm3 ch hn3 L0 ⟨pv_,rfl,hpv_⟩ hl03
  exact nB (dm3::rs1) Lg hX (congrArg (exW stopV (λr:Unit=>(.tuple #[]:Value))) hpv_)
 obtain⟨pv1e,hpv1e,rfl⟩:=mG hpv1
 have hs10:=hs0.trans (mZ hpv1e)
 exact gH (nB [] Lg hX (congrArg (exW stopV (λr:Unit=>(.tuple #[]:Value))) hs10))
theorem gO(h:HF)(ep:Int)(low:Int)(high:Int)  : Ret prog 149 [I ep,I low,I high] h (.bool (aP ep low high)):=by
 refine sT func149 U ntmps149 U λX hM hX hF=>?_
 have hs0:aP ep low high=aP ep low high:=rfl
 refine qT 10 U (bj 4 [10,11,12,13,14] 10 14 (decide (ep<=high)) U (λc1 hk1=>?_) (λe=>?_))
 .exact av (qO 3 U (hk1 _ U))
 exact an (nretP [.bool (decide (low<=ep)&&decide (ep<=high))] (cs hs0))
theorem Mw{n a b:Int}(h:aP n a b=true):a<=n/\n<=b:=by simpa[aP]using h
theorem yG(h:HF)(x0:Expr)(QT:cL)(hx0:jF h x0 QT):Ret prog 405 [.agg (zC x0 QT).toArray] h (.bool (nJ x0)):=by
 refine sT func405 U ntmps405 U λX hM hX hF=>?_
 have hs0:nJ x0=nJ x0:=rfl
 exact sr (cy (λb1=>qO 6 U (nretP [.bool false] (cs hs0))))
theorem yF(h:HF)(x:Expr)(gd:cL)(hx:jF h x gd):Ret prog 406 [.agg (zC x gd).toArray] h (.bool (jr x)):=by
 refine sT func406 U ntmps406 U λX hM hX hF=>?_
 have hs0:jr x=jr x:=rfl
 refine sr (cy (λb1=>qL 8 [0] U (bj 5 [6,7,8,9,10,11] 6 11 ((x.L.length:Int)==0) U (λc1 hk1=>?_) (λe=>?_))))
 .exact qL 5 [0] U (hk1 _ U)
 exact an (nretP [.bool ((x.N==0)&&((x.L.length:Int)==0))] (cs hs0))
theorem yE(h:HF)(x:Expr)(gd:cL)(hx:jF h x gd):Ret prog 407 [.agg (zC x gd).toArray] h (.bool (jq x)):=by
 refine sT func407 U ntmps407 U λX hM hX hF=>?_
 have hs0:jq x=jq x:=rfl
 refine sr (cy (λb1=>qL 6 [0] U (ai Aw (gO h x.N 1 4096) U (av (bj 5 [6,7,8,9,10,11] 6 11 ((x.L.length:Int)==0) U (λc1 hk1=>?_) (λe=>?_))))))
 .exact qL 5 [0] U (hk1 _ U)
 exact an (nretP [.bool ((aP x.N 1 4096)&&((x.L.length:Int)==0))] (cs hs0))
theorem yD(h:HF)(x:Expr)(gd:cL)(hx:jF h x gd):Ret prog 408 [.agg (zC x gd).toArray] h (.bool (jp x)):=by
 refine sT func408 U ntmps408 U λX hM hX hF=>?_
 have hs0:jp x=jp x:=rfl
 refine sr (cy (λb1=>qL 8 [0] U (bj 5 [6,7,8,9,10,11] 6 11 (aP (x.L.length:Int) 1 16) U (λc1 hk1=>?_) (λe=>?_))))
 .exact qL 3 [0] U (ai Aw (gO h (x.L.length:Int) 1 16) U (eN U (hk1 _ U)))
 refine av (bj 7 [12,13,14,15,16,17,18,19] 12 19 (aP x.N 1 (x.L.length:Int)) U (λc2 hk2=>?_) (λe=>?_))
 .exact qL 5 [0,0] U (ai Aw (gO h x.N 1 (x.L.length:Int)) U (eN U (hk2 _ U)))
 exact an (nretP [.bool (((x.Name.toList==(⟨#[]⟩:ByteArray).toList)&&(aP (x.L.length:Int) 1 16))&&(aP x.N 1 (x.L.length:Int)))] (cs hs0))
theorem yC(h:HF)(x:Expr)(gd:cL)(hx:jF h x gd):Ret prog 409 [.agg (zC x gd).toArray] h (.bool (iP x)):=by
 refine sT func409 U ntmps409 U λX hM hX hF=>?_
 have hs0:iP x=iP x:=rfl
 refine sr (cy (λb1=>qL 8 [0] U (bj 5 [6,7,8,9,10,11] 6 11 ((x.L.length:Int)==2) U (λc1 hk1=>?_) (λe=>?_))))
 .exact qL 5 [0] U (hk1 _ U)
 refine av (bj 4 [12,13,14,15,16] 12 16 (aP x.N 0 1099511627776) U (λc2 hk2=>?_) (λe=>?_))
 .exact qL 2 [0] U (ai Aw (gO h x.N 0 1099511627776) U (eN U (hk2 _ U)))
 exact an (nretP [.bool (((x.Name.toList==(⟨#[]⟩:ByteArray).toList)&&((x.L.length:Int)==2))&&(aP x.N 0 1099511627776))] (cs hs0))
theorem KC(h:HF)(i:Int)(hi:0<=i/\i<5)(x:Expr)(gd:cL)(hx:jF h x gd):um prog (kfun i) [.agg (zC x gd).toArray] h [] (.bool (kindsP i x)):=by
 have:i=0\/i=1\/i=2\/i=3\/i=4:=by omega
 rcases this with rfl|rfl|rfl|rfl|rfl
 .exact iJ (cap:=[]) call405 (yG h x gd hx)
 .exact iJ (cap:=[]) call406 (yF h x gd hx)
 .exact iJ (cap:=[]) call407 (yE h x gd hx)
 .exact iJ (cap:=[]) call408 (yD h x gd hx)
 exact iJ (cap:=[]) call409 (yC h x gd hx)
end Go.Sg

namespace Go.Sg
open Go.Proofs Go.Proofs.Tryz
section runs
variable {P:Program} {e:Env} {X:Cx} {h:HF} {L:LH} {d:Option Nat} {ty:TypeId} {pos:String} {af:Array Edge} {g:Option (Nat×Bool)}
theorem Pw{t u:TypeId}{x:Operand}(hT:∃ms,P.underlying t=some (.interface ms))(hx:e.ev x=.nilIface):∀w,St X h L w->(execOp e.ev ⟨d,.binOp .neq t x (.const .nilIface) u,ty,pos,af,g⟩).run P w=.ok (.value (.bool false)) w:=
 λw _=>by
  obtain⟨ms,hT⟩:=hT
  have hc:e.ev (.const .nilIface)=.nilIface:=rfl
  have he:(Op.equal t .nilIface .nilIface).run P w=.ok true w:=by
   rw[Op.equal,Op.maxDepth,show(10000:Nat)=9999+1 from rfl,Op.equalIn];simp[run_underlying hT]
  simp[execOp,hx,hc,eqGuard,binOp,he]
theorem Pv{t u:TypeId}{x:Operand}{T:TypeId}{v:Value}(hT:∃ms,P.underlying t=some (.interface ms))(hx:e.ev x=.iface T v):∀w,St X h L w->(execOp e.ev ⟨d,.binOp .neq t x (.const .nilIface) u,ty,pos,af,g⟩).run P w=.ok (.value (.bool true)) w:=
 λw _=>by
  obtain⟨ms,hT⟩:=hT
  have hc:e.ev (.const .nilIface)=.nilIface:=rfl
  have he:(Op.equal t (.iface T v) .nilIface).run P w=.ok false w:=by
   rw[Op.equal,Op.maxDepth,show(10000:Nat)=9999+1 from rfl,Op.equalIn];simp[run_underlying hT]
  simp[execOp,hx,hc,eqGuard,binOp,he]
theorem MJ{x:Operand}{xt T:TypeId}{fs:Array Field}{v:Value}(hT:P.underlying T=some (.struct fs))(hx:e.ev x=.iface T v):∀w,St X h L w->(execOp e.ev ⟨d,.typeAssert x xt T true,ty,pos,af,g⟩).run P w=.ok (.value (.tuple #[v,.bool true])) w:=
 λw _=>by simp[execOp,hx,Instr.typeAssert,run_underlying hT]
end runs
def bodyOf(f:Func):Code:=f.body.getD .skip
theorem Kr{P:Program}{e:Env}{d:Option Nat}{ty:TypeId}{pos:String}{af:Array Edge}{g:Option (Nat×Bool)}{t:Nat}{fv:Value}{ats:Array TypeId}(hf:e t=fv)(w:World):
  (execOp e.ev ⟨d,.call ⟨.value (.tmp t),#[],ats⟩,ty,pos,af,g⟩).run P w=(do let d ←kJ fv #[];invoke d.target d.args:Sem Next).run P w:=by
 subst hf;simp[execOp,resolve,Env.ev]
theorem Gr(h:HF)(b1:Nat)(X':Cx):TT prog (deferFrame 323) 17 [.code (bodyOf Tryz.f323)] (FT prog X' .returning (λh' B=>h'=h/\B=[(b1,kH (vB [.int .i64 0]) 37 (0,0))])) (envArgs [.pointer (some ⟨b1,0,none⟩)]) [] X' h [(b1,kH (vB [.int .i64 0]) 37 (0,0))]:=by
 refine el (bE (?_))
 refine CC (λcs Φ⟨c,rest,hcs,hm,_⟩=>by subst hcs;simp[recoverD,hm]) ?_
 refine gj (aJ (el (bE (av (aC (fw (Pw ⟨_,NA⟩ rfl) (aJ (?_))))))))
 exact oL rfl (aN (Hz Nz rfl ⟨rfl,rfl⟩))
theorem Gs(h:HF)(b1:Nat)(ee:Int)(X':Cx):TT prog (deferFrame 323) 17 [.code (bodyOf Tryz.f323)]
  (λcs Φ=>∃c rest,cs=c::rest/\c.mode=.panicking [{ v:=stopV ee,recovered:=false }]/\FT prog X' (.panicking [{ v:=stopV ee,recovered:=true }]) (λh' B=>h'=h/\∃B0,B=B0++[(b1,kH (vB [.int .i64 ee]) 37 (0,0))]) ({ c with mode:=(.panicking [{ v:=stopV ee,recovered:=true }]) }::rest) Φ)
  (envArgs [.pointer (some ⟨b1,0,none⟩)]) [] X' h [(b1,kH (vB [.int .i64 0]) 37 (0,0))]:=by
 refine el (bE (?_))
 refine D4 (F':=FT prog X' (.panicking [{ v:=stopV ee,recovered:=true }]) (λh' B=>h'=h/\∃B0,B=B0++[(b1,kH (vB [.int .i64 ee]) 37 (0,0))])) (stopV ee) (λcs Φ⟨c,rest,hcs,hm,hF⟩=>⟨_,by subst hcs;simp[recoverD,hm],hF⟩) ?_
 refine gj (aJ (el (bE (av (aC (fw (Pv ⟨_,NA⟩ rfl) (aJ (?_))))))))
 refine lu rfl (el (bE (av (aC (fw (MJ underlying358 rfl) (av (oF rfl rfl (oF rfl rfl (ba zc358 (λb2=>?_))))))))))
 refine aQ 0 ty358 rfl rfl rfl rfl rfl rfl (gj (aJ (?_)))
 refine el (el (bE (av (mU rfl (aJ (?_))))))
 refine oL rfl (aN (?_))
 refine bE (jY OR rfl (?_))
 refine nW 0 ty37 rfl rfl rfl (?_)
 refine cT 1 ty37 rfl rfl rfl rfl rfl rfl (aJ (?_))
 exact Hz Nz rfl ⟨rfl,[(b2,_)],rfl⟩
theorem yH(h:HF)(fv:Value)(x:Except Int Unit)(hf:mr prog fv #[] h [] (XR (exW stopV (λ_:Unit=>.tuple #[]) x) h)):Ret prog 276 [fv] h (.int .i64 (attR x)):=by
 refine cJ func276 rfl ntmps276 rfl λX hM hX=>?_
 refine el (bE (ba zc37 (λb1=>aJ (el (bE (aC (eG rfl rfl (NN rfl rfl (aJ (el (bE (av (?_)))))))))))))
 have fin:∀(r:Int)(B:LH),attR x=r->(∃B0,B=B0++[(b1,kH (vB [.int .i64 r]) 37 (0,0))])->∀(e:Env),e 2=.pointer (some ⟨b1,0,none⟩)->∀a:Act,envOf a=e->∀w,St X h (B++[]) w ->
   ∃v h2 B2,(results Tryz.f276 a.tmps).run prog w=.ok v w/\St X h2 B2 w/\v=.int .i64 (attR x)/\h2=h/\B2=[]:=by
  rintro r B hr ⟨B0,rfl⟩ e he a ha w hw
  have hw':=hw.sub (L':=[(b1,kH (vB [.int .i64 r]) 37 (0,0))]) (by simp)
  exact⟨_,h,[],mA (rs:=[.cell 2 37]) (vs:=[.int .i64 r]) rfl ⟨⟨0,b1,[.int .i64 r],37,(0,0),rfl,he,.inr ⟨_,ty37,rfl⟩⟩,trivial⟩ a ha w hw',hw'.sub (List.nil_sublist _),by rw[hr];rfl,rfl,rfl⟩
 refine Hy rfl (by decide) rfl rfl (λw hw=>?_)
 have hpre:Pre h [] w:=(hw.sub (List.nil_sublist _)).pre
 obtain⟨nx,hrun,hcall⟩:=hf w hpre
 refine⟨nx,w,?_,hcall.mono ?_⟩
 .rw[←hrun];exact Kr rfl w
 rintro y w' ⟨h',B,hst,rfl,rfl,hv⟩
 have hw2:=St.after (A:=[]) (B:=[]) (F:=[(b1,kH (vB [.int .i64 0]) 37 (0,0))]) hw hst
 cases y with
 |outgrown=>trivial
 |returned v=>
  refine⟨h',_,hw2,?_⟩
  have hx:∃u,x=.ok u:=by cases x with
   |ok u=>exact⟨u,rfl⟩
   |error p=>simp[exW]at hv
  obtain⟨u,rfl⟩:=hx
  refine aJ (el (bE (cT 0 ty37 rfl rfl rfl rfl rfl rfl (aJ (?_)))))
  refine Ph (c:=bodyOf Tryz.f323) (cap:=[.pointer (some ⟨b1,0,none⟩)]) (A:=[(b1,kH (vB [.int .i64 0]) 37 (0,0))]) (R':=λh'' B=>h''=h'/\B=[(b1,kH (vB [.int .i64 0]) 37 (0,0))]) func276 Nz rfl ntmps323 rfl call323 (λX' _=>Gr h' b1 X') (Fr:=[]) rfl ?_
  rintro h'' B _ ⟨rfl,rfl⟩ a ha w hw
  obtain⟨v,h2,B2,h3,h4,rfl,rfl,rfl⟩:=fin 0 _ rfl ⟨[],rfl⟩ _ rfl a ha w hw
  exact⟨_,_,_,h3,h4,rfl,rfl,rfl⟩
 |panicked ch=>
  refine⟨h',_,hw2,?_⟩
  have hx:∃ee,x=.error ee:=by cases x with
   |ok u=>simp[exW]at hv
   |error p=>exact⟨p,rfl⟩
  obtain⟨ee,rfl⟩:=hx
  simp only[exW]at hv
  cases hv
  refine Pk (c:=bodyOf Tryz.f323) (cap:=[.pointer (some ⟨b1,0,none⟩)]) (A:=[(b1,kH (vB [.int .i64 0]) 37 (0,0))]) (R':=λh'' B=>h''=h'/\∃B0,B=B0++[(b1,kH (vB [.int .i64 ee]) 37 (0,0))]) func276 Nz rfl ntmps323 rfl call323 (λX' _=>Gs h' b1 ee X') (Fr:=[]) rfl ?_
  rintro h'' B _ ⟨rfl,hB⟩ a ha w hw
  obtain⟨v,h2,B2,h3,h4,rfl,rfl,rfl⟩:=fin ee _ rfl hB _ rfl a ha w hw
  exact⟨_,_,_,h3,h4,rfl,rfl,rfl⟩
end Go.Sg
