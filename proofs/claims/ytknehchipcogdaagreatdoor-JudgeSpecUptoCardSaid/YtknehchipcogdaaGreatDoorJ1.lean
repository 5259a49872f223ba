import Derived.AtR
import Derived.Below
import Derived.Laws.Cells
import Derived.Laws.Entries
import Derived.Orders
import Derived.RangeFuncIn
import Derived.Laws.AppendOwn
import Derived.Laws.StructEq
import Derived.Laws.Cover3
/- A part of the proof of JudgeSpec. -/
set_option linter.unusedVariables false
set_option linter.unusedSimpArgs false
set_option maxRecDepth 100000
open List renaming length_cons→xA,not_mem_nil→vA,length_append→kA,mem_cons_self→zB,length_nil→xB,toArray→vB,mem_singleton→kB,mem_cons_of_mem→qC,append_assoc→zC,mem_cons→vC,nil_append→qD,perm_append_comm→zD,mem_of_getElem?→kD,mem_append→qE,range→xF,map_cons→jG,cons_append→jK,mem_map→qM,mem_append_right→xM,mem_append_left→jN,all_eq_true→qP,nodup_cons→jQ,mem_map_of_mem→zT,getElem?_map→qW,nodup_nil→XV,map_append→X3,nodup_append→Yj,ext_getElem?→YA,mem_range→YH,map_nil→Zt
open Bool renaming and_eq_true→jA,eq_iff_iff→jF
open Go.Value renaming int→jC,func→zQ
open Nat renaming le_refl→zE,blt→kH,eq_of_beq_eq_true→xL,le_of_ble_eq_true→jM,le_trans→zN,lt_or_ge→vR,beq→kV,lt_of_lt_of_le→Ya,ble→YE,strongRecOn→Za,add_zero→ZS
open Go.Obj renaming cells→vG
open Go.Deferred renaming ofValue→jH
open Go.Result renaming andThen_ok→xK
open Array renaming getD_eq_getD_getElem?→zL,ext'→qV,getElem?_eq_some_iff→X2,replicate→X4,getElem?_eq_getElem→Y6,foldl_toList→Zg,all_eq_true_iff_forall_mem→Zu
open Go.Sem renaming run_bind→kL,run_pure→Yy,run→Zs
open Option.some renaming injEq→kN
open Go.Addr renaming add→jP
open Go.Frame renaming enter→xR,atR→Yr,round→ZJ
open Go.Instr renaming sureAddr→zS,endLoop→Ye,getLoop→YC,loadAt→YK,fill→Y0,enterLoop→Y9
open Option renaming bind_some→Ys,map_some→Zb
open Go.Region renaming binds→Yz,ready→ZR
open Go.World renaming cell?→YZ
open Prod.mk renaming injEq→Y8
open Go.Region.linearise renaming go→ZP

namespace Go.Sg
variable {P:Program}{R':Ending->World->Prop}{args:Array Go.Value}{d:Nat}{f:FuncId}{fv:Go.Value}{nx:Next}{w:World}{Φ:Machine->Prop}
section
def To(P:Program)(Φ : Machine->Prop)(m:Machine):Prop:=∃m',Steps P m m'/\Φ m'
theorem To.now{m:Machine}(h:Φ m):To P Φ m:=⟨m,.refl P m,h⟩
theorem To.step{m m₁:Machine}(h:step P m=.next m₁)(h':To P Φ m₁):To P Φ m:=
 let ⟨m',s,p⟩:=h';⟨m',.head h s,p⟩
abbrev Env:=Nat->Value
def upd(e:Env)(d:Nat)(v:Value):Env:=λt=>bif kV t d then v else e t
def Env.ev(e:Env):Operand->Value
 |.tmp t=>e t
 |.const v=>v
 |.global g=>.pointer (some ⟨g,0,none⟩)
 |.func f=>.func (.func f) #[] #[]
def envOf(a:Act):Env:=λt=>a.tmps.getD t undef
theorem lU(a:Act):a.eval=(envOf a).ev:=by
 funext x;cases x<;>rfl
theorem rG(a:Act)(d:Nat)(v:Value)(h:d<a.tmps.size):envOf (a.put (some d) v)=upd (envOf a) d v:=by
 funext t
 simp only[envOf,Act.put,upd]
 by_cases e:t=d
 .subst e
  have:kV t t=true:=Nat.beq_refl t
  simp[zL,h]
 .have:kV t d=false:=by
   cases hb:kV t d
   .rfl
   .exact absurd (xL hb) e
  simp[this,zL,Ne.symm e]
theorem qw(a:Act)(d:Option Tmp)(v:Value):(a.put d v).tmps.size=a.tmps.size:=by
 cases d<;>simp[Act.put]
theorem nY(a:Act)(d:Option Tmp)(v:Value):(a.put d v).defers=a.defers:=by
 cases d<;>simp[Act.put]
theorem xn(e:Env)(d:Nat):upd e d (e d)=e:=by
 funext t
 simp only[upd]
 cases hb:kV t d
 .rfl
 .have:=xL hb
  subst this;rfl
theorem Ti(e:Env)(d:Nat)(v:Value):upd e d v d=v:=by
 simp[upd,Nat.beq_refl]
theorem EE(e:Env){t:Nat}(v:Value)(h:t≠d):upd e d v t=e t:=by
 have:kV t d=false:=by
  cases hb:kV t d
  .rfl
  .exact absurd (xL hb) h
 simp[upd,this]
def upds(e:Env):List (Nat×Value)->Env
 |[]=>e
 |(d,v)::l=>upd (upds e l) d v
def fT(e:Env):List (Nat×Value)->Prop
 |[]=>True
 |(d,v)::l=>e d=v/\fT e l
theorem fT.upds{e:Env}:∀{l:List (Nat×Value)},fT e l->upds e l=e
 |[],_=>rfl
 |(d,v)::l,h=>by
  show upd (Sg.upds e l) d v=e
  rw[fT.upds h.2,←h.1];exact xn e d
def tT(P:Program)(f:FuncId)(args:Array Value)(w:World)(R:Ending->World->Prop):Prop:=
 ∀c cs Φ,(∀v w',R (.returned v) w'->To P Φ (lone (c.finish v) cs w'))->(∀ch w',R (.panicked ch) w'->To P Φ (lone (c.raise ch) cs w')) ->
  To P Φ (lone (xR P f args .normal) (c::cs) w)
def yr(P:Program)(w:World)(R:Ending->World->Prop):Next->Prop
 |.value v=>R (.returned v) w
 |.enter f args=>tT P f args w R
 |.round l f tmps assign body=>∀c cs Φ,(∀v w',R (.returned v) w'->To P Φ (lone (c.finish v) cs w')) ->
   (∀ch w',R (.panicked ch) w'->To P Φ (lone (c.raise ch) cs w'))->To P Φ (lone (ZJ l f tmps assign body .normal) (c::cs) w)
 |_=>False
theorem tT.mono{R:Ending->World->Prop}(h:tT P f args w R)(hr:∀x w',R x w'->R' x w'):tT P f args w R':=
 λc cs Φ h1 h2=>h c cs Φ (λv w' r=>h1 v w' (hr _ _ r)) (λv w' r=>h2 v w' (hr _ _ r))
theorem lH{R:Ending->World->Prop}(h:tT P f args w R):yr P w R (.enter f args):=h
theorem yr.mono{R:Ending->World->Prop}(h:yr P w R nx)(hr:∀x w',R x w'->R' x w'):yr P w R' nx:=by
 cases nx with
 |value v=>exact hr _ _ h
 |enter f args=>exact tT.mono h hr
 |round l f tmps assign body=>exact λc cs Φ h1 h2=>h c cs Φ (λv w' r=>h1 v w' (hr _ _ r)) (λv w' r=>h2 v w' (hr _ _ r))
 |_=>exact h.elim
def Ss(P:Program)(fv:Value)(args:Array Value)(w:World)(R:Ending->World->Prop):Prop:=
 ∃nx,(do let d ←jH fv args;invoke d.target d.args:Sem Next).run P w=.ok nx w/\yr P w R nx
theorem Ss.mono{R:Ending->World->Prop}(h:Ss P fv args w R)(hr:∀x w',R x w'->R' x w'):Ss P fv args w R':=
 let ⟨nx,h1,h2⟩:=h;⟨nx,h1,h2.mono hr⟩
section ops
variable {b:Frame} {ops:Array Oper} {i:Nat} {e:Env} {o:Oper}
def noDefer:Op->Bool
 |.defer _=>false
 |_=>true
def guardB(ops:Array Oper)(e:Env)(o:Oper):Bool:=
 match o.guard with
 |none=>true
 |some (j,want)=>
  match(ops[j]?).bind (·.dst)with
  |some d=>match e d with
   |.bool x=>x==want
   |_=>false
  |none=>false
theorem gP{a:Act}(he:envOf a=e):Region.wanted o (yielded ops a.tmps)=guardB ops e o:=by
 unfold guardB
 unfold Region.wanted
 cases hg:o.guard with
 |none=>rfl
 |some p=>
  obtain⟨j,want⟩:=p
  simp only
  cases hj:(ops[j]?).bind (·.dst)with
  |none=>simp[yielded,hj]
  |some d=>
   have hed:e d=a.tmps.getD d undef:=by rw[←he];rfl
   simp only[hed,yielded,hj,Ys,zL]
   grind [undef]
theorem lO(ro:Option Nat)(ρ : Operand->Value)(h:noDefer o.op=true):Oper.semAt ro ρ o=execOp ρ o:=
 Oper.semAt_eq ro ρ o (λc hc=>by rw[hc]at h;cases h)
theorem iZ(a:Act)(rest:List Nat)(k:List Item)(ho:ops[i]? = some o)(v:Value):
  (b.atR a (.inRegion ops (i::rest)::k)).finish v=b.atR (a.put o.dst v) (.inRegion ops rest::k):=by
 rw[Frame.finish_atR,ho];rfl
end ops
end
variable {i:Nat}{o:Obj}{α:Type}
section
abbrev HF:=Nat->Option Obj
abbrev LH:=List (Nat×Obj)
structure Cx where
 w0:World
 h0:HF
 M:List Nat
structure St(X:Cx)(h:HF)(L:LH)(w:World):Prop where
 os:w.os=X.w0.os
 tape:w.tape=X.w0.tape
 output:w.output=X.w0.output
 size:X.w0.heap.size<=w.heap.size
 keep:∀b,b<X.w0.heap.size->b∉X.M->w.heap[b]? = X.w0.heap[b]?
 le:∀b o,X.h0 b=some o->h b=some o
 old:∀b,b<X.w0.heap.size->h b=X.h0 b
 imm:∀b o,h b=some o->w.heap[b]? = some o
 own:∀p∈L,w.heap[p.1]? = some p.2
 dis:(L.map (·.1)).Nodup
 free:∀p∈L,h p.1=none
 new:∀p∈L,X.w0.heap.size<=p.1\/p.1∈X.M
structure Pre(h:HF)(L:LH)(w:World):Prop where
 imm:∀b o,h b=some o->w.heap[b]? = some o
 own:∀p∈L,w.heap[p.1]? = some p.2
 dis:(L.map (·.1)).Nodup
 free:∀p∈L,h p.1=none
theorem jX{b:Nat}(h:w.heap[b]? = some o):b<w.heap.size:=by grind
theorem St.start{h:HF}{L:LH}(p:Pre h L w):St ⟨w,h,L.map (·.1)⟩ h L w:=
 ⟨rfl,rfl,rfl,zE _,λ_ _ _=>rfl,λ_ _ h=>h,λ_ _=>rfl,p.imm,p.own,p.dis,p.free,λ_ hq=>.inr (zT hq)⟩
theorem St.pre{X:Cx}{h:HF}{L:LH}(s:St X h L w):Pre h L w:=⟨s.imm,s.own,s.dis,s.free⟩
theorem Pre.left{h:HF}{A B:LH}(s:Pre h (A++B) w):Pre h A w:=
  ⟨s.imm,λp hp=>s.own p (jN _ hp),by have:=s.dis;rw[X3,Yj]at this;exact this.1,
   λp hp=>s.free p (jN _ hp)⟩
theorem St.sub{X:Cx}{h:HF}{L L':LH}(s:St X h L w)(hs:L'.Sublist L):St X h L' w:=
 ⟨s.os,s.tape,s.output,s.size,s.keep,s.le,s.old,s.imm,λp hp=>s.own p (hs.subset hp),s.dis.sublist (hs.map _),λp hp=>s.free p (hs.subset hp),λp hp=>s.new p (hs.subset hp)⟩
theorem St.forget{X:Cx}{h:HF}{L:LH}(s:St X h L w):St X X.h0 [] w:=
 ⟨s.os,s.tape,s.output,s.size,s.keep,λ_ _ h=>h,λ_ _=>rfl,λb o hb=>s.imm b o (s.le b o hb),λ_ hp=>(vA hp).elim,XV,λ_ hp=>(vA hp).elim,λ_ hp=>(vA hp).elim⟩
theorem St.lower{X:Cx}{h:HF}{L:LH}(s:St X h L w):St X X.h0 L w:=
 ⟨s.os,s.tape,s.output,s.size,s.keep,λ_ _ h=>h,λ_ _=>rfl,λb o hb=>s.imm b o (s.le b o hb),s.own,s.dis,(λp hp=>by
  cases hb:X.h0 p.1 with
  |none=>rfl
  |some o=>have:=s.le _ _ hb;rw[s.free p hp]at this;cases this),s.new⟩
theorem St.perm{X:Cx}{h:HF}{L L':LH}(s:St X h L w)(hs:L.Perm L'):St X h L' w:=
 ⟨s.os,s.tape,s.output,s.size,s.keep,s.le,s.old,s.imm,λp hp=>s.own p (hs.mem_iff.2 hp),(hs.map _).nodup_iff.1 s.dis,λp hp=>s.free p (hs.mem_iff.2 hp),λp hp=>s.new p (hs.mem_iff.2 hp)⟩
def HF.add(h:HF)(b:Nat)(o:Obj):HF:=λx=>if x=b then some o else h x
theorem HF.yn(h:HF)(b:Nat)(o:Obj):h.add b o b=some o:=by simp[HF.add]
def HF.le(h h':HF):Prop:=∀b o,h b=some o->h' b=some o
theorem HF.le_refl(h:HF):h.le h:=λ_ _ h=>h
theorem HF.le_trans{a b c:HF}(x:a.le b)(y:b.le c):a.le c:=λk o h=>y k o (x k o h)
theorem HF.C3{h:HF}{b:Nat}(hb:h b=none):h.le (h.add b o):=λk p hk=>by
 unfold HF.add
 grind
theorem St.freeze{X:Cx}{h:HF}{L:LH}{b:Nat}(s:St X h ((b,o)::L) w)(hb:b∉X.M):St X (h.add b o) L w:=by
 have hnew:X.w0.heap.size<=b:=(s.new (b,o) (zB ..)).resolve_right hb
 have hdis:=s.dis
 rw[jG,jQ]at hdis
 have hfr:=s.free (b,o) (zB ..)
 refine⟨s.os,s.tape,s.output,s.size,s.keep,λk p hk=>HF.C3 hfr k p (s.le k p hk),?_,?_,λp hp=>s.own p (qC _ hp),hdis.2,?_,λp hp=>s.new p (qC _ hp)⟩
 .intro k hk
  rw[←s.old k hk]
  unfold HF.add
  rw[if_neg (by omega)]
 .intro k p hk
  unfold HF.add at hk
  by_cases e:k=b
  .subst e
   simp only[if_true,kN]at hk
   subst hk
   exact s.own (k,o) (zB ..)
  .rw[if_neg e]at hk;exact s.imm k p hk
 .intro p hp
  unfold HF.add
  rw[if_neg]
  .exact s.free p (qC _ hp)
  .grind
theorem St.after{X:Cx}{h h':HF}{A B F:LH}{w':World}(s:St X h (A++F) w)(t:St ⟨w,h,A.map (·.1)⟩ h' B w'):St X h' (B++F) w':=by
 have hF:∀p∈F,p.1<w.heap.size/\p.1∉A.map (·.1):=by
  intro p hp
  refine⟨jX (s.own p (xM _ hp)),?_⟩
  have:=s.dis
  all_goals grind
 have ts:w.heap.size<=w'.heap.size:=t.size
 refine⟨t.os.trans s.os,t.tape.trans s.tape,t.output.trans s.output,zN s.size ts,?_,λb o hb=>t.le b o (s.le b o hb),?_,t.imm,?_,?_,?_,?_⟩
 .intro b hb hM
  have hlt:b<w.heap.size:=Ya hb s.size
  rw[←s.keep b hb hM]
  refine t.keep b hlt ?_
  intro hm
  obtain⟨p,hp,rfl⟩:=qM.1 hm
  rcases s.new p (jN _ hp)with h1|h1
  .omega
  .exact hM h1
 .intro b hb
  rw[←s.old b hb]
  exact t.old b (Ya hb s.size)
 .intro p hp
  rcases qE.1 hp with hp|hp
  .exact t.own p hp
  .obtain⟨h1,h2⟩:=hF p hp
   rw[t.keep p.1 h1 h2]
   exact s.own p (xM _ hp)
 .rw[X3,Yj]
  refine⟨t.dis,?_,?_⟩
  .have:=s.dis
   all_goals grind
  .intro x hx y hy e
   obtain⟨p,hp,rfl⟩:=qM.1 hx
   obtain⟨q,hq,rfl⟩:=qM.1 hy
   obtain⟨h1,h2⟩:=hF q hq
   rcases t.new p hp with h3|h3
   all_goals grind
 .intro p hp
  rcases qE.1 hp with hp|hp
  .exact t.free p hp
  .obtain⟨h1,h2⟩:=hF p hp
   have:=t.old p.1 h1
   rw[this]
   exact s.free p (xM _ hp)
 .intro p hp
  rcases qE.1 hp with hp|hp
  .rcases t.new p hp with h3|h3
   .exact .inl (zN s.size h3)
   .obtain⟨q,hq,hqp⟩:=qM.1 h3
    have:=s.new q (jN _ hq)
    rw[hqp]at this
    exact this
  .exact s.new p (xM _ hp)
theorem St.below{X:Cx}{h:HF}{L:LH}(s:St X h L w)(hM:X.M=[]):RowKit.Below X.w0.heap.size X.w0 w:=
 ⟨s.os,s.tape,s.output,s.size,λk hk=>s.keep k hk (by rw[hM];simp)⟩
theorem St.eT{X:Cx}{h:HF}{L:LH}(s:St X h L w):X.h0.le h:=s.le
theorem St.alloc{X:Cx}{h:HF}{L:LH}(s:St X h L w)(o:Obj):
  St X h ((w.heap.size,o)::L) { w with heap:=w.heap.push o }:=by
 have hs:(w.heap.push o).size=w.heap.size+1:=by simp
 have hold:∀b,b<w.heap.size->(w.heap.push o)[b]? = w.heap[b]?:=λb hb=>by
  rw[Array.getElem?_push,if_neg (by omega)]
 refine⟨s.os,s.tape,s.output,by simp;exact Nat.le_succ_of_le s.size,?_,s.le,s.old,?_,?_,?_,?_,?_⟩
 .intro b hb hM
  show(w.heap.push o)[b]? = _
  rw[hold b (Ya hb s.size)];exact s.keep b hb hM
 .intro b p hb
  show(w.heap.push o)[b]? = _
  rw[hold b (jX (s.imm b p hb))];exact s.imm b p hb
 .intro p hp
  show(w.heap.push o)[p.1]? = _
  rcases vC.1 hp with rfl|hp
  .simp
  .rw[hold p.1 (jX (s.own p hp))];exact s.own p hp
 .rw[jG,jQ]
  refine⟨?_,s.dis⟩
  intro hm
  obtain⟨p,hp,hpe⟩:=qM.1 hm
  have:=jX (s.own p hp)
  simp only at hpe
  omega
 .intro p hp
  rcases vC.1 hp with rfl|hp
  .cases hh:h w.heap.size with
   |none=>rfl
   |some q=>have:=jX (s.imm _ _ hh);omega
  .exact s.free p hp
 .intro p hp
  rcases vC.1 hp with rfl|hp
  .exact .inl s.size
  .exact s.new p hp
theorem St.drew{X:Cx}{h:HF}{L:LH}(s:St X h L w)(d:Nat):St X h L { w with drawn:=d }:=
 ⟨s.os,s.tape,s.output,s.size,s.keep,s.le,s.old,s.imm,s.own,s.dis,s.free,s.new⟩
def nth{α : Type}:List α->Nat->Option α
 |[],_=>none
 |x::_,0=>some x
 |_::l,i+1=>nth l i
theorem ja(l:List α)(i:Nat):nth l i=l[i]?:=by
 induction l generalizing i with
 |nil=>simp[nth]
 |cons x l ih=>cases i<;>simp[nth,ih]
def setNth{α : Type}:List α->Nat->α->List α
 |[],_,_=>[]
 |_::l,0,y=>y::l
 |x::l,i+1,y=>x::setNth l i y
theorem qh(l:List α)(i:Nat)(y:α):setNth l i y=l.set i y:=by
 induction l generalizing i with
 |nil=>simp[setNth]
 |cons x l ih=>cases i<;>simp[setNth,ih]
theorem s9(l:List α)(i:Nat)(y:α):(setNth l i y).length=l.length:=by
 rw[qh];simp
theorem St.write{X:Cx}{h:HF}{L:LH}(s:St X h L w){b:Nat}(hi:nth L i=some (b,o))(o':Obj):
  St X h (setNth L i (b,o')) { w with heap:=w.heap.setIfInBounds b o' }:=by
 rw[ja]at hi
 rw[qh]
 have hmem:(b,o)∈L:=kD hi
 have hil:i<L.length:=by
  grind
 have hbs:b<w.heap.size:=jX (s.own _ hmem)
 have hkeys:(L.set i (b,o')).map (·.1)=L.map (·.1):=by
  rw[List.map_set]
  apply YA
  grind
 have hin:∀p∈L.set i (b,o'),p=(b,o')\/(p∈L/\p.1≠b):=by
  intro p hp
  obtain⟨j,hj⟩:=List.getElem?_of_mem hp
  rw[List.getElem?_set]at hj
  by_cases e:i=j
  .grind
  .simp only[e,if_false]at hj
   refine .inr ⟨kD hj,?_⟩
   intro hb
   have hd:=s.dis
   have h1:(L.map (·.1))[j]? = some b:=by simp[qW,hj,hb]
   have h2:(L.map (·.1))[i]? = some b:=by simp[qW,hi]
   have hj':j<(L.map (·.1)).length:=by
    grind
   exact e ((List.getElem?_inj (by simpa using hil) hd).1 (h2.trans h1.symm))
 have hother:∀k,k≠b->(w.heap.setIfInBounds b o')[k]? = w.heap[k]?:=λk hk=>by
  grind
 refine⟨s.os,s.tape,s.output,by simp;exact s.size,?_,s.le,s.old,?_,?_,?_,?_,?_⟩
 .intro k hk hM
  show(w.heap.setIfInBounds b o')[k]? = _
  have hne:k≠b:=by
   intro e;subst e
   rcases s.new _ hmem with h1|h1
   .simp only at h1;omega
   .exact hM h1
  rw[hother k hne];exact s.keep k hk hM
 .intro k p hk
  show(w.heap.setIfInBounds b o')[k]? = _
  have hne:k≠b:=by
   intro e;subst e
   have:=s.free _ hmem
   simp only at this
   rw[this]at hk;cases hk
  rw[hother k hne];exact s.imm k p hk
 .intro p hp
  show(w.heap.setIfInBounds b o')[p.1]? = _
  rcases hin p hp with rfl|⟨hp,hne⟩
  .simp[hbs]
  .rw[hother _ hne];exact s.own p hp
 .rw[hkeys];exact s.dis
 .intro p hp
  rcases hin p hp with rfl|⟨hp,_⟩
  .exact s.free (b,o) hmem
  .exact s.free p hp
 .intro p hp
  rcases hin p hp with rfl|⟨hp,_⟩
  .exact s.new (b,o) hmem
  .exact s.new p hp
def Wp(C:World->(Ending->World->Prop)->Prop)(h:HF)(A:LH)(R:Ending->HF->LH->Prop):Prop:=
 ∀w,Pre h A w->C w λx w'=>∃h' B,St ⟨w,h,A.map (·.1)⟩ h' B w'/\R x h' B
abbrev qf(P:Program)(f:FuncId)(args:Array Value)(h:HF)(A:LH)(R:Ending->HF->LH->Prop):Prop:=Wp (tT P f args) h A R
abbrev n0(P:Program)(fv:Value)(args:Array Value)(h:HF)(A:LH)(R:Ending->HF->LH->Prop):Prop:=Wp (Ss P fv args) h A R
theorem qf.mono{h:HF}{A:LH}{R R':Ending->HF->LH->Prop}(s:qf P f args h A R)(hr:∀x h' B,h.le h'->R x h' B->R' x h' B):qf P f args h A R':=
 λw p=>(s w p).mono λ_ _⟨h',B,t,r⟩=>⟨h',B,t,hr _ _ _ t.le r⟩
theorem n0.mono{f:Value}{h:HF}{A:LH}{R R':Ending->HF->LH->Prop}(s:n0 P f args h A R)(hr:∀x h' B,h.le h'->R x h' B->R' x h' B):n0 P f args h A R':=
 λw p=>(s w p).mono λ_ _⟨h',B,t,r⟩=>⟨h',B,t,hr _ _ _ t.le r⟩
end
variable {A B L':LH}{a:Bool}{c:Code}{ch:List PanicEntry}{fn:Func}{h h2:HF}{id n:Nat}{is:List Nat}{l:List Oper}{ops:Array Oper}{todo:List Item}{v:Go.Value}{ι:Type}
section
def TT(P:Program)(b:Frame)(n:Nat)(todo:List Item)(F:List Frame->(Machine->Prop)->Prop)(e:Env)(ds:List Deferred)(X:Cx)(h:HF)(L:LH):Prop:=
 ∀w,St X h L w->∀a cs Φ,a.tmps.size=n->envOf a=e->a.defers=ds->F cs Φ->To P Φ (lone (b.atR a todo) cs w)
def TO(P:Program)(b:Frame)(n:Nat)(ops:Array Oper)(l:List Oper)(k:List Item)(F:List Frame->(Machine->Prop)->Prop)(e:Env)(ds:List Deferred)(X:Cx)(h:HF)(L:LH):Prop:=
 ∀w,St X h L w->∀is:List Nat,is.map (ops[·]?)=l.map some->∀a cs Φ,a.tmps.size=n->envOf a=e->a.defers=ds->F cs Φ->To P Φ (lone (b.atR a (.inRegion ops is::k)) cs w)
section rules
variable {P:Program} {b:Frame} {n:Nat} {k:List Item} {F:List Frame->(Machine->Prop)->Prop} {e:Env} {ds:List Deferred} {X:Cx} {h:HF} {L:LH}
theorem ek(hs:L'.Sublist L)(t:TT P b n todo F e ds X h L'):TT P b n todo F e ds X h L:=
 λw hw=>t w (hw.sub hs)
theorem jy(hs:L.Perm L')(t:TT P b n todo F e ds X h L'):TT P b n todo F e ds X h L:=
 λw hw=>t w (hw.perm hs)
theorem Ot(l:List (Nat×Value))(hl:fT e l)(t:TT P b n todo F (upds e l) ds X h L):TT P b n todo F e ds X h L:=by
 rw[hl.upds]at t;exact t
theorem jf(t:TT P b n k F e ds X h L):TT P b n (.code .skip::k) F e ds X h L:=
 λw hw a cs Φ h1 h2 h3 h4=>.step stepR_skip (t w hw a cs Φ h1 h2 h3 h4)
theorem eI{x y:Code}(t:TT P b n (.code x::.code y::k) F e ds X h L):TT P b n (.code (.seq x y)::k) F e ds X h L:=
 λw hw a cs Φ h1 h2 h3 h4=>.step stepR_seq (t w hw a cs Φ h1 h2 h3 h4)
theorem nI(t:TT P b n (.code c::.inBlock id::k) F e ds X h L):TT P b n (.code (.block id c)::k) F e ds X h L:=
 λw hw a cs Φ h1 h2 h3 h4=>.step stepR_block (t w hw a cs Φ h1 h2 h3 h4)
theorem gU(t:TT P b n k F e ds X h L):TT P b n (.inBlock id::k) F e ds X h L:=
 λw hw a cs Φ h1 h2 h3 h4=>.step stepR_inBlock (t w hw a cs Φ h1 h2 h3 h4)
theorem jI{k':List Item}(hx:exitTo id k=some k')(t:TT P b n k' F e ds X h L):TT P b n (.code (.exit id)::k) F e ds X h L:=
 λw hw a cs Φ h1 h2 h3 h4=>.step (stepR_exit hx) (t w hw a cs Φ h1 h2 h3 h4)
theorem lL{c:Operand}{x y:Code}{t:Bool}(hc:e.ev c=.bool t)(h1:t=true->TT P b n (.code x::k) F e ds X h L)(h0:t=false->TT P b n (.code y::k) F e ds X h L):
  TT P b n (.code (.cond c x y)::k) F e ds X h L:=by
 intro w hw a cs Φ hn he hd hF
 have hev:a.eval c=.bool t:=by rw[lU,he];exact hc
 cases t with
 |true=>exact .step (stepR_cond hev) (h1 rfl w hw a cs Φ hn he hd hF)
 |false=>exact .step (stepR_cond hev) (h0 rfl w hw a cs Φ hn he hd hF)
theorem rM{c:Operand}{x y:Code}(hc:e.ev c=.bool true)(t:TT P b n (.code x::k) F e ds X h L):TT P b n (.code (.cond c x y)::k) F e ds X h L:=by grind [lL]
theorem pj{c:Operand}{x y:Code}(hc:e.ev c=.bool false)(t:TT P b n (.code y::k) F e ds X h L):TT P b n (.code (.cond c x y)::k) F e ds X h L:=by grind [lL]
theorem mL(sl:ι->List (Nat×Value))(hh:ι->HF)(LL:ι->LH)(I:ι->Prop)(μ : ι->Nat)(i₀ : ι)(h0:fT e (sl i₀))(hs:∀w,St X h L w->St X (hh i₀) (LL i₀) w)(hI:I i₀)(round:∀i,I i->(∀i' e',μ i'<μ i->I i'->fT e' (sl i')->TT P b n (.inLoop c::k) F e' ds X (hh i') (LL i')) ->
   ∀e,TT P b n (.code c::.inLoop c::k) F (upds e (sl i)) ds X (hh i) (LL i)):
  TT P b n (.code (.loop c)::k) F e ds X h L:=by
 have key:∀m i e',μ i=m->I i->fT e' (sl i)->TT P b n (.code c::.inLoop c::k) F e' ds X (hh i) (LL i):=by
  intro m
  induction m using Za with
  |_ m ih=>
   intro i e' hm hI hr
   have:=round i hI (λi' e'' hlt hI' hr' w hw a cs Φ h1 h2 h3 h4=>.step stepR_inLoop (ih _ (hm▸hlt) i' e'' rfl hI' hr' w hw a cs Φ h1 h2 h3 h4)) e'
   rw[hr.upds]at this
   exact this
 intro w hw a cs Φ h1 h2 h3 h4
 exact .step stepR_loop (key _ i₀ e rfl hI h0 w (hs w hw) a cs Φ h1 h2 h3 h4)
theorem cB(t:TO P b n l.toArray l k F e ds X h L):TT P b n (.code (.region id l.toArray false)::k) F e ds X h L:=by
 intro w hw a cs Φ h1 h2 h3 h4
 refine .step stepR_region (t w hw _ ?_ a cs Φ h1 h2 h3 h4)
 apply YA
 grind
theorem ck(t:TT P b n k F e ds X h L):TO P b n ops [] k F e ds X h L:=by
 intro w hw is hi a cs Φ h1 h2 h3 h4
 simp only[Zt,List.map_eq_nil_iff]at hi
 subst hi
 exact .step stepR_region_end (t w hw a cs Φ h1 h2 h3 h4)
variable {ops:Array Oper} {l:List Oper} {o:Oper}
theorem rX(hi:is.map (ops[·]?)=(o::l).map some):∃i js,is=i::js/\ops[i]? = some o/\js.map (ops[·]?)=l.map some:=by
 cases is with
 |nil=>simp at hi
 |cons i js=>
  grind
theorem HU(hd:o.dst=some d)(hdn:d<n)(hnd:noDefer o.op=true)(hg:guardB ops e o=true)(hr:∀w,St X h L w->∃v w' h' L',(execOp e.ev o).run P w=.ok (.value v) w'/\St X h' L' w'/\TO P b n ops l k F (upd e d v) ds X h' L'):
  TO P b n ops (o::l) k F e ds X h L:=by
 intro w hw is hi a cs Φ hn he hds hF
 obtain⟨i,js,rfl,ho,hj⟩:=rX hi
 obtain⟨v,w',h',L',hrun,hst,t⟩:=hr w hw
 have hwt:=(gP (ops:=ops) (o:=o) he).trans hg
 have hs:=stepGR_op (P:=P) (b:=b) (k:=k) (cs:=cs) (w:=w) (rest:=js) ho hwt
 refine .step (step_lone_go (fr':=b.atR (a.put o.dst v) (.inRegion ops js::k)) (cs':=cs) (w':=w') ?_) ?_
 .rw[hs,lO _ _ hnd,lU,he,←iZ a js k ho v];simp[stepG.apply,hrun]
 .rw[hd]
  exact t w' hst js hj (a.put (some d) v) cs Φ (by rw[qw];exact hn) (by rw[rG _ _ _ (hn▸hdn),he]) (by rw[nY];exact hds) hF
theorem Vo(hd:o.dst=none)(hnd:noDefer o.op=true)(hg:guardB ops e o=true)(hr:∀w,St X h L w->∃w' h' L',(execOp e.ev o).run P w=.ok .skip w'/\St X h' L' w'/\TO P b n ops l k F e ds X h' L'):
  TO P b n ops (o::l) k F e ds X h L:=by
 intro w hw is hi a cs Φ hn he hds hF
 obtain⟨i,js,rfl,ho,hj⟩:=rX hi
 obtain⟨w',h',L',hrun,hst,t⟩:=hr w hw
 have hwt:=(gP (ops:=ops) (o:=o) he).trans hg
 have hs:=stepGR_op (P:=P) (b:=b) (k:=k) (cs:=cs) (w:=w) (rest:=js) ho hwt
 refine .step (step_lone_go (fr':=b.atR (a.put o.dst undef) (.inRegion ops js::k)) (cs':=cs) (w':=w') ?_) ?_
 .rw[hs,lO _ _ hnd,lU,he,←iZ a js k ho undef];simp[stepG.apply,hrun]
 .rw[hd]
  exact t w' hst js hj a cs Φ hn he hds hF
theorem Vp(hd:o.dst=some d)(hdn:d<n)(hg:guardB ops e o=false)(t:TO P b n ops l k F (upd e d undef) ds X h L):TO P b n ops (o::l) k F e ds X h L:=by
 intro w hw is hi a cs Φ hn he hds hF
 obtain⟨i,js,rfl,ho,hj⟩:=rX hi
 have hwt:=(gP (ops:=ops) (o:=o) he).trans hg
 have hs:=stepR_op_skip (P:=P) (b:=b) (a:=a) (k:=k) (cs:=cs) (w:=w) (ops:=ops) (i:=i) (rest:=js) (by simp[ho,hwt])
 simp only[ho,Ys,hd]at hs
 exact .step hs (t w hw js hj (a.put (some d) undef) cs Φ (by rw[qw];exact hn) (by rw[rG _ _ _ (hn▸hdn),he]) (by rw[nY];exact hds) hF)
def TP(P:Program)(b:Frame)(n:Nat)(ch:List PanicEntry)(F:List Frame->(Machine->Prop)->Prop)(e:Env)(ds:List Deferred)(X:Cx)(h:HF)(L:LH):Prop:=
 ∀w,St X h L w->∀a cs Φ todo,a.tmps.size=n->envOf a=e->a.defers=ds->F cs Φ->To P Φ (lone { b.atR a todo with mode:=.panicking ch } cs w)
theorem ML(hd:o.dst=some d)(hdn:d<n)(hnd:noDefer o.op=true)(hg:guardB ops e o=true)(hr:∀w,St X h L w->∃nx w',(execOp e.ev o).run P w=.ok nx w'/\yr P w' (λ
   |.returned v,w''=>∃h' L',St X h' L' w''/\TO P b n ops l k F (upd e d v) ds X h' L'
   |.panicked ch,w''=>∃h' L',St X h' L' w''/\TP P b n ch F e ds X h' L'
   |.outgrown,_=>True) nx):
  TO P b n ops (o::l) k F e ds X h L:=by
 intro w hw is hi a cs Φ hn he hds hF
 obtain⟨i,js,rfl,ho,hj⟩:=rX hi
 obtain⟨nx,w',hrun,hcall⟩:=hr w hw
 have hwt:=(gP (ops:=ops) (o:=o) he).trans hg
 have hs:=stepGR_op (P:=P) (b:=b) (k:=k) (cs:=cs) (w:=w) (rest:=js) ho hwt
 have hret:∀v w'',(∃h' L',St X h' L' w''/\TO P b n ops l k F (upd e d v) ds X h' L')->To P Φ (lone ((b.atR a (.inRegion ops (i::js)::k)).finish v) cs w''):=by
  rintro v w'' ⟨h',L',hst,t⟩
  rw[iZ a js k ho v,hd]
  exact t w'' hst js hj (a.put (some d) v) cs Φ (by rw[qw];exact hn) (by rw[rG _ _ _ (hn▸hdn),he]) (by rw[nY];exact hds) hF
 have hpan:∀ch w'',(∃h' L',St X h' L' w''/\TP P b n ch F e ds X h' L')->To P Φ (lone ((b.atR a (.inRegion ops (i::js)::k)).raise ch) cs w''):=by
  rintro ch w'' ⟨h',L',hst,t⟩
  exact t w'' hst a cs Φ _ hn he hds hF
 cases nx with
 |value v=>
  refine .step (step_lone_go (fr':=b.atR (a.put o.dst v) (.inRegion ops js::k)) (cs':=cs) (w':=w') ?_) ?_
  .rw[hs,lO _ _ hnd,lU,he,←iZ a js k ho v];simp[stepG.apply,hrun]
  .have:=hret v w' hcall
   rw[iZ a js k ho v]at this
   exact this
 |enter f args=>
  refine .step (step_lone_go (fr':=xR P f args .normal) (cs':=b.atR a (.inRegion ops (i::js)::k)::cs) (w':=w') ?_) ?_
  .rw[hs,lO _ _ hnd,lU,he];simp[stepG.apply,hrun,Yr]
  .exact hcall _ cs Φ (λv w'' r=>hret v w'' r) (λch w'' r=>hpan ch w'' r)
 |round lp f tmps assign body=>
  refine .step (step_lone_go (fr':=ZJ lp f tmps assign body .normal) (cs':=b.atR a (.inRegion ops (i::js)::k)::cs) (w':=w') ?_) ?_
  .rw[hs,lO _ _ hnd,lU,he];simp[stepG.apply,hrun,Yr]
  .exact hcall _ cs Φ (λv w'' r=>hret v w'' r) (λch w'' r=>hpan ch w'' r)
 |_=>exact hcall.elim
end rules
def lJ(P:Program)(X:Cx)(R:Ending->HF->LH->Prop)(cs:List Frame)(Φ : Machine->Prop):Prop:=
 ∃c cs',cs=c::cs'/\(∀v w',(∃h' B,St X h' B w'/\R (.returned v) h' B)->To P Φ (lone (c.finish v) cs' w')) /\
  (∀ch w',(∃h' B,St X h' B w'/\R (.panicked ch) h' B)->To P Φ (lone (c.raise ch) cs' w'))
def envArgs:List Value->Env
 |[]=>λ_=>undef
 |v::vs=>λt=>match t with
  |0=>v
  |t+1=>envArgs vs t
theorem rk(args:List Value)(m:Nat):envOf { tmps:=args.toArray++X4 m undef,defers:=[] }=envArgs args:=by
 funext t
 simp only[envOf,zL]
 induction args generalizing t with
 |nil=>
  simp only[envArgs,vB,Array.getElem?_append]
  grind
 |cons v vs ih=>
  grind [envArgs]
def bodyFrame(f:FuncId):Frame:={ fn:=f,tmps:=#[],todo:=[],defers:=[],mode:=.run,kind:=.normal,roundOf:=none }
theorem el{args:List Value}{R:Ending->HF->LH->Prop}(hf:P.funcs[f]? = some fn)(hb:fn.body=some c)(hn:fn.ntmps=n)(eT:YE args.length n=true)(t:∀X:Cx,X.M=A.map (·.1)->X.h0=h->TT P (bodyFrame f) n [.code c] (lJ P X R) (envArgs args) [] X h A):qf P f args.toArray h A R:=by
 intro w p caller cs Φ h1 h2
 have eT:=jM eT
 have henter:xR P f args.toArray .normal=(bodyFrame f).atR { tmps:=args.toArray++X4 (n-args.length) undef,defers:=[] } [.code c]:=by
  grind [xR,Yr,bodyFrame]
 rw[henter]
 exact t ⟨w,h,A.map (·.1)⟩ rfl rfl w (St.start p) _ (caller::cs) Φ (by simp;omega) (rk _ _) rfl ⟨caller,cs,rfl,h1,h2⟩
section ending
variable {P:Program} {f:FuncId} {n:Nat} {k:List Item} {e:Env} {ds:List Deferred} {X:Cx} {h:HF} {L:LH} {R:Ending->HF->LH->Prop} {fn:Func}
theorem jt{fr c:Frame}{cs:List Frame}(hm:fr.mode=.returning)(hd:fr.defers=[])(hk:fr.kind=.normal)(hf:P.funcs[fr.fn]? = some fn)(hr:(results fn fr.tmps).run P w=.ok v w):step P (lone fr (c::cs) w)=.next (lone (c.finish v) cs w):=
 step_leave_returned (P:=P) (fr:=fr) ⟨hm,hd,hk,fn,hf,hr⟩
theorem ra(hf:P.funcs[f]? = some fn)(hv:∀a:Act,envOf a=e->∀w,St X h L w->(results fn a.tmps).run P w=.ok v w)(hB:∀w,St X h L w->St X h2 B w)(hR:R (.returned v) h2 B):TT P (bodyFrame f) n (.code .ret::k) (lJ P X R) e [] X h L:=by
 intro w hw a cs Φ hn he hds hF
 obtain⟨c,cs',rfl,h1,_⟩:=hF
 refine .step (stepR_ret rfl) (.step (jt (fn:=fn) (v:=v) rfl hds rfl hf (hv a he w hw)) ?_)
 exact h1 v w ⟨h2,B,hB w hw,hR⟩
theorem Az(hf:P.funcs[f]? = some fn)(hv:∀a:Act,envOf a=e->∀w,St X h L w->(results fn a.tmps).run P w=.ok v w)(hB:∀w,St X h L w->St X h2 B w)(hR:R (.returned v) h2 B):TT P (bodyFrame f) n [] (lJ P X R) e [] X h L:=by
 intro w hw a cs Φ hn he hds hF
 obtain⟨c,cs',rfl,h1,_⟩:=hF
 refine .step (stepR_end rfl) (.step (jt (fn:=fn) (v:=v) rfl hds rfl hf (hv a he w hw)) ?_)
 exact h1 v w ⟨h2,B,hB w hw,hR⟩
theorem TK(hf:P.funcs[f]? = some fn)(hB:∀w,St X h L w->St X h2 B w)(hR:R (.panicked ch) h2 B):
  TP P (bodyFrame f) n ch (lJ P X R) e [] X h L:=by
 intro w hw a cs Φ todo hn he hds hF
 obtain⟨c,cs',rfl,_,h3⟩:=hF
 refine .step (step_leave_panicked (P:=P) (fr:={ (bodyFrame f).atR a todo with mode:=.panicking ch }) ⟨rfl,hds,fn,hf⟩) ?_
 exact h3 ch w ⟨h2,B,hB w hw,hR⟩
theorem ol(hr:fn.results=#[])(a:Act)(w:World):(results fn a.tmps).run P w=.ok (.tuple #[]) w:=by
 simp[results,hr]
theorem res1{t:Nat}(hr:fn.results=#[.tmp t])(a:Act)(he:envOf a=e)(w:World):(results fn a.tmps).run P w=.ok (e t) w:=by
 subst he;simp[results,hr,envOf]
abbrev Ret(P:Program)(f:FuncId)(args:List Value)(h:HF)(v:Value):Prop:=qf P f args.toArray h [] (λx h' B=>x=.returned v/\h'=h/\B=[])
theorem bv{b:Bool}(h:a=b):Value.bool a=.bool b:=by rw[h]
end ending
end
variable {E T u:TypeId}{X:Cx}{a5_:Array Operand}{ats:Array TypeId}{base:Option Addr}{bk j off:Nat}{cl vs zs:List Go.Value}{fz:Nat×Nat}{h':HF}{op:BinOp}{q:Addr}{s:Bool}{v':Go.Value}{x y:Operand}{z:Int}
section
def vcells:Value->List Value
 |.agg cs=>cs.toList
 |v=>[v]
theorem oh(v:Value):v.cells=(vcells v).toArray:=by cases v<;>simp[Value.cells,vcells]
def tySz(P:Program)(t:TypeId):Option (Nat×Bool):=
 match P.info? t,P.underlying t with
 |some i,some d=>some (i.size,match d with|.struct _|.array _ _=>true|_=>false)
 |_,_=>none
theorem iP{t:TypeId}{m:Nat}(hT:tySz P t=some (m,a))(w:World):(sizeOf t).run P w=.ok m w:=by
 unfold tySz at hT
 cases hi:P.info? t with
 |none=>simp[hi]at hT
 |some i=>
  cases hu:P.underlying t with
  |none=>simp[hi,hu]at hT
  |some d=>
   simp only[hi,hu,kN,Y8]at hT
   simp[sizeOf,typeInfo,hi,hT.1]
theorem HP{t:TypeId}{m:Nat}(hT:tySz P t=some (m,a))(w:World):(isAgg t).run P w=.ok a w:=by
 unfold tySz at hT
 cases hi:P.info? t with
 |none=>simp[hi]at hT
 |some i=>
  cases hu:P.underlying t with
  |none=>simp[hi,hu]at hT
  |some d=>
   simp only[hi,hu,kN,Y8]at hT
   obtain⟨_,rfl⟩:=hT
   simp only[isAgg,kL,run_underlying hu,xK]
   cases d<;>rfl
def At(h:HF)(q:Addr)(cs:List Value):Prop:=
 ∃c T fz,h q.block=some (.cells c T fz)/\q.spot=none/\∀j v,cs[j]? = some v->c[q.off+j]? = some v
theorem At.mono{cs:List Value}(a:At h q cs)(hl:h.le h'):At h' q cs:=
 let ⟨c,T,fz,h1,h2,h3⟩:=a;⟨c,T,fz,hl _ _ h1,h2,h3⟩
theorem At.cell{L:LH}{cs:List Value}(a:At h q cs)(s:St X h L w)(hj:cs[j]? = some v):
  w.cell? (q.add j)=some v:=by
 obtain⟨c,T,fz,h1,h2,h3⟩:=a
 have hb:=s.imm _ _ h1
 obtain⟨bk,off,spot⟩:=q
 simp only at h2
 subst h2
 have:=h3 j v hj
 simp only at this hb
 by_cases e:j=0
 .subst e;simpa[jP,YZ,hb]using this
 .simp[jP,e,YZ,hb,this]
theorem St.cell{L:LH}(s:St X h L w)(hL:nth L i=some (bk,.cells cl.toArray T fz))(hv:nth cl off=some v):w.cell? ⟨bk,off,none⟩=some v:=by
 rw[ja]at hL hv
 have:=s.own _ (kD hL)
 simp only at this
 simp[YZ,this,hv]
def cut:List Value->Nat->Nat->Option (List Value)
 |_,_,0=>some []
 |cl,off,n+1=>match nth cl off,cut cl (off+1) n with
  |some v,some l=>some (v::l)
  |_,_=>none
theorem Er{cl:List Value}:∀{n off:Nat}{l:List Value},cut cl off n=some l->l.length=n/\∀j v,l[j]? = some v->nth cl (off+j)=some v
 |0,off,l,h=>by simp[cut]at h;subst h;simp
 |n+1,off,l,h=>by
  simp only[cut]at h
  split at h
  .rename_i v l' h1 h2
   simp only[kN]at h
   subst h
   obtain⟨h3,h4⟩:=Er h2
   grind
  .cases h
theorem rQ{t:TypeId}{m:Nat}(hT:tySz P t=some (m,false)){a:Addr}(hc:w.cell? a=some v):(loadVar t a).run P w=.ok v w:=by
 simp[loadVar,HP hT,hc]
theorem rP{t:TypeId}{cs:List Value}(hT:tySz P t=some (cs.length,true)){a:Addr}(hc:∀j v,cs[j]? = some v->w.cell? (a.add j)=some v):
  (loadVar t a).run P w=.ok (.agg cs.toArray) w:=by
 simp[loadVar,HP hT,iP hT,run_loadCells_list w a cs hc]
section ops
variable {P:Program} {b:Frame} {n:Nat} {k:List Item} {F:List Frame->(Machine->Prop)->Prop} {e:Env} {ds:List Deferred} {X:Cx} {h:HF} {L:LH}
variable {ops:Array Oper} {l:List Oper} {d:Nat} {ty:TypeId} {pos:String} {af:Array Edge} {g:Option (Nat×Bool)}
theorem rn{a b:Nat}(h:kH a b=true):a<b:=by
 simpa[Nat.blt_eq]using h
theorem vp{op:Op}(v:Value)(hop:noDefer op=true)(hr:∀w,St X h L w->(execOp e.ev ⟨some d,op,ty,pos,af,g⟩).run P w=.ok (.value v) w)(hd:kH d n=true)(hg:guardB ops e ⟨some d,op,ty,pos,af,g⟩=true)(t:TO P b n ops l k F (upd e d v) ds X h L):
  TO P b n ops (⟨some d,op,ty,pos,af,g⟩::l) k F e ds X h L:=by grind [HU,rn]
theorem I5{op:Op}(t:TO P b n ops l k F (upd e d undef) ds X h L)(hd:Nat.blt d n=true:=by rfl)(hg:guardB ops e ⟨some d,op,ty,pos,af,g⟩=false:=by rfl):
  TO P b n ops (⟨some d,op,ty,pos,af,g⟩::l) k F e ds X h L:=
 Vp rfl (rn hd) hg t
theorem dU(t:TO P b n ops l k F (upd e d (e.ev x)) ds X h L)(hd:Nat.blt d n=true:=by rfl)(hg:guardB ops e ⟨some d,.move x,ty,pos,af,g⟩=true:=by rfl):
  TO P b n ops (⟨some d,.move x,ty,pos,af,g⟩::l) k F e ds X h L:=
 vp _ rfl (λw _=>by simp[execOp]) hd hg t
theorem jj(t:TO P b n ops l k F (upd e d (e.ev x)) ds X h L)(hd:Nat.blt d n=true:=by rfl)(hg:guardB ops e ⟨some d,.assign x,ty,pos,af,g⟩=true:=by rfl):
  TO P b n ops (⟨some d,.assign x,ty,pos,af,g⟩::l) k F e ds X h L:=
 vp _ rfl (λw _=>by simp[execOp]) hd hg t
theorem I6{c:Operand}(hc:e.ev c=.bool s)(t:TO P b n ops l k F (upd e d (bif s then e.ev x else e.ev y)) ds X h L)(hd:Nat.blt d n=true:=by rfl)(hg:guardB ops e ⟨some d,.pick c x y,ty,pos,af,g⟩=true:=by rfl):TO P b n ops (⟨some d,.pick c x y,ty,pos,af,g⟩::l) k F e ds X h L:=
 vp _ rfl (λw _=>by cases s<;>simp[execOp,hc,asBool]) hd hg t
theorem j2{t:TypeId}(t':∀bk,TO P b n ops l k F (upd e d (.pointer (some ⟨bk,0,none⟩))) ds X h ((bk,.cells (vcells (e.ev x)).toArray t (0,0))::L))(hd:Nat.blt d n=true:=by rfl)(hg:guardB ops e ⟨some d,.box t x,ty,pos,af,g⟩=true:=by rfl):TO P b n ops (⟨some d,.box t x,ty,pos,af,g⟩::l) k F e ds X h L:=
 HU rfl (rn hd) rfl hg λw hw=>⟨_,_,h,_,by simp[execOp,Instr.box,newVar,newRow,oh],hw.alloc _,t' _⟩
def zeroC(P:Program)(t:TypeId):Option (List Value):=(P.info? t).bind λi=>i.zero.map vcells
theorem uQ{P:Program}{t:TypeId}(hz:zeroC P t=some zs)(w:World):∃z,(zeroValue t).run P w=.ok z w/\z.cells=zs.toArray:=by
 unfold zeroC at hz
 cases hi:P.info? t with
 |none=>simp[hi]at hz
 |some i=>
  cases hq:i.zero with
  |none=>simp[hi,hq]at hz
  |some z=>
   simp only[hi,hq,Ys,Zb,kN]at hz
   exact⟨z,by simp[zeroValue,typeInfo,hi,hq],by rw[oh,hz]⟩
theorem cS{t:TypeId}(hz:zeroC P t=some zs)(t':∀bk,TO P b n ops l k F (upd e d (.pointer (some ⟨bk,0,none⟩))) ds X h ((bk,.cells zs.toArray t (0,0))::L))(hd:Nat.blt d n=true:=by rfl)(hg:guardB ops e ⟨some d,.alloc t,ty,pos,af,g⟩=true:=by rfl):TO P b n ops (⟨some d,.alloc t,ty,pos,af,g⟩::l) k F e ds X h L:=
 HU rfl (rn hd) rfl hg λw hw=>by
  obtain⟨z,h1,h2⟩:=uQ hz w
  exact⟨_,_,h,_,by simp[execOp,Instr.alloc,h1,newVar,newRow,h2],hw.alloc _,t' _⟩
theorem qm(i:Nat){t:TypeId}{m T:Nat}(hT:tySz P t=some (m,false))(hx:e.ev x=.pointer (some ⟨bk,off,none⟩))(hL:nth L i=some (bk,.cells cl.toArray T fz))(hv:nth cl off=some v)(t':TO P b n ops l k F (upd e d v) ds X h L)(hd:Nat.blt d n=true:=by rfl)(hg:guardB ops e ⟨some d,.load t x,ty,pos,af,g⟩=true:=by rfl):TO P b n ops (⟨some d,.load t x,ty,pos,af,g⟩::l) k F e ds X h L:=
 vp _ rfl (λw hw=>by simp[execOp,YK,hx,zS,rQ hT (hw.cell hL hv)]) hd hg t'
theorem ga(i:Nat){t:TypeId}{m T:Nat}{cs:List Value}(hT:tySz P t=some (m,true))(hx:e.ev x=.pointer (some ⟨bk,off,none⟩))(hL:nth L i=some (bk,.cells cl.toArray T fz))(hv:cut cl off m=some cs)(t':TO P b n ops l k F (upd e d (.agg cs.toArray)) ds X h L)(hd:Nat.blt d n=true:=by rfl)(hg:guardB ops e ⟨some d,.load t x,ty,pos,af,g⟩=true:=by rfl):TO P b n ops (⟨some d,.load t x,ty,pos,af,g⟩::l) k F e ds X h L:=
 vp _ rfl (λw hw=>by
  obtain⟨h1,h2⟩:=Er hv
  subst h1
  have:∀j v,cs[j]? = some v->w.cell? ((⟨bk,off,none⟩:Addr).add j)=some v:=by
   intro j v hj
   have:=hw.cell hL (h2 j v hj)
   by_cases e0:j=0
   .subst e0;simpa[jP]using this
   .simpa[jP,e0]using this
  simp[execOp,YK,hx,zS,rP hT this]) hd hg t'
theorem nm{t:TypeId}{m:Nat}{cs:List Value}(hT:tySz P t=some (m,false))(ha:At h q cs)(hx:e.ev x=.pointer (some (q.add j)))(hv:nth cs j=some v)(t':TO P b n ops l k F (upd e d v) ds X h L)(hd:Nat.blt d n=true:=by rfl)(hg:guardB ops e ⟨some d,.load t x,ty,pos,af,g⟩=true:=by rfl):TO P b n ops (⟨some d,.load t x,ty,pos,af,g⟩::l) k F e ds X h L:=
 vp _ rfl (λw hw=>by
  rw[ja]at hv
  simp[execOp,YK,hx,zS,rQ hT (ha.cell hw hv)]) hd hg t'
theorem iw{t:TypeId}{m:Nat}{cs:List Value}(hT:tySz P t=some (m,false))(ha:At h q (v::cs))(hx:e.ev x=.pointer (some q))(t':TO P b n ops l k F (upd e d v) ds X h L)(hd:Nat.blt d n=true:=by rfl)(hg:guardB ops e ⟨some d,.load t x,ty,pos,af,g⟩=true:=by rfl):TO P b n ops (⟨some d,.load t x,ty,pos,af,g⟩::l) k F e ds X h L:=
 nm (j:=0) hT ha (by simp[jP,hx]) rfl t' hd hg
theorem zh(q:Addr)(i j:Nat)(hq:q.spot=none):(q.add i).add j=q.add (i+j):=by grind [jP]
theorem Np{t:TypeId}{m:Nat}{cs cs':List Value}(hT:tySz P t=some (m,true))(ha:At h q cs)(hx:e.ev x=.pointer (some (q.add j)))(hv:cut cs j m=some cs')(t':TO P b n ops l k F (upd e d (.agg cs'.toArray)) ds X h L)(hd:Nat.blt d n=true:=by rfl)(hg:guardB ops e ⟨some d,.load t x,ty,pos,af,g⟩=true:=by rfl):TO P b n ops (⟨some d,.load t x,ty,pos,af,g⟩::l) k F e ds X h L:=
 vp _ rfl (λw hw=>by
  obtain⟨h1,h2⟩:=Er hv
  subst h1
  have hsp:q.spot=none:=by obtain⟨_,_,_,_,h2,_⟩:=ha;exact h2
  have:∀i v,cs'[i]? = some v->w.cell? ((q.add j).add i)=some v:=by
   intro i v hi
   have:=h2 i v hi
   rw[ja]at this
   rw[zh q j i hsp]
   exact ha.cell hw this
  simp[execOp,YK,hx,zS,rP hT this]) hd hg t'
theorem Sj:∀(cs:List Value),cut cs 0 cs.length=some cs:=by
 have key:∀(cs pre:List Value),cut (pre++cs) pre.length cs.length=some cs:=by
  intro cs
  induction cs with
  |nil=>intro pre;rfl
  |cons v cs ih=>
   intro pre
   have:=ih (pre++[v])
   simp only[zC,jK,qD,kA,xA,xB]at this
   simp only[xA,cut,ja]
   simp[this]
 intro cs
 simpa using key cs []
theorem lh{t:TypeId}{m:Nat}{cs:List Value}(hT:tySz P t=some (m,true))(ha:At h q cs)(hm:cs.length=m)(hx:e.ev x=.pointer (some q))(t':TO P b n ops l k F (upd e d (.agg cs.toArray)) ds X h L)(hd:Nat.blt d n=true:=by rfl)(hg:guardB ops e ⟨some d,.load t x,ty,pos,af,g⟩=true:=by rfl):TO P b n ops (⟨some d,.load t x,ty,pos,af,g⟩::l) k F e ds X h L:=
 Np (j:=0) hT ha (by simp[jP,hx]) (by subst hm;exact Sj cs) t' hd hg
def one:Value->Bool
 |.agg _|.tuple _=>false
 |_=>true
theorem WG(v:Value):one v=v.oneCell':=by cases v<;>rfl
def splice(cl:List Value)(off:Nat):List Value->List Value
 |[]=>cl
 |v::vs=>splice (setNth cl off v) (off+1) vs
theorem KU(vs:List Value):∀(cl:List Value)(off:Nat),(splice cl off vs).length=cl.length:=by
 induction vs with
 |nil=>intro cl off;rfl
 |cons v vs ih=>intro cl off;simp[splice,ih,s9]
theorem ON(hb:w.heap[bk]? = some (.cells cl.toArray T fz))(v:Value):
  w.setCell ⟨bk,off,none⟩ v={ w with heap:=w.heap.setIfInBounds bk (.cells (setNth cl off v).toArray T fz) }:=by
 have hlt:=jX hb
 unfold World.setCell
 congr 1
 apply Array.ext_getElem?
 intro i
 rw[Array.getElem?_modify,Array.getElem?_setIfInBounds]
 by_cases e:bk=i
 .grind [qh]
 .simp[e]
theorem OM(o o':Obj):(w.heap.setIfInBounds bk o).setIfInBounds bk o'=w.heap.setIfInBounds bk o':=by grind
theorem oN{P:Program}{T:Nat}(off0:Nat):∀(vs:List Value)(i:Nat)(cl:List Value)(w:World),w.heap[bk]? = some (.cells cl.toArray T (0,0)) ->
  off0+i+vs.length<=cl.length->(∀v∈vs,one v=true) ->
  (storeCells ⟨bk,off0,none⟩ vs i).run P w=.ok () { w with heap:=w.heap.setIfInBounds bk (.cells (splice cl (off0+i) vs).toArray T (0,0)) }:=by
 intro vs
 induction vs with
 |nil=>
  intro i cl w hb _ _
  simp only[storeCells,splice,Yy]
  congr 1
  have:w.heap.setIfInBounds bk (.cells cl.toArray T (0,0))=w.heap:=by
   grind
  rw[this]
 |cons v vs ih=>
  intro i cl w hb eT h1
  have hadd:(⟨bk,off0,none⟩:Addr).add i=⟨bk,off0+i,none⟩:=by
   by_cases e:i=0
   .subst e;simp[jP]
   .simp[jP,e]
  have hlt:off0+i<cl.length:=by simp at eT;omega
  have hc:w.cell? ⟨bk,off0+i,none⟩=some cl[off0+i]:=by simp[YZ,hb,hlt]
  have hfz:w.frozen? ⟨bk,off0+i,none⟩=false:=by simp[World.frozen?,hb]
  have hst:=run_store P w ⟨bk,off0+i,none⟩ v .plain (by rw[←WG];exact h1 v (zB ..))
  rw[hc]at hst
  simp only[hfz]at hst
  simp only[storeCells,kL,hadd,hst,Bool.false_eq_true,if_false,xK,ON hb]
  have hb':({ w with heap:=w.heap.setIfInBounds bk (.cells (setNth cl (off0+i) v).toArray T (0,0)) }:World).heap[bk]? = some (.cells (setNth cl (off0+i) v).toArray T (0,0)):=by
   simp[jX hb]
  rw[ih (i+1) _ _ hb' (by rw[s9];simp at eT;omega) (λu hu=>h1 u (qC _ hu))]
  simp only[splice,OM]
  rfl
theorem dK(i:Nat){t:TypeId}{m T:Nat}(hT:tySz P t=some (m,a))(hx:e.ev x=.pointer (some ⟨bk,off,none⟩))(hL:nth L i=some (bk,.cells cl.toArray T (0,0)))(hv:vcells (e.ev y)=vs)(hm:vs.length=m)(eT:YE (off+vs.length) cl.length=true)(h1:vs.all one=true)(t':TO P b n ops l k F e ds X h (setNth L i (bk,.cells (splice cl off vs).toArray T (0,0))))(hg:guardB ops e ⟨none,.store t x y,ty,pos,af,g⟩=true:=by rfl):TO P b n ops (⟨none,.store t x y,ty,pos,af,g⟩::l) k F e ds X h L:=
 Vo rfl rfl hg λw hw=>by
  have hb:w.heap[bk]? = some (.cells cl.toArray T (0,0)):=by
   have h2:=hL
   rw[ja]at h2
   exact hw.own _ (kD h2)
  refine⟨_,h,_,?_,hw.write hL _,t'⟩
  have hsize:(e.ev y).cells.size=m:=by rw[oh,hv];simpa using hm
  have hlist:(e.ev y).cells.toList=vs:=by rw[oh,hv]
  have:=oN (P:=P) off vs 0 cl w hb (by simpa using jM eT) (by simpa using h1)
  simp only[ZS]at this
  simp[execOp,Instr.storeAt,hx,zS,storeVar,iP hT,hsize,hlist,this]
def fldOf(P:Program)(s:TypeId)(i:Nat):Option Nat:=
 match P.underlying s with
 |some (.struct fs)=>match fs[i]? with
  |some f=>match P.info? f.type with
   |some ti=>bif kV ti.size 0 then none else some f.offset
   |none=>none
  |none=>none
 |_=>none
theorem lT{s:TypeId}(hf:fldOf P s i=some off)(hx:e.ev x=.pointer (some q))(t':TO P b n ops l k F (upd e d (.pointer (some (q.add off)))) ds X h L)(hd:Nat.blt d n=true:=by rfl)(hg:guardB ops e ⟨some d,.fieldAddr s x i,ty,pos,af,g⟩=true:=by rfl):TO P b n ops (⟨some d,.fieldAddr s x i,ty,pos,af,g⟩::l) k F e ds X h L:=
 vp _ rfl (λw _=>by
  unfold fldOf at hf
  split at hf
  .rename_i fs hu
   split at hf
   .rename_i f hfi
    split at hf
    .rename_i ti hti
     cases hz:kV ti.size 0 with
     |true=>simp[hz]at hf
     |false=>
      simp only[hz,cond_false,kN]at hf
      have hne:ti.size≠0:=λe0=>by rw[e0]at hz;cases hz
      subst hf
      simp[execOp,Instr.fieldAt,run_underlying hu,hfi,hx,zS,fieldPlace,sizeOf,typeInfo,hti,hne]
    .cases hf
   .cases hf
  .cases hf) hd hg t'
def intV(k:IntKind)(a b:Int):BinOp->Option Value
 |.add=>some (.int k (k.wrap (a+b)))
 |.sub=>some (.int k (k.wrap (a-b)))
 |.mul=>some (.int k (k.wrap (a*b)))
 |.eql=>some (.bool (a==b))
 |.neq=>some (.bool (a != b))
 |.lss=>some (.bool (decide (a<b)))
 |.leq=>some (.bool (decide (a<=b)))
 |.gtr=>some (.bool (decide (b<a)))
 |.geq=>some (.bool (decide (b<=a)))
 |_=>none
def strV(a b:ByteArray):BinOp->Option Value
 |.eql=>some (.bool (a.toList==b.toList))
 |.neq=>some (.bool !(a.toList==b.toList))
 |_=>none
def binV(op:BinOp):Value->Value->Option Value
 |.int k a,.int k' b=>if k=k' then intV k a b op else none
 |.string a,.string b=>strV a b op
 |_,_=>none
theorem Ii{t:TypeId}{a b:Value}(hv:binV op a b=some v)(w:World):
  (do eqGuard op t x y a b;binOp op t a b:Sem Value).run P w=.ok v w:=by
 unfold binV at hv
 split at hv
 .rename_i k a k' b
  split at hv
  .rename_i hk
   subst hk
   cases op<;>simp[intV]at hv<;>subst hv<;>simp[eqGuard,binOp,Op.intArith,Op.intCmp]
  .cases hv
 .cases op<;>simp[strV]at hv<;>subst hv<;>simp[eqGuard,binOp,Op.stringOp]
 .cases hv
theorem RK{t:TypeId}(hv:binV op (e.ev x) (e.ev y)=some v)(t':TO P b n ops l k F (upd e d v) ds X h L)(hd:Nat.blt d n=true:=by rfl)(hg:guardB ops e ⟨some d,.binOp op t x y u,ty,pos,af,g⟩=true:=by rfl):TO P b n ops (⟨some d,.binOp op t x y u,ty,pos,af,g⟩::l) k F e ds X h L:=
 vp _ rfl (λw _=>by
  have:=Ii (P:=P) (t:=t) (x:=x) (y:=y) hv w
  simp only[execOp,kL]at this ⊢
  simp[this]) hd hg t'
theorem ls{t:TypeId}(hv:binV op (e.ev x) (e.ev y)=some v)(hvv:v=v')(t':TO P b n ops l k F (upd e d v') ds X h L)(hd:Nat.blt d n=true:=by rfl)(hg:guardB ops e ⟨some d,.binOp op t x y u,ty,pos,af,g⟩=true:=by rfl):TO P b n ops (⟨some d,.binOp op t x y u,ty,pos,af,g⟩::l) k F e ds X h L:=by grind [RK]
theorem nv(h:-9223372036854775808<=z/\z<=9223372036854775807):jC .i64 (IntKind.i64.wrap z)=.int .i64 z:=by grind [IntKind.wrap,IntKind.signed,IntKind.bits]
theorem xp(d:Nat)(hs:e d=.bool s)(h1:s=true->TO P b n ops l k F (upd e d (.bool true)) ds X h L)(h0:s=false->TO P b n ops l k F (upd e d (.bool false)) ds X h L):
  TO P b n ops l k F e ds X h L:=by
 cases s with
 |true=>have:=h1 rfl;rw[←hs,xn]at this;exact this
 |false=>have:=h0 rfl;rw[←hs,xn]at this;exact this
theorem MJ(sl:List (Nat×Value))(hk:∀e',TT P b n k F (upds e' sl) ds X h L)(t':(∀e',fT e' sl->TT P b n k F e' ds X h L)->TT P b n (.code c::k) F e ds X h L):TT P b n (.code c::k) F e ds X h L:=
 t' λe' hr=>by have:=hk e';rw[hr.upds]at this;exact this
theorem sF{t:TypeId}(hx:e.ev x=.bool s)(t':TO P b n ops l k F (upd e d (.bool !s)) ds X h L)(hd:Nat.blt d n=true:=by rfl)(hg:guardB ops e ⟨some d,.unOp .not t x,ty,pos,af,g⟩=true:=by rfl):TO P b n ops (⟨some d,.unOp .not t x,ty,pos,af,g⟩::l) k F e ds X h L:=
 vp _ rfl (λw _=>by simp[execOp,hx,Op.unary]) hd hg t'
theorem rD(hx:e.ev x=.tuple vs.toArray)(hv:nth vs i=some v)(t':TO P b n ops l k F (upd e d v) ds X h L)(hd:Nat.blt d n=true:=by rfl)(hg:guardB ops e ⟨some d,.extract x i,ty,pos,af,g⟩=true:=by rfl):TO P b n ops (⟨some d,.extract x i,ty,pos,af,g⟩::l) k F e ds X h L:=
 vp _ rfl (λw _=>by rw[ja]at hv;simp[execOp,hx,Instr.extract,hv]) hd hg t'
theorem RJ{t:TypeId}{m c:Nat}(hT:P.underlying t=some (.slice E))(hx:e.ev x=.slice base m c)(t':TO P b n ops l k F (upd e d (.int .i64 (m:Nat))) ds X h L)(hd:Nat.blt d n=true:=by rfl)(hg:guardB ops e ⟨some d,.call ⟨.builtin .len,#[x],#[t]⟩,ty,pos,af,g⟩=true:=by rfl):TO P b n ops (⟨some d,.call ⟨.builtin .len,#[x],#[t]⟩,ty,pos,af,g⟩::l) k F e ds X h L:=
 vp _ rfl (λw _=>by simp[execOp,resolve,invoke,builtin,Builtin.len_,hx,run_underlying hT,goInt]) hd hg t'
theorem WK{Fr:LH}{R:Ending->HF->LH->Prop}(hc:∀args w,(callFunc f args).run P w=.ok (.enter f args) w)(hvs:a5_.toList.map e.ev=vs)(hs:qf P f vs.toArray h A R)(hL:L=A++Fr)(t':∀v h' B,h.le h'->R (.returned v) h' B->TO P b n ops l k F (upd e d v) ds X h' (B++Fr))(tp:∀ch h' B,h.le h'->R (.panicked ch) h' B->TP P b n ch F e ds X h' (B++Fr))(hd:Nat.blt d n=true:=by rfl)(hg:guardB ops e ⟨some d,.call ⟨.value (.func f),a5_,ats⟩,ty,pos,af,g⟩=true:=by rfl):
  TO P b n ops (⟨some d,.call ⟨.value (.func f),a5_,ats⟩,ty,pos,af,g⟩::l) k F e ds X h L:=
 ML rfl (rn hd) rfl hg λw hw=>by
  subst hL
  have harr:a5_.map e.ev=vs.toArray:=qV (by simp[←hvs])
  refine⟨.enter f vs.toArray,w,?_,?_⟩
  .simp[execOp,resolve,Env.ev,jH,invoke,harr,hc]
  .refine lH (tT.mono (hs w hw.pre.left) ?_)
   rintro x w' ⟨h',B,hst,hR⟩
   cases x with
   |returned v=>exact⟨h',_,hw.after hst,t' v h' B hst.le hR⟩
   |panicked ch=>exact⟨h',_,hw.after hst,tp ch h' B hst.le hR⟩
   |outgrown=>trivial
theorem e9(hc:∀args w,(callFunc f args).run P w=.ok (.enter f args) w)(hs:Ret P f vs h v)(hvs:a5_.toList.map e.ev=vs)(t':TO P b n ops l k F (upd e d v) ds X h L)(hd:Nat.blt d n=true:=by rfl)(hg:guardB ops e ⟨some d,.call ⟨.value (.func f),a5_,ats⟩,ty,pos,af,g⟩=true:=by rfl):
  TO P b n ops (⟨some d,.call ⟨.value (.func f),a5_,ats⟩,ty,pos,af,g⟩::l) k F e ds X h L:=
 WK (A:=[]) (Fr:=L) hc hvs hs rfl (λv' h' B _ hR=>by obtain⟨h1,h2,h3⟩:=hR;cases h1;subst h2 h3;exact t')
  (λch h' B _ hR=>by obtain⟨h1,_,_⟩:=hR;cases h1) hd hg
end ops
end
variable {cap:Nat}{xs:List α}
section
structure Rp(α : Type) where
 sz:Nat
 rep:HF->List Value->α->Prop
def Rp.Mono{α : Type}(R:Rp α):Prop:=∀(h h':HF)cs x,h.le h'->R.rep h cs x->R.rep h' cs x
def SlB{α : Type}(R:Rp α)(h:HF)(base:Option Addr)(xs:List α):Prop:=
 xs.length<=9223372036854775807/\∀(i:Nat)(x:α),xs[i]? = some x->∃p cs,base=some p/\At h (p.add (i*R.sz)) cs/\cs.length=R.sz/\R.rep h cs x
theorem SlB.mono{R:Rp α}(a:SlB R h base xs)(hm:R.Mono)(hl:h.le h'):SlB R h' base xs:=
 ⟨a.1,λi x hx=>let ⟨p,cs,e,q,m,r⟩:=a.2 i x hx;⟨p,cs,e,q.mono hl,m,hm _ _ _ _ hl r⟩⟩
theorem SlB.nil{R:Rp α}:SlB R h base []:=⟨by simp,λi x hx=>by simp at hx⟩
def SlC{α : Type}(R:Rp α)(h:HF)(base:Option Addr)(cap:Nat)(xs:List α):Prop:=SlB R h base xs/\xs.length<=cap
theorem SlC.mono{R:Rp α}(a:SlC R h base cap xs)(hm:R.Mono)(hl:h.le h'):SlC R h' base cap xs:=⟨a.1.mono hm hl,a.2⟩
theorem SlC.nil{R:Rp α}:SlC R h base cap []:=⟨SlB.nil,Nat.zero_le _⟩
def Rp.int:Rp Int:=⟨1,λ_ cs x=>cs=[.int .i64 x]⟩
def Rp.bool:Rp Bool:=⟨1,λ_ cs x=>cs=[.bool x]⟩
def Rp.str:Rp ByteArray:=⟨1,λ_ cs x=>cs=[.string x]⟩
theorem Rp.bG:Rp.int.Mono:=λ_ _ _ _ _ e=>e
theorem Rp.sV:Rp.bool.Mono:=λ_ _ _ _ _ e=>e
theorem Rp.kv:Rp.str.Mono:=λ_ _ _ _ _ e=>e
theorem At.I4{T:Nat}{cs:List Value}(hb:h bk=some (.cells cl.toArray T fz))(hc:∀j v,cs[j]? = some v->cl[off+j]? = some v):At h ⟨bk,off,none⟩ cs:=
 ⟨_,T,fz,hb,rfl,λj v hj=>by simpa using hc j v hj⟩
section ops
variable {P:Program} {b:Frame} {n:Nat} {k:List Item} {F:List Frame->(Machine->Prop)->Prop} {e:Env} {ds:List Deferred} {X:Cx} {h:HF} {L:LH}
variable {ops:Array Oper} {l:List Oper} {d:Nat} {ty:TypeId} {pos:String} {af:Array Edge} {g:Option (Nat×Bool)}
end ops
end
variable {J:HF->LH->Prop}{K:Env->HF->LH->Prop}{dn:List Nat}{e:Env}
section
def nexts(ops:Array Oper)(dn:List Nat):List Nat:=
 (xF ops.size).filter λi=>!dn.contains i&&((ops[i]?).map (·.after.all λe=>!Region.binds .any e||dn.contains e.on)).getD false
def sepAll(ops:Array Oper):Bool:=
 (xF ops.size).all λi=>match ops[i]? with
  |some oi=>(match oi.op with|.select ..=>false|.defer _=>false|_=>true)&&(xF ops.size).all λj=>match ops[j]? with
   |some oj=>j==i||oj.after.any (λe=>Yz .any e&&e.on==i)||oi.after.any (λe=>Yz .any e&&e.on==j)||oi.apart ops oj
   |none=>true
  |none=>true
def slotsIn(ops:Array Oper)(n:Nat):Bool:=ops.all λo=>match o.dst with|some d=>kH d n|none=>true
def pute(e:Env):Option Nat->Value->Env
 |some d,v=>upd e d v
 |none,_=>e
theorem JZ(a:Act)(d:Option Nat)(v:Value)(h:∀x,d=some x->x<a.tmps.size):envOf (a.put d v)=pute (envOf a) d v:=by
 cases d with
 |none=>rfl
 |some x=>exact rG a x v (h x rfl)
def AgE(ops:Array Oper)(o:Oper)(e e':Env):Prop:=∀t,(∀o'∈ops,o'.dst=some t->∀i:Nat,ops[i]? = some o->∃ed∈o'.after,Yz .any ed=true/\ed.on=i)->e' t=e t
theorem AgE.refl(ops:Array Oper)(o:Oper)(e:Env):AgE ops o e e:=λ_ _=>rfl
section
variable (P:Program) (b:Frame) (n:Nat) (ops:Array Oper) (k:List Item) (F:List Frame->(Machine->Prop)->Prop) (ds:List Deferred) (X:Cx)
def zX(o:Oper)(e:Env)(K:Env->HF->LH->Prop):Result Next->Prop
 |.ok .skip w'=>∃h' L',St X h' L' w'/\K (pute e o.dst undef) h' L'
 |.halt (.panic v) w'=>∃h' L',St X h' L' w'/\(∀e',AgE ops o e e'->TP P b n [{ v,recovered:=false }] F e' ds X h' L')
 |.ok nx w'=>yr P w' (λ
   |.returned v,w''=>∃h' L',St X h' L' w''/\K (pute e o.dst v) h' L'
   |.panicked ch,w''=>∃h' L',St X h' L' w''/\∀e',AgE ops o e e'->TP P b n ch F e' ds X h' L'
   |.outgrown,_=>True) nx
 |_=>False
def Stp(o:Oper)(e:Env)(h:HF)(L:LH)(K:Env->HF->LH->Prop):Prop:=
 if guardB ops e o=true then ∀w,St X h L w->zX P b n ops F ds X o e K ((execOp e.ev o).run P w)else K (pute e o.dst undef) h L
def TA(J:HF->LH->Prop):Nat->List Nat->Env->HF->LH->Prop
 |0,dn,e,h,L=>nexts ops dn=[]/\TT P b n k F e ds X h L
 |m+1,dn,e,h,L=>(nexts ops dn=[]->TT P b n k F e ds X h L) /\
   ∀i∈nexts ops dn,∀o,ops[i]? = some o->Stp P b n ops F ds X o e h L λe' h' L'=>J h' L'/\TA J m (i::dn) e' h' L'
end
section
variable {P:Program} {b:Frame} {n:Nat} {ops:Array Oper} {k:List Item} {F:List Frame->(Machine->Prop)->Prop} {ds:List Deferred} {X:Cx}
theorem As{o:Oper}(h:∃h' L',St X h' L' w/\K (pute e o.dst v) h' L'):zX P b n ops F ds X o e K (.ok (.value v) w):=h
theorem nn{o:Oper}(hnx:nx≠.skip)(h:yr P w (λ
   |.returned v,w''=>∃h' L',St X h' L' w''/\K (pute e o.dst v) h' L'
   |.panicked ch,w''=>∃h' L',St X h' L' w''/\∀e',AgE ops o e e'->TP P b n ch F e' ds X h' L'
   |.outgrown,_=>True) nx):zX P b n ops F ds X o e K (.ok nx w):=by
 cases nx<;>first|exact h|exact absurd rfl hnx
theorem zX.mono{o:Oper}{e₂:Env}{K':Env->HF->LH->Prop}{r:Result Next}(hK:∀v h L,K (pute e o.dst v) h L->K' (pute e₂ o.dst v) h L)(h:zX P b n ops F ds X o e K r)(hA:∀e',AgE ops o e₂ e'->AgE ops o e e':=by exact λ_ h=>h):zX P b n ops F ds X o e₂ K' r:=by
 cases r with
 |halt x w=>
  cases x with
  |panic v=>obtain⟨h',L',s,t⟩:=h;exact⟨h',L',s,λe' ha=>t e' (hA e' ha)⟩
  |_=>exact h
 |ok nx w=>
  have key:yr P w (λ
   |.returned v,w''=>∃h' L',St X h' L' w''/\K (pute e o.dst v) h' L'
   |.panicked ch,w''=>∃h' L',St X h' L' w''/\∀e',AgE ops o e e'->TP P b n ch F e' ds X h' L'
   |.outgrown,_=>True) nx->yr P w (λ
   |.returned v,w''=>∃h' L',St X h' L' w''/\K' (pute e₂ o.dst v) h' L'
   |.panicked ch,w''=>∃h' L',St X h' L' w''/\∀e',AgE ops o e₂ e'->TP P b n ch F e' ds X h' L'
   |.outgrown,_=>True) nx:=λhc=>hc.mono λx w' r=>by
    grind
  cases nx with
  |skip=>obtain⟨h',L',s,t⟩:=h;exact⟨h',L',s,hK _ _ _ t⟩
  |_=>exact key h
theorem WD{o:Oper}(hs:slotsIn ops n=true)(ho:ops[i]? = some o):∀x,o.dst=some x->x<n:=by
 intro x hx
 have:=Zu.1 hs o (Array.mem_of_getElem? ho)
 simp only[hx]at this
 exact rn this
theorem TY(hs:sepAll ops=true){oi oj:Oper}(hi:ops[i]? = some oi)(hj:ops[j]? = some oj)(hne:j≠i)(h1:∀e∈oj.after,Yz .any e=true->e.on≠i)(h2:∀e∈oi.after,Yz .any e=true->e.on≠j):oi.apart ops oj=true:=by
 simp only[sepAll,qP,YH]at hs
 grind
theorem Qk(hs:sepAll ops=true){oi:Oper}(hi:ops[i]? = some oi):(∀cs b,oi.op≠.select cs b)/\noDefer oi.op=true:=by
 simp only[sepAll,qP,YH]at hs
 have h0:=hs i (X2.1 hi).1
 simp only[hi,jA]at h0
 have h1:=h0.1
 refine⟨λcs b e=>?_,?_⟩
 .rw[e]at h1;simp at h1
 .cases ho:oi.op with
  |defer c=>rw[ho]at h1;simp at h1
  |_=>rfl
theorem BQ:i∈nexts ops dn↔i∉dn/\∃o,ops[i]? = some o/\∀e∈o.after,Yz .any e=true->e.on∈dn:=by
 unfold nexts
 rw[List.mem_filter,YH]
 cases ho:ops[i]? with
 |none=>simp
 |some o=>
  have hlt:i<ops.size:=(X2.1 ho).1
  simp only[hlt,true_and,Zb,Option.getD_some,jA,Bool.not_eq_true',Zu,
   Bool.or_eq_true,kN,exists_eq_left',List.contains_eq_mem,decide_eq_false_iff_not,decide_eq_true_eq]
  grind
theorem C1(hj:j∈nexts ops dn)(hne:j≠i):j∈nexts ops (i::dn):=by grind [BQ]
theorem I7{dn':List Nat}(hp:∀x,x∈dn↔x∈dn'):nexts ops dn=nexts ops dn':=by
 unfold nexts
 grind
theorem TA.perm{J:HF->LH->Prop}:∀{m:Nat}{dn dn':List Nat}{e:Env}{h:HF}{L:LH},(∀x,x∈dn↔x∈dn')->TA P b n ops k F ds X J m dn e h L->TA P b n ops k F ds X J m dn' e h L
 |0,dn,dn',e,h,L,hp,t=>by
  grind [TA,I7]
 |m+1,dn,dn',e,h,L,hp,t=>by
  simp only[TA]at t ⊢
  rw[←I7 hp]
  refine⟨t.1,λi hi o ho=>?_⟩
  have:=t.2 i hi o ho
  unfold Stp at this ⊢
  have hp':∀x,x∈i::dn↔x∈i::dn':=λx=>by simp[hp]
  split
  .rename_i hg
   rw[if_pos hg]at this
   exact λw hw=>zX.mono (λv h L r=>⟨r.1,TA.perm hp' r.2⟩) (this w hw)
  .rename_i hg
   rw[if_neg hg]at this
   exact⟨this.1,TA.perm hp' this.2⟩
theorem WT(h:x≠.tmp d):(upd e d v).ev x=e.ev x:=by
 cases x with
 |tmp t=>exact EE e v (λhe=>h (by rw[he]))
 |_=>rfl
theorem PR{o:Oper}(hs:∀cs b,o.op≠.select cs b)(h:d∉o.looksAt ops):execOp (upd e d v).ev o=execOp e.ev o:=
 execOp_congr o hs λx hx=>WT λhxd=>h (by
  subst hxd
  exact jN _ (List.mem_filterMap.2 ⟨.tmp d,by simpa using hx,rfl⟩))
theorem Jo{o:Oper}(h:d∉o.looksAt ops):guardB ops (upd e d v) o=guardB ops e o:=by grind [guardB,Oper.looksAt,EE]
theorem Tj{d':Nat}(h:d≠d'):upd (upd e d v) d' v'=upd (upd e d' v') d v:=by grind [EE,Ti]
theorem Ox(hsep:sepAll ops=true){oi:Oper}(hi:ops[i]? = some oi)(hd:oi.dst=some d):
  ∀(m:Nat)(dn:List Nat)(e:Env)(h:HF)(L:LH),i∈nexts ops dn->J h L ->
   ((guardB ops e oi=true/\∀h' L',J h' L'->∀w,St X h' L' w->(execOp e.ev oi).run P w=.ok (.value v) w)\/(guardB ops e oi=false/\v=undef)) ->
   TA P b n ops k F ds X J m (i::dn) (upd e d v) h L->TA P b n ops k F ds X J (m+1) dn e h L:=by
 intro m
 induction m with
 |zero=>
  intro dn e h L hn hJ hy t
  simp only[TA]at t ⊢
  refine⟨(λh0=>by rw[h0]at hn;cases hn),λj hj o ho=>?_⟩
  by_cases hji:j=i
  .subst hji
   rw[hi]at ho;cases ho
   unfold Stp
   rcases hy with⟨hg,hr⟩|⟨hg,rfl⟩
   .rw[if_pos hg]
    intro w hw
    rw[hr h L hJ w hw]
    exact As ⟨h,L,hw,hJ,by simp only[hd,pute];exact t⟩
   .rw[if_neg (by simp[hg])]
    exact⟨hJ,by simp only[hd,pute];exact t⟩
  .have:=C1 hj hji
   rw[t.1]at this;cases this
 |succ m ih=>
  intro dn e h L hn hJ hy t
  simp only[TA]
  refine⟨(λh0=>by rw[h0]at hn;cases hn),λj hj o ho=>?_⟩
  by_cases hji:j=i
  .subst hji
   rw[hi]at ho;cases ho
   unfold Stp
   rcases hy with⟨hg,hr⟩|⟨hg,rfl⟩
   .rw[if_pos hg]
    intro w hw
    rw[hr h L hJ w hw]
    exact As ⟨h,L,hw,hJ,by simp only[hd,pute];exact t⟩
   .rw[if_neg (by simp[hg])]
    exact⟨hJ,by simp only[hd,pute];exact t⟩
  .have hj':=C1 hj hji
   simp only[TA]at t
   have hs:=t.2 j hj' o ho
   obtain⟨hjn,oj',hoj',hjw⟩:=BQ.1 hj
   rw[ho]at hoj';cases hoj'
   obtain⟨hin,oi',hoi',hiw⟩:=BQ.1 hn
   rw[hi]at hoi';cases hoi'
   have hap:=TY hsep hi ho hji (λe0 he hb heq=>hin (heq▸hjw e0 he hb)) (λe0 he hb heq=>hjn (heq▸hiw e0 he hb))
   obtain⟨a1,a2,a3⟩:=Oper.apart_spec hap
   have hgj:=Jo (e:=e) (v:=v) (a1 d hd)
   have hxj:=PR (Qk hsep ho).1 (e:=e) (v:=v) (a1 d hd)
   have hin':i∈nexts ops (j::dn):=C1 hn (Ne.symm hji)
   have key:∀u h' L',J h' L'->TA P b n ops k F ds X J m (j::i::dn) (pute (upd e d v) o.dst u) h' L'->TA P b n ops k F ds X J (m+1) (j::dn) (pute e o.dst u) h' L':=by
    intro u h' L' hJ' tt
    have henv:pute (upd e d v) o.dst u=upd (pute e o.dst u) d v:=by
     cases hod:o.dst with
     |none=>rfl
     |some d'=>
      simp only[pute]
      exact Tj (λe0=>a2 d hd (by rw[hod,e0]))
    rw[henv]at tt
    refine ih (j::dn) _ h' L' hin' hJ' ?_ (TA.perm (λx=>by simp[or_left_comm]) tt)
    cases hod:o.dst with
    |none=>simpa[pute]using hy
    |some d'=>
     simp only[pute]
     have h3:=a3 d' hod
     rw[Jo h3,PR (Qk hsep hi).1 h3]
     exact hy
   unfold Stp at hs ⊢
   rw[hgj,hxj]at hs
   split
   .rename_i hg
    rw[if_pos hg]at hs
    exact λw hw=>zX.mono (λu h' L' r=>⟨r.1,key u h' L' r.1 r.2⟩) (hs w hw) (λe' ha t ht=>by
     have hne:t≠d:=λe0=>by
      obtain⟨ed,h1,h2,h3⟩:=ht oi (Array.mem_of_getElem? hi) (by rw[hd,e0]) j ho
      exact hjn (h3▸hiw ed h1 h2)
     rw[ha t ht]
     unfold upd
     cases hb:kV t d with
     |true=>exact(hne (xL hb)).elim
     |false=>rfl)
   .rename_i hg
    rw[if_neg hg]at hs
    exact⟨hs.1,key undef h L hs.1 hs.2⟩
theorem Wu(hsep:sepAll ops=true)(hsl:slotsIn ops n=true){o:Oper}(ho:ops[i]? = some o){L:LH}(hK:∀e' h' L',K e' h' L'->∀w,St X h' L' w->∀a cs Φ,a.tmps.size=n->envOf a=e'->a.defers=ds->F cs Φ->To P Φ (lone (b.atR a (.inRegion ops is::k)) cs w))(hs:Stp P b n ops F ds X o e h L K):
  ∀w,St X h L w->∀a cs Φ,a.tmps.size=n->envOf a=e->a.defers=ds->F cs Φ->To P Φ (lone (b.atR a (.inRegion ops (i::is)::k)) cs w):=by
 intro w hw a cs Φ hn he hds hF
 have hlt:=WD hsl ho
 have hput:∀v,envOf (a.put o.dst v)=pute e o.dst v:=λv=>by rw[JZ a o.dst v (λx hx=>by rw[hn];exact hlt x hx),he]
 have hnd:=(Qk hsep ho).2
 unfold Stp at hs
 by_cases hg:guardB ops e o=true
 .rw[if_pos hg]at hs
  have hwt:=(gP (ops:=ops) (o:=o) he).trans hg
  have hst:=stepGR_op (P:=P) (b:=b) (k:=k) (cs:=cs) (w:=w) (rest:=is) ho hwt
  have h1:=hs w hw
  have hret:∀v w'',(∃h' L',St X h' L' w''/\K (pute e o.dst v) h' L')->To P Φ (lone ((b.atR a (.inRegion ops (i::is)::k)).finish v) cs w''):=by
   rintro v w'' ⟨h',L',s,t⟩
   rw[iZ a is k ho v]
   exact hK _ h' L' t w'' s (a.put o.dst v) cs Φ (by rw[qw];exact hn) (hput v) (by rw[nY];exact hds) hF
  have hpan:∀ch w'',(∃h' L',St X h' L' w''/\∀e',AgE ops o e e'->TP P b n ch F e' ds X h' L')->To P Φ (lone ((b.atR a (.inRegion ops (i::is)::k)).raise ch) cs w''):=by
   rintro ch w'' ⟨h',L',s,t⟩
   exact t e (AgE.refl _ _ _) w'' s a cs Φ _ hn he hds hF
  generalize hr:(execOp e.ev o).run P w=r at h1
  cases r with
  |halt x w'=>
   cases x with
   |panic v=>
    refine .step (step_lone_go (fr':={ b.atR a (.inRegion ops (i::is)::k)with mode:=.panicking [{ v,recovered:=false }] }) (cs':=cs) (w':=w') ?_) (hpan _ w' h1)
    rw[hst,lO _ _ hnd,lU,he,←Frame.raise_atR];simp[stepG.apply,hr]
   |_=>exact h1.elim
  |ok nx w'=>
   cases nx with
   |value v=>
    refine .step (step_lone_go (fr':=b.atR (a.put o.dst v) (.inRegion ops is::k)) (cs':=cs) (w':=w') ?_) ?_
    .rw[hst,lO _ _ hnd,lU,he,←iZ a is k ho v];simp[stepG.apply,hr]
    .have:=hret v w' h1
     rw[iZ a is k ho v]at this
     exact this
   |skip=>
    refine .step (step_lone_go (fr':=b.atR (a.put o.dst undef) (.inRegion ops is::k)) (cs':=cs) (w':=w') ?_) ?_
    .rw[hst,lO _ _ hnd,lU,he,←iZ a is k ho undef];simp[stepG.apply,hr]
    .have:=hret undef w' h1
     rw[iZ a is k ho undef]at this
     exact this
   |enter f args=>
    refine .step (step_lone_go (fr':=xR P f args .normal) (cs':=b.atR a (.inRegion ops (i::is)::k)::cs) (w':=w') ?_) ?_
    .rw[hst,lO _ _ hnd,lU,he];simp[stepG.apply,hr,Yr]
    .exact h1 _ cs Φ (λv w'' r=>hret v w'' r) (λch w'' r=>hpan ch w'' r)
   |round lp f tmps assign body=>
    refine .step (step_lone_go (fr':=ZJ lp f tmps assign body .normal) (cs':=b.atR a (.inRegion ops (i::is)::k)::cs) (w':=w') ?_) ?_
    .rw[hst,lO _ _ hnd,lU,he];simp[stepG.apply,hr,Yr]
    .exact h1 _ cs Φ (λv w'' r=>hret v w'' r) (λch w'' r=>hpan ch w'' r)
   |_=>exact h1.elim
 .rw[if_neg hg]at hs
  have hg':guardB ops e o=false:=by simpa using hg
  have hwt:=(gP (ops:=ops) (o:=o) he).trans hg'
  have hst:=stepR_op_skip (P:=P) (b:=b) (a:=a) (k:=k) (cs:=cs) (w:=w) (ops:=ops) (i:=i) (rest:=is) (by simp[ho,hwt])
  simp only[ho,Ys]at hst
  exact .step hst (hK _ h L hs w hw (a.put o.dst undef) cs Φ (by rw[qw];exact hn) (hput undef) (by rw[nY];exact hds) hF)
theorem OW{listed:Array Bool}(hl:∀j,j<ops.size->listed.getD j true=dn.contains j)(hl':∀j,listed.getD j false=true->j∈dn)(hdn:∀j∈dn,listed.getD j false=true):
  ZR .any ops listed=nexts ops dn:=by
 unfold ZR nexts
 apply List.filter_congr
 intro i hi
 rw[YH]at hi
 rw[hl i hi]
 congr 1
 cases ho:ops[i]? with
 |none=>rfl
 |some o=>
  simp only[Zb,Option.getD_some]
  congr 1
  funext e
  congr 1
  rw[jF]
  simp only[List.contains_eq_mem,decide_eq_true_eq]
  exact⟨hl' _,hdn _⟩
theorem TQ(hsep:sepAll ops=true)(hsl:slotsIn ops n=true):∀(m t:Nat)(listed:Array Bool)(dn:List Nat)(e:Env)(h:HF)(L:LH),
  listed.size=ops.size->(∀j,j<ops.size->listed.getD j true=dn.contains j)->(∀j∈dn,j<ops.size) ->
  TA P b n ops k F ds X J m dn e h L->∀w,St X h L w->∀a cs Φ,a.tmps.size=n->envOf a=e->a.defers=ds->F cs Φ ->
   To P Φ (lone (b.atR a (.inRegion ops (ZP .any ops m t listed [])::k)) cs w):=by
 intro m
 induction m with
 |zero=>
  intro t listed dn e h L _ _ _ ta w hw a cs Φ hn he hds hF
  simp only[TA]at ta
  exact .step stepR_region_end (ta.2 w hw a cs Φ hn he hds hF)
 |succ m ih=>
  intro t listed dn e h L hsz hl hdn ta w hw a cs Φ hn he hds hF
  have hfalse:∀j,listed.getD j false=true->j∈dn:=by
   intro j hj
   have hlt:j<ops.size:=by
    rcases vR j ops.size with q|q
    .exact q
    .rw[←hsz]at q;simp[zL,Array.getElem?_eq_none q]at hj
   have h2:=hl j hlt
   have h3:listed.getD j true=listed.getD j false:=by
    simp[zL,Y6 (hsz▸hlt)]
   rw[h3,hj]at h2
   simpa using h2.symm
  have htrue:∀j∈dn,listed.getD j false=true:=by
   intro j hj
   have hlt:=hdn j hj
   have h2:=hl j hlt
   have h3:listed.getD j true=listed.getD j false:=by
    simp[zL,Y6 (hsz▸hlt)]
   rw[←h3,h2];simpa using hj
  have hrd:=OW (ops:=ops) hl hfalse htrue
  simp only[TA]at ta
  simp only[ZP]
  change To P Φ (lone (b.atR a (.inRegion ops (match(ZR .any ops listed)[t%(ZR .any ops listed).length]? with
   |some i=>ZP .any ops m (t/(ZR .any ops listed).length) (listed.setIfInBounds i true) [i]
   |none=>[].reverse)::k)) cs w)
  rw[hrd]
  cases hi:(nexts ops dn)[t%(nexts ops dn).length]? with
  |none=>
   have hnil:nexts ops dn=[]:=by
    cases hr:nexts ops dn with
    |nil=>rfl
    |cons x xs=>
     rw[hr]at hi
     have hlt:t%(x::xs).length<(x::xs).length:=Nat.mod_lt _ (by simp)
     simp at hi
     simp at hlt
     omega
   exact .step stepR_region_end (ta.1 hnil w hw a cs Φ hn he hds hF)
  |some i=>
   have him:=kD hi
   obtain⟨hin,o,ho,_⟩:=BQ.1 him
   have hilt:i<ops.size:=(X2.1 ho).1
   simp only[]
   rw[linearise_go_acc,List.reverse_singleton,List.singleton_append]
   refine Wu hsep hsl ho ?_ (ta.2 i him o ho) w hw a cs Φ hn he hds hF
   intro e' h' L' hK w' hw' a' cs' Φ' hn' he' hds' hF'
   refine ih _ (listed.setIfInBounds i true) (i::dn) e' h' L' (by simpa using hsz) ?_ ?_ hK.2 w' hw' a' cs' Φ' hn' he' hds' hF'
   .intro j hj
    by_cases e0:i=j
    .subst e0
     have:i<listed.size:=hsz▸hilt
     simp[zL,this]
    .have hc:(i::dn).contains j=dn.contains j:=by
      rw[jF];simp[Ne.symm e0]
     rw[hc,←hl j hj]
     simp[zL,Array.getElem?_setIfInBounds_ne e0]
   .intro j hj
    rcases vC.1 hj with rfl|hj
    .exact hilt
    .exact hdn j hj
def Jst(h1:HF)(K:LH)(h':HF)(L':LH):Prop:=h1.le h'/\∀p∈K,p∈L'
theorem Jst.nth{h1:HF}{K:LH}(j:Jst h1 K h' L'){p:Nat×Obj}(hp:nth K i=some p):p∈L':=by
 rw[ja]at hp
 exact j.2 p (kD hp)
theorem Jst.start(h:HF)(L:LH):Jst h L h L:=⟨HF.le_refl h,λ_ hp=>hp⟩
theorem Jst.cons{h1:HF}{K:LH}(j:Jst h1 K h' L')(p:Nat×Obj):Jst h1 K h' (p::L'):=⟨j.1,λq hq=>qC _ (j.2 q hq)⟩
theorem Jst.up{h1:HF}{K:LH}{h'':HF}(j:Jst h1 K h' L')(hl:h'.le h''):Jst h1 K h'' L':=⟨HF.le_trans j.1 hl,j.2⟩
theorem Jst.app{h1:HF}{K:LH}(j:Jst h1 K h' L')(B:LH):Jst h1 K h' (B++L'):=⟨j.1,λq hq=>xM _ (j.2 q hq)⟩
theorem hU(K:LH){L:LH}(hm:P.follows .mixedOrders=true)(hchk:(sepAll l.toArray&&slotsIn l.toArray n)=true)(hK:Jst h K h L)(t:sepAll l.toArray=true->Jst h K h L->TA P b n l.toArray k F ds X (Jst h K) l.length [] e h L):TT P b n (.code (.region id l.toArray true)::k) F e ds X h L:=by
 intro w hw a cs Φ hn he hds hF
 simp only[jA]at hchk
 refine .step stepR_region_draw ?_
 simp only[Region.schedule,hm,Bool.true_or,if_true,Region.linearise]
 refine TQ hchk.1 hchk.2 l.length _ _ [] e h L (by simp) ?_ (by simp) (t hchk.1 hK) _ (hw.drew _) a cs Φ hn he hds hF
 intro j hj
 simp at hj
 simp[zL,hj]
theorem j5(i:Nat){h1:HF}{K:LH}{m:Nat}{oi:Oper}{L:LH}(hsep:sepAll l.toArray=true)(hJ:Jst h1 K h L)(hi:nth l i=some oi)(hd:oi.dst=some d)(hn:(nexts l.toArray dn).contains i=true)(hg:guardB l.toArray e oi=true)(hr:∀h' L',Jst h1 K h' L'->∀w,St X h' L' w->(execOp e.ev oi).run P w=.ok (.value v) w)(t:TA P b n l.toArray k F ds X (Jst h1 K) m (i::dn) (upd e d v) h L):TA P b n l.toArray k F ds X (Jst h1 K) (m+1) dn e h L:=
 Ox hsep (by rw[ja]at hi;simpa using hi) hd m dn e h L (by simpa using hn) hJ (.inl ⟨hg,hr⟩) t
theorem n8(i:Nat){h1:HF}{K:LH}{m:Nat}{oi:Oper}{L:LH}(hsep:sepAll l.toArray=true)(hJ:Jst h1 K h L)(hi:nth l i=some oi)(hd:oi.dst=some d)(hn:(nexts l.toArray dn).contains i=true)(hg:guardB l.toArray e oi=false)(t:TA P b n l.toArray k F ds X (Jst h1 K) m (i::dn) (upd e d undef) h L):TA P b n l.toArray k F ds X (Jst h1 K) (m+1) dn e h L:=
 Ox hsep (by rw[ja]at hi;simpa using hi) hd m dn e h L (by simpa using hn) hJ (.inr ⟨hg,rfl⟩) t
theorem TR(i:Nat){h1:HF}{K:LH}{m:Nat}{oi:Oper}{L:LH}(hn:nexts l.toArray dn=[i])(hi:nth l i=some oi)(t:Stp P b n l.toArray F ds X oi e h L λe' h' L'=>Jst h1 K h' L'/\TA P b n l.toArray k F ds X (Jst h1 K) m (i::dn) e' h' L'):TA P b n l.toArray k F ds X (Jst h1 K) (m+1) dn e h L:=by
 rw[ja]at hi
 refine⟨(λh0=>by rw[hn]at h0;cases h0),λj hj o ho=>?_⟩
 rw[hn,kB]at hj
 subst hj
 have:l.toArray[j]? = some oi:=by simpa using hi
 rw[this]at ho;cases ho
 exact t
theorem Rq{m:Nat}{L:LH}(is:List Nat)(hn:nexts l.toArray dn=is)(h0:is≠[])(t:∀i∈is,∀o,nth l i=some o->Stp P b n l.toArray F ds X o e h L λe' h' L'=>J h' L'/\TA P b n l.toArray k F ds X J m (i::dn) e' h' L'):TA P b n l.toArray k F ds X J (m+1) dn e h L:=by
 refine⟨λh1=>absurd (hn▸h1) h0,λj hj o ho=>?_⟩
 rw[hn]at hj
 exact t j hj o (by rw[ja];simpa using ho)
theorem dJ{L:LH}(hn:nexts l.toArray dn=[])(t:TT P b n k F e ds X h L):TA P b n l.toArray k F ds X J 0 dn e h L:=⟨hn,t⟩
theorem pk{L:LH}{m:Nat}{x:Bool}(d:Nat)(hs:e d=.bool x)(h1:x=true->TA P b n ops k F ds X J m dn (upd e d (.bool true)) h L)(h0:x=false->TA P b n ops k F ds X J m dn (upd e d (.bool false)) h L):TA P b n ops k F ds X J m dn e h L:=by
 cases x with
 |true=>have:=h1 rfl;rw[←hs,xn]at this;exact this
 |false=>have:=h0 rfl;rw[←hs,xn]at this;exact this
def slotOk(n:Nat):Option Nat->Bool
 |some d=>kH d n
 |none=>true
theorem aS{o:Oper}{L:LH}(s:Stp P b n ops F ds X o e h L λe' h' L'=>TO P b n ops l k F e' ds X h' L')(hnd:noDefer o.op=true:=by rfl)(hso:slotOk n o.dst=true:=by rfl):TO P b n ops (o::l) k F e ds X h L:=by
 intro w hw is hi a cs Φ hn he hds hF
 have hsl:∀d,o.dst=some d->d<n:=λd hd=>by rw[hd]at hso;exact rn hso
 obtain⟨i,js,rfl,ho,hj⟩:=rX hi
 have hput:∀v,envOf (a.put o.dst v)=pute e o.dst v:=λv=>by rw[JZ a o.dst v (λx hx=>by rw[hn];exact hsl x hx),he]
 unfold Stp at s
 by_cases hg:guardB ops e o=true
 .rw[if_pos hg]at s
  have hwt:=(gP (ops:=ops) (o:=o) he).trans hg
  have hst:=stepGR_op (P:=P) (b:=b) (k:=k) (cs:=cs) (w:=w) (rest:=js) ho hwt
  have h1:=s w hw
  have hret:∀v w'',(∃h' L',St X h' L' w''/\TO P b n ops l k F (pute e o.dst v) ds X h' L')->To P Φ (lone ((b.atR a (.inRegion ops (i::js)::k)).finish v) cs w''):=by
   rintro v w'' ⟨h',L',s,t⟩
   rw[iZ a js k ho v]
   exact t w'' s js hj (a.put o.dst v) cs Φ (by rw[qw];exact hn) (hput v) (by rw[nY];exact hds) hF
  have hpan:∀ch w'',(∃h' L',St X h' L' w''/\∀e',AgE ops o e e'->TP P b n ch F e' ds X h' L')->To P Φ (lone ((b.atR a (.inRegion ops (i::js)::k)).raise ch) cs w''):=by
   rintro ch w'' ⟨h',L',s,t⟩
   exact t e (AgE.refl _ _ _) w'' s a cs Φ _ hn he hds hF
  generalize hr:(execOp e.ev o).run P w=r at h1
  cases r with
  |halt x w'=>
   cases x with
   |panic v=>
    refine .step (step_lone_go (fr':={ b.atR a (.inRegion ops (i::js)::k)with mode:=.panicking [{ v,recovered:=false }] }) (cs':=cs) (w':=w') ?_) (hpan _ w' h1)
    rw[hst,lO _ _ hnd,lU,he,←Frame.raise_atR];simp[stepG.apply,hr]
   |_=>exact h1.elim
  |ok nx w'=>
   cases nx with
   |value v=>
    refine .step (step_lone_go (fr':=b.atR (a.put o.dst v) (.inRegion ops js::k)) (cs':=cs) (w':=w') ?_) ?_
    .rw[hst,lO _ _ hnd,lU,he,←iZ a js k ho v];simp[stepG.apply,hr]
    .have:=hret v w' h1
     rw[iZ a js k ho v]at this
     exact this
   |skip=>
    refine .step (step_lone_go (fr':=b.atR (a.put o.dst undef) (.inRegion ops js::k)) (cs':=cs) (w':=w') ?_) ?_
    .rw[hst,lO _ _ hnd,lU,he,←iZ a js k ho undef];simp[stepG.apply,hr]
    .have:=hret undef w' h1
     rw[iZ a js k ho undef]at this
     exact this
   |enter f args=>
    refine .step (step_lone_go (fr':=xR P f args .normal) (cs':=b.atR a (.inRegion ops (i::js)::k)::cs) (w':=w') ?_) ?_
    .rw[hst,lO _ _ hnd,lU,he];simp[stepG.apply,hr,Yr]
    .exact h1 _ cs Φ (λv w'' r=>hret v w'' r) (λch w'' r=>hpan ch w'' r)
   |round lp f tmps assign body=>
    refine .step (step_lone_go (fr':=ZJ lp f tmps assign body .normal) (cs':=b.atR a (.inRegion ops (i::js)::k)::cs) (w':=w') ?_) ?_
    .rw[hst,lO _ _ hnd,lU,he];simp[stepG.apply,hr,Yr]
    .exact h1 _ cs Φ (λv w'' r=>hret v w'' r) (λch w'' r=>hpan ch w'' r)
   |_=>exact h1.elim
 .rw[if_neg hg]at s
  have hg':guardB ops e o=false:=by simpa using hg
  have hwt:=(gP (ops:=ops) (o:=o) he).trans hg'
  have hst:=stepR_op_skip (P:=P) (b:=b) (a:=a) (k:=k) (cs:=cs) (w:=w) (ops:=ops) (i:=i) (rest:=js) (by simp[ho,hwt])
  simp only[ho,Ys]at hst
  exact .step hst (s w hw js hj (a.put o.dst undef) cs Φ (by rw[qw];exact hn) (hput undef) (by rw[nY];exact hds) hF)
end
end
variable {fs:Array Field}{ix:Operand}{parts:Array (Nat×Operand)}{sz:Nat}
section
section runs
variable {P:Program} {e:Env} {X:Cx} {h:HF} {L:LH} {d:Option Nat} {ty:TypeId} {pos:String} {af:Array Edge} {g:Option (Nat×Bool)}
theorem nT:∀w,St X h L w->(execOp e.ev ⟨d,.move x,ty,pos,af,g⟩).run P w=.ok (.value (e.ev x)) w:=λw _=>by simp[execOp]
theorem Ug:∀w,St X h L w->(execOp e.ev ⟨d,.assign x,ty,pos,af,g⟩).run P w=.ok (.value (e.ev x)) w:=λw _=>by simp[execOp]
theorem Qw{c:Operand}(hc:e.ev c=.bool s):∀w,St X h L w->(execOp e.ev ⟨d,.pick c x y,ty,pos,af,g⟩).run P w=.ok (.value (bif s then e.ev x else e.ev y)) w:=
 λw _=>by cases s<;>simp[execOp,hc,asBool]
theorem RF{t:TypeId}(hv:binV op (e.ev x) (e.ev y)=some v):∀w,St X h L w->(execOp e.ev ⟨d,.binOp op t x y u,ty,pos,af,g⟩).run P w=.ok (.value v) w:=
 λw _=>by
  have:=Ii (P:=P) (t:=t) (x:=x) (y:=y) hv w
  simp only[execOp,kL]at this ⊢
  simp[this]
theorem yH{t:TypeId}(hv:binV op (e.ev x) (e.ev y)=some v)(hvv:v=v'):∀w,St X h L w->(execOp e.ev ⟨d,.binOp op t x y u,ty,pos,af,g⟩).run P w=.ok (.value v') w:=
 hvv▸RF hv
theorem LG{t:TypeId}{m c:Nat}(hT:P.underlying t=some (.slice E))(hx:e.ev x=.slice base m c):
  ∀w,St X h L w->(execOp e.ev ⟨d,.call ⟨.builtin .len,#[x],#[t]⟩,ty,pos,af,g⟩).run P w=.ok (.value (.int .i64 (m:Nat))) w:=
 λw _=>by simp[execOp,resolve,invoke,builtin,Builtin.len_,hx,run_underlying hT,goInt]
theorem WA{t:TypeId}{s:ByteArray}(hT:P.underlying t=some .string)(hx:e.ev x=.string s):
  ∀w,St X h L w->(execOp e.ev ⟨d,.call ⟨.builtin .len,#[x],#[t]⟩,ty,pos,af,g⟩).run P w=.ok (.value (.int .i64 (s.size:Nat))) w:=
 λw _=>by simp[execOp,resolve,invoke,builtin,Builtin.len_,hx,run_underlying hT,goInt]
theorem AL{s:TypeId}(hf:fldOf P s i=some off)(hx:e.ev x=.pointer (some q)):
  ∀w,St X h L w->(execOp e.ev ⟨d,.fieldAddr s x i,ty,pos,af,g⟩).run P w=.ok (.value (.pointer (some (q.add off)))) w:=λw _=>by
 unfold fldOf at hf
 split at hf
 .rename_i fs hu
  split at hf
  .rename_i f hfi
   split at hf
   .rename_i ti hti
    cases hz:kV ti.size 0 with
    |true=>simp[hz]at hf
    |false=>
     simp only[hz,cond_false,kN]at hf
     have hne:ti.size≠0:=λe0=>by rw[e0]at hz;cases hz
     subst hf
     simp[execOp,Instr.fieldAt,run_underlying hu,hfi,hx,zS,fieldPlace,sizeOf,typeInfo,hti,hne]
   .cases hf
  .cases hf
 .cases hf
theorem cellM(s:St X h L w){T:Nat}(hL:(bk,vG cl.toArray T fz)∈L)(hv:nth cl off=some v):w.cell? ⟨bk,off,none⟩=some v:=by
 rw[ja]at hv
 have:=s.own _ hL
 simp only at this
 simp[YZ,this,hv]
theorem Ab{t:TypeId}{m T:Nat}(hT:tySz P t=some (m,false))(hx:e.ev x=.pointer (some ⟨bk,off,none⟩))(hL:(bk,vG cl.toArray T fz)∈L)(hv:nth cl off=some v):∀w,St X h L w->(execOp e.ev ⟨d,.load t x,ty,pos,af,g⟩).run P w=.ok (.value v) w:=
 λw hw=>by simp[execOp,YK,hx,zS,rQ hT (cellM hw hL hv)]
theorem nQ{t:TypeId}{m T:Nat}{cs:List Value}(hT:tySz P t=some (m,true))(hx:e.ev x=.pointer (some ⟨bk,off,none⟩))(hL:(bk,vG cl.toArray T fz)∈L)(hv:cut cl off m=some cs):∀w,St X h L w->(execOp e.ev ⟨d,.load t x,ty,pos,af,g⟩).run P w=.ok (.value (.agg cs.toArray)) w:=
 λw hw=>by
  obtain⟨h1,h2⟩:=Er hv
  subst h1
  have:∀j v,cs[j]? = some v->w.cell? ((⟨bk,off,none⟩:Addr).add j)=some v:=by
   intro j v hj
   have:=cellM hw hL (h2 j v hj)
   by_cases e0:j=0
   .subst e0;simpa[jP]using this
   .simpa[jP,e0]using this
  simp[execOp,YK,hx,zS,rP hT this]
theorem Ud{t:TypeId}{m:Nat}(j:Nat){cs:List Value}(hT:tySz P t=some (m,false))(ha:At h q cs)(hx:e.ev x=.pointer (some (q.add j)))(hv:nth cs j=some v):∀w,St X h L w->(execOp e.ev ⟨d,.load t x,ty,pos,af,g⟩).run P w=.ok (.value v) w:=
 λw hw=>by
  rw[ja]at hv
  simp[execOp,YK,hx,zS,rQ hT (ha.cell hw hv)]
theorem Uc{t:TypeId}{m:Nat}{cs:List Value}(hT:tySz P t=some (m,false))(ha:At h q (v::cs))(hx:e.ev x=.pointer (some q)):
  ∀w,St X h L w->(execOp e.ev ⟨d,.load t x,ty,pos,af,g⟩).run P w=.ok (.value v) w:=
 Ud 0 hT ha (by simp[jP,hx]) rfl
theorem Qx{t:TypeId}{m:Nat}(j:Nat){cs cs':List Value}(hT:tySz P t=some (m,true))(ha:At h q cs)(hx:e.ev x=.pointer (some (q.add j)))(hv:cut cs j m=some cs'):∀w,St X h L w->(execOp e.ev ⟨d,.load t x,ty,pos,af,g⟩).run P w=.ok (.value (.agg cs'.toArray)) w:=
 λw hw=>by
  obtain⟨h1,h2⟩:=Er hv
  subst h1
  have hsp:q.spot=none:=by obtain⟨_,_,_,_,h2,_⟩:=ha;exact h2
  have:∀i v,cs'[i]? = some v->w.cell? ((q.add j).add i)=some v:=by
   intro i v hi
   have:=h2 i v hi
   rw[ja]at this
   rw[zh q j i hsp]
   exact ha.cell hw this
  simp[execOp,YK,hx,zS,rP hT this]
theorem s5{t:TypeId}{m:Nat}{cs:List Value}(hT:tySz P t=some (m,true))(ha:At h q cs)(hm:cs.length=m)(hx:e.ev x=.pointer (some q)):
  ∀w,St X h L w->(execOp e.ev ⟨d,.load t x,ty,pos,af,g⟩).run P w=.ok (.value (.agg cs.toArray)) w:=
 Qx 0 hT ha (by simp[jP,hx]) (by subst hm;exact Sj cs)
theorem FO{t:TypeId}{m:Nat}{p:Addr}(hT:P.underlying t=some (.slice E))(hS:tySz P E=some (sz,a))(hx:e.ev x=.slice (some p) m cap)(hix:e.ev ix=.int .i64 (i:Nat))(hi:i<m):∀w,St X h L w->(execOp e.ev ⟨d,.indexAddr t x ix,ty,pos,af,g⟩).run P w=.ok (.value (.pointer (some (p.add (i*sz))))) w:=
 λw _=>by
  have:(i:Int)<(m:Int):=by omega
  simp[execOp,Instr.indexAt,hix,hx,asIntOf,run_underlying hT,iP hS,hi]
end runs
section anyidx
variable {P:Program} {b:Frame} {n:Nat} {k:List Item} {F:List Frame->(Machine->Prop)->Prop} {ds:List Deferred} {X:Cx}
end anyidx
section steps
variable {P:Program} {b:Frame} {n:Nat} {ops:Array Oper} {F:List Frame->(Machine->Prop)->Prop} {e:Env} {ds:List Deferred} {X:Cx} {h:HF} {L:LH} {K:Env->HF->LH->Prop}
variable {d:Option Nat} {ty:TypeId} {pos:String} {af:Array Edge} {g:Option (Nat×Bool)}
theorem kn{op:Op}(hg:guardB ops e ⟨d,op,ty,pos,af,g⟩=true)(t:∀w,St X h L w->∃v w' h' L',(execOp e.ev ⟨d,op,ty,pos,af,g⟩).run P w=.ok (.value v) w'/\St X h' L' w'/\K (pute e d v) h' L'):
  Stp P b n ops F ds X ⟨d,op,ty,pos,af,g⟩ e h L K:=by grind [Stp,As]
theorem fU{op:Op}(hr:∀w,St X h L w->(execOp e.ev ⟨d,op,ty,pos,af,g⟩).run P w=.ok (.value v) w)(t:K (pute e d v) h L)(hg:guardB ops e ⟨d,op,ty,pos,af,g⟩=true:=by rfl):
  Stp P b n ops F ds X ⟨d,op,ty,pos,af,g⟩ e h L K:=by grind [kn]
theorem W3{t:TypeId}(t':∀bk,K (pute e d (.pointer (some ⟨bk,0,none⟩))) h ((bk,.cells (vcells (e.ev x)).toArray t (0,0))::L))(hg:guardB ops e ⟨d,.box t x,ty,pos,af,g⟩=true:=by rfl):Stp P b n ops F ds X ⟨d,.box t x,ty,pos,af,g⟩ e h L K:=
 kn hg λw hw=>⟨_,_,h,_,by simp[execOp,Instr.box,newVar,newRow,oh],hw.alloc _,t' _⟩
theorem BH{t:TypeId}(hz:zeroC P t=some zs)(t':∀bk,K (pute e d (.pointer (some ⟨bk,0,none⟩))) h ((bk,.cells zs.toArray t (0,0))::L))(hg:guardB ops e ⟨d,.alloc t,ty,pos,af,g⟩=true:=by rfl):Stp P b n ops F ds X ⟨d,.alloc t,ty,pos,af,g⟩ e h L K:=
 kn hg λw hw=>by
  obtain⟨z,h1,h2⟩:=uQ hz w
  exact⟨_,_,h,_,by simp[execOp,Instr.alloc,h1,newVar,newRow,h2],hw.alloc _,t' _⟩
theorem qi(i:Nat){t:TypeId}{m T:Nat}(hT:tySz P t=some (m,a))(hx:e.ev x=.pointer (some ⟨bk,off,none⟩))(hL:nth L i=some (bk,.cells cl.toArray T (0,0)))(hv:vcells (e.ev y)=vs)(hm:vs.length=m)(eT:YE (off+vs.length) cl.length=true)(h1:vs.all one=true)(t':K e h (setNth L i (bk,.cells (splice cl off vs).toArray T (0,0))))(hg:guardB ops e ⟨none,.store t x y,ty,pos,af,g⟩=true:=by rfl):Stp P b n ops F ds X ⟨none,.store t x y,ty,pos,af,g⟩ e h L K:=by
 unfold Stp
 rw[if_pos hg]
 intro w hw
 have hb:w.heap[bk]? = some (.cells cl.toArray T (0,0)):=by
  have h2:=hL
  rw[ja]at h2
  exact hw.own _ (kD h2)
 have hsize:(e.ev y).cells.size=m:=by rw[oh,hv];simpa using hm
 have hlist:(e.ev y).cells.toList=vs:=by rw[oh,hv]
 have:=oN (P:=P) off vs 0 cl w hb (by simpa using jM eT) (by simpa using h1)
 simp only[ZS]at this
 have hr:(execOp e.ev ⟨none,.store t x y,ty,pos,af,g⟩).run P w=.ok .skip { w with heap:=w.heap.setIfInBounds bk (.cells (splice cl off vs).toArray T (0,0)) }:=by
  simp[execOp,Instr.storeAt,hx,zS,storeVar,iP hT,hsize,hlist,this]
 rw[hr]
 exact⟨h,_,hw.write hL _,t'⟩
theorem pG{Fr:LH}{R:Ending->HF->LH->Prop}(hc:∀args w,(callFunc f args).run P w=.ok (.enter f args) w)(hvs:a5_.toList.map e.ev=vs)(hs:qf P f vs.toArray h A R)(hL:L=A++Fr)(t':∀v h' B,h.le h'->R (.returned v) h' B->K (pute e d v) h' (B++Fr))(tp:∀ch h' B,h.le h'->R (.panicked ch) h' B->∀e',AgE ops ⟨d,.call ⟨.value (.func f),a5_,ats⟩,ty,pos,af,g⟩ e e'->TP P b n ch F e' ds X h' (B++Fr))(hg:guardB ops e ⟨d,.call ⟨.value (.func f),a5_,ats⟩,ty,pos,af,g⟩=true:=by rfl):
  Stp P b n ops F ds X ⟨d,.call ⟨.value (.func f),a5_,ats⟩,ty,pos,af,g⟩ e h L K:=by
 unfold Stp
 rw[if_pos hg]
 intro w hw
 subst hL
 have harr:a5_.map e.ev=vs.toArray:=qV (by simp[←hvs])
 have hr:(execOp e.ev ⟨d,.call ⟨.value (.func f),a5_,ats⟩,ty,pos,af,g⟩).run P w=.ok (.enter f vs.toArray) w:=by
  simp[execOp,resolve,Env.ev,jH,invoke,harr,hc]
 rw[hr]
 refine nn (by simp) (lH (tT.mono (hs w hw.pre.left) ?_))
 rintro x w' ⟨h',B,hst,hR⟩
 cases x with
 |returned v=>exact⟨h',_,hw.after hst,t' v h' B hst.le hR⟩
 |panicked ch=>exact⟨h',_,hw.after hst,tp ch h' B hst.le hR⟩
 |outgrown=>trivial
theorem kg(hc:∀args w,(callFunc f args).run P w=.ok (.enter f args) w)(hs:Ret P f vs h v)(hvs:a5_.toList.map e.ev=vs)(t':K (pute e d v) h L)(hg:guardB ops e ⟨d,.call ⟨.value (.func f),a5_,ats⟩,ty,pos,af,g⟩=true:=by rfl):
  Stp P b n ops F ds X ⟨d,.call ⟨.value (.func f),a5_,ats⟩,ty,pos,af,g⟩ e h L K:=
 pG (A:=[]) (Fr:=L) hc hvs hs rfl (λv' h' B _ hR=>by obtain⟨h1,h2,h3⟩:=hR;cases h1;subst h2 h3;exact t')
  (λch h' B _ hR=>by obtain⟨h1,_,_⟩:=hR;cases h1) hg
theorem cM{t:TypeId}{len:Nat}{cells:List Value}(hT:P.underlying t=some (.slice E))(hS:tySz P E=some (sz,a))(hz:zeroC P E=some zs)(hpos:kH 0 (len*sz)=true)(hlt:YE (len*sz) 16777216=true)(hc:Y0 (λi=>some (i*sz,sz)) ((Array.range (len*sz)).map (zs.toArray[·%zs.toArray.size]!)) (parts.toList.map λp=>(p.1,e.ev p.2))=some cells.toArray)(t':∀bk,K (pute e d (.slice (some ⟨bk,0,none⟩) len len)) h ((bk,.cells cells.toArray E (0,0))::L))(hg:guardB ops e ⟨d,.buildSlice t len parts,ty,pos,af,g⟩=true:=by rfl):Stp P b n ops F ds X ⟨d,.buildSlice t len parts,ty,pos,af,g⟩ e h L K:=
 kn hg λw hw=>by
  obtain⟨z,h1,h2⟩:=uQ hz w
  have hp:=rn hpos
  have hl:=jM hlt
  have hparts:(parts.map λx=>(x.1,e.ev x.2)).toList=parts.toList.map λp=>(p.1,e.ev p.2):=by simp
  refine⟨_,_,h,_,?_,hw.alloc _,t' _⟩
  have hne:¬len*sz=0:=by omega
  have hnl:¬len*sz>2 ^ 24:=by omega
  simp only[execOp,Instr.buildSlice,kL,run_underlying hT,xK,iP hS,hnl,hne,if_false,h1,h2,Yy,hparts]
  rw[hc]
  simp[newRow]
theorem lC{t:TypeId}(hT:P.underlying t=some (.slice E))(hS:tySz P E=some (sz,a))(t':∀bk,K (pute e d (.slice (some ⟨bk,0,none⟩) 0 0)) h ((bk,.cells [].toArray E (0,0))::L))(hg:guardB ops e ⟨d,.buildSlice t 0 #[],ty,pos,af,g⟩=true:=by rfl):Stp P b n ops F ds X ⟨d,.buildSlice t 0 #[],ty,pos,af,g⟩ e h L K:=
 kn hg λw hw=>by
  refine⟨_,_,h,_,?_,hw.alloc _,t' _⟩
  have h0:(Array.range 0).map (λ_:Nat=>(default:Value))=#[]:=by apply Array.eq_empty_of_size_eq_zero;simp
  simp[execOp,Instr.buildSlice,run_underlying hT,iP hS,Y0,newRow,h0]
theorem kw{fn:Fn}{first captured:Array Operand}{fl:List Value}(h1:first.toList.map e.ev=fl)(h2:captured.toList.map e.ev=cl)(t':K (pute e d (.func fn fl.toArray cl.toArray)) h L)(hg:guardB ops e ⟨d,.makeFunc fn first captured,ty,pos,af,g⟩=true:=by rfl):Stp P b n ops F ds X ⟨d,.makeFunc fn first captured,ty,pos,af,g⟩ e h L K:=
 kn hg λw hw=>⟨_,w,h,L,by
  have e1:first.map e.ev=fl.toArray:=qV (by simp[←h1])
  have e2:captured.map e.ev=cl.toArray:=qV (by simp[←h2])
  simp[execOp,Instr.makeFunc,e1,e2],hw,t'⟩
theorem ia{t:TypeId}{cells:List Value}{places:List (Nat×Nat)}(hT:P.underlying t=some (.struct fs))(hz:zeroC P t=some zs)(hp:fs.toList.map (λf=>((P.info? f.type).map λi=>(f.offset,i.size)))=places.map some)(hc:Y0 (λi=>places.toArray[i]?) zs.toArray (parts.toList.map λp=>(p.1,e.ev p.2))=some cells.toArray)(t':K (pute e d (.agg cells.toArray)) h L)(hg:guardB ops e ⟨d,.build t parts,ty,pos,af,g⟩=true:=by rfl):Stp P b n ops F ds X ⟨d,.build t parts,ty,pos,af,g⟩ e h L K:=
 kn hg λw hw=>by
  obtain⟨z,h1,h2⟩:=uQ hz w
  have hparts:(parts.map λx=>(x.1,e.ev x.2)).toList=parts.toList.map λp=>(p.1,e.ev p.2):=by simp
  refine⟨_,_,h,_,?_,hw,t'⟩
  have hm:∀(l:List Field)(pl:List (Nat×Nat)),l.map (λf=>((P.info? f.type).map λi=>(f.offset,i.size)))=pl.map some ->
    (l.mapM λf=>do pure (f.offset,←sizeOf f.type):Sem (List (Nat×Nat))).run P w=.ok pl w:=by
   intro l
   induction l with
   |nil=>intro pl hpl;cases pl with
    |nil=>simp
    |cons _ _=>simp at hpl
   |cons f l ih=>
    intro pl hpl
    cases pl with
    |nil=>simp at hpl
    |cons q pl=>
     simp only[jG,List.cons.injEq]at hpl
     cases hi:P.info? f.type with
     |none=>simp[hi]at hpl
     |some ti=>
      simp only[hi,Zb,kN]at hpl
      have hf:(do pure (f.offset,←sizeOf f.type):Sem (Nat×Nat)).run P w=.ok q w:=by
       simp[sizeOf,typeInfo,hi,hpl.1]
      rw[List.mapM_cons,kL,hf,xK,kL,ih pl hpl.2]
      rfl
  have hm2:=hm fs.toList places hp
  have hm3:(fs.mapM λf=>do pure (f.offset,←sizeOf f.type):Sem (Array (Nat×Nat))).run P w=.ok places.toArray w:=by
   have:(fs.mapM λf=>do pure (f.offset,←sizeOf f.type):Sem (Array (Nat×Nat)))=vB <$> (fs.toList.mapM λf=>do pure (f.offset,←sizeOf f.type):Sem (List (Nat×Nat))):=by
    rw[←List.mapM_toArray]
   rw[this,Sem.run_map,hm2]
   rfl
  simp only[execOp,Instr.build,kL,h1,xK,run_underlying hT,hm3,h2,hparts]
  rw[hc]
  simp
end steps
abbrev Xl(P:Program)(f:FuncId)(args:List Value)(h:HF)(A:LH)(v:Value):Prop:=qf P f args.toArray h A (λx h' B=>x=.returned v/\h'=h/\B=A)
abbrev wg(P:Program)(fv:Value)(args:List Value)(h:HF)(A:LH)(v:Value):Prop:=n0 P fv args.toArray h A (λx h' B=>x=.returned v/\h'=h/\B=A)
theorem oO{args cap:List Value}(hc:∀args w,(callFunc f args).run P w=.ok (.enter f args) w)(hr:Xl P f (args++cap) h A v):
  wg P (.func (.func f) #[] cap.toArray) args h A v:=by
 intro w hp
 refine⟨.enter f (args++cap).toArray,?_,lH (hr w hp)⟩
 simp[jH,invoke,hc]
theorem St.same{L:LH}{w':World}(s:St X h L w)(hA:A.Sublist L)(t:St ⟨w,h,A.map (·.1)⟩ h A w'):St X h L w':=by
 have hkey:∀b,b<w.heap.size->w'.heap[b]? = w.heap[b]?:=by
  intro b hb
  by_cases hm:b∈A.map (·.1)
  .obtain⟨p,hp,rfl⟩:=qM.1 hm
   rw[t.own p hp,s.own p (hA.subset hp)]
  .exact t.keep b hb hm
 have t2:St ⟨w,h,List.map (·.1) ([]:LH)⟩ h [] w':=
  ⟨t.os,t.tape,t.output,t.size,λb hb _=>hkey b hb,λ_ _ hb=>hb,λ_ _=>rfl,t.imm,λ_ hp=>(vA hp).elim,XV,λ_ hp=>(vA hp).elim,λ_ hp=>(vA hp).elim⟩
 exact St.after (A:=[]) (B:=[]) (F:=L) s t2
theorem Pre.sub{L:LH}(s:Pre h L w)(hA:A.Sublist L):Pre h A w:=
 ⟨s.imm,λp hp=>s.own p (hA.subset hp),s.dis.sublist (hA.map _),λp hp=>s.free p (hA.subset hp)⟩
section steps2
variable {P:Program} {b:Frame} {n:Nat} {ops:Array Oper} {F:List Frame->(Machine->Prop)->Prop} {e:Env} {ds:List Deferred} {X:Cx} {h:HF} {L:LH} {K:Env->HF->LH->Prop}
variable {d:Option Nat} {ty:TypeId} {pos:String} {af:Array Edge} {g:Option (Nat×Bool)}
theorem pI{P:Program}{R:Ending->World->Prop}(h:yr P w R nx):nx≠.skip:=by
 intro e;subst e;exact h
theorem wo(A:LH){t:Nat}(hA:A.Sublist L)(hs:wg P fv vs h A v)(hf:e t=fv)(hvs:a5_.toList.map e.ev=vs)(t':K (pute e d v) h L)(hg:guardB ops e ⟨d,.call ⟨.value (.tmp t),a5_,ats⟩,ty,pos,af,g⟩=true:=by rfl):
  Stp P b n ops F ds X ⟨d,.call ⟨.value (.tmp t),a5_,ats⟩,ty,pos,af,g⟩ e h L K:=by
 unfold Stp
 rw[if_pos hg]
 intro w hw
 have harr:a5_.map e.ev=vs.toArray:=qV (by simp[←hvs])
 obtain⟨nx,hrun,hcall⟩:=hs w (hw.pre.sub hA)
 have hr:(execOp e.ev ⟨d,.call ⟨.value (.tmp t),a5_,ats⟩,ty,pos,af,g⟩).run P w=.ok nx w:=by
  grind [execOp,resolve,Env.ev]
 rw[hr]
 refine nn (pI hcall) (hcall.mono ?_)
 rintro x w' ⟨h',B,hst,hx,hh,hB⟩
 subst hx hh hB
 exact⟨h',L,hw.same hA hst,t'⟩
end steps2
end
variable {Pn:List PanicEntry->HF->LH->Prop}{done:List α}{ds:List Deferred}{it:Go.Value}{k:List Item}{lp lp':Loop}{ps:List Tmp}{val:α->HF->List Go.Value->Prop}
section
def roundFrame(l:Nat)(f:FuncId):Frame:={ fn:=f,tmps:=#[],todo:=[],defers:=[],mode:=.run,kind:=.normal,roundOf:=some l }
section rounds
variable {P:Program} {l:Nat} {f:FuncId} {n:Nat} {k:List Item} {e:Env} {X:Cx} {h:HF} {L:LH} {R:Ending->HF->LH->Prop} {fn:Func} {lp:Loop}
theorem tD(s:St X h L w)(hL:nth L i=some (l,.loop lp)):w.heap[l]? = some (.loop lp):=by
 rw[ja]at hL
 exact s.own _ (kD hL)
theorem nJ(i:Nat){F:List Frame->(Machine->Prop)->Prop}(hL:nth L i=some (l,.loop lp))(hr:lp.state=.ready)(t:TT P (roundFrame l f) n k F e ds X h (setNth L i (l,.loop { lp with state:=.busy }))):TT P (roundFrame l f) n (.beginRound::k) F e ds X h L:=by
 intro w hw a cs Φ hn he hds hF
 have hb:=tD hw hL
 refine .step (stepR_beginRound (l:=l) (w':={ w with heap:=w.heap.setIfInBounds l (.loop { lp with state:=.busy }) }) rfl ?_) (t _ (hw.write hL _) a cs Φ hn he hds hF)
 simp[Instr.beginRound,YC,getObj,setObj,Zs,hb,hr]
theorem yE(hb:w.heap[l]? = some (.loop lp))(jump:Option Code):
  (Instr.endRound l jump).run P w=.ok (.bool jump.isNone) { w with heap:=w.heap.setIfInBounds l (.loop { lp with state:=if jump.isNone then .ready else .done,pending:=jump }) }:=by
 simp[Instr.endRound,YC,getObj,setObj,Zs,hb]
theorem Rk(i:Nat)(hL:nth L i=some (l,.loop lp))(hR:R (.returned (.bool true)) h (setNth L i (l,.loop { lp with state:=.ready,pending:=none }))):
  TT P (roundFrame l f) n [] (lJ P X R) e [] X h L:=by
 intro w hw a cs Φ hn he hds hF
 obtain⟨c,cs',rfl,h1,_⟩:=hF
 exact .step (stepR_round_end (b:=roundFrame l f) rfl rfl (yE (tD hw hL) none)) (h1 _ _ ⟨h,_,hw.write hL _,hR⟩)
theorem Vi(i:Nat)(hL:nth L i=some (l,.loop lp))(hR:R (.returned (.bool false)) h (setNth L i (l,.loop { lp with state:=.done,pending:=some .ret }))):
  TT P (roundFrame l f) n (.code .ret::k) (lJ P X R) e [] X h L:=by
 intro w hw a cs Φ hn he hds hF
 obtain⟨c,cs',rfl,h1,_⟩:=hF
 exact .step (stepR_round_ret (b:=roundFrame l f) rfl rfl (yE (tD hw hL) (some .ret))) (h1 _ _ ⟨h,_,hw.write hL _,hR⟩)
theorem TG(i:Nat)(hx:exitTo id k=none)(hL:nth L i=some (l,.loop lp))(hR:R (.returned (.bool false)) h (setNth L i (l,.loop { lp with state:=.done,pending:=some (.exit id) }))):
  TT P (roundFrame l f) n (.code (.exit id)::k) (lJ P X R) e [] X h L:=by
 intro w hw a cs Φ hn he hds hF
 obtain⟨c,cs',rfl,h1,_⟩:=hF
 exact .step (stepR_round_exit (b:=roundFrame l f) rfl rfl hx (yE (tD hw hL) (some (.exit id)))) (h1 _ _ ⟨h,_,hw.write hL _,hR⟩)
theorem TJ(hf:P.funcs[f]? = some fn)(hR:R (.panicked ch) h L):TP P (roundFrame l f) n ch (lJ P X R) e [] X h L:=by
 intro w hw a cs Φ todo hn he hds hF
 obtain⟨c,cs',rfl,_,h3⟩:=hF
 refine .step (step_leave_panicked (P:=P) (fr:={ (roundFrame l f).atR a todo with mode:=.panicking ch }) ⟨rfl,hds,fn,hf⟩) ?_
 exact h3 ch w ⟨h,L,hw,hR⟩
end rounds
theorem AB{l:Nat}{args:List Value}{R:Ending->HF->LH->Prop}(hl:nth A i=some (l,.loop lp))(hsz:args.length=lp.params.size)(t:∀X:Cx,X.M=A.map (·.1)->X.h0=h->(∀b∈X.M,b<X.w0.heap.size)->TT P (roundFrame l lp.fn) lp.tmps.size [.code lp.assign,.beginRound,.code lp.body] (lJ P X R)
   (envOf { tmps:=(lp.params.zip args.toArray).foldl (λtmps p=>tmps.setIfInBounds p.1 p.2) lp.tmps,defers:=[] }) [] X h A):
  n0 P (.func (.yield l) #[] #[]) args.toArray h A R:=by
 intro w hp
 have hb:w.heap[l]? = some (.loop lp):=by
  rw[ja]at hl
  exact hp.own _ (kD hl)
 refine⟨.round l lp.fn ((lp.params.zip args.toArray).foldl (λtmps p=>tmps.setIfInBounds p.1 p.2) lp.tmps) lp.assign lp.body,?_,?_⟩
 .simp[jH,invoke,Instr.yield,YC,getObj,Zs,hb,hsz]
 .intro c cs Φ h1 h2
  have hfold:∀(ps:List (Tmp×Value))(ts:Array Value),(ps.foldl (λtmps p=>tmps.setIfInBounds p.1 p.2) ts).size=ts.size:=by
   intro ps
   induction ps with
   |nil=>intro ts;rfl
   |cons p ps ih=>intro ts;simp[ih]
  have hfr:ZJ l lp.fn ((lp.params.zip args.toArray).foldl (λtmps p=>tmps.setIfInBounds p.1 p.2) lp.tmps) lp.assign lp.body .normal =
    (roundFrame l lp.fn).atR { tmps:=(lp.params.zip args.toArray).foldl (λtmps p=>tmps.setIfInBounds p.1 p.2) lp.tmps,defers:=[] } [.code lp.assign,.beginRound,.code lp.body]:=by
   simp[ZJ,Yr,roundFrame]
  rw[hfr]
  refine t ⟨w,h,A.map (·.1)⟩ rfl rfl (λb hb=>by obtain⟨p,hp',rfl⟩:=qM.1 hb;exact jX (hp.own p hp')) w (St.start hp) _ (c::cs) Φ ?_ rfl rfl ⟨c,cs,rfl,h1,h2⟩
  simp only
  rw[←Zg]
  exact hfold _ _
def YR{α : Type}(C:List α->HF->LH->Prop)(Sp:HF->LH->Prop)(Pn:List PanicEntry->HF->LH->Prop)(done:List α)(x:α)(r:Ending)(h:HF)(B:LH):Prop:=
 (r=.returned (.bool true)/\C (done++[x]) h B)\/(r=.returned (.bool false)/\Sp h B)\/∃ch,r=.panicked ch/\Pn ch h B
def ItR{α : Type}(C:List α->HF->LH->Prop)(Sp:HF->LH->Prop)(Pn:List PanicEntry->HF->LH->Prop)(xs:List α)(r:Ending)(h:HF)(B:LH):Prop:=
 (r=.returned (.tuple #[])/\(C xs h B\/Sp h B))\/∃ch,r=.panicked ch/\Pn ch h B
def Td{α : Type}(P:Program)(it:Value)(val:α->HF->List Value->Prop)(xs:List α)(h:HF):Prop:=
 ∀(yf:Fn)(ya yb:Array Value)(C:List α->HF->LH->Prop)(Sp:HF->LH->Prop)(Pn:List PanicEntry->HF->LH->Prop)(h':HF)(A:LH),h.le h'->(∀done h1 h2 B,HF.le h1 h2->C done h1 B->C done h2 B)->(∀h1 h2 B,HF.le h1 h2->Sp h1 B->Sp h2 B)->(∀ch h1 h2 B,HF.le h1 h2->Pn ch h1 B->Pn ch h2 B)->C [] h' A ->
  (∀done x rest vs h'' B,xs=done++x::rest->h'.le h''->C done h'' B->val x h'' vs->n0 P (.func yf ya yb) vs.toArray h'' B (YR C Sp Pn done x)) ->
  n0 P it #[.func yf ya yb] h' A (ItR C Sp Pn xs)
theorem Td.mono(i:Td P it val xs h)(hl:h.le h'):Td P it val xs h':=
 λyf ya yb C Sp Pn h'' A hl'=>i yf ya yb C Sp Pn h'' A (HF.le_trans hl hl')
theorem VK{cap:List Value}(hc:∀args w,(callFunc f args).run P w=.ok (.enter f args) w)(hr:∀(yf:Fn)(ya yb:Array Value)(C:List α->HF->LH->Prop)(Sp:HF->LH->Prop)(Pn:List PanicEntry->HF->LH->Prop)(h':HF)(A:LH),h.le h'->(∀done h1 h2 B,HF.le h1 h2->C done h1 B->C done h2 B)->(∀h1 h2 B,HF.le h1 h2->Sp h1 B->Sp h2 B)->(∀ch h1 h2 B,HF.le h1 h2->Pn ch h1 B->Pn ch h2 B)->C [] h' A ->
   (∀done x rest vs h'' B,xs=done++x::rest->h'.le h''->C done h'' B->val x h'' vs->n0 P (.func yf ya yb) vs.toArray h'' B (YR C Sp Pn done x))->qf P f (.func yf ya yb::cap).toArray h' A (ItR C Sp Pn xs)):
  Td P (.func (.func f) #[] cap.toArray) val xs h:=by
 intro yf ya yb C Sp Pn h' A hl m1 m2 m3 hC hy w hp
 refine⟨.enter f (.func yf ya yb::cap).toArray,?_,lH (hr yf ya yb C Sp Pn h' A hl m1 m2 m3 hC hy w hp)⟩
 simp[jH,invoke,hc]
def marks(rs:List Nat):List Deferred:=rs.map λr=>{ target:=.collected r,args:=#[] }
def markB(rs:List Nat):LH:=rs.map λr=>(r,.deferred (some []))
section calls
variable {P:Program} {b:Frame} {n:Nat} {ops:Array Oper} {F:List Frame->(Machine->Prop)->Prop} {e:Env} {ds:List Deferred} {X:Cx} {h:HF} {L:LH} {K:Env->HF->LH->Prop}
variable {d:Option Nat} {ty:TypeId} {pos:String} {af:Array Edge} {g:Option (Nat×Bool)}
theorem DF(Fr A:LH){t:Nat}{R:Ending->HF->LH->Prop}(hL:L=Fr++A)(hs:n0 P fv vs.toArray h A R)(hf:e t=fv)(hvs:a5_.toList.map e.ev=vs)(t':∀v h' B,h.le h'->R (.returned v) h' B->K (pute e d v) h' (Fr++B))(tp:∀ch h' B,h.le h'->R (.panicked ch) h' B->∀e',TP P b n ch F e' ds X h' (Fr++B))(hg:guardB ops e ⟨d,.call ⟨.value (.tmp t),a5_,ats⟩,ty,pos,af,g⟩=true:=by rfl):
  Stp P b n ops F ds X ⟨d,.call ⟨.value (.tmp t),a5_,ats⟩,ty,pos,af,g⟩ e h L K:=by
 unfold Stp
 rw[if_pos hg]
 intro w hw
 subst hL
 have hw':=hw.perm zD
 have harr:a5_.map e.ev=vs.toArray:=qV (by simp[←hvs])
 obtain⟨nx,hrun,hcall⟩:=hs w hw'.pre.left
 have hr:(execOp e.ev ⟨d,.call ⟨.value (.tmp t),a5_,ats⟩,ty,pos,af,g⟩).run P w=.ok nx w:=by
  grind [execOp,resolve,Env.ev]
 rw[hr]
 refine nn (pI hcall) (hcall.mono ?_)
 rintro x w' ⟨h',B,hst,hR⟩
 cases x with
 |returned v=>exact⟨h',_,(hw'.after hst).perm zD,t' v h' B hst.le hR⟩
 |panicked ch=>exact⟨h',_,(hw'.after hst).perm zD,λe' _=>tp ch h' B hst.le hR e'⟩
 |outgrown=>trivial
end calls
def RdR{α : Type}(l r:Nat)(lp:Loop)(I:List α->HF->LH->Prop)(J:Code->HF->LH->Prop)(Pn:List PanicEntry->HF->LH->Prop)(done:List α)(x:α)(r':Ending)(h:HF)(B:LH):Prop:=
 (r'=.returned (.bool true)/\∃L',B=(l,.loop { lp with state:=.ready,pending:=none })::(r,.deferred (some []))::L'/\I (done++[x]) h L') \/
 (r'=.returned (.bool false)/\∃c L',B=(l,.loop { lp with state:=.done,pending:=some c })::(r,.deferred (some []))::L'/\J c h L') \/
 (∃ch,r'=.panicked ch/\∃lp' L',B=(l,.loop lp')::(r,.deferred (some []))::L'/\Pn ch h L')
theorem Na{l r:Nat}{L:LH}{I:List α->HF->LH->Prop}{J:Code->HF->LH->Prop}{x:α}(hlp:lp'={ lp with state:=.busy })(hI:I (done++[x]) h L):
  TT P (roundFrame l f) n [] (lJ P X (RdR l r lp I J Pn done x)) e [] X h ((l,.loop lp')::(r,.deferred (some []))::L):=
 Rk 0 rfl (.inl ⟨rfl,L,by rw[hlp];rfl,hI⟩)
theorem Wx{l r:Nat}{L:LH}{I:List α->HF->LH->Prop}{J:Code->HF->LH->Prop}{x:α}(hlp:lp'={ lp with state:=.busy })(hJ:J .ret h L):
  TT P (roundFrame l f) n (.code .ret::k) (lJ P X (RdR l r lp I J Pn done x)) e [] X h ((l,.loop lp')::(r,.deferred (some []))::L):=
 Vi 0 rfl (.inr (.inl ⟨rfl,.ret,L,by rw[hlp];rfl,hJ⟩))
theorem Vw{l r:Nat}{L:LH}{I:List α->HF->LH->Prop}{J:Code->HF->LH->Prop}{x:α}(hx:exitTo id k=none)(hlp:lp'={ lp with state:=.busy })(hJ:J (.exit id) h L):
  TT P (roundFrame l f) n (.code (.exit id)::k) (lJ P X (RdR l r lp I J Pn done x)) e [] X h ((l,.loop lp')::(r,.deferred (some []))::L):=
 TG 0 hx rfl (.inr (.inl ⟨rfl,.exit id,L,by rw[hlp];rfl,hJ⟩))
theorem Wy{l r:Nat}{L:LH}{I:List α->HF->LH->Prop}{J:Code->HF->LH->Prop}{x:α}(hf:P.funcs[f]? = some fn)(hP:Pn ch h L):
  TP P (roundFrame l f) n ch (lJ P X (RdR l r lp I J Pn done x)) e [] X h ((l,.loop lp')::(r,.deferred (some []))::L):=
 TJ hf (.inr (.inr ⟨ch,rfl,lp',L,rfl,hP⟩))
def setParams(e:Env):List Nat->List Value->Env
 |p::ps,v::vs=>setParams (upd e p v) ps vs
 |_,_=>e
theorem uv{n:Nat}:∀(ps:List Nat)(vs:List Value)(ts:Array Value)(ds:List Deferred),ts.size=n->(∀p∈ps,p<n) ->
  envOf { tmps:=(ps.zip vs).foldl (λtmps p=>tmps.setIfInBounds p.1 p.2) ts,defers:=[] }=setParams (envOf { tmps:=ts,defers:=ds }) ps vs
 |[],vs,ts,ds,_,_=>by simp[setParams];rfl
 |p::ps,[],ts,ds,_,_=>by simp[setParams];rfl
 |p::ps,v::vs,ts,ds,hn,hp=>by
  simp only[List.zip_cons_cons,List.foldl_cons,setParams]
  rw[uv ps vs (ts.setIfInBounds p v) ds (by simpa using hn) (λq hq=>hp q (qC _ hq))]
  congr 1
  exact rG ⟨ts,ds⟩ p v (hn▸hp p (zB ..))
theorem TH{F:List Frame->(Machine->Prop)->Prop}{L:LH}{g:Operand}{assign body:Code}(I:List α->HF->LH->Prop)(J:Code->HF->LH->Prop)(Pn:List PanicEntry->HF->LH->Prop){f0:FuncId}{cap:List Value}(hgv:e.ev g=.func (.func f0) #[] cap.toArray)(hc0:∀args w,(callFunc f0 args).run P w=.ok (.enter f0 args) w)(hit:Td P (.func (.func f0) #[] cap.toArray) val xs h)(hps:ps.all (λp=>kH p n)=true)(hval:∀x h vs,val x h vs->vs.length=ps.length)(hIm:∀done h1 h2 B,HF.le h1 h2->I done h1 B->I done h2 B)(hJm:∀c h1 h2 B,HF.le h1 h2->J c h1 B->J c h2 B)(hPm:∀ch h1 h2 B,HF.le h1 h2->Pn ch h1 B->Pn ch h2 B)(h0:I [] h L)(round:∀l r lp done x rest vs h' L' X',xs=done++x::rest->h.le h'->I done h' L'->val x h' vs->lp.state=.ready->X'.h0=h'->(∀b∈X'.M,b<X'.w0.heap.size) ->
   TT P (roundFrame l f) n [.code assign,.beginRound,.code body] (lJ P X' (RdR l r lp I J Pn done x)) (setParams e ps vs) [] X' h' ((l,.loop lp)::(r,.deferred (some []))::L'))(next:∀r h' L',h.le h'->I xs h' L'->TT P (bodyFrame f) n k F e ({ target:=.collected r,args:=#[] }::ds) X h' ((r,.deferred (some []))::L'))(jump:∀r c h' L',h.le h'->J c h' L'->TT P (bodyFrame f) n (.code c::k) F e ({ target:=.collected r,args:=#[] }::ds) X h' ((r,.deferred (some []))::L'))(pan:∀r ch h' L',h.le h'->Pn ch h' L'->TP P (bodyFrame f) n ch F e ({ target:=.collected r,args:=#[] }::ds) X h' ((r,.deferred (some []))::L')):
  TT P (bodyFrame f) n (.code (.rangeFunc g ps.toArray assign body)::k) F e ds X h L:=by
 intro w hw a cs Φ hn he hds hF
 let r:=w.heap.size
 let w1:World:={ w with heap:=w.heap.push (.deferred (some [])) }
 have hw1:St X h ((r,.deferred (some []))::L) w1:=hw.alloc _
 let l:=w1.heap.size
 let lp:Loop:={ state:=.ready,pending:=none,fn:=f,tmps:=a.tmps,params:=ps.toArray,assign,body,defers:=r }
 let w2:World:={ w1 with heap:=w1.heap.push (.loop lp) }
 have hw2:St X h ((l,.loop lp)::(r,.deferred (some []))::L) w2:=hw1.alloc _
 have henter:(Y9 (bodyFrame f).fn a.tmps ps.toArray assign body (bodyFrame f).roundOf).run P w=.ok (l,[{ target:=.collected r,args:=#[] }]) w2:=by
  simp[Y9,bodyFrame,r,l,lp,w2,w1]
 let C:List α->HF->LH->Prop:=λdone h' B=>∃L',B=(l,.loop lp)::(r,.deferred (some []))::L'/\I done h' L'
 let Sp:HF->LH->Prop:=λh' B=>∃c L',B=(l,.loop { lp with state:=.done,pending:=some c })::(r,.deferred (some []))::L'/\J c h' L'
 let Pm:List PanicEntry->HF->LH->Prop:=λch h' B=>∃lp' L',B=(l,.loop lp')::(r,.deferred (some []))::L'/\Pn ch h' L'
 have hps':∀p∈ps,p<n:=λp hp=>rn (qP.1 hps p hp)
 have hy:∀done x rest vs h'' B,xs=done++x::rest->h.le h''->C done h'' B->val x h'' vs->n0 P (.func (.yield l) #[] #[]) vs.toArray h'' B (YR C Sp Pm done x):=by
  rintro done x rest vs h'' B hxs eT ⟨L',rfl,hI⟩ hv
  refine n0.mono (R:=RdR l r lp I J Pn done x) (AB (i:=0) (lp:=lp) rfl (by simp[lp];exact hval x h'' vs hv) ?_) ?_
  .intro X' _ hX' hXM'
   have henv:envOf { tmps:=(ps.toArray.zip vs.toArray).foldl (λtmps p=>tmps.setIfInBounds p.1 p.2) a.tmps,defers:=[] }=setParams e ps vs:=by
    have:=uv ps vs a.tmps a.defers hn hps'
    rw[←he]
    rw[←Zg]
    simpa using this
   grind
  .rintro x' h3 B' _ (⟨e1,L2,e2,h2⟩|⟨e1,c,L2,e2,h2⟩|⟨ch,e1,lp',L2,e2,h2⟩)
   .exact .inl ⟨e1,L2,e2,h2⟩
   .exact .inr (.inl ⟨e1,c,L2,e2,h2⟩)
   .exact .inr (.inr ⟨ch,e1,lp',L2,e2,h2⟩)
 have hs:=hit (.yield l) #[] #[] C Sp Pm h ((l,.loop lp)::(r,.deferred (some []))::L) (HF.le_refl h) (λ_ _ _ _ hl⟨L',e1,hi⟩=>⟨L',e1,hIm _ _ _ _ hl hi⟩) (λ_ _ _ hl⟨c,L',e1,hi⟩=>⟨c,L',e1,hJm _ _ _ _ hl hi⟩) (λ_ _ _ _ hl⟨lp',L',e1,hi⟩=>⟨lp',L',e1,hPm _ _ _ _ hl hi⟩) ⟨L,rfl,h0⟩ hy
 obtain⟨nx,hrun,hcall⟩:=hs w2 hw2.pre
 have hev:a.eval g=e.ev g:=by rw[lU,he]
 have hnx:nx=.enter f0 (zQ (.yield l) #[] #[]::cap).toArray:=by
  grind [jH,invoke]
 subst hnx
 have hres:(resolve a.eval (rangeCall g l) 0).run P w2=.ok { target:=.fn (.func f0) cap.toArray,args:=#[.func (.yield l) #[] #[]] } w2:=by
  have hcst:∀v,a.eval (.const v)=v:=λ_=>rfl
  simp[resolve,rangeCall,hev,hgv,hcst,jH]
 have hinv:(invoke (.fn (.func f0) cap.toArray) #[.func (.yield l) #[] #[]]).run P w2=.ok (.enter f0 (zQ (.yield l) #[] #[]::cap).toArray) w2:=by
  simp[invoke,hc0]
 have hback:∀v w3,(∃h' B,St ⟨w2,h,((l,Obj.loop lp)::(r,.deferred (some []))::L).map (·.1)⟩ h' B w3/\ItR C Sp Pm xs (.returned v) h' B) ->
   To P Φ (lone (((bodyFrame f).atR { a with defers:=[{ target:=.collected r,args:=#[] }]++a.defers } (.inRangeFunc l::k)).finish v) cs w3):=by
  rintro v w3 ⟨h',B,hst,hR⟩
  rw[finish_atR_inRangeFunc]
  have hS3:St X h' B w3:=by
   have:=St.after (A:=(l,.loop lp)::(r,.deferred (some []))::L) (F:=[]) (by simpa using hw2) hst
   simpa using this
  have eT:=hst.le
  rcases hR with⟨_,hCS⟩|⟨ch,hx,_⟩
  .rcases hCS with⟨L',rfl,hI⟩|⟨c,L',rfl,hJ⟩
   .have hb:w3.heap[l]? = some (.loop lp):=hS3.own _ (zB ..)
    have hend:(Ye l).run P w3=.ok none { w3 with heap:=w3.heap.setIfInBounds l (.loop { lp with state:=.exhausted }) }:=by
     simp[Ye,YC,getObj,setObj,Zs,hb,lp]
    refine .step (stepR_endRangeFunc hend) ?_
    have hS4:=hS3.write (i:=0) rfl (.loop { lp with state:=.exhausted })
    exact next r h' L' eT hI _ (hS4.sub (List.sublist_cons_self ..)) { a with defers:={ target:=.collected r,args:=#[] }::a.defers } cs Φ hn he (by rw[hds]) hF
   .have hb:w3.heap[l]? = some (.loop { lp with state:=.done,pending:=some c }):=hS3.own _ (zB ..)
    have hend:(Ye l).run P w3=.ok (some c) { w3 with heap:=w3.heap.setIfInBounds l (.loop { lp with state:=.exhausted,pending:=some c }) }:=by
     simp[Ye,YC,getObj,setObj,Zs,hb,lp]
    refine .step (stepR_endRangeFunc hend) ?_
    have hS4:=hS3.write (i:=0) rfl (.loop { lp with state:=.exhausted,pending:=some c })
    exact jump r c h' L' eT hJ _ (hS4.sub (List.sublist_cons_self ..)) { a with defers:={ target:=.collected r,args:=#[] }::a.defers } cs Φ hn he (by rw[hds]) hF
  .cases hx
 have hraise:∀ch w3,(∃h' B,St ⟨w2,h,((l,Obj.loop lp)::(r,.deferred (some []))::L).map (·.1)⟩ h' B w3/\ItR C Sp Pm xs (.panicked ch) h' B) ->
   To P Φ (lone (((bodyFrame f).atR { a with defers:=[{ target:=.collected r,args:=#[] }]++a.defers } (.inRangeFunc l::k)).raise ch) cs w3):=by
  rintro ch w3 ⟨h',B,hst,hR⟩
  have hS3:St X h' B w3:=by
   have:=St.after (A:=(l,.loop lp)::(r,.deferred (some []))::L) (F:=[]) (by simpa using hw2) hst
   simpa using this
  rcases hR with⟨hx,_⟩|⟨ch',hx,lp',L',rfl,hP⟩
  .cases hx
  .cases hx
   exact pan r ch h' L' hst.le hP w3 (hS3.sub (List.sublist_cons_self ..)) { a with defers:={ target:=.collected r,args:=#[] }::a.defers } cs Φ _ hn he (by rw[hds]) hF
 refine .step (stepR_rangeFunc henter hres hinv) ?_
 exact hcall _ cs Φ hback hraise
end
variable {b:Frame}
section
theorem H3{fr:Frame}{cs:List Frame}{r:Nat}(hm:fr.mode≠.run)(hd:fr.defers={ target:=.collected r,args }::ds)(hb:w.heap[r]? = some (.deferred (some []))):step P (lone fr cs w)=.next (lone { fr with defers:=ds } cs { w with heap:=w.heap.setIfInBounds r (.deferred none) }):=by
 have ht:(Instr.takeDeferred r).run P w=.ok [] { w with heap:=w.heap.setIfInBounds r (.deferred none) }:=by
  simp[Instr.takeDeferred,getObj,setObj,Zs,hb]
 refine step_lone_go ?_
 have hu:stepG P true { frame:=fr,callers:=cs,status:=.running,dying:=none } w=unwind P true fr cs none w:=by
  unfold stepG
  cases hmode:fr.mode with
  |run=>exact absurd hmode hm
  |returning=>simp[hmode]
  |panicking c=>simp[hmode]
 rw[hu]
 unfold unwind
 rw[hd]
 simp[Sem.runT_eq,ht,GStep.bare_after]
theorem uq{P:Program}{X:Cx}{h:HF}{cs:List Frame}{Φ : Machine->Prop}:∀(rs:List Nat)(L:LH)(fr:Frame)(w:World),fr.mode≠.run->fr.defers=marks rs->St X h (L++markB rs) w ->
  (∀w',St X h L w'->To P Φ (lone { fr with defers:=[] } cs w'))->To P Φ (lone fr cs w)
 |[],L,fr,w,_,hd,hw,t=>by
  have hfr:{ fr with defers:=[] }=fr:=by
   cases fr;simp only[marks,Zt]at hd;simp_all
  grind [markB]
 |r::rs,L,fr,w,hm,hd,hw,t=>by
  have hb:w.heap[r]? = some (.deferred (some [])):=hw.own (r,.deferred (some [])) (xM _ (by simp[markB]))
  have hi:nth (L++markB (r::rs)) L.length=some (r,.deferred (some [])):=by
   rw[ja];simp[markB]
  have hw2:=hw.write hi (.deferred none)
  have hw3:St X h (L++markB rs) { w with heap:=w.heap.setIfInBounds r (.deferred none) }:=by
   refine hw2.sub ?_
   grind [markB,qh]
  refine .step (H3 (ds:=marks rs) hm (by simpa[marks]using hd) hb) ?_
  exact uq rs L { fr with defers:=marks rs } _ hm rfl hw3 t
section ending
variable {P:Program} {f:FuncId} {n:Nat} {k:List Item} {e:Env} {X:Cx} {h:HF} {L:LH} {R:Ending->HF->LH->Prop} {fn:Func}
theorem yu(rs:List Nat)(hf:P.funcs[f]? = some fn)(hv:∀a:Act,envOf a=e->∀w,St X h L w->(results fn a.tmps).run P w=.ok v w)(hB:∀w,St X h L w->St X h2 B w)(hR:R (.returned v) h2 B):TT P (bodyFrame f) n (.code .ret::k) (lJ P X R) e (marks rs) X h (L++markB rs):=by
 intro w hw a cs Φ hn he hds hF
 obtain⟨c,cs',rfl,h1,_⟩:=hF
 refine .step (stepR_ret rfl) (uq rs L _ w (by simp) hds hw λw' hw'=>?_)
 refine .step (jt (fn:=fn) (v:=v) rfl rfl rfl hf (hv a he w' hw')) ?_
 exact h1 v w' ⟨h2,B,hB w' hw',hR⟩
theorem Rl(rs:List Nat)(hf:P.funcs[f]? = some fn)(hv:∀a:Act,envOf a=e->∀w,St X h L w->(results fn a.tmps).run P w=.ok v w)(hB:∀w,St X h L w->St X h2 B w)(hR:R (.returned v) h2 B):TT P (bodyFrame f) n [] (lJ P X R) e (marks rs) X h (L++markB rs):=by
 intro w hw a cs Φ hn he hds hF
 obtain⟨c,cs',rfl,h1,_⟩:=hF
 refine .step (stepR_end rfl) (uq rs L _ w (by simp) hds hw λw' hw'=>?_)
 refine .step (jt (fn:=fn) (v:=v) rfl rfl rfl hf (hv a he w' hw')) ?_
 exact h1 v w' ⟨h2,B,hB w' hw',hR⟩
theorem MK(rs:List Nat)(hf:P.funcs[f]? = some fn)(hB:∀w,St X h L w->St X h2 B w)(hR:R (.panicked ch) h2 B):
  TP P (bodyFrame f) n ch (lJ P X R) e (marks rs) X h (L++markB rs):=by
 intro w hw a cs Φ todo hn he hds hF
 obtain⟨c,cs',rfl,_,h3⟩:=hF
 refine uq rs L _ w (by simp) hds hw λw' hw'=>?_
 refine .step (step_leave_panicked (P:=P) (fr:={ { (bodyFrame f).atR a todo with mode:=.panicking ch }with defers:=[] }) ⟨rfl,rfl,fn,hf⟩) ?_
 exact h3 ch w' ⟨h2,B,hB w' hw',hR⟩
theorem Hk{F:List Frame->(Machine->Prop)->Prop}(hs:L.Perm L')(t:TP P b n ch F e ds X h L'):TP P b n ch F e ds X h L:=
 λw hw=>t w (hw.perm hs)
theorem EF{F:List Frame->(Machine->Prop)->Prop}(hs:L'.Sublist L)(t:TP P b n ch F e ds X h L'):TP P b n ch F e ds X h L:=
 λw hw=>t w (hw.sub hs)
end ending
theorem Ds{F:List Frame->(Machine->Prop)->Prop}{L:LH}(sl:ι->List (Nat×Value))(dd:ι->List Deferred)(hh:ι->HF)(LL:ι->LH)(I:ι->Prop)(μ : ι->Nat)(i₀ : ι)(hds:ds=dd i₀)(h0:fT e (sl i₀))(hs:∀w,St X h L w->St X (hh i₀) (LL i₀) w)(hI:I i₀)(round:∀i,I i->(∀i' e',μ i'<μ i->I i'->fT e' (sl i')->TT P b n (.inLoop c::k) F e' (dd i') X (hh i') (LL i')) ->
   ∀e,TT P b n (.code c::.inLoop c::k) F (upds e (sl i)) (dd i) X (hh i) (LL i)):
  TT P b n (.code (.loop c)::k) F e ds X h L:=by
 have key:∀m i e',μ i=m->I i->fT e' (sl i)->TT P b n (.code c::.inLoop c::k) F e' (dd i) X (hh i) (LL i):=by
  intro m
  induction m using Za with
  |_ m ih=>
   intro i e' hm hI hr
   have:=round i hI (λi' e'' hlt hI' hr' w hw a cs Φ h1 h2 h3 h4=>.step stepR_inLoop (ih _ (hm▸hlt) i' e'' rfl hI' hr' w hw a cs Φ h1 h2 h3 h4)) e'
   rw[hr.upds]at this
   exact this
 subst hds
 intro w hw a cs Φ h1 h2 h3 h4
 exact .step stepR_loop (key _ i₀ e rfl hI h0 w (hs w hw) a cs Φ h1 h2 h3 h4)
end
variable {G:LH}{R:Rp α}{ty:TypeId}{ys:List α}
section
structure Rp.Good{α : Type}(R:Rp α):Prop where
 mono:R.Mono
 one:∀h cs x,R.rep h cs x->cs.all one=true
 pos:0<R.sz
theorem Rp.fR:Rp.int.Good:=⟨Rp.bG,λ_ _ _ e=>by cases e;rfl,Nat.one_pos⟩
theorem Rp.Fv:Rp.bool.Good:=⟨Rp.sV,λ_ _ _ e=>by cases e;rfl,Nat.one_pos⟩
theorem Rp.TS:Rp.str.Good:=⟨Rp.kv,λ_ _ _ e=>by cases e;rfl,Nat.one_pos⟩
def bW{α : Type}(R:Rp α)(h:HF):List Value->List α->Prop
 |cl,[]=>cl=[]
 |cl,x::xs=>∃cs rest,cl=cs++rest/\cs.length=R.sz/\R.rep h cs x/\bW R h rest xs
section cells
variable {α : Type} {R:Rp α} {h h':HF}
theorem bW.len:∀{xs:List α}{cl:List Value},bW R h cl xs->cl.length=xs.length*R.sz
 |[],cl,e=>by cases e;simp
 |x::xs,cl,⟨cs,rest,e,hl,_,hr⟩=>by subst e;simp[hl,hr.len,Nat.add_mul];omega
theorem bW.mono(hm:R.Mono)(hl:h.le h'):∀{xs:List α}{cl:List Value},bW R h cl xs->bW R h' cl xs
 |[],cl,e=>e
 |x::xs,cl,⟨cs,rest,e,hs,r,hr⟩=>⟨cs,rest,e,hs,hm _ _ _ _ hl r,hr.mono hm hl⟩
theorem bW.app{b:List Value}{ys:List α}(hb:bW R h b ys):∀{xs:List α}{a:List Value},bW R h a xs->bW R h (a++b) (xs++ys)
 |[],a,e=>by cases e;exact hb
 |x::xs,a,⟨cs,rest,e,hs,r,hr⟩=>⟨cs,rest++b,by rw[e,zC],hs,r,bW.app hb hr⟩
theorem bW.Sm(hg:R.Good):∀{xs:List α}{cl:List Value},bW R h cl xs->cl.all one=true
 |[],cl,e=>by cases e;rfl
 |x::xs,cl,⟨cs,rest,e,hs,r,hr⟩=>by subst e;rw[List.all_append,hg.one _ _ _ r,hr.Sm hg];rfl
theorem bW.get:∀{xs:List α}{cl:List Value},bW R h cl xs->∀i x,xs[i]? = some x->∃cs,cs.length=R.sz/\R.rep h cs x/\∀j v,cs[j]? = some v->cl[i*R.sz+j]? = some v
 |[],cl,_,i,x,hx=>by simp at hx
 |y::xs,cl,⟨cs,rest,e,hs,r,hr⟩,0,x,hx=>by
  grind
 |y::xs,cl,⟨cs,rest,e,hs,r,hr⟩,i+1,x,hx=>by
  simp at hx
  subst e
  obtain⟨ds,h1,h2,h3⟩:=hr.get i x hx
  grind
theorem tQ(bk n:Nat):(⟨bk,0,none⟩:Addr).add n=⟨bk,n,none⟩:=by
 by_cases e0:n=0
 .simp[jP,e0]
 .simp[jP,e0]
theorem bW.slB{T:Nat}{sp:List Value}{xs:List α}(hc:bW R h cl xs)(hb:h bk=some (.cells (cl++sp).toArray T fz))(eT:xs.length<=9223372036854775807):SlB R h (some ⟨bk,0,none⟩) xs:=by
 refine⟨eT,?_⟩
 intro i x hx
 obtain⟨cs,h1,h2,h3⟩:=hc.get i x hx
 refine⟨_,cs,rfl,?_,h1,h2⟩
 grind [tQ,At.I4]
theorem bW.WH:∀{xs:List α},SlB R h base xs->∃cl,bW R h cl xs/\∀a,base=some a->xs≠[]->At h a cl:=by
 intro xs hs
 cases hxs:xs with
 |nil=>exact⟨[],rfl,λ_ _ hne=>(hne rfl).elim⟩
 |cons x0 xs0=>
  obtain⟨p,cs0,hp,hA0,_,_⟩:=hs.2 0 x0 (by rw[hxs];rfl)
  subst hp
  have hA0':At h p cs0:=by simpa[jP]using hA0
  obtain⟨arr,T,fz,hb,hsp,_⟩:=hA0'
  have key:∀(ys:List α)(k:Nat),(∀i y,ys[i]? = some y->xs[k+i]? = some y)->∃cl,bW R h cl ys/\∀j v,cl[j]? = some v->arr[p.off+(k*R.sz+j)]? = some v:=by
   intro ys
   induction ys with
   |nil=>intro k _;exact⟨[],rfl,λj v hj=>by simp at hj⟩
   |cons y ys ih=>
    intro k hk
    obtain⟨q,cs,hq,hA,hl,hr⟩:=hs.2 k y (hk 0 y rfl)
    cases hq
    obtain⟨cl,hc,hcl⟩:=ih (k+1) (λi z hz=>by have:=hk (i+1) z (by simpa using hz);rw[show k+1+i=k+(i+1) by omega];exact this)
    refine⟨cs++cl,⟨cs,cl,rfl,hl,hr,hc⟩,λj v hj=>?_⟩
    have hblk:(p.add (k*R.sz)).block=p.block:=by unfold jP;split<;>simp[hsp]
    have hoff:(p.add (k*R.sz)).off=p.off+k*R.sz:=by
     grind [jP]
    obtain⟨arr',T',fz',hb',hsp',hg'⟩:=hA
    grind
  obtain⟨cl,hc,hcl⟩:=key xs 0 (λi y hy=>by simpa using hy)
  refine⟨cl,by rw[←hxs];exact hc,λa ha _=>?_⟩
  cases ha
  exact⟨arr,T,fz,hb,hsp,λj v hj=>by simpa using hcl j v hj⟩
end cells
def di{α : Type}(R:Rp α)(E:TypeId)(h:HF)(xs:List α)(base:Option Addr)(cap:Nat)(G:LH):Prop:=
 (xs=[]/\base=none/\cap=0/\G=[]) \/
 ∃bk cl sp,base=some ⟨bk,0,none⟩/\bW R h cl xs/\(cl++sp).length=cap*R.sz/\xs.length<=cap/\xs.length<=9223372036854775807/\G=[(bk,.cells (cl++sp).toArray E (0,0))]
theorem di.nil:di R E h [] none 0 []:=.inl ⟨rfl,rfl,rfl,rfl⟩
theorem di.mono(g:di R E h xs base cap G)(hm:R.Mono)(hl:h.le h'):di R E h' xs base cap G:=by
 rcases g with g|⟨bk,cl,sp,h1,h2,h3⟩
 .exact .inl g
 .exact .inr ⟨bk,cl,sp,h1,h2.mono hm hl,h3⟩
theorem di.lit(hc:bW R h cl xs)(hl:xs.length=cap)(hb:xs.length<=9223372036854775807:=by simp):di R E h xs (some ⟨bk,0,none⟩) cap [(bk,.cells cl.toArray E (0,0))]:=
 .inr ⟨bk,cl,[],rfl,hc,by simp[hc.len,hl],by omega,hb,by simp⟩
def Src{α : Type}(R:Rp α)(h:HF)(L:LH)(x:Value)(ys:List α):Prop:=
 ∃base c cl,x=.slice base ys.length c/\bW R h cl ys/\(ys≠[]->∃a,base=some a)/\∀X w,St X h L w->∀a,base=some a->∀j u,cl[j]? = some u->w.cell? (a.add j)=some u
theorem iY{L:LH}{c:Nat}(hs:SlB R h base ys):Src R h L (.slice base ys.length c) ys:=by
 obtain⟨cl,hc,hA⟩:=bW.WH hs
 refine⟨base,c,cl,rfl,hc,λhne=>?_,λX w hw a ha j u hj=>?_⟩
 .cases ys with
  |nil=>exact(hne rfl).elim
  |cons y ys=>obtain⟨p,_,hp,_⟩:=hs.2 0 y rfl;exact⟨p,hp⟩
 .have hne:ys≠[]:=by
   intro e;subst e;cases hc;simp at hj
  exact(hA a ha hne).cell hw hj
theorem gQ{L:LH}(i:Nat){T:Nat}{c:Nat}(hL:nth L i=some (bk,.cells cl.toArray T fz))(hc:bW R h cl ys):
  Src R h L (.slice (some ⟨bk,0,none⟩) ys.length c) ys:=
 ⟨_,c,cl,rfl,hc,λ_=>⟨_,rfl⟩,λX w hw a ha j u hj=>by
  cases ha
  rw[tQ]
  exact hw.cell hL (by rw[ja];exact hj)⟩
theorem bW.slB0{T:Nat}(hc:bW R h cl xs)(hb:h bk=some (.cells cl.toArray T fz))(eT:xs.length<=9223372036854775807:=by simp)(hcap:xs.length<=cap:=by simp):SlC R h (some ⟨bk,0,none⟩) cap xs:=
 ⟨bW.slB (sp:=[]) hc (by simpa using hb) eT,hcap⟩
def Rp.sl{α : Type}(R:Rp α):Rp (List α):=⟨1,λh cs xs=>∃b c,cs=[.slice b xs.length c]/\SlC R h b c xs⟩
theorem Rp.BF(hm:R.Mono):(Rp.sl R).Mono:=λ_ _ _ _ hl⟨b,c,e,s⟩=>⟨b,c,e,s.mono hm hl⟩
theorem Rp.Rt(hm:R.Mono):(Rp.sl R).Good:=⟨Rp.BF hm,λ_ _ _⟨_,_,e,_⟩=>by cases e;rfl,Nat.one_pos⟩
theorem BI{L:LH}{x:Value}(s:Src R h L x ys)(hw:St X h L w):
  ∃cl base c,x=.slice base ys.length c/\bW R h cl ys/\(Builtin.firstCells R.sz ys.length x).run P w=.ok cl.toArray w:=by
 obtain⟨base,c,cl,rfl,hc,h1,h2⟩:=s
 refine⟨cl,base,c,rfl,hc,?_⟩
 cases base with
 |none=>
  have:ys=[]:=Classical.byContradiction λhne=>by obtain⟨a,ha⟩:=h1 hne;cases ha
  subst this;cases hc
  simp[Builtin.firstCells]
 |some a=>exact run_firstCells_some w _ _ a _ _ cl hc.len (h2 X w hw a rfl)
theorem RL(a:List α)(x:α)(b:List α):nth (a++x::b) a.length=some x:=by rw[ja];simp
theorem Ic(a:List α)(x y:α)(b:List α):setNth (a++x::b) a.length y=a++y::b:=by rw[qh];simp
def bytesOf(P:Program)(E:TypeId):Option Nat:=(P.info? E).map (·.bytes)
theorem BE(vs:List Value):∀(cl sp:List Value),vs.length<=sp.length->splice (cl++sp) cl.length vs=cl++(vs++sp.drop vs.length):=by
 induction vs with
 |nil=>intro cl sp _;simp[splice]
 |cons v vs ih=>
  intro cl sp hl
  cases sp with
  |nil=>simp at hl
  |cons s sp=>
   simp only[splice]
   have:=ih (cl++[v]) sp (by simpa using hl)
   simp only[qh,kA,xA,xB,zC,jK,qD]at this ⊢
   grind
theorem Qp(hg:R.Good)(A Q:LH){t:TypeId}{x:Value}{yt:Nat}(hw:St X h (A++(G++Q)) w)(hT:P.underlying t=some (.slice E))(hS:tySz P E=some (R.sz,a))(hz:zeroC P E=some zs)(hzl:zs.length=R.sz)(hby:bytesOf P E=some yt)(hG:di R E h xs base cap G)(hsrc:Src R h (A++(G++Q)) x ys)(hb:(xs.length+ys.length)*yt<=140737488355328)(hb2:xs.length+ys.length<=9223372036854775807):
  ∃base' cap' G' w',(Builtin.append_ #[t,t] ty #[.slice base xs.length cap,x]).run P w=.ok (.slice base' (xs++ys).length cap') w'/\di R E h (xs++ys) base' cap' G'/\St X h (A++(G'++Q)) w':=by
 obtain⟨i,hi,hby'⟩:∃i,P.info? E=some i/\i.bytes=yt:=by
  unfold bytesOf at hby
  cases hi:P.info? E with
  |none=>simp[hi]at hby
  |some i=>exact⟨i,rfl,by simpa[hi]using hby⟩
 have hsz:i.size=R.sz:=by
  have:=iP hS w
  simpa[sizeOf,typeInfo,hi]using this
 obtain⟨z,hzz,hzc⟩:∃z,i.zero=some z/\z.cells=zs.toArray:=by
  unfold zeroC at hz
  cases hzz:i.zero with
  |none=>simp[hi,hzz]at hz
  |some z=>exact⟨z,rfl,by simp[hi,hzz]at hz;rw[oh,hz]⟩
 have hnewlen:(xs++ys).length=xs.length+ys.length:=by simp
 obtain⟨cl,bs,c,hx,hc,hf⟩:=BI (P:=P) hsrc hw
 by_cases hroom:xs.length+ys.length<=cap
 ·
  rcases hG with⟨rfl,rfl,rfl,rfl⟩|⟨bk,cl0,sp,rfl,hc0,hlen,eT,_,rfl⟩
  .have hy:ys=[]:=List.eq_nil_of_length_eq_zero (by simpa using hroom)
   subst hy
   cases hc
   refine⟨none,0,[],w,?_,di.nil,by simpa using hw⟩
   subst hx
   rw[←hsz]at hf
   simp[Builtin.append_,run_underlying hT,sizeOf,typeInfo,hi,Builtin.lenOf,hf]at hf ⊢
  .have hlcl:=hc.len
   have hl0:=hc0.len
   have hfit:cl.length<=sp.length:=by
    simp only[kA]at hlen
    have:(xs.length+ys.length)*R.sz<=cap*R.sz:=Nat.mul_le_mul_right _ hroom
    rw[Nat.add_mul]at this
    omega
   have hown:w.heap[bk]? = some (.cells (cl0++sp).toArray E (0,0)):=hw.own (bk,_) (by simp)
   have hst:=oN (P:=P) (T:=E) (xs.length*R.sz) cl 0 (cl0++sp) w hown (by simp;omega) (by simpa using hc.Sm hg)
   simp only[ZS]at hst
   have hwr:=hw.write (i:=A.length) (b:=bk) (o:=.cells (cl0++sp).toArray E (0,0)) (by simpa using RL A _ Q) (.cells (splice (cl0++sp) (xs.length*R.sz) cl).toArray E (0,0))
   refine⟨some ⟨bk,0,none⟩,cap,[(bk,.cells (splice (cl0++sp) (xs.length*R.sz) cl).toArray E (0,0))],{ w with heap:=w.heap.setIfInBounds bk (.cells (splice (cl0++sp) (xs.length*R.sz) cl).toArray E (0,0)) },?_,?_,?_⟩
   .subst hx
    rw[←hsz]at hf hst ⊢
    simp[Builtin.append_,run_underlying hT,sizeOf,typeInfo,hi,Builtin.lenOf,hf,hroom,tQ,hst]
   .have hsp:=BE cl cl0 sp hfit
    rw[hl0]at hsp
    refine .inr ⟨bk,cl0++cl,sp.drop cl.length,rfl,bW.app hc hc0,?_,by simpa using hroom,by simpa using hb2,?_⟩
    .simp only[kA,List.length_drop]at hlen ⊢;omega
    .rw[hsp];simp
   .have:=Ic A (bk,vG (cl0++sp).toArray E (0,0)) (bk,.cells (splice (cl0++sp) (xs.length*R.sz) cl).toArray E (0,0)) Q
    simp only[jK,qD]at hwr ⊢
    rw[this]at hwr
    exact hwr
 ·
  have hcap:cap<xs.length+ys.length:=by omega
  have hwd:St X h (A++(G++Q)) w.drew:=hw.drew _
  obtain⟨cl0,hc0,hf0⟩:∃cl0,bW R h cl0 xs/\(Builtin.firstCells R.sz xs.length (.slice base xs.length cap)).run P w.drew=.ok cl0.toArray w.drew:=by
   rcases hG with⟨rfl,rfl,rfl,rfl⟩|⟨bk,cl0,sp,rfl,hc0,hlen,eT,_,rfl⟩
   .exact⟨[],rfl,by simp[Builtin.firstCells]⟩
   .refine⟨cl0,hc0,run_firstCells_some _ _ _ _ _ _ _ hc0.len λj v hj=>?_⟩
    have hown:w.drew.heap[bk]? = some (.cells (cl0++sp).toArray E (0,0)):=hwd.own (bk,_) (by simp)
    have hlt:=(List.getElem?_eq_some_iff.1 hj).1
    rw[tQ]
    simp only[YZ,hown]
    simp[List.getElem?_append_left hlt,hj]
  obtain⟨cl',_,_,hx',hc',hf'⟩:=BI (P:=P) hsrc hwd
  have hfit:Builtin.nextslicecap (xs.length+ys.length) cap*i.bytes<=281474976710656:=growslice_fits hcap (by rw[hby'];exact hb)
  have h48':¬(281474976710656<Builtin.nextslicecap (xs.length+ys.length) cap*i.bytes):=by omega
  have h63':¬(9223372036854775807<((xs.length:Int)+(ys.length:Int))):=by omega
  have hge:=grownCap_ge w (xs.length+ys.length) cap E
  let nc:=grownCap w (xs.length+ys.length) cap E
  let rest:=(Builtin.zeroCells z.cells (nc-(xs.length+ys.length))).toList
  refine⟨some ⟨w.heap.size,0,none⟩,nc,[(w.heap.size,.cells ((cl0++cl')++rest).toArray E (0,0))],w.drew.alloc (.cells ((cl0++cl')++rest).toArray E),?_,?_,?_⟩
  .subst hx
   rw[←hsz]at hf0 hf'
   simp[Builtin.append_,run_underlying hT,sizeOf,typeInfo,zeroValue,hi,hzz,Builtin.lenOf,hroom,h63',h48',Question.forced,hf0,hf',newRow,grownCap,nc,rest]
   congr 2
   apply qV
   simp
  .refine .inr ⟨w.heap.size,cl0++cl',rest,rfl,bW.app hc' hc0,?_,by rw[hnewlen];exact hge,by rw[hnewlen];exact hb2,rfl⟩
   have:rest.length=(nc-(xs.length+ys.length))*R.sz:=by
    simp[rest,Builtin.zeroCells,hzc,hzl]
   simp only[kA,this,hc0.len,hc'.len,←Nat.add_mul]
   congr 1
   omega
  .have h1:=hwd.alloc (.cells ((cl0++cl')++rest).toArray E (0,0))
   have hsub:((w.heap.size,vG ((cl0++cl')++rest).toArray E (0,0))::(A++Q)).Sublist ((w.heap.size,vG ((cl0++cl')++rest).toArray E (0,0))::(A++(G++Q))):=
    .cons_cons _ ((List.Sublist.refl A).append (List.sublist_append_right G Q))
   have h2:=h1.sub hsub
   exact h2.perm (List.perm_middle.symm)
section step
variable {P:Program} {b:Frame} {n:Nat} {ops:Array Oper} {F:List Frame->(Machine->Prop)->Prop} {e:Env} {ds:List Deferred} {X:Cx} {h:HF} {L:LH} {K:Env->HF->LH->Prop}
variable {d:Option Nat} {ty:TypeId} {pos:String} {af:Array Edge} {g:Option (Nat×Bool)}
theorem dN(hg:R.Good)(A Q:LH)(LL:LH->LH){t:TypeId}{s:Operand}{m yt:Nat}(hL:L=A++(G++Q))(hLL:∀G',A++(Q++G')=LL G')(hT:P.underlying t=some (.slice E))(hS:tySz P E=some (R.sz,a))(hz:zeroC P E=some zs)(hzl:zs.length=R.sz)(hby:bytesOf P E=some yt)(hG:di R E h xs base cap G)(hx:e.ev s=.slice base m cap)(hm:m=xs.length)(hsrc:Src R h L (e.ev y) ys)(hb:(xs.length+ys.length)*yt<=140737488355328)(hb2:xs.length+ys.length<=9223372036854775807)(t':∀base' cap' G',di R E h (xs++ys) base' cap' G'->K (pute e d (.slice base' (xs++ys).length cap')) h (LL G'))(hgd:guardB ops e ⟨d,.call ⟨.builtin .append,#[s,y],#[t,t]⟩,ty,pos,af,g⟩=true:=by rfl):Stp P b n ops F ds X ⟨d,.call ⟨.builtin .append,#[s,y],#[t,t]⟩,ty,pos,af,g⟩ e h L K:=
 kn hgd λw hw=>by
  subst hL hm
  obtain⟨base',cap',G',w',hr,hG',hst⟩:=Qp (P:=P) (ty:=ty) hg A Q hw hT hS hz hzl hby hG hsrc hb hb2
  refine⟨_,w',h,_,?_,(hLL G')▸hst.perm (List.Perm.append_left A zD),t' _ _ _ hG'⟩
  simp[execOp,resolve,invoke,builtin,hx,hr]
end step
end
variable {hh:HF}{r:List α}{rs:List ResultVar}
section
def HF.addAll(h:HF):LH->HF
 |[]=>h
 |(b,o)::L=>(h.add b o).addAll L
theorem St.freezeAll{X:Cx}(hM:X.M=[]){w:World}:∀{G Q:LH}{h:HF},St X h (G++Q) w->St X (h.addAll G) Q w/\h.le (h.addAll G)/\∀p∈G,(h.addAll G) p.1=some p.2
 |[],Q,h,s=>⟨s,h.le_refl,λp hp=>(vA hp).elim⟩
 |(b,o)::G,Q,h,s=>by
  have hfr:=s.free (b,o) (by simp)
  obtain⟨h1,h2,h3⟩:=St.freezeAll hM (G:=G) (Q:=Q) (s.freeze (by rw[hM];simp))
  refine⟨h1,HF.le_trans (HF.C3 hfr) h2,λp hp=>?_⟩
  rcases vC.1 hp with rfl|hp
  .exact h2 _ _ (HF.yn _ _ _)
  .exact h3 p hp
theorem di.frozen(hm:R.Mono)(g:di R E h xs base cap G)(hl:h.le h2)(hG:∀p∈G,h2 p.1=some p.2):SlC R h2 base cap xs:=by
 rcases g with⟨rfl,_⟩|⟨bk,cl,sp,rfl,hc,_,hcap,hb,rfl⟩
 .exact SlC.nil
 .exact⟨(hc.mono hm hl).slB (hG _ (kB.2 rfl)) hb,hcap⟩
theorem di.bound(g:di R E h xs base cap G):xs.length<=9223372036854775807:=by
 rcases g with⟨rfl,_⟩|⟨bk,cl,sp,rfl,hc,_,_,h1,rfl⟩
 .simp
 .exact h1
section freeze
variable {P:Program} {b:Frame} {n:Nat} {k:List Item} {F:List Frame->(Machine->Prop)->Prop} {e:Env} {ds:List Deferred} {X:Cx} {h:HF} {L:LH} {ops:Array Oper} {l:List Oper}
theorem St.freezeMid(hM:X.M=[]){Q:LH}(s:St X h (A++(G++Q)) w):St X (h.addAll G) (A++Q) w/\h.le (h.addAll G)/\∀p∈G,(h.addAll G) p.1=some p.2:=
 St.freezeAll hM (s.perm (by rw[←zC,←zC];exact List.perm_append_comm.append_right Q))
theorem jz(hm:R.Mono)(A G Q:LH)(hL:L=A++(G++Q))(hM:X.M=[])(hG:di R E h xs base cap G)(t:∀h2,h.le h2->SlC R h2 base cap xs->TT P b n todo F e ds X h2 (A++Q)):TT P b n todo F e ds X h L:=by
 subst hL
 intro w hw
 obtain⟨h1,h2,h3⟩:=hw.freezeMid hM
 exact t _ h2 (hG.frozen hm h2 h3) w h1
theorem sP(hm:R.Mono)(A G Q:LH)(hL:L=A++(G++Q))(hM:X.M=[])(hG:di R E h xs base cap G)(t:∀h2,h.le h2->SlC R h2 base cap xs->TO P b n ops l k F e ds X h2 (A++Q)):TO P b n ops l k F e ds X h L:=by
 subst hL
 intro w hw
 obtain⟨h1,h2,h3⟩:=hw.freezeMid hM
 exact t _ h2 (hG.frozen hm h2 h3) w h1
def dropNth{α : Type}:List α->Nat->List α
 |[],_=>[]
 |_::l,0=>l
 |x::l,i+1=>x::dropNth l i
theorem qo{α : Type}:∀(l:List α)(i:Nat)(x:α),nth l i=some x->l.Perm (x::dropNth l i)
 |[],_,_,h=>by simp[nth]at h
 |y::l,0,x,h=>by simp[nth]at h;subst h;exact List.Perm.refl _
 |y::l,i+1,x,h=>(List.Perm.cons y (qo l i x h)).trans (List.Perm.swap x y _)
theorem dV(i:Nat)(hi:nth L i=some (bk,o))(hM:X.M=[])(t:∀h2,h.le h2->h2 bk=some o->TO P b n ops l k F e ds X h2 (dropNth L i)):TO P b n ops l k F e ds X h L:=by
 intro w hw
 have h1:=hw.perm (qo L i _ hi)
 exact t _ (HF.C3 (h1.free (bk,o) (by simp))) (HF.yn _ _ _) w (h1.freeze (by rw[hM];simp))
theorem fK(i:Nat)(hi:nth L i=some (bk,o))(hM:X.M=[])(t:∀h2,h.le h2->h2 bk=some o->TT P b n todo F e ds X h2 (dropNth L i)):TT P b n todo F e ds X h L:=by
 intro w hw
 have h1:=hw.perm (qo L i _ hi)
 exact t _ (HF.C3 (h1.free (bk,o) (by simp))) (HF.yn _ _ _) w (h1.freeze (by rw[hM];simp))
theorem Ws(hs:L'.Sublist L)(t:TO P b n ops l k F e ds X h L'):TO P b n ops l k F e ds X h L:=
 λw hw=>t w (hw.sub hs)
end freeze
def retVal:List Value->Value
 |[v]=>v
 |vs=>.tuple vs.toArray
def qy(P:Program)(e:Env)(L:LH):List ResultVar->List Value->Prop
 |[],[]=>True
 |.tmp t::rs,v::vs=>e t=v/\qy P e L rs vs
 |.cell a ty::rs,v::vs=>(∃i bk cl T fz,nth L i=some (bk,.cells cl.toArray T fz)/\e a=.pointer (some ⟨bk,0,none⟩)/\((tySz P ty=some (cl.length,true)/\v=.agg cl.toArray)\/∃m,tySz P ty=some (m,false)/\cl=[v]))/\qy P e L rs vs
 |_,_=>False
theorem oP{L:LH}(hr:fn.results=rs.toArray)(hv:qy P e L rs vs)(a:Act)(he:envOf a=e)(w:World)(hw:St X h L w):
  (results fn a.tmps).run P w=.ok (retVal vs) w:=by
 have key:∀(f:ResultVar->Sem Value),(∀t,f (.tmp t)=pure (a.tmps.getD t undef))->(∀x t,f (.cell x t)=do loadVar t (←asAddr (a.tmps.getD x undef))) ->
   ∀(rs:List ResultVar)(vs:List Value),qy P e L rs vs->(rs.mapM f:Sem (List Value)).run P w=.ok vs w:=by
  intro f hf1 hf2 rs
  induction rs with
  |nil=>intro vs hv;cases vs with
   |nil=>simp
   |cons _ _=>exact hv.elim
  |cons r rs ih=>
   intro vs hv
   cases vs with
   |nil=>cases r<;>exact hv.elim
   |cons v vs=>
    cases r with
    |tmp t=>
     obtain⟨h1,h2⟩:=hv
     have:a.tmps.getD t undef=v:=by rw[←h1,←he];rfl
     simp[ih vs h2,this,kL,hf1]
    |cell x ty=>
     obtain⟨⟨i,bk,cl,T,fz,hL,hx,hc⟩,h2⟩:=hv
     have hax:a.tmps.getD x undef=.pointer (some ⟨bk,0,none⟩):=by rw[←hx,←he];rfl
     have hl:(loadVar ty ⟨bk,0,none⟩).run P w=.ok v w:=by
      rcases hc with⟨hT,rfl⟩|⟨m,hT,rfl⟩
      .refine rP hT λj u hj=>?_
       rw[tQ]
       exact hw.cell hL (by rw[ja];exact hj)
      .exact rQ hT (hw.cell hL rfl)
     simp[ih vs h2,hf2,hax,asAddr,hl,kL]
 have h2:∀(f:ResultVar->Sem Value),(∀t,f (.tmp t)=pure (a.tmps.getD t undef))->(∀x t,f (.cell x t)=do loadVar t (←asAddr (a.tmps.getD x undef)))->(fn.results.mapM f:Sem (Array Value)).run P w=.ok vs.toArray w:=by
  intro f hf1 hf2
  rw[hr]
  have:(rs.toArray.mapM f:Sem (Array Value))=vB <$> (rs.mapM f:Sem (List Value)):=by
   rw[←List.mapM_toArray]
  rw[this,Sem.run_map,key f hf1 hf2 rs vs hv]
  rfl
 unfold results
 rw[kL]
 refine(congrArg (λr=>Result.andThen r _) (h2 _ (λ_=>rfl) (λ_ _=>rfl))).trans ?_
 simp only[xK,Yy]
 congr 1
 cases vs with
 |nil=>rfl
 |cons v vs=>cases vs with
  |nil=>rfl
  |cons u vs=>simp[retVal]
abbrev j0(P:Program)(f:FuncId)(args:List Value)(h:HF)(φ : Value->HF->Prop):Prop:=qf P f args.toArray h [] (λx h' B=>B=[]/\∃v,x=.returned v/\φ v h')
abbrev Wo(P:Program)(f:Value)(args:List Value)(h:HF)(φ : Value->HF->Prop):Prop:=n0 P f args.toArray h [] (λx h' B=>B=[]/\∃v,x=.returned v/\φ v h')
section ends
variable {P:Program} {f:FuncId} {n:Nat} {k:List Item} {e:Env} {X:Cx} {h:HF} {L:LH} {fn:Func} {φ : Value->HF->Prop}
theorem mK(vs:List Value)(hf:P.funcs[f]? = some fn)(hr:fn.results=rs.toArray)(hv:qy P e L rs vs)(hφ : φ (retVal vs) h):
  TT P (bodyFrame f) n (.code .ret::k) (lJ P X (λx h' B=>B=[]/\∃v,x=.returned v/\φ v h')) e [] X h L:=
 ra (v:=retVal vs) hf (λa he w hw=>oP hr hv a he w hw) (λ_ hw=>hw.sub (List.nil_sublist _)) ⟨rfl,_,rfl,hφ⟩
theorem wk(vs:List Value)(hf:P.funcs[f]? = some fn)(hr:fn.results=rs.toArray)(hX:X.h0=hh)(hv:qy P e L rs vs)(hvv:retVal vs=v):
  TT P (bodyFrame f) n (.code .ret::k) (lJ P X (λx h' B=>x=.returned v/\h'=hh/\B=[])) e [] X h L:=
 ra (v:=v) hf (λa he w hw=>hvv▸oP hr hv a he w hw) (λ_ hw=>hw.forget) ⟨rfl,hX,rfl⟩
end ends
section steps
variable {P:Program} {b:Frame} {n:Nat} {ops:Array Oper} {F:List Frame->(Machine->Prop)->Prop} {e:Env} {ds:List Deferred} {X:Cx} {h:HF} {L:LH} {K:Env->HF->LH->Prop}
variable {d:Option Nat} {ty:TypeId} {pos:String} {af:Array Edge} {g:Option (Nat×Bool)}
theorem eb{φ:Value->HF->Prop}(hc:∀args w,(callFunc f args).run P w=.ok (.enter f args) w)(hs:j0 P f vs h φ)(hvs:a5_.toList.map e.ev=vs)(t':∀v h',h.le h'->φ v h'->K (pute e d v) h' L)(hg:guardB ops e ⟨d,.call ⟨.value (.func f),a5_,ats⟩,ty,pos,af,g⟩=true:=by rfl):
  Stp P b n ops F ds X ⟨d,.call ⟨.value (.func f),a5_,ats⟩,ty,pos,af,g⟩ e h L K:=
 pG (A:=[]) (Fr:=L) hc hvs hs rfl (λv' h' B eT hR=>by
   obtain⟨rfl,v,hv,hφ⟩:=hR
   cases hv
   exact t' _ h' eT hφ)
  (λch h' B _ hR=>by obtain⟨_,v,h1,_⟩:=hR;cases h1) hg
def nthI{α : Type}[Inhabited α](xs:List α)(z:Int):α:=xs.getD z.toNat default
theorem eu[Inhabited α](hz:0<=z/\z<(xs.length:Int)):xs[z.toNat]? = some (nthI xs z):=by
 have:z.toNat<xs.length:=by omega
 simp[nthI,List.getD_eq_getElem?_getD,this]
theorem lu[Inhabited α](hz:0<=z/\z<(xs.length:Int)):nthI xs z∈xs:=kD (eu hz)
theorem ky[Inhabited α]{x:α}(h:xs[i]? = some x):nthI xs (i:Int)=x:=by grind [nthI]
theorem Ry{t:TypeId}{m:Nat}{y:α}(hT:P.underlying t=some (.slice E))(hS:tySz P E=some (R.sz,a))(hR:SlB R h base xs)(hz:0<=z/\z<(xs.length:Int))(hj:xs[z.toNat]? = some y)(hx:e.ev x=.slice base m cap)(hm:m=xs.length)(hix:e.ev ix=.int .i64 z)(t':∀q cs,At h q cs->cs.length=R.sz->R.rep h cs y->K (pute e d (.pointer (some q))) h L)(hg:guardB ops e ⟨d,.indexAddr t x ix,ty,pos,af,g⟩=true:=by rfl):Stp P b n ops F ds X ⟨d,.indexAddr t x ix,ty,pos,af,g⟩ e h L K:=by
 obtain⟨p,cs,rfl,hA,hl,hr⟩:=hR.2 z.toNat y hj
 have hzz:z=(z.toNat:Int):=by omega
 rw[hzz]at hix
 exact fU (FO hT hS hx hix (by omega)) (t' _ cs hA hl hr) hg
theorem tW{enc:α->List Value}{t:TypeId}{m:Nat}{y:α}(hR':∀h cs x,R.rep h cs x->cs=enc x)(hT:P.underlying t=some (.slice E))(hS:tySz P E=some (R.sz,a))(hR:SlB R h base xs)(hz:0<=z/\z<(xs.length:Int))(hj:xs[z.toNat]? = some y)(hx:e.ev x=.slice base m cap)(hm:m=xs.length)(hix:e.ev ix=.int .i64 z)(t':∀q,At h q (enc y)->K (pute e d (.pointer (some q))) h L)(hg:guardB ops e ⟨d,.indexAddr t x ix,ty,pos,af,g⟩=true:=by rfl):Stp P b n ops F ds X ⟨d,.indexAddr t x ix,ty,pos,af,g⟩ e h L K:=
 Ry hT hS hR hz hj hx hm hix (λq cs hA _ hr=>t' q (hR' _ _ _ hr▸hA)) hg
end steps
theorem rm(h:xs.drop i=[]):decide ((i:Int)<(xs.length:Int))=false:=by
 have:=List.drop_eq_nil_iff.1 h
 rw[decide_eq_false_iff_not];omega
theorem kl{x:α}(h:xs.drop i=x::r):i<xs.length:=by
 rcases vR i xs.length with q|q
 .exact q
 .rw[List.drop_eq_nil_of_le q]at h;cases h
theorem Bs{x:α}(h:xs.drop i=x::r):decide ((i:Int)<(xs.length:Int))=true:=by
 have:=kl h
 rw[decide_eq_true_iff];omega
theorem sR{x:α}(h:xs.drop i=x::r):xs[i]? = some x:=by
 have:=congrArg List.head? h
 rw[List.head?_drop]at this
 simpa using this
theorem nl{x:α}(h:xs.drop i=x::r):xs.drop (i+1)=r:=by
 rw[←List.drop_drop,h];rfl
theorem fe{x:α}(h:xs.drop i=x::r):x∈xs:=
 kD (sR h)
theorem NX(hb:i<9223372036854775807):jC .i64 (IntKind.i64.wrap ((i:Int)+1))=.int .i64 (((i+1:Nat)):Int):=by grind [nv]
theorem bt{c:Bool}{x y:α}(h:c=true):(bif c then x else y)=x:=by rw[h];rfl
theorem bf{c:Bool}{x y:α}(h:c=false):(bif c then x else y)=y:=by rw[h];rfl
theorem nthZ{x:α}(h:xs[i]? = some x):0<=(i:Int)/\(i:Int)<(xs.length:Int):=by grind
theorem jk{x:α}(h:xs[i]? = some x):xs[(i:Int).toNat]? = some x:=by
 simpa using h
theorem km{F:List Frame->(Machine->Prop)->Prop}{L:LH}(sl:ι->List (Nat×Value))(hh:ι->HF)(LL:ι->LH)(I:ι->Prop)(hk:∀i,I i->∀e',TT P b n k F (upds e' (sl i)) ds X (hh i) (LL i))(hb:(∀i e',I i->fT e' (sl i)->TT P b n k F e' ds X (hh i) (LL i))->TT P b n (.code c::.inBlock id::k) F e ds X h L):TT P b n (.code (.block id c)::k) F e ds X h L:=by grind [nI,Ot]
theorem OG(s:SlB R h base xs)(l:Nat):SlB R h (base.map (·.add (l*R.sz))) (xs.drop l):=by
 refine⟨zN (by simp) s.1,λi x hx=>?_⟩
 rw[List.getElem?_drop]at hx
 obtain⟨p,cs,rfl,hA,h1,h2⟩:=s.2 _ x hx
 have hsp:p.spot=none:=by
  cases hxs:xs with
  |nil=>rw[hxs]at hx;simp at hx
  |cons y ys=>
   obtain⟨p',_,hp,⟨_,_,_,_,h3,_⟩,_,_⟩:=s.2 0 y (by rw[hxs];rfl)
   cases hp
   simpa[jP]using h3
 refine⟨_,cs,rfl,?_,h1,h2⟩
 grind [zh]
theorem OF(s:SlB R h base xs)(l:Nat):SlB R h base (xs.take l):=by
 refine⟨zN (by simp;omega) s.1,λi x hx=>?_⟩
 rw[List.getElem?_take]at hx
 split at hx
 .exact s.2 i x hx
 .cases hx
section slices
variable {P:Program} {b:Frame} {n:Nat} {ops:Array Oper} {F:List Frame->(Machine->Prop)->Prop} {e:Env} {ds:List Deferred} {X:Cx} {h:HF} {L:LH} {K:Env->HF->LH->Prop}
variable {d:Option Nat} {ty:TypeId} {pos:String} {af:Array Edge} {g:Option (Nat×Bool)}
theorem T2{t:TypeId}{lo:Operand}{m:Nat}(hT:P.underlying t=some (.slice E))(hS:tySz P E=some (R.sz,a))(hR:SlB R h base xs)(hcap:xs.length<=cap)(hz:0<=z/\z<=(xs.length:Int))(hx:e.ev x=.slice base m cap)(hm:m=xs.length)(hlo:e.ev lo=.int .i64 z)(t':∀base' cap',SlC R h base' cap' (xs.drop z.toNat)->K (pute e d (.slice base' (xs.drop z.toNat).length cap')) h L)(hg:guardB ops e ⟨d,.slice t x (some lo) none none,ty,pos,af,g⟩=true:=by rfl):Stp P b n ops F ds X ⟨d,.slice t x (some lo) none none,ty,pos,af,g⟩ e h L K:=by
 subst hm
 have hz2:0<=z/\z<=(xs.length:Int):=hz
 have hs:SlB R h (if cap=z.toNat then base else base.map (·.add (z.toNat*R.sz))) (xs.drop z.toNat):=by
  grind [SlB.nil,OG]
 have hl:xs.length-z.toNat=(xs.drop z.toNat).length:=by simp
 refine fU (v:=.slice (if cap=z.toNat then base else base.map (·.add (z.toNat*R.sz))) (xs.drop z.toNat).length (cap-z.toNat)) (λw hw=>?_) (t' _ (cap-z.toNat) ⟨hs,by rw[←hl];omega⟩) hg
 simp[execOp,Instr.sliceAt,Instr.slice,Instr.sliceBounds,Instr.sliceBound,hx,hlo,asIntOf,run_underlying hT,iP hS,hz2]
theorem T0{t:TypeId}{hi:Operand}{m:Nat}(hT:P.underlying t=some (.slice E))(hS:tySz P E=some (R.sz,a))(hR:SlB R h base xs)(hcap:xs.length<=cap)(hz:0<=z/\z<=(xs.length:Int))(hx:e.ev x=.slice base m cap)(hm:m=xs.length)(hhi:e.ev hi=.int .i64 z)(t':∀base' cap',SlC R h base' cap' (xs.take z.toNat)->K (pute e d (.slice base' (xs.take z.toNat).length cap')) h L)(hg:guardB ops e ⟨d,.slice t x none (some hi) none,ty,pos,af,g⟩=true:=by rfl):Stp P b n ops F ds X ⟨d,.slice t x none (some hi) none,ty,pos,af,g⟩ e h L K:=by
 subst hm
 have hz2:0<=z/\z<=(cap:Int):=by omega
 have hl:z.toNat=(xs.take z.toNat).length:=by simp;omega
 refine fU (v:=.slice base (xs.take z.toNat).length cap) (λw hw=>?_) (t' _ cap ⟨OF hR _,by rw[←hl];omega⟩) hg
 rw[←hl]
 by_cases h0:cap=0
 .have hz0:z=0:=by omega
  subst hz0
  simp[execOp,Instr.sliceAt,Instr.slice,Instr.sliceBounds,Instr.sliceBound,hx,hhi,asIntOf,run_underlying hT,iP hS,hz2,h0]
 .simp[execOp,Instr.sliceAt,Instr.slice,Instr.sliceBounds,Instr.sliceBound,hx,hhi,asIntOf,run_underlying hT,iP hS,hz2,h0,jP]
end slices
end
variable {af:Array Edge}{g:Option (Nat×Bool)}{pos:String}
section
theorem D5{K L:LH}(hs:K.Sublist L):Jst h K h L:=⟨HF.le_refl h,λ_ hp=>hs.subset hp⟩
section
variable {P:Program} {b:Frame} {n:Nat} {ops:Array Oper} {k:List Item} {F:List Frame->(Machine->Prop)->Prop} {ds:List Deferred} {X:Cx}
theorem Stp.mono{o:Oper}{L:LH}{K':Env->HF->LH->Prop}(hk:∀e' h' L',K e' h' L'->K' e' h' L')(s:Stp P b n ops F ds X o e h L K):Stp P b n ops F ds X o e h L K':=by
 unfold Stp at s ⊢
 grind [zX.mono]
theorem SA{o:Oper}{L:LH}(i:Nat){ob:Obj}(hi:nth L i=some (bk,ob))(hM:X.M=[])(t:∀h2,h.le h2->h2 bk=some ob->Stp P b n ops F ds X o e h2 (dropNth L i) K)(hg:guardB ops e o=true:=by rfl):Stp P b n ops F ds X o e h L K:=by
 unfold Stp
 rw[if_pos hg]
 intro w hw
 have h1:=hw.perm (qo L i _ hi)
 have:=t _ (HF.C3 (h1.free (bk,ob) (by simp))) (HF.yn _ _ _)
 unfold Stp at this
 rw[if_pos hg]at this
 exact this w (h1.freeze (by rw[hM];simp))
theorem nD{o:Oper}{L:LH}(hm:R.Mono)(A G Q:LH)(hL:L=A++(G++Q))(hM:X.M=[])(hG:di R E h xs base cap G)(t:∀h2,h.le h2->SlC R h2 base cap xs->Stp P b n ops F ds X o e h2 (A++Q) K)(hg:guardB ops e o=true:=by rfl):Stp P b n ops F ds X o e h L K:=by
 subst hL
 unfold Stp
 rw[if_pos hg]
 intro w hw
 obtain⟨h1,h2,h3⟩:=hw.freezeMid hM
 have:=t _ h2 (hG.frozen hm h2 h3)
 unfold Stp at this
 rw[if_pos hg]at this
 exact this w h1
theorem xq{h1:HF}{K K2:LH}(eT:h1.le h2)(hK:∀p∈K,p∈K2):∀{m:Nat}{dn:List Nat}{e:Env}{h:HF}{L:LH},TA P b n ops k F ds X (Jst h2 K2) m dn e h L->TA P b n ops k F ds X (Jst h1 K) m dn e h L:=by
 intro m
 induction m with
 |zero=>intro dn e h L t;exact t
 |succ m ih=>
  intro dn e h L t
  refine⟨t.1,λi hi o ho=>Stp.mono ?_ (t.2 i hi o ho)⟩
  rintro e' h' L' ⟨j,t'⟩
  exact⟨⟨HF.le_trans eT j.1,λp hp=>j.2 p (hK p hp)⟩,ih t'⟩
theorem np{m:Nat}{L:LH}(i j:Nat){o1 o2:Oper}(hn:nexts l.toArray dn=[i,j])(h1:nth l i=some o1)(h2:nth l j=some o2)(t1:Stp P b n l.toArray F ds X o1 e h L λe' h' L'=>J h' L'/\TA P b n l.toArray k F ds X J m (i::dn) e' h' L')(t2:Stp P b n l.toArray F ds X o2 e h L λe' h' L'=>J h' L'/\TA P b n l.toArray k F ds X J m (j::dn) e' h' L'):TA P b n l.toArray k F ds X J (m+1) dn e h L:=
 Rq [i,j] hn (by simp) (λx hx o ho=>by
  simp only[vC,vA,or_false]at hx
  rcases hx with rfl|rfl
  .rw[h1]at ho;cases ho;exact t1
  .rw[h2]at ho;cases ho;exact t2)
theorem TN{m:Nat}{L:LH}(i j q:Nat){o1 o2 o3:Oper}(hn:nexts l.toArray dn=[i,j,q])(h1:nth l i=some o1)(h2:nth l j=some o2)(h3:nth l q=some o3)(t1:Stp P b n l.toArray F ds X o1 e h L λe' h' L'=>J h' L'/\TA P b n l.toArray k F ds X J m (i::dn) e' h' L')(t2:Stp P b n l.toArray F ds X o2 e h L λe' h' L'=>J h' L'/\TA P b n l.toArray k F ds X J m (j::dn) e' h' L')(t3:Stp P b n l.toArray F ds X o3 e h L λe' h' L'=>J h' L'/\TA P b n l.toArray k F ds X J m (q::dn) e' h' L'):TA P b n l.toArray k F ds X J (m+1) dn e h L:=
 Rq [i,j,q] hn (by simp) (λx hx o ho=>by
  simp only[vC,vA,or_false]at hx
  rcases hx with rfl|rfl|rfl
  .rw[h1]at ho;cases ho;exact t1
  .rw[h2]at ho;cases ho;exact t2
  .rw[h3]at ho;cases ho;exact t3)
theorem sY(i:Nat){h1:HF}{K:LH}{m:Nat}{L:LH}{t:TypeId}{len:Nat}{y:α}(hsep:sepAll l.toArray=true)(hJ:Jst h1 K h L)(hT:P.underlying t=some (.slice E))(hS:tySz P E=some (R.sz,a))(hR:SlB R h base xs)(hz:0<=z/\z<(xs.length:Int))(hj:xs[z.toNat]? = some y)(hx:e.ev x=.slice base len cap)(hm:len=xs.length)(hix:e.ev ix=.int .i64 z)(hi:nth l i=some ⟨some d,.indexAddr t x ix,ty,pos,af,g⟩)(hn:(nexts l.toArray dn).contains i=true)(t':∀q cs,At h q cs->cs.length=R.sz->R.rep h cs y->TA P b n l.toArray k F ds X (Jst h1 K) m (i::dn) (upd e d (.pointer (some q))) h L)(hg:guardB l.toArray e ⟨some d,.indexAddr t x ix,ty,pos,af,g⟩=true:=by rfl):TA P b n l.toArray k F ds X (Jst h1 K) (m+1) dn e h L:=by
 obtain⟨p,cs,rfl,hA,hl,hr⟩:=hR.2 z.toNat y hj
 have hzz:z=(z.toNat:Int):=by omega
 rw[hzz]at hix
 exact j5 i hsep hJ hi rfl hn hg (λh' L' _=>FO hT hS hx hix (by omega)) (t' _ cs hA hl hr)
theorem jr(i:Nat){enc:α->List Value}{h1:HF}{K:LH}{m:Nat}{L:LH}{t:TypeId}{len:Nat}{y:α}(hsep:sepAll l.toArray=true)(hJ:Jst h1 K h L)(hR':∀h cs x,R.rep h cs x->cs=enc x)(hT:P.underlying t=some (.slice E))(hS:tySz P E=some (R.sz,a))(hR:SlB R h base xs)(hz:0<=z/\z<(xs.length:Int))(hj:xs[z.toNat]? = some y)(hx:e.ev x=.slice base len cap)(hm:len=xs.length)(hix:e.ev ix=.int .i64 z)(hi:nth l i=some ⟨some d,.indexAddr t x ix,ty,pos,af,g⟩)(hn:(nexts l.toArray dn).contains i=true)(t':∀q,At h q (enc y)->TA P b n l.toArray k F ds X (Jst h1 K) m (i::dn) (upd e d (.pointer (some q))) h L)(hg:guardB l.toArray e ⟨some d,.indexAddr t x ix,ty,pos,af,g⟩=true:=by rfl):TA P b n l.toArray k F ds X (Jst h1 K) (m+1) dn e h L:=
 sY i hsep hJ hT hS hR hz hj hx hm hix hi hn (λq cs hA _ hr=>t' q (hR' _ _ _ hr▸hA)) hg
theorem Lt(i:Nat){h1:HF}{K:LH}{m:Nat}{L:LH}{t:TypeId}{lo:Operand}{len:Nat}(hsep:sepAll l.toArray=true)(hJ:Jst h1 K h L)(hT:P.underlying t=some (.slice E))(hS:tySz P E=some (R.sz,a))(hR:SlB R h base xs)(hcap:xs.length<=cap)(hz:0<=z/\z<=(xs.length:Int))(hx:e.ev x=.slice base len cap)(hm:len=xs.length)(hlo:e.ev lo=.int .i64 z)(hi:nth l i=some ⟨some d,.slice t x (some lo) none none,ty,pos,af,g⟩)(hn:(nexts l.toArray dn).contains i=true)(t':∀base' cap',SlC R h base' cap' (xs.drop z.toNat)->TA P b n l.toArray k F ds X (Jst h1 K) m (i::dn) (upd e d (.slice base' (xs.drop z.toNat).length cap')) h L)(hg:guardB l.toArray e ⟨some d,.slice t x (some lo) none none,ty,pos,af,g⟩=true:=by rfl):TA P b n l.toArray k F ds X (Jst h1 K) (m+1) dn e h L:=by
 subst hm
 have hs:SlB R h (if cap=z.toNat then base else base.map (·.add (z.toNat*R.sz))) (xs.drop z.toNat):=by
  grind [SlB.nil,OG]
 have hl:xs.length-z.toNat=(xs.drop z.toNat).length:=by simp
 refine j5 (v:=.slice (if cap=z.toNat then base else base.map (·.add (z.toNat*R.sz))) (xs.drop z.toNat).length (cap-z.toNat)) i hsep hJ hi rfl hn hg (λh' L' _ w hw=>?_) (t' _ (cap-z.toNat) ⟨hs,by rw[←hl];omega⟩)
 simp[execOp,Instr.sliceAt,Instr.slice,Instr.sliceBounds,Instr.sliceBound,hx,hlo,asIntOf,run_underlying hT,iP hS,hz]
theorem EI(i:Nat){h1:HF}{K:LH}{m:Nat}{L:LH}{t:TypeId}{hi':Operand}{len:Nat}(hsep:sepAll l.toArray=true)(hJ:Jst h1 K h L)(hT:P.underlying t=some (.slice E))(hS:tySz P E=some (R.sz,a))(hR:SlB R h base xs)(hcap:xs.length<=cap)(hz:0<=z/\z<=(xs.length:Int))(hx:e.ev x=.slice base len cap)(hm:len=xs.length)(hhi:e.ev hi'=.int .i64 z)(hi:nth l i=some ⟨some d,.slice t x none (some hi') none,ty,pos,af,g⟩)(hn:(nexts l.toArray dn).contains i=true)(t':∀base' cap',SlC R h base' cap' (xs.take z.toNat)->TA P b n l.toArray k F ds X (Jst h1 K) m (i::dn) (upd e d (.slice base' (xs.take z.toNat).length cap')) h L)(hg:guardB l.toArray e ⟨some d,.slice t x none (some hi') none,ty,pos,af,g⟩=true:=by rfl):TA P b n l.toArray k F ds X (Jst h1 K) (m+1) dn e h L:=by
 subst hm
 have hz2:0<=z/\z<=(cap:Int):=by omega
 have hl:z.toNat=(xs.take z.toNat).length:=by simp;omega
 refine j5 (v:=.slice base (xs.take z.toNat).length cap) i hsep hJ hi rfl hn hg (λh' L' _ w hw=>?_) (t' _ cap ⟨OF hR _,by rw[←hl];omega⟩)
 rw[←hl]
 by_cases h0:cap=0
 .have hz0:z=0:=by omega
  subst hz0
  simp[execOp,Instr.sliceAt,Instr.slice,Instr.sliceBounds,Instr.sliceBound,hx,hhi,asIntOf,run_underlying hT,iP hS,hz2,h0]
 .simp[execOp,Instr.sliceAt,Instr.slice,Instr.sliceBounds,Instr.sliceBound,hx,hhi,asIntOf,run_underlying hT,iP hS,hz2,h0,jP]
end
end
section
theorem qz{l:List α}{x:α}(h:nth l i=some x):x∈l:=by rw[ja]at h;exact kD h
theorem gM{T:Nat}(hb:h bk=some (.cells cl.toArray T fz)):At h ⟨bk,0,none⟩ cl:=
 At.I4 hb (λj v hj=>by simpa using hj)
theorem St.down{L:LH}(s:St X h2 L w)(eT:h.le h2)(h0:X.h0.le h):St X h L w:=by
 refine⟨s.os,s.tape,s.output,s.size,s.keep,h0,λb hb=>?_,λb o hb=>s.imm b o (eT b o hb),s.own,s.dis,λp hp=>?_,s.new⟩
 .have h1:=s.old b hb
  cases hb2:h b with
  |none=>
   cases hb3:X.h0 b with
   |none=>rfl
   |some o=>rw[h0 b o hb3]at hb2;cases hb2
  |some o=>rw[←h1];exact(eT b o hb2).symm
 .cases hb:h p.1 with
  |none=>rfl
  |some o=>have:=eT _ _ hb;rw[s.free p hp]at this;cases this
theorem Hl{F:List Frame->(Machine->Prop)->Prop}{h00:HF}{L:LH}(eT:h.le h2)(hX:X.h0=h00)(h0:h00.le h)(t:TO P b n ops l k F e ds X h L):TO P b n ops l k F e ds X h2 L:=
 λw hw=>t w (hw.down eT (hX▸h0))
theorem Rm{F:List Frame->(Machine->Prop)->Prop}{h00:HF}{L:LH}(eT:h.le h2)(hX:X.h0=h00)(h0:h00.le h)(t:TT P b n k F e ds X h L):TT P b n k F e ds X h2 L:=
 λw hw=>t w (hw.down eT (hX▸h0))
section runs
variable {P:Program} {e:Env} {X:Cx} {h:HF} {L:LH} {d:Option Nat} {ty:TypeId} {pos:String} {af:Array Edge} {g:Option (Nat×Bool)}
theorem W5{t:TypeId}{b:Bool}(hT:P.underlying t=some .bool)(hx:e.ev x=.bool a)(hy:e.ev y=.bool b):∀w,St X h L w->(execOp e.ev ⟨d,.binOp .eql t x y u,ty,pos,af,g⟩).run P w=.ok (.value (.bool (a==b))) w:=
 λw _=>by
  have:=run_equalIn_bool' (P:=P) w 9999 t a b hT
  simp[execOp,hx,hy,eqGuard,binOp,Op.equal,Op.maxDepth,this]
theorem Wh{t:TypeId}{k:IntKind}{a b:Int}(hx:e.ev x=.int k a)(hy:e.ev y=.int k b):∀w,St X h L w->(execOp e.ev ⟨d,.call ⟨.builtin .max,#[x,y],#[t,u]⟩,ty,pos,af,g⟩).run P w=.ok (.value (.int k (max a b))) w:=
 λw _=>by
  have:(if b>a then b else a)=max a b:=by omega
  simp[execOp,resolve,invoke,builtin,Builtin.max_,Builtin.max2,hx,hy,this]
theorem Wg{t:TypeId}{k:IntKind}{a b:Int}(hx:e.ev x=.int k a)(hy:e.ev y=.int k b):∀w,St X h L w->(execOp e.ev ⟨d,.call ⟨.builtin .min,#[x,y],#[t,u]⟩,ty,pos,af,g⟩).run P w=.ok (.value (.int k (min a b))) w:=
 λw _=>by
  have:(if b<a then b else a)=min a b:=by omega
  simp[execOp,resolve,invoke,builtin,Builtin.min_,Builtin.min2,hx,hy,this]
end runs
end
variable {es:Array MapEntry}{ko mo:Operand}{xv zv:Go.Value}
section
theorem tq{c:Nat}(hb:w.heap[bk]? = some (.map es c)):(getObj bk).run P w=.ok (.map es c) w:=by simp[getObj,Zs,hb]
theorem FI{c:Nat}(hb:w.heap[bk]? = some (.map es c)):(setObj bk o).run P w=.ok () { w with heap:=w.heap.setIfInBounds bk o }:=by simp[setObj,Zs,hb]
section pure
variable {κ α : Type} [DecidableEq κ]
def mput:List (κ×α)->κ->α->List (κ×α)
 |[],k,v=>[(k,v)]
 |(k',v')::r,k,v=>if k=k' then(k,v)::r else(k',v')::mput r k v
def mget? : List (κ×α)->κ->Option α
 |[],_=>none
 |(k',v')::r,k=>if k=k' then some v' else mget? r k
def mgetD(m:List (κ×α))(k:κ)(z:α):α:=(mget? m k).getD z
def mhas(m:List (κ×α))(k:κ):Bool:=(mget? m k).isSome
def mdel:List (κ×α)->κ->List (κ×α)
 |[],_=>[]
 |(k',v')::r,k=>if k=k' then r else(k',v')::mdel r k
def findIn(k:κ):List κ->List MapEntry->Nat->Option (Nat×Value)
 |k'::l,e::es,i=>if k=k' then some (i,e.val)else findIn k l es (i+1)
 |_,_,_=>none
end pure
structure zb(P:Program)(T:TypeId){κ : Type}[DecidableEq κ](enc:κ->Value):Prop where
 check:∀b a w,(Instr.checkKey b 10000 T (enc a)).run P w=.ok () w
 find:∀k(l:List κ)(es:List MapEntry)w,es.map (·.key)=l.map enc->(Instr.findKey T (enc k) es).run P w=.ok (findIn k l es 0) w
 bits:∀a,Instr.sameBits 10000 (enc a) (enc a)=true
section rep
variable {κ α : Type} (enc:κ->Value) (V:HF->Value->α->Prop)
def sW(h:HF):List MapEntry->List (κ×α)->Prop
 |[],[]=>True
 |e::es,(k,v)::m=>e.key=enc k/\V h e.val v/\sW h es m
 |_,_=>False
def So(h:HF)(o:Obj)(m:List (κ×α)):Prop:=
 ∃es clock,o=.map es.toArray clock/\sW enc V h es m/\(es.map (·.born)).Pairwise (·<·)/\∀e∈es,e.born<clock
def lB(h:HF)(o:Obj)(m:List (κ×α)):Prop:=∃m',m'.Perm m/\(m'.map (·.1)).Nodup/\So enc V h o m'
end rep
section perm
variable {κ α : Type} [DecidableEq κ]
theorem Pf{k:κ}{v:α}:∀{m:List (κ×α)},(m.map (·.1)).Nodup->(mget? m k=some v↔(k,v)∈m)
 |[],_=>by simp[mget?]
 |(k',v')::m,hn=>by
  rw[jG,jQ]at hn
  simp only[mget?]
  by_cases e:k=k'
  .grind
  .simp only[e,if_false,vC,Y8,false_and,false_or]
   exact Pf hn.2
theorem SM{m m':List (κ×α)}(hp:m.Perm m')(hn:(m.map (·.1)).Nodup)(k:κ):mget? m k=mget? m' k:=by
 apply Option.ext
 grind [Pf]
theorem rE(k:κ)(v:α):∀(m:List (κ×α))(x:κ),x∈(mput m k v).map (·.1)↔x=k\/x∈m.map (·.1)
 |[],x=>by simp[mput]
 |(k',v')::m,x=>by
  simp only[mput]
  split
  .next e=>subst e;simp
  .simp only[jG,vC,rE k v m x]
   grind
theorem rf(k:κ)(v:α):∀{m:List (κ×α)},(m.map (·.1)).Nodup->((mput m k v).map (·.1)).Nodup
 |[],_=>by simp[mput]
 |(k',v')::m,hn=>by
  rw[jG,jQ]at hn
  simp only[mput]
  split
  .grind
  .next e=>
   rw[jG,jQ]
   refine⟨λh=>?_,rf k v hn.2⟩
   grind [rE]
theorem SL(k:κ)(v:α){m m':List (κ×α)}(hp:m.Perm m')(hn:(m.map (·.1)).Nodup):(mput m k v).Perm (mput m' k v):=by
 induction hp with
 |nil=>exact List.Perm.refl _
 |cons x p ih=>
  obtain⟨k',v'⟩:=x
  rw[jG,jQ]at hn
  simp only[mput]
  split
  .exact List.Perm.cons _ p
  .exact List.Perm.cons _ (ih hn.2)
 |swap x y l=>
  obtain⟨a,va⟩:=x
  obtain⟨b,vb⟩:=y
  simp only[jG,jQ,vC,not_or]at hn
  simp only[mput]
  by_cases h1:k=b
  .have h2:¬k=a:=λe=>hn.1.1 (h1.symm.trans e)
   simp only[h1,h2,if_true,if_false]
   rw[if_neg (h1▸h2)]
   exact List.Perm.swap _ _ _
  .by_cases h2:k=a
   .simp only[h1,h2,if_true,if_false]
    rw[if_neg (h2▸h1)]
    exact List.Perm.swap _ _ _
   .simp only[h1,h2,if_false]
    exact List.Perm.swap _ _ _
 |trans p q ih1 ih2=>exact(ih1 hn).trans (ih2 ((p.map _).nodup_iff.1 hn))
end perm
def zU{α : Type}(V:HF->Value->α->Prop):Prop:=∀h h' v x,h.le h'->V h v x->V h' v x
section lemmas
variable {κ α : Type} {enc:κ->Value} {V:HF->Value->α->Prop} {h h':HF}
theorem sW.mono(hV:zU V)(hl:h.le h'):∀{es:List MapEntry}{m:List (κ×α)},sW enc V h es m->sW enc V h' es m
 |[],[],_=>trivial
 |_::_,(_,_)::_,⟨a,b,c⟩=>⟨a,hV _ _ _ _ hl b,sW.mono hV hl c⟩
 |[],_::_,x=>x.elim
 |_::_,[],x=>x.elim
theorem lB.mono{m:List (κ×α)}(r:lB enc V h o m)(hV:zU V)(hl:h.le h'):lB enc V h' o m:=by
 obtain⟨m',hp,hn,es,c,rfl,h1,h2,h3⟩:=r
 exact⟨m',hp,hn,es,c,rfl,h1.mono hV hl,h2,h3⟩
theorem lB.perm{m m2:List (κ×α)}(r:lB enc V h o m)(hp:m.Perm m2):lB enc V h o m2:=let ⟨m',p,q⟩:=r;⟨m',p.trans hp,q⟩
theorem lB.nodup{m:List (κ×α)}(r:lB enc V h o m):(m.map (·.1)).Nodup:=let ⟨_,p,hn,_⟩:=r;(p.map _).nodup_iff.1 hn
theorem lB.nil:lB enc V h (.map #[] 0) ([]:List (κ×α)):=⟨[],.refl _,XV,[],0,rfl,trivial,.nil,λ_ he=>(vA he).elim⟩
theorem sW.keys:∀{es:List MapEntry}{m:List (κ×α)},sW enc V h es m->es.map (·.key)=(m.map (·.1)).map enc
 |[],[],_=>rfl
 |e::es,(k,v)::m,⟨a,_,c⟩=>by simp[a,sW.keys c]
 |[],_::_,x=>x.elim
 |_::_,[],x=>x.elim
variable [DecidableEq κ]
theorem sW.found{k:κ}:∀{es:List MapEntry}{m:List (κ×α)}(j:Nat),sW enc V h es m ->
  match findIn k (m.map (·.1)) es j with
  |some (_,v)=>∃x,mget? m k=some x/\V h v x
  |none=>mget? m k=none
 |[],[],_,_=>rfl
 |e::es,(k',v)::m,j,⟨_,b,c⟩=>by
  simp only[jG,findIn,mget?]
  by_cases hk:k=k'
  .simp only[hk,if_true];exact⟨v,rfl,b⟩
  .simp only[hk,if_false];exact sW.found (j+1) c
 |[],_::_,_,x=>x.elim
 |_::_,[],_,x=>x.elim
theorem Pb{f:MapEntry->MapEntry}(e:MapEntry)(es:List MapEntry):(e::es).modify 0 f=f e::es:=by simp
theorem Pc{f:MapEntry->MapEntry}(e:MapEntry)(es:List MapEntry)(i:Nat):(e::es).modify (i+1) f=e::es.modify i f:=by simp
theorem sW.put{k:κ}{x:α}{xv:Value}(hx:V h xv x):∀{es:List MapEntry}{m:List (κ×α)}(j:Nat),sW enc V h es m ->
  match findIn k (m.map (·.1)) es j with
  |some (i,_)=>j<=i/\(es[i-j]?).map (·.key)=some (enc k)/\sW enc V h (es.modify (i-j) λe=>{ e with key:=enc k,val:=xv }) (mput m k x)
  |none=>∀b,sW enc V h (es++[{ key:=enc k,val:=xv,born:=b }]) (mput m k x)
 |[],[],_,_=>λb=>⟨rfl,hx,trivial⟩
 |e::es,(k',v)::m,j,⟨a,b,c⟩=>by
  simp only[jG,findIn,mput]
  by_cases hk:k=k'
  .simp only[hk,if_true]
   refine⟨zE _,?_,?_⟩
   .simp[a]
   .rw[Nat.sub_self,Pb];exact⟨rfl,hx,c⟩
  .simp only[hk,if_false]
   have ih:=sW.put (k:=k) hx (j+1) c
   cases hf:findIn k (m.map (·.1)) es (j+1)with
   |none=>rw[hf]at ih;exact λb'=>⟨a,b,ih b'⟩
   |some p=>
    obtain⟨i,u⟩:=p
    rw[hf]at ih
    obtain⟨h1,h2,h3⟩:=ih
    have e1:i-j=(i-(j+1))+1:=by omega
    refine⟨by omega,?_,?_⟩
    .rw[e1];simpa using h2
    .rw[e1,Pc];exact⟨a,b,h3⟩
 |[],_::_,_,x=>x.elim
 |_::_,[],_,x=>x.elim
theorem AT{k xv:Value}:∀(es:List MapEntry)(i:Nat),(es.modify i λe=>{ e with key:=k,val:=xv }).map (·.born)=es.map (·.born)
 |[],i=>by simp
 |e::es,0=>by simp
 |e::es,i+1=>by simp[AT es i]
theorem Ih{t:TypeId}{k:κ}{x:α}{m:List (κ×α)}(hT:P.underlying t=some (.map T E))(hK:zb P T enc)(hb:w.heap[bk]? = some o)(hm:So enc V h o m)(hx:V h xv x):∃o',(Instr.mapUpdate t (.map (some bk)) (enc k) xv).run P w=.ok () { w with heap:=w.heap.setIfInBounds bk o' }/\So enc V h o' (mput m k x):=by
 obtain⟨es,c,rfl,h1,h2,h3⟩:=hm
 have hf:=hK.find k (m.map (·.1)) es w h1.keys
 have hp:=h1.put (k:=k) hx 0
 cases hr:findIn k (m.map (·.1)) es 0 with
 |none=>
  rw[hr]at hf hp
  refine⟨.map (es++[({ key:=enc k,val:=xv,born:=c }:MapEntry)]).toArray (c+1),?_,_,_,rfl,hp c,?_,?_⟩
  .simp only[Instr.mapUpdate,kL,run_underlying hT,xK,tq hb,hK.check,hf,FI hb]
   simp
  all_goals grind
 |some p=>
  obtain⟨i,u⟩:=p
  rw[hr]at hf hp
  obtain⟨_,hk,hp⟩:=hp
  rw[Nat.sub_zero]at hp hk
  refine⟨.map (es.modify i λe=>{ e with key:=enc k,val:=xv }).toArray c,?_,_,_,rfl,hp,?_,?_⟩
  .have hke:((es[i]?).map (·.key)).getD (enc k)=enc k:=by rw[hk];rfl
   simp only[Instr.mapUpdate,kL,run_underlying hT,xK,tq hb,hK.check,hf]
   simp only[List.getElem?_toArray,hke,Instr.keyThatStays,hK.bits,if_true,Yy,xK,FI hb]
   simp
  .rw[AT];exact h2
  .intro e he
   have:e.born∈(es.modify i λe=>{ e with key:=enc k,val:=xv }).map (·.born):=zT he
   rw[AT]at this
   all_goals grind
theorem OQ{t:TypeId}{k:κ}{m:List (κ×α)}{z:α}(ok:Bool)(hT:P.underlying t=some (.map T E))(hK:zb P T enc)(hb:w.heap[bk]? = some o)(hm:So enc V h o m)(hz:(zeroValue E).run P w=.ok zv w)(hzv:V h zv z):∃v,(Instr.lookup t (.map (some bk)) (enc k) ok).run P w=.ok (if ok then .tuple #[v,.bool (mhas m k)]else v) w/\V h v (mgetD m k z):=by
 obtain⟨es,c,rfl,h1,h2,h3⟩:=hm
 have hf:=hK.find k (m.map (·.1)) es w h1.keys
 have hp:=h1.found (k:=k) 0
 cases hr:findIn k (m.map (·.1)) es 0 with
 |none=>
  rw[hr]at hf hp
  refine⟨zv,?_,by simp only[mgetD,hp];exact hzv⟩
  cases ok<;>simp[Instr.lookup,run_underlying hT,tq hb,hK.check,hf,hz,mhas,hp]
 |some p=>
  obtain⟨i,u⟩:=p
  rw[hr]at hf hp
  obtain⟨x,hx,hv⟩:=hp
  refine⟨u,?_,by simp only[mgetD,hx];exact hv⟩
  cases ok<;>simp[Instr.lookup,run_underlying hT,tq hb,hK.check,hf,mhas,hx]
theorem Cv{t:TypeId}{k:κ}{x:α}{m:List (κ×α)}(hT:P.underlying t=some (.map T E))(hK:zb P T enc)(hb:w.heap[bk]? = some o)(hm:lB enc V h o m)(hx:V h xv x):∃o',(Instr.mapUpdate t (.map (some bk)) (enc k) xv).run P w=.ok () { w with heap:=w.heap.setIfInBounds bk o' }/\lB enc V h o' (mput m k x):=by
 obtain⟨m',hp,hn,hm⟩:=hm
 obtain⟨o',h1,h2⟩:=Ih (k:=k) hT hK hb hm hx
 exact⟨o',h1,_,SL k x hp hn,rf k x hn,h2⟩
theorem Qm{t:TypeId}{k:κ}{m:List (κ×α)}{z:α}(ok:Bool)(hT:P.underlying t=some (.map T E))(hK:zb P T enc)(hb:w.heap[bk]? = some o)(hm:lB enc V h o m)(hz:(zeroValue E).run P w=.ok zv w)(hzv:V h zv z):∃v,(Instr.lookup t (.map (some bk)) (enc k) ok).run P w=.ok (if ok then .tuple #[v,.bool (mhas m k)]else v) w/\V h v (mgetD m k z):=by
 obtain⟨m',hp,hn,hm⟩:=hm
 have:=OQ (k:=k) ok hT hK hb hm hz hzv
 grind [mhas,mgetD,SM]
end lemmas
def zeroV(P:Program)(t:TypeId):Option Value:=(P.info? t).bind (·.zero)
theorem gF{t:TypeId}{z:Value}(hz:zeroV P t=some z)(w:World):(zeroValue t).run P w=.ok z w:=by
 unfold zeroV at hz
 cases hi:P.info? t with
 |none=>rw[hi]at hz;cases hz
 |some i=>
  rw[hi]at hz
  simp only[Ys]at hz
  simp[zeroValue,typeInfo,hi,hz]
theorem Gd{k:Int}:∀(l:List Int)(es:List MapEntry)(j:Nat),es.map (·.key)=l.map (jC .i64)->Instr.findNow (.int .i64) (.int .i64 k) es j=some (findIn k l es j)
 |[],[],_,_=>rfl
 |k'::l,e::es,j,hh=>by
  simp at hh
  simp only[Instr.findNow,Instr.sameNow,hh.1,findIn,if_true]
  by_cases hk:k=k'
  .simp[hk]
  .have:(k==k')=false:=by simpa using hk
   simp only[this,hk,if_false];exact Gd l es (j+1) (by simpa using hh.2)
 |[],_::_,_,hh=>by simp at hh
 |_::_,[],_,hh=>by simp at hh
theorem im(hT:P.underlying T=some (.int .i64)):zb P T (jC .i64) where
 check:=λb a w=>by
  rw[show(10000:Nat)=9999+1 from rfl,Instr.checkKey]
  simp[run_underlying hT]
 find:=λk l es w hh=>by simp[Instr.findKey,run_underlying hT,Gd l es 0 hh]
 bits:=λa=>by simp[Instr.sameBits]
theorem AU{κ:Type}[DecidableEq κ]{enc:κ->Value}(hT:P.underlying T=some (.struct fs))(hc:∀b a w,(Instr.checkKey b 10000 T (enc a)).run P w=.ok () w)(he:∀a b w,(Op.equal T (enc a) (enc b)).run P w=.ok (decide (a=b)) w)(hb:∀a,Instr.sameBits 10000 (enc a) (enc a)=true):zb P T enc where
 check:=hc
 bits:=hb
 find:=λk l es w hh=>by
  have ask:∀(l:List κ)(es:List MapEntry)(j:Nat),es.map (·.key)=l.map enc->(Instr.findAsking T (enc k) es j).run P w=.ok (findIn k l es j) w:=by
   intro l
   induction l with
   |nil=>intro es j hh;cases es with
    |nil=>simp[Instr.findAsking,findIn]
    |cons _ _=>simp at hh
   |cons k' l ih=>
    intro es j hh
    cases es with
    |nil=>simp at hh
    |cons e es=>
     simp at hh
     by_cases hk:k=k'
     .simp[Instr.findAsking,hh.1,he,findIn,hk]
     .simp[Instr.findAsking,hh.1,he,findIn,hk,ih es (j+1) (by simpa using hh.2)]
  cases es with
  |nil=>
   cases l with
   |nil=>simp[Instr.findKey,run_underlying hT,Instr.findNow,findIn]
   |cons _ _=>simp at hh
  |cons e es=>
   have:Instr.findNow (.struct fs) (enc k) (e::es) 0=none:=by simp[Instr.findNow,Instr.sameNow]
   simp[Instr.findKey,run_underlying hT,this,ask l (e::es) 0 hh]
def Ao(_:HF)(v:Value)(x:Int):Prop:=v=.int .i64 x
def sO(_:HF)(v:Value)(x:Bool):Prop:=v=.bool x
def mT{α : Type}(R:Rp α)(h:HF)(v:Value)(x:α):Prop:=∃cs,v=.agg cs.toArray/\R.rep h cs x
def VSl{α : Type}(R:Rp α)(h:HF)(v:Value)(x:List α):Prop:=∃b c,v=.slice b x.length c/\SlC R h b c x
theorem Ao.mono:zU Ao:=λ_ _ _ _ _ e=>e
theorem sO.mono:zU sO:=λ_ _ _ _ _ e=>e
theorem mT.mono(hm:R.Mono):zU (mT R):=λ_ _ _ _ hl⟨cs,e,r⟩=>⟨cs,e,hm _ _ _ _ hl r⟩
theorem VSl.mono(hm:R.Mono):zU (VSl R):=λ_ _ _ _ hl⟨b,c,e,r⟩=>⟨b,c,e,r.mono hm hl⟩
section steps
variable {P:Program} {b:Frame} {n:Nat} {ops:Array Oper} {F:List Frame->(Machine->Prop)->Prop} {e:Env} {ds:List Deferred} {X:Cx} {h:HF} {L:LH} {K:Env->HF->LH->Prop}
variable {d:Option Nat} {ty:TypeId} {pos:String} {af:Array Edge} {g:Option (Nat×Bool)}
variable {κ α : Type} {enc:κ->Value} {V:HF->Value->α->Prop}
theorem uw{t:TypeId}(t':∀bk,K (pute e d (.map (some bk))) h ((bk,.map #[] 0)::L))(hg:guardB ops e ⟨d,.makeMap t none,ty,pos,af,g⟩=true:=by rfl):Stp P b n ops F ds X ⟨d,.makeMap t none,ty,pos,af,g⟩ e h L K:=
 kn hg λw hw=>⟨_,_,h,_,by simp[execOp,Instr.makeMap],hw.alloc _,t' _⟩
variable [DecidableEq κ]
theorem pS(i:Nat){t:TypeId}{xo:Operand}{m:List (κ×α)}{k:κ}{x:α}(hT:P.underlying t=some (.map T E))(hK:zb P T enc)(hL:nth L i=some (bk,o))(hm:lB enc V h o m)(hmo:e.ev mo=.map (some bk))(hko:e.ev ko=enc k)(hx:V h (e.ev xo) x)(t':∀o',lB enc V h o' (mput m k x)->K e h (setNth L i (bk,o')))(hg:guardB ops e ⟨none,.mapUpdate t mo ko xo,ty,pos,af,g⟩=true:=by rfl):Stp P b n ops F ds X ⟨none,.mapUpdate t mo ko xo,ty,pos,af,g⟩ e h L K:=by
 unfold Stp
 rw[if_pos hg]
 intro w hw
 have hb:w.heap[bk]? = some o:=by
  have h2:=hL
  rw[ja]at h2
  exact hw.own _ (kD h2)
 obtain⟨o',hr,hm'⟩:=Cv (k:=k) hT hK hb hm hx
 have:(execOp e.ev ⟨none,.mapUpdate t mo ko xo,ty,pos,af,g⟩).run P w=.ok .skip { w with heap:=w.heap.setIfInBounds bk o' }:=by
  simp[execOp,hmo,hko,hr]
 rw[this]
 exact⟨h,_,hw.write hL _,t' o' hm'⟩
theorem Hm{t:TypeId}{m:List (κ×α)}{k:κ}{z:α}(ok:Bool)(hT:P.underlying t=some (.map T E))(hK:zb P T enc)(hb:∀w,St X h L w->w.heap[bk]? = some o)(hm:lB enc V h o m)(hz:∀w,(zeroValue E).run P w=.ok zv w)(hzv:V h zv z)(hmo:e.ev mo=.map (some bk))(hko:e.ev ko=enc k)(t':∀v,V h v (mgetD m k z)->K (pute e d (if ok then .tuple #[v,.bool (mhas m k)]else v)) h L)(hg:guardB ops e ⟨d,.lookup t mo ko ok,ty,pos,af,g⟩=true):Stp P b n ops F ds X ⟨d,.lookup t mo ko ok,ty,pos,af,g⟩ e h L K:=
 kn hg λw hw=>by
  obtain⟨v,hr,hv⟩:=Qm (k:=k) ok hT hK (hb w hw) hm (hz w) hzv
  exact⟨_,w,h,L,by simp[execOp,hmo,hko,hr],hw,t' v hv⟩
theorem ve(i:Nat){t:TypeId}{m:List (κ×α)}{k:κ}{z:α}(hT:P.underlying t=some (.map T E))(hK:zb P T enc)(hL:nth L i=some (bk,o))(hm:lB enc V h o m)(hz:∀w,(zeroValue E).run P w=.ok zv w)(hzv:V h zv z)(hmo:e.ev mo=.map (some bk))(hko:e.ev ko=enc k)(t':∀v,V h v (mgetD m k z)->K (pute e d v) h L)(hg:guardB ops e ⟨d,.lookup t mo ko false,ty,pos,af,g⟩=true:=by rfl):Stp P b n ops F ds X ⟨d,.lookup t mo ko false,ty,pos,af,g⟩ e h L K:=
 Hm false hT hK (λw hw=>by rw[ja]at hL;exact hw.own _ (kD hL)) hm hz hzv hmo hko t' hg
theorem oM(i:Nat){t:TypeId}{m:List (κ×α)}{k:κ}{z:α}(hT:P.underlying t=some (.map T E))(hK:zb P T enc)(hL:nth L i=some (bk,o))(hm:lB enc V h o m)(hz:∀w,(zeroValue E).run P w=.ok zv w)(hzv:V h zv z)(hmo:e.ev mo=.map (some bk))(hko:e.ev ko=enc k)(t':∀v,V h v (mgetD m k z)->K (pute e d (.tuple #[v,.bool (mhas m k)])) h L)(hg:guardB ops e ⟨d,.lookup t mo ko true,ty,pos,af,g⟩=true:=by rfl):Stp P b n ops F ds X ⟨d,.lookup t mo ko true,ty,pos,af,g⟩ e h L K:=
 Hm true hT hK (λw hw=>by rw[ja]at hL;exact hw.own _ (kD hL)) hm hz hzv hmo hko t' hg
theorem ru{t:TypeId}{m:List (κ×α)}{k:κ}{z:α}(hT:P.underlying t=some (.map T E))(hK:zb P T enc)(hL:h bk=some o)(hm:lB enc V h o m)(hz:∀w,(zeroValue E).run P w=.ok zv w)(hzv:V h zv z)(hmo:e.ev mo=.map (some bk))(hko:e.ev ko=enc k)(t':∀v,V h v (mgetD m k z)->K (pute e d v) h L)(hg:guardB ops e ⟨d,.lookup t mo ko false,ty,pos,af,g⟩=true:=by rfl):Stp P b n ops F ds X ⟨d,.lookup t mo ko false,ty,pos,af,g⟩ e h L K:=
 Hm false hT hK (λw hw=>hw.imm _ _ hL) hm hz hzv hmo hko t' hg
theorem wm{t:TypeId}{m:List (κ×α)}{k:κ}{z:α}(hT:P.underlying t=some (.map T E))(hK:zb P T enc)(hL:h bk=some o)(hm:lB enc V h o m)(hz:∀w,(zeroValue E).run P w=.ok zv w)(hzv:V h zv z)(hmo:e.ev mo=.map (some bk))(hko:e.ev ko=enc k)(t':∀v,V h v (mgetD m k z)->K (pute e d (.tuple #[v,.bool (mhas m k)])) h L)(hg:guardB ops e ⟨d,.lookup t mo ko true,ty,pos,af,g⟩=true:=by rfl):Stp P b n ops F ds X ⟨d,.lookup t mo ko true,ty,pos,af,g⟩ e h L K:=
 Hm true hT hK (λw hw=>hw.imm _ _ hL) hm hz hzv hmo hko t' hg
end steps
end
variable {C:List α->HF->LH->Prop}{Sp:HF->LH->Prop}{p:Go.Value}
section
def Itr{α : Type}(P:Program)(it:Value)(val:α->HF->List Value->Prop)(xs:List α)(h:HF):Prop:=
 ∃(f0:FuncId)(cap:List Value),it=.func (.func f0) #[] cap.toArray/\(∀args w,(callFunc f0 args).run P w=.ok (.enter f0 args) w)/\Td P it val xs h
theorem Itr.mono(i:Itr P it val xs h)(hl:h.le h'):Itr P it val xs h':=
 let ⟨f0,cap,a,b,c⟩:=i;⟨f0,cap,a,b,c.mono hl⟩
theorem vt{cap:List Value}(hc:∀args w,(callFunc f args).run P w=.ok (.enter f args) w)(hr:∀(yf:Fn)(ya yb:Array Value)(C:List α->HF->LH->Prop)(Sp:HF->LH->Prop)(Pn:List PanicEntry->HF->LH->Prop)(h':HF)(A:LH),h.le h'->(∀done h1 h2 B,HF.le h1 h2->C done h1 B->C done h2 B)->(∀h1 h2 B,HF.le h1 h2->Sp h1 B->Sp h2 B)->(∀ch h1 h2 B,HF.le h1 h2->Pn ch h1 B->Pn ch h2 B)->C [] h' A ->
   (∀done x rest vs h'' B,xs=done++x::rest->h'.le h''->C done h'' B->val x h'' vs->n0 P (.func yf ya yb) vs.toArray h'' B (YR C Sp Pn done x))->qf P f (.func yf ya yb::cap).toArray h' A (ItR C Sp Pn xs)):
  Itr P (.func (.func f) #[] cap.toArray) val xs h:=⟨f,cap,rfl,hc,VK hc hr⟩
theorem BM(r:Nat)(o:Obj)(L M:LH):((r,o)::(L++M)).Perm (L++(r,o)::M):=List.perm_middle.symm
abbrev rdH(l r:Nat)(lp:Loop)(L:LH):LH:=(l,.loop { lp with state:=.busy })::(r,.deferred (some []))::L
theorem pz{F:List Frame->(Machine->Prop)->Prop}{L:LH}{g:Operand}{assign body:Code}(rs:List Nat)(hh:ι->HF)(LL:ι->LH)(I:List α->ι->Prop)(JR JX:ι->Prop)(xid:Nat)(Q:List PanicEntry->HF->LH->Prop)(i₀ : ι)(hf:P.funcs[f]? = some fn)(hgv:e.ev g=it)(hit:Itr P it val xs h)(hps:ps.all (λp=>kH p n)=true)(hval:∀x h vs,val x h vs->vs.length=ps.length)(hQm:∀ch h1 h2 B,HF.le h1 h2->Q ch h1 B->Q ch h2 B)(hh0:hh i₀=h)(hL0:L=LL i₀)(h0:I xs i₀)(round:∀(l r:Nat)(lp:Loop)(x:α)(rest:List α)(vs:List Value)(i:ι)(h':HF)(X':Cx)(FR:List Frame->(Machine->Prop)->Prop),I (x::rest) i->h.le h'->(hh i).le h'->val x h' vs->X'.h0=h'->(∀b∈X'.M,b<X'.w0.heap.size)->lp.state=.ready ->
   (∀i' e' h2,I rest i'->(hh i').le h2->TT P (roundFrame l f) n [] FR e' [] X' h2 (rdH l r lp (LL i'++markB rs))) ->
   (∀i' e' h2 k',JR i'->(hh i').le h2->TT P (roundFrame l f) n (.code .ret::k') FR e' [] X' h2 (rdH l r lp (LL i'++markB rs))) ->
   (∀i' e' h2 k',JX i'->(hh i').le h2->exitTo xid k'=none->TT P (roundFrame l f) n (.code (.exit xid)::k') FR e' [] X' h2 (rdH l r lp (LL i'++markB rs))) ->
   (∀ch e' h' L',Q ch h' L'->TP P (roundFrame l f) n ch FR e' [] X' h' (rdH l r lp (L'++markB rs))) ->
   TT P (roundFrame l f) n [.code assign,.beginRound,.code body] FR (setParams e ps vs) [] X' h' ((l,.loop lp)::(r,.deferred (some []))::(LL i++markB rs)))(next:∀r i h',I [] i->(hh i).le h'->h.le h'->TT P (bodyFrame f) n k F e (marks (r::rs)) X h' (LL i++markB (r::rs)))(jret:∀r i h',JR i->(hh i).le h'->h.le h'->TT P (bodyFrame f) n (.code .ret::k) F e (marks (r::rs)) X h' (LL i++markB (r::rs)))(jexit:∀r i h',JX i->(hh i).le h'->h.le h'->TT P (bodyFrame f) n (.code (.exit xid)::k) F e (marks (r::rs)) X h' (LL i++markB (r::rs)))(pan:∀r ch h' L',Q ch h' L'->h.le h'->TP P (bodyFrame f) n ch F e (marks (r::rs)) X h' (L'++markB (r::rs))):
  TT P (bodyFrame f) n (.code (.rangeFunc g ps.toArray assign body)::k) F e (marks rs) X h (L++markB rs):=by
 obtain⟨f0,cap,rfl,hc0,hit⟩:=hit
 refine TH (val:=val) (xs:=xs)
  (λdone h' B=>∃rest i,xs=done++rest/\(hh i).le h'/\B=LL i++markB rs/\I rest i)
  (λc h' B=>∃i,(hh i).le h'/\B=LL i++markB rs/\((c=.ret/\JR i)\/(c=.exit xid/\JX i)))
  (λch h' B=>∃L',B=L'++markB rs/\Q ch h' L') hgv hc0 hit hps hval ?_ ?_ ?_ ⟨xs,i₀,rfl,hh0▸HF.le_refl _,by rw[hL0],h0⟩ ?_ ?_ ?_ ?_
 .grind [HF.le_trans]
 .grind [HF.le_trans]
 .grind
 .rintro l r lp done x rest vs h' L' X' hxs eT ⟨rest',i,hxs',hhi,rfl,hI⟩ hv hlp hX' hXM
  have hrest:rest'=x::rest:=List.append_cancel_left (hxs'.symm.trans hxs)
  grind [Na,Wx,Vw,Wy]
 .rintro r h' L' eT ⟨rest,i,hxs,hl,rfl,hI⟩
  have hrest:rest=[]:=by
   have h2:=congrArg List.length hxs
   rw[kA]at h2
   exact List.length_eq_zero_iff.1 (by omega)
  subst hrest
  exact jy (BM r _ _ _) (next r i h' hI hl eT)
 .rintro r c h' L' eT ⟨i,hl,rfl,⟨rfl,hJ⟩|⟨rfl,hJ⟩⟩
  .exact jy (BM r _ _ _) (jret r i h' hJ hl eT)
  .exact jy (BM r _ _ _) (jexit r i h' hJ hl eT)
 .rintro r ch h' L' eT ⟨L',rfl,hQ⟩
  exact Hk (BM r _ _ _) (pan r ch h' L' hQ eT)
section yield
variable {P:Program} {b:Frame} {n:Nat} {ops:Array Oper} {F:List Frame->(Machine->Prop)->Prop} {e:Env} {ds:List Deferred} {X:Cx} {h:HF} {L:LH} {K:Env->HF->LH->Prop}
variable {d:Option Nat} {ty:TypeId} {pos:String} {af:Array Edge} {g:Option (Nat×Bool)}
theorem sZ(Fr A:LH){x:α}{t:Nat}(hL:L=Fr++A)(hs:n0 P fv vs.toArray h A (YR C Sp Pn done x))(hf:e t=fv)(hvs:a5_.toList.map e.ev=vs)(yes:∀h' B,h.le h'->C (done++[x]) h' B->K (pute e d (.bool true)) h' (Fr++B))(no:∀h' B,h.le h'->Sp h' B->K (pute e d (.bool false)) h' (Fr++B))(pan:∀ch h' B,h.le h'->Pn ch h' B->∀e',TP P b n ch F e' ds X h' (Fr++B))(hg:guardB ops e ⟨d,.call ⟨.value (.tmp t),a5_,ats⟩,ty,pos,af,g⟩=true:=by rfl):
  Stp P b n ops F ds X ⟨d,.call ⟨.value (.tmp t),a5_,ats⟩,ty,pos,af,g⟩ e h L K:=by
 refine DF Fr A hL hs hf hvs ?_ ?_ hg
 .rintro v h' B eT (⟨e1,hC⟩|⟨e1,hS⟩|⟨ch,e1,_⟩)
  all_goals grind
 .rintro ch h' B eT (⟨e1,_⟩|⟨e1,_⟩|⟨ch',e1,hP⟩)
  all_goals grind
theorem TZ(Fr A M:LH){x:α}{t:Nat}(hL:L=Fr++(A++M))(hs:n0 P fv vs.toArray h A (YR C Sp Pn done x))(hf:e t=fv)(hvs:a5_.toList.map e.ev=vs)(yes:∀h' B,h.le h'->C (done++[x]) h' B->K (pute e d (.bool true)) h' (Fr++(B++M)))(no:∀h' B,h.le h'->Sp h' B->K (pute e d (.bool false)) h' (Fr++(B++M)))(pan:∀ch h' B,h.le h'->Pn ch h' B->∀e',TP P b n ch F e' ds X h' (Fr++(B++M)))(hg:guardB ops e ⟨d,.call ⟨.value (.tmp t),a5_,ats⟩,ty,pos,af,g⟩=true:=by rfl):
  Stp P b n ops F ds X ⟨d,.call ⟨.value (.tmp t),a5_,ats⟩,ty,pos,af,g⟩ e h L K:=by
 have hp:∀B:LH,((Fr++M)++B).Perm (Fr++(B++M)):=λB=>by
  rw[zC];exact List.Perm.append_left Fr zD
 have key:=sZ (K:=λe' h' L'=>∃L'',L'.Perm L''/\K e' h' L'') (L:=(Fr++M)++A) (P:=P) (b:=b) (n:=n) (ops:=ops) (F:=F) (ds:=ds) (X:=X) (d:=d) (ty:=ty) (pos:=pos) (af:=af) (g:=g) (Fr++M) A rfl hs hf hvs
  (λh' B hl hc=>⟨_,hp B,yes h' B hl hc⟩) (λh' B hl hc=>⟨_,hp B,no h' B hl hc⟩) (λch h' B hl hc e'=>Hk (hp B) (pan ch h' B hl hc e')) hg
 unfold Stp at key ⊢
 rw[if_pos hg]at key ⊢
 intro w hw
 subst hL
 have h1:=key w (hw.perm (hp A).symm)
 revert h1
 have up:∀e',∀w'':World,(∃h' L',St X h' L' w''/\∃L'',L'.Perm L''/\K e' h' L'')->∃h' L',St X h' L' w''/\K e' h' L':=by
  rintro e' w'' ⟨h',L',hst,L'',hpm,hk⟩;exact⟨h',L'',hst.perm hpm,hk⟩
 intro h1
 cases hr:(execOp e.ev ⟨d,.call ⟨.value (.tmp t),a5_,ats⟩,ty,pos,af,g⟩).run P w with
 |ok nx w'=>
  rw[hr]at h1
  cases nx with
  |skip=>exact up _ _ h1
  |value v=>exact up _ _ h1
  |enter f args=>
   unfold zX at h1 ⊢
   refine yr.mono (nx:=.enter f args) h1 ?_
   intro x w'' hx
   cases x with
   |returned v=>exact up _ _ hx
   |panicked ch=>exact hx
   |outgrown=>trivial
  |round l f tmps assign body=>
   unfold zX at h1 ⊢
   refine yr.mono (nx:=.round l f tmps assign body) h1 ?_
   intro x w'' hx
   cases x with
   |returned v=>exact up _ _ hx
   |panicked ch=>exact hx
   |outgrown=>trivial
  |_=>exact h1
 |halt hlt w'=>
  rw[hr]at h1
  cases hlt<;>first|exact h1|exact h1.elim
end yield
theorem oA{args:List Value}{R:Ending->HF->LH->Prop}(hf:P.funcs[f]? = some fn)(hb:fn.body=some c)(hn:fn.ntmps=n)(eT:YE args.length n=true)(t:∀X:Cx,(∀b∈X.M,b<X.w0.heap.size)->X.h0=h->TT P (bodyFrame f) n [.code c] (lJ P X R) (envArgs args) [] X h A):qf P f args.toArray h A R:=by
 intro w p caller cs Φ h1 h2
 have eT:=jM eT
 have henter:xR P f args.toArray .normal=(bodyFrame f).atR { tmps:=args.toArray++X4 (n-args.length) undef,defers:=[] } [.code c]:=by
  grind [xR,Yr,bodyFrame]
 rw[henter]
 exact t ⟨w,h,A.map (·.1)⟩ (λb hb=>by obtain⟨p',hp',rfl⟩:=qM.1 hb;exact jX (p.own p' hp')) rfl w (St.start p) _ (caller::cs) Φ (by simp;omega) (rk _ _) rfl ⟨caller,cs,rfl,h1,h2⟩
theorem T4{F:List Frame->(Machine->Prop)->Prop}{L:LH}{d:Option Nat}{t:TypeId}(hXM:∀b∈X.M,b<X.w0.heap.size)(t':∀bk,bk∉X.M->K (pute e d (.map (some bk))) h ((bk,.map #[] 0)::L))(hg:guardB ops e ⟨d,.makeMap t none,ty,pos,af,g⟩=true:=by rfl):Stp P b n ops F ds X ⟨d,.makeMap t none,ty,pos,af,g⟩ e h L K:=
 kn hg λw hw=>⟨_,_,h,_,by simp[execOp,Instr.makeMap],hw.alloc _,t' _ (λhm=>by have:=hXM _ hm;have:=hw.size;omega)⟩
section freezeN
variable {P:Program} {b:Frame} {n:Nat} {k:List Item} {F:List Frame->(Machine->Prop)->Prop} {e:Env} {ds:List Deferred} {X:Cx} {h:HF} {L:LH} {ops:Array Oper} {l:List Oper}
theorem HW(i:Nat)(hi:nth L i=some (bk,o))(hM:bk∉X.M)(t:∀h2,h.le h2->h2 bk=some o->TO P b n ops l k F e ds X h2 (dropNth L i)):TO P b n ops l k F e ds X h L:=by
 intro w hw
 have h1:=hw.perm (qo L i _ hi)
 exact t _ (HF.C3 (h1.free (bk,o) (by simp))) (HF.yn _ _ _) w (h1.freeze hM)
end freezeN
def uN{κ α : Type}(enc:κ->Value)(V:HF->Value->α->Prop)(h:HF)(bk:Nat)(m:List (κ×α)):Prop:=∃o,h bk=some o/\lB enc V h o m
theorem uN.mono{κ:Type}{enc:κ->Value}{V:HF->Value->α->Prop}{m:List (κ×α)}(c:uN enc V h bk m)(hV:zU V)(hl:h.le h'):uN enc V h' bk m:=
 let ⟨o,a,b⟩:=c;⟨o,hl _ _ a,b.mono hV hl⟩
section ends
variable {α : Type} {P:Program} {f:FuncId} {n:Nat} {k:List Item} {e:Env} {X:Cx} {h:HF} {L:LH} {fn:Func} {C:List α->HF->LH->Prop} {Sp:HF->LH->Prop} {Pn:List PanicEntry->HF->LH->Prop} {xs:List α}
theorem Bc(rs:List Nat)(hf:P.funcs[f]? = some fn)(hr:fn.results=#[])(hA:A.Sublist L)(hR:C xs h A\/Sp h A):TT P (bodyFrame f) n (.code .ret::k) (lJ P X (ItR C Sp Pn xs)) e (marks rs) X h (L++markB rs):=
 yu rs hf (λa _ w _=>ol hr a w) (λw hw=>hw.sub hA) (.inl ⟨rfl,hR⟩)
theorem Fa(rs:List Nat)(hf:P.funcs[f]? = some fn)(hr:fn.results=#[])(hA:A.Sublist L)(hR:C xs h A\/Sp h A):TT P (bodyFrame f) n [] (lJ P X (ItR C Sp Pn xs)) e (marks rs) X h (L++markB rs):=
 Rl rs hf (λa _ w _=>ol hr a w) (λw hw=>hw.sub hA) (.inl ⟨rfl,hR⟩)
theorem Bd(rs:List Nat)(hf:P.funcs[f]? = some fn)(hA:A.Sublist L)(hR:Pn ch h A):TP P (bodyFrame f) n ch (lJ P X (ItR C Sp Pn xs)) e (marks rs) X h (L++markB rs):=
 MK rs hf (λw hw=>hw.sub hA) (.inr ⟨ch,rfl,hR⟩)
end ends
section ends2
variable {P:Program} {f:FuncId} {n:Nat} {k:List Item} {e:Env} {X:Cx} {h:HF} {L:LH} {fn:Func} {φ : Value->HF->Prop}
theorem ke{F:List Frame->(Machine->Prop)->Prop}(t:TT P b n todo F e (marks []) X h (L++markB [])):TT P b n todo F e [] X h L:=by
 have:L++markB []=L:=by simp[markB]
 rw[this]at t;exact t
theorem eA{F:List Frame->(Machine->Prop)->Prop}(hL:L=L')(t:TT P b n todo F e ds X h L'):TT P b n todo F e ds X h L:=hL▸t
theorem uX(ms:List Nat)(vs:List Value)(hf:P.funcs[f]? = some fn)(hr:fn.results=rs.toArray)(hv:qy P e L rs vs)(hφ : φ (retVal vs) h):
  TT P (bodyFrame f) n (.code .ret::k) (lJ P X (λx h' B=>B=[]/\∃v,x=.returned v/\φ v h')) e (marks ms) X h (L++markB ms):=
 yu ms (v:=retVal vs) hf (λa he w hw=>oP hr hv a he w hw) (λ_ hw=>hw.sub (List.nil_sublist _)) ⟨rfl,_,rfl,hφ⟩
theorem Dr(ms:List Nat)(vs:List Value)(hf:P.funcs[f]? = some fn)(hr:fn.results=rs.toArray)(hX:X.h0=hh)(hv:qy P e L rs vs)(hvv:retVal vs=v):
  TT P (bodyFrame f) n (.code .ret::k) (lJ P X (λx h' B=>x=.returned v/\h'=hh/\B=[])) e (marks ms) X h (L++markB ms):=
 yu ms (v:=v) hf (λa he w hw=>hvv▸oP hr hv a he w hw) (λ_ hw=>hw.forget) ⟨rfl,hX,rfl⟩
def XR(v:Except Value Value)(hh:HF)(x:Ending)(h':HF)(B:LH):Prop:=
 h'=hh/\B=[]/\match v with
  |.ok u=>x=.returned u
  |.error p=>x=.panicked [{ v:=p,recovered:=false }]
abbrev Fw(P:Program)(f:FuncId)(args:List Value)(h:HF)(v:Except Value Value):Prop:=qf P f args.toArray h [] (XR v h)
theorem MI(ms:List Nat){v:Except Value Value}(vs:List Value)(hf:P.funcs[f]? = some fn)(hr:fn.results=rs.toArray)(hX:X.h0=hh)(hv:qy P e L rs vs)(hvv:v=.ok (retVal vs)):
  TT P (bodyFrame f) n [] (lJ P X (XR v hh)) e (marks ms) X h (L++markB ms):=
 Rl ms (v:=retVal vs) hf (λa he w hw=>oP hr hv a he w hw) (λ_ hw=>hw.forget) (by subst hvv;exact⟨hX,rfl,rfl⟩)
theorem yw(ms:List Nat){v:Except Value Value}(hf:P.funcs[f]? = some fn)(hX:X.h0=hh)(hvv:v=.error p):
  TP P (bodyFrame f) n [{ v:=p,recovered:=false }] (lJ P X (XR v hh)) e (marks ms) X h (L++markB ms):=
 MK ms hf (λ_ hw=>hw.forget) (by subst hvv;exact⟨hX,rfl,rfl⟩)
theorem nK{F:List Frame->(Machine->Prop)->Prop}(t:TP P b n ch F e (marks []) X h (L++markB [])):TP P b n ch F e [] X h L:=by
 have:L++markB []=L:=by simp[markB]
 rw[this]at t;exact t
end ends2
section stepsX
variable {P:Program} {b:Frame} {n:Nat} {ops:Array Oper} {F:List Frame->(Machine->Prop)->Prop} {e:Env} {ds:List Deferred} {X:Cx} {h:HF} {L:LH} {K:Env->HF->LH->Prop}
variable {d:Option Nat} {ty:TypeId} {pos:String} {af:Array Edge} {g:Option (Nat×Bool)}
theorem rO{v:Except Value Value}(hc:∀args w,(callFunc f args).run P w=.ok (.enter f args) w)(hs:Fw P f vs h v)(hvs:a5_.toList.map e.ev=vs)(t':∀u,v=.ok u->K (pute e d u) h L)(tp:∀p,v=.error p->∀e',TP P b n [{ v:=p,recovered:=false }] F e' ds X h L)(hg:guardB ops e ⟨d,.call ⟨.value (.func f),a5_,ats⟩,ty,pos,af,g⟩=true:=by rfl):
  Stp P b n ops F ds X ⟨d,.call ⟨.value (.func f),a5_,ats⟩,ty,pos,af,g⟩ e h L K:=
 pG (A:=[]) (Fr:=L) hc hvs hs rfl (λv' h' B _ hR=>by
   obtain⟨rfl,rfl,hv⟩:=hR
   cases v with
   |ok u=>cases hv;exact t' _ rfl
   |error p=>cases hv)
  (λch h' B _ hR=>by
   obtain⟨rfl,rfl,hv⟩:=hR
   cases v with
   |ok u=>cases hv
   |error p=>cases hv;exact λe' _=>tp _ rfl e') hg
theorem EL{P:Program}{t:TypeId}(w:World):(Instr.panic (.iface t v)).run P w=.halt (.panic (.iface t v)) w:=by simp[Instr.panic,goPanic]
theorem RD{t:TypeId}{T:TypeDesc}(hT:P.underlying t=some T)(hi:(match T with|.interface _=>false|_=>true)=true)(hx:e.ev x=v):
  ∀w,St X h L w->(execOp e.ev ⟨d,.makeInterface t x,ty,pos,af,g⟩).run P w=.ok (.value (.iface t v)) w:=λw _=>by
 cases T<;>simp_all [execOp,Instr.makeInterface,run_underlying hT]
theorem MR(hx:e.ev x=p)(hp:∀w:World,(Instr.panic p).run P w=.halt (.panic p) w)(tp:∀e',TP P b n [{ v:=p,recovered:=false }] F e' ds X h L)(hg:guardB ops e ⟨d,.panic x,ty,pos,af,g⟩=true:=by rfl):Stp P b n ops F ds X ⟨d,.panic x,ty,pos,af,g⟩ e h L K:=by
 unfold Stp
 rw[if_pos hg]
 intro w hw
 have:(execOp e.ev ⟨d,.panic x,ty,pos,af,g⟩).run P w=.halt (.panic p) w:=by
  simp[execOp,hx,hp]
 rw[this]
 exact⟨h,L,hw,λe' _=>tp e'⟩
end stepsX
end
end Go.Sg
