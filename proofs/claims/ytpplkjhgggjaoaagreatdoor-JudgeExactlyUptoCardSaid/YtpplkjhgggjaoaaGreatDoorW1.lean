import Derived.AtR
import Derived.Below
import Derived.Laws.Cells
import Derived.Laws.Entries
import Derived.Orders
import Derived.RangeFuncIn
import Derived.Laws.AppendOwn
/- A part of the proof of JudgeExactly. -/
set_option linter.unusedVariables false
set_option linter.unusedSimpArgs false
set_option maxRecDepth 100000
open List renaming length_cons→zA,length_append→jA,mem_cons_of_mem→vA,not_mem_nil→kA,mem_cons_self→zB,length_nil→jB,toArray→vB,mem_cons→kB,append_assoc→qE,mem_of_getElem?→xE,nil_append→jG,range→kG,mem_append→qH,perm_append_comm→jJ,map_cons→xK,getElem?_eq_none→vL,cons_append→jN,mem_append_right→zP,mem_map_of_mem→vP,mem_map→jQ,nodup_cons→xR,getElem?_map→aAa,mem_append_left→aAc,map_append→aAA,nodup_nil→aAI,all_eq_true→aAN,nodup_append→aAY,ext_getElem?→aBk,mem_range→aBS,map_nil→aCe
open Bool renaming and_eq_true→xB,or_eq_true→xD,eq_iff_iff→qN
open Go.Obj renaming cells→kH
open Go.Deferred renaming ofValue→kJ
open Go.Result renaming andThen_ok→zM
open Array renaming getD_eq_getD_getElem?→kN,getElem?_eq_getElem→aAd,getElem?_eq_some_iff→aAr,ext'→aAs,replicate→aAL,getElem?_setIfInBounds→aA0,foldl_toList→aB3,all_eq_true_iff_forall_mem→aCh,getElem?_append→aCl,ext_getElem?→aCK
open Go.Sem renaming run_bind→xP,run_pure→aBj,run→aBX
open Nat renaming lt_or_ge→jP,le_of_ble_eq_true→vQ,blt→kR,le_trans→xS,eq_of_beq_eq_true→jV,beq→aBa,lt_of_lt_of_le→aBC,ble→aCf,add_zero→aCg,strongRecOn→aCA
open Option.some renaming injEq→kQ,inj→vT
open Go.Addr renaming add→jT
open Go.Frame renaming enter→aAb,atR→aA6,round→aCy
open Go.Instr renaming sureAddr→aAh,getLoop→aBo,loadAt→aBB,enterLoop→aBY
open Option renaming bind_some→aA7,getD_some→aBv,map_some→aBZ
open Prod.mk renaming injEq→aBG
open Go.World renaming cell?→aBR
open Go.Region renaming binds→aCd,ready→aCF
open Go.Region.linearise renaming go→aCC
open Go.Builtin renaming len_→aCE

namespace Go.Sg
def To(P:Program)(Φ : Machine->Prop)(m:Machine):Prop:=∃m',Steps P m m'/\Φ m'
theorem To.now{P:Program}{Φ : Machine->Prop}{m:Machine}(h:Φ m):To P Φ m:=⟨m,.refl P m,h⟩
theorem To.step{P:Program}{Φ : Machine->Prop}{m m₁ : Machine}(h:step P m=.next m₁)(h':To P Φ m₁):To P Φ m:=
 let ⟨m',s,p⟩:=h';⟨m',.head h s,p⟩
abbrev Env:=Nat->Value
def upd(e:Env)(d:Nat)(v:Value):Env:=λt=>bif aBa t d then v else e t
def Env.ev(e:Env):Operand->Value
 |.tmp t=>e t
 |.const v=>v
 |.global g=>.pointer (some ⟨g,0,none⟩)
 |.func f=>.func (.func f) #[] #[]
def envOf(a:Act):Env:=λt=>a.tmps.getD t undef
theorem jZ(a:Act):a.eval=(envOf a).ev:=by
 funext x;cases x<;>rfl
theorem oI(a:Act)(d:Nat)(v:Value)(h:d<a.tmps.size):envOf (a.put (some d) v)=upd (envOf a) d v:=by
 funext t
 simp only[envOf,Act.put,upd]
 by_cases e:t=d
 .subst e
  have:aBa t t=true:=Nat.beq_refl t
  simp[kN,h]
 .have:aBa t d=false:=by
   cases hb:aBa t d
   .rfl
   .exact absurd (jV hb) e
  simp[this,kN,Ne.symm e]
theorem nX(a:Act)(d:Option Tmp)(v:Value):(a.put d v).tmps.size=a.tmps.size:=by
 cases d<;>simp[Act.put]
theorem lR(a:Act)(d:Option Tmp)(v:Value):(a.put d v).defers=a.defers:=by
 cases d<;>simp[Act.put]
theorem un(e:Env)(d:Nat):upd e d (e d)=e:=by
 funext t
 simp only[upd]
 cases hb:aBa t d
 .rfl
 .have:=jV hb
  subst this;rfl
theorem Ar(e:Env)(d:Nat)(v:Value):upd e d v d=v:=by
 simp[upd,Nat.beq_refl]
theorem oC(e:Env){d t:Nat}(v:Value)(h:t≠d):upd e d v t=e t:=by
 have:aBa t d=false:=by
  cases hb:aBa t d
  .rfl
  .exact absurd (jV hb) h
 simp[upd,this]
def upds(e:Env):List (Nat×Value)->Env
 |[]=>e
 |(d,v)::l=>upd (upds e l) d v
def jd(e:Env):List (Nat×Value)->Prop
 |[]=>True
 |(d,v)::l=>e d=v/\jd e l
theorem jd.upds{e:Env}:∀{l:List (Nat×Value)},jd e l->upds e l=e
 |[],_=>rfl
 |(d,v)::l,h=>by
  show upd (Sg.upds e l) d v=e
  rw[jd.upds h.2,←h.1];exact un e d
def rq(P:Program)(f:FuncId)(args:Array Value)(w:World)(R:Ending->World->Prop):Prop:=
 ∀c cs Φ,(∀v w',R (.returned v) w'->To P Φ (lone (c.finish v) cs w'))->(∀ch w',R (.panicked ch) w'->To P Φ (lone (c.raise ch) cs w')) ->
  To P Φ (lone (aAb P f args .normal) (c::cs) w)
def uN(P:Program)(w:World)(R:Ending->World->Prop):Next->Prop
 |.value v=>R (.returned v) w
 |.enter f args=>rq P f args w R
 |.round l f tmps assign body=>∀c cs Φ,(∀v w',R (.returned v) w'->To P Φ (lone (c.finish v) cs w')) ->
   (∀ch w',R (.panicked ch) w'->To P Φ (lone (c.raise ch) cs w'))->To P Φ (lone (aCy l f tmps assign body .normal) (c::cs) w)
 |_=>False
theorem rq.mono{P:Program}{f:FuncId}{args:Array Value}{w:World}{R R':Ending->World->Prop}(h:rq P f args w R)(hr:∀x w',R x w'->R' x w'):rq P f args w R':=
 λc cs Φ h1 h2=>h c cs Φ (λv w' r=>h1 v w' (hr _ _ r)) (λv w' r=>h2 v w' (hr _ _ r))
theorem j7{P:Program}{f:FuncId}{args:Array Value}{w:World}{R:Ending->World->Prop}(h:rq P f args w R):uN P w R (.enter f args):=h
theorem uN.mono{P:Program}{w:World}{R R':Ending->World->Prop}{nx:Next}(h:uN P w R nx)(hr:∀x w',R x w'->R' x w'):uN P w R' nx:=by
 cases nx with
 |value v=>exact hr _ _ h
 |enter f args=>exact rq.mono h hr
 |round l f tmps assign body=>exact λc cs Φ h1 h2=>h c cs Φ (λv w' r=>h1 v w' (hr _ _ r)) (λv w' r=>h2 v w' (hr _ _ r))
 |_=>exact h.elim
def Mv(P:Program)(fv:Value)(args:Array Value)(w:World)(R:Ending->World->Prop):Prop:=
 ∃nx,(do let d ←kJ fv args;invoke d.target d.args:Sem Next).run P w=.ok nx w/\uN P w R nx
theorem Mv.mono{P:Program}{fv:Value}{args:Array Value}{w:World}{R R':Ending->World->Prop}(h:Mv P fv args w R)(hr:∀x w',R x w'->R' x w'):Mv P fv args w R':=
 let ⟨nx,h1,h2⟩:=h;⟨nx,h1,h2.mono hr⟩
section ops
variable {b:Frame} {ops:Array Oper} {i:Nat} {e:Env} {o:Oper}
def noDefer:Op->Bool
 |.defer _=>false
 |_=>true
def guardB(ops:Array Oper)(e:Env)(o:Oper):Bool:=
 match o.guard with
 |none=>true
 |some (j,want)=>
  match(ops[j]?).bind (·.dst)with
  |some d=>match e d with
   |.bool x=>x==want
   |_=>false
  |none=>false
theorem fK{a:Act}(he:envOf a=e):Region.wanted o (yielded ops a.tmps)=guardB ops e o:=by
 unfold guardB
 unfold Region.wanted
 cases hg:o.guard with
 |none=>rfl
 |some p=>
  obtain⟨j,want⟩:=p
  simp only
  cases hj:(ops[j]?).bind (·.dst)with
  |none=>simp[yielded,hj]
  |some d=>
   have hed:e d=a.tmps.getD d undef:=by rw[←he];rfl
   simp only[hed,yielded,hj,aA7,kN]
   cases hq:a.tmps[d]? with
   |none=>simp[undef]
   |some v=>
    simp only[aBv]
    cases v<;>first|rfl|(simp)
theorem jI(ro:Option Nat)(ρ : Operand->Value)(h:noDefer o.op=true):Oper.semAt ro ρ o=execOp ρ o:=
 Oper.semAt_eq ro ρ o (λc hc=>by rw[hc]at h;cases h)
theorem gQ(a:Act)(rest:List Nat)(k:List Item)(ho:ops[i]? = some o)(v:Value):
  (b.atR a (.inRegion ops (i::rest)::k)).finish v=b.atR (a.put o.dst v) (.inRegion ops rest::k):=by
 rw[Frame.finish_atR,ho];rfl
end ops
end Go.Sg

namespace Go.Sg
abbrev HF:=Nat->Option Obj
abbrev LH:=List (Nat×Obj)
structure Cx where
 w0:World
 h0:HF
 M:List Nat
structure St(X:Cx)(h:HF)(L:LH)(w:World):Prop where
 os:w.os=X.w0.os
 tape:w.tape=X.w0.tape
 output:w.output=X.w0.output
 size:X.w0.heap.size<=w.heap.size
 keep:∀b,b<X.w0.heap.size->b∉X.M->w.heap[b]? = X.w0.heap[b]?
 le:∀b o,X.h0 b=some o->h b=some o
 old:∀b,b<X.w0.heap.size->h b=X.h0 b
 imm:∀b o,h b=some o->w.heap[b]? = some o
 own:∀p∈L,w.heap[p.1]? = some p.2
 dis:(L.map (·.1)).Nodup
 free:∀p∈L,h p.1=none
 new:∀p∈L,X.w0.heap.size<=p.1\/p.1∈X.M
structure Pre(h:HF)(L:LH)(w:World):Prop where
 imm:∀b o,h b=some o->w.heap[b]? = some o
 own:∀p∈L,w.heap[p.1]? = some p.2
 dis:(L.map (·.1)).Nodup
 free:∀p∈L,h p.1=none
theorem ib{w:World}{b:Nat}{o:Obj}(h:w.heap[b]? = some o):b<w.heap.size:=by
 rcases jP b w.heap.size with h1|h1
 .exact h1
 .simp[Array.getElem?_eq_none h1]at h
theorem St.start{h:HF}{L:LH}{w:World}(p:Pre h L w):St ⟨w,h,L.map (·.1)⟩ h L w:=
 ⟨rfl,rfl,rfl,Nat.le_refl _,λ_ _ _=>rfl,λ_ _ h=>h,λ_ _=>rfl,p.imm,p.own,p.dis,p.free,λ_ hq=>.inr (vP hq)⟩
theorem St.pre{X:Cx}{h:HF}{L:LH}{w:World}(s:St X h L w):Pre h L w:=⟨s.imm,s.own,s.dis,s.free⟩
theorem Pre.left{h:HF}{A B:LH}{w:World}(s:Pre h (A++B) w):Pre h A w:=
  ⟨s.imm,λp hp=>s.own p (aAc _ hp),by have:=s.dis;rw[aAA,aAY]at this;exact this.1,
   λp hp=>s.free p (aAc _ hp)⟩
theorem St.sub{X:Cx}{h:HF}{L L':LH}{w:World}(s:St X h L w)(hs:L'.Sublist L):St X h L' w:=
 ⟨s.os,s.tape,s.output,s.size,s.keep,s.le,s.old,s.imm,λp hp=>s.own p (hs.subset hp),s.dis.sublist (hs.map _),λp hp=>s.free p (hs.subset hp),λp hp=>s.new p (hs.subset hp)⟩
theorem St.forget{X:Cx}{h:HF}{L:LH}{w:World}(s:St X h L w):St X X.h0 [] w:=
 ⟨s.os,s.tape,s.output,s.size,s.keep,λ_ _ h=>h,λ_ _=>rfl,λb o hb=>s.imm b o (s.le b o hb),λ_ hp=>(kA hp).elim,aAI,λ_ hp=>(kA hp).elim,λ_ hp=>(kA hp).elim⟩
theorem St.lower{X:Cx}{h:HF}{L:LH}{w:World}(s:St X h L w):St X X.h0 L w:=
 ⟨s.os,s.tape,s.output,s.size,s.keep,λ_ _ h=>h,λ_ _=>rfl,λb o hb=>s.imm b o (s.le b o hb),s.own,s.dis,(λp hp=>by
  cases hb:X.h0 p.1 with
  |none=>rfl
  |some o=>have:=s.le _ _ hb;rw[s.free p hp]at this;cases this),s.new⟩
theorem St.perm{X:Cx}{h:HF}{L L':LH}{w:World}(s:St X h L w)(hs:L.Perm L'):St X h L' w:=
 ⟨s.os,s.tape,s.output,s.size,s.keep,s.le,s.old,s.imm,λp hp=>s.own p (hs.mem_iff.2 hp),(hs.map _).nodup_iff.1 s.dis,λp hp=>s.free p (hs.mem_iff.2 hp),λp hp=>s.new p (hs.mem_iff.2 hp)⟩
def HF.add(h:HF)(b:Nat)(o:Obj):HF:=λx=>if x=b then some o else h x
theorem HF.xZ(h:HF)(b:Nat)(o:Obj):h.add b o b=some o:=by simp[HF.add]
def HF.le(h h':HF):Prop:=∀b o,h b=some o->h' b=some o
theorem HF.le_refl(h:HF):h.le h:=λ_ _ h=>h
theorem HF.le_trans{a b c:HF}(x:a.le b)(y:b.le c):a.le c:=λk o h=>y k o (x k o h)
theorem HF.Cd{h:HF}{b:Nat}{o:Obj}(hb:h b=none):h.le (h.add b o):=λk p hk=>by
 unfold HF.add
 by_cases e:k=b
 .subst e;rw[hb]at hk;cases hk
 .simp[e,hk]
theorem St.freeze{X:Cx}{h:HF}{L:LH}{w:World}{b:Nat}{o:Obj}(s:St X h ((b,o)::L) w)(hb:b∉X.M):St X (h.add b o) L w:=by
 have hnew:X.w0.heap.size<=b:=(s.new (b,o) (zB ..)).resolve_right hb
 have hdis:=s.dis
 rw[xK,xR]at hdis
 have hfr:=s.free (b,o) (zB ..)
 refine⟨s.os,s.tape,s.output,s.size,s.keep,λk p hk=>HF.Cd hfr k p (s.le k p hk),?_,?_,λp hp=>s.own p (vA _ hp),hdis.2,?_,λp hp=>s.new p (vA _ hp)⟩
 .intro k hk
  rw[←s.old k hk]
  unfold HF.add
  rw[if_neg (by omega)]
 .intro k p hk
  unfold HF.add at hk
  by_cases e:k=b
  .subst e
   simp only[if_true,kQ]at hk
   subst hk
   exact s.own (k,o) (zB ..)
  .rw[if_neg e]at hk;exact s.imm k p hk
 .intro p hp
  unfold HF.add
  rw[if_neg]
  .exact s.free p (vA _ hp)
  .intro e
   have hm:p.1∈L.map (·.1):=vP hp
   rw[e]at hm
   exact hdis.1 hm
theorem St.after{X:Cx}{h h':HF}{A B F:LH}{w w':World}(s:St X h (A++F) w)(t:St ⟨w,h,A.map (·.1)⟩ h' B w'):St X h' (B++F) w':=by
 have hF:∀p∈F,p.1<w.heap.size/\p.1∉A.map (·.1):=by
  intro p hp
  refine⟨ib (s.own p (zP _ hp)),?_⟩
  have:=s.dis
  rw[aAA,aAY]at this
  intro hm
  exact this.2.2 p.1 hm p.1 (vP hp) rfl
 have ts:w.heap.size<=w'.heap.size:=t.size
 refine⟨t.os.trans s.os,t.tape.trans s.tape,t.output.trans s.output,xS s.size ts,?_,λb o hb=>t.le b o (s.le b o hb),?_,t.imm,?_,?_,?_,?_⟩
 .intro b hb hM
  have hlt:b<w.heap.size:=aBC hb s.size
  rw[←s.keep b hb hM]
  refine t.keep b hlt ?_
  intro hm
  obtain⟨p,hp,rfl⟩:=jQ.1 hm
  rcases s.new p (aAc _ hp)with h1|h1
  .omega
  .exact hM h1
 .intro b hb
  rw[←s.old b hb]
  exact t.old b (aBC hb s.size)
 .intro p hp
  rcases qH.1 hp with hp|hp
  .exact t.own p hp
  .obtain⟨h1,h2⟩:=hF p hp
   rw[t.keep p.1 h1 h2]
   exact s.own p (zP _ hp)
 .rw[aAA,aAY]
  refine⟨t.dis,?_,?_⟩
  .have:=s.dis
   rw[aAA,aAY]at this
   exact this.2.1
  .intro x hx y hy e
   obtain⟨p,hp,rfl⟩:=jQ.1 hx
   obtain⟨q,hq,rfl⟩:=jQ.1 hy
   obtain⟨h1,h2⟩:=hF q hq
   rcases t.new p hp with h3|h3
   .have:w.heap.size<=p.1:=h3
    omega
   .exact h2 (e▸h3)
 .intro p hp
  rcases qH.1 hp with hp|hp
  .exact t.free p hp
  .obtain⟨h1,h2⟩:=hF p hp
   have:=t.old p.1 h1
   rw[this]
   exact s.free p (zP _ hp)
 .intro p hp
  rcases qH.1 hp with hp|hp
  .rcases t.new p hp with h3|h3
   .exact .inl (xS s.size h3)
   .obtain⟨q,hq,hqp⟩:=jQ.1 h3
    have:=s.new q (aAc _ hq)
    rw[hqp]at this
    exact this
  .exact s.new p (zP _ hp)
theorem St.below{X:Cx}{h:HF}{L:LH}{w:World}(s:St X h L w)(hM:X.M=[]):RowKit.Below X.w0.heap.size X.w0 w:=
 ⟨s.os,s.tape,s.output,s.size,λk hk=>s.keep k hk (by rw[hM];simp)⟩
theorem St.hle{X:Cx}{h:HF}{L:LH}{w:World}(s:St X h L w):X.h0.le h:=s.le
theorem St.alloc{X:Cx}{h:HF}{L:LH}{w:World}(s:St X h L w)(o:Obj):
  St X h ((w.heap.size,o)::L) { w with heap:=w.heap.push o }:=by
 have hs:(w.heap.push o).size=w.heap.size+1:=by simp
 have hold:∀b,b<w.heap.size->(w.heap.push o)[b]? = w.heap[b]?:=λb hb=>by
  rw[Array.getElem?_push,if_neg (by omega)]
 refine⟨s.os,s.tape,s.output,by simp;exact Nat.le_succ_of_le s.size,?_,s.le,s.old,?_,?_,?_,?_,?_⟩
 .intro b hb hM
  show(w.heap.push o)[b]? = _
  rw[hold b (aBC hb s.size)];exact s.keep b hb hM
 .intro b p hb
  show(w.heap.push o)[b]? = _
  rw[hold b (ib (s.imm b p hb))];exact s.imm b p hb
 .intro p hp
  show(w.heap.push o)[p.1]? = _
  rcases kB.1 hp with rfl|hp
  .simp
  .rw[hold p.1 (ib (s.own p hp))];exact s.own p hp
 .rw[xK,xR]
  refine⟨?_,s.dis⟩
  intro hm
  obtain⟨p,hp,hpe⟩:=jQ.1 hm
  have:=ib (s.own p hp)
  simp only at hpe
  omega
 .intro p hp
  rcases kB.1 hp with rfl|hp
  .cases hh:h w.heap.size with
   |none=>rfl
   |some q=>have:=ib (s.imm _ _ hh);omega
  .exact s.free p hp
 .intro p hp
  rcases kB.1 hp with rfl|hp
  .exact .inl s.size
  .exact s.new p hp
theorem St.drew{X:Cx}{h:HF}{L:LH}{w:World}(s:St X h L w)(d:Nat):St X h L { w with drawn:=d }:=
 ⟨s.os,s.tape,s.output,s.size,s.keep,s.le,s.old,s.imm,s.own,s.dis,s.free,s.new⟩
def nth{α : Type}:List α->Nat->Option α
 |[],_=>none
 |x::_,0=>some x
 |_::l,i+1=>nth l i
theorem im{α : Type}(l:List α)(i:Nat):nth l i=l[i]?:=by
 induction l generalizing i with
 |nil=>simp[nth]
 |cons x l ih=>cases i<;>simp[nth,ih]
def setNth{α : Type}:List α->Nat->α->List α
 |[],_,_=>[]
 |_::l,0,y=>y::l
 |x::l,i+1,y=>x::setNth l i y
theorem ma{α : Type}(l:List α)(i:Nat)(y:α):setNth l i y=l.set i y:=by
 induction l generalizing i with
 |nil=>simp[setNth]
 |cons x l ih=>cases i<;>simp[setNth,ih]
theorem pR{α : Type}(l:List α)(i:Nat)(y:α):(setNth l i y).length=l.length:=by
 rw[ma];simp
theorem St.write{X:Cx}{h:HF}{L:LH}{w:World}(s:St X h L w){i b:Nat}{o:Obj}(hi:nth L i=some (b,o))(o':Obj):
  St X h (setNth L i (b,o')) { w with heap:=w.heap.setIfInBounds b o' }:=by
 rw[im]at hi
 rw[ma]
 have hmem:(b,o)∈L:=xE hi
 have hil:i<L.length:=by
  rcases jP i L.length with h1|h1
  .exact h1
  .simp[vL h1]at hi
 have hbs:b<w.heap.size:=ib (s.own _ hmem)
 have hkeys:(L.set i (b,o')).map (·.1)=L.map (·.1):=by
  rw[List.map_set]
  apply aBk
  intro j
  rw[List.getElem?_set]
  by_cases e:i=j
  .subst e
   simp[hil]
   have:L[i]? = some (b,o):=hi
   rw[List.getElem?_eq_getElem hil]at this
   simp only[kQ]at this
   rw[this]
  .simp[e]
 have hin:∀p∈L.set i (b,o'),p=(b,o')\/(p∈L/\p.1≠b):=by
  intro p hp
  obtain⟨j,hj⟩:=List.getElem?_of_mem hp
  rw[List.getElem?_set]at hj
  by_cases e:i=j
  .subst e
   simp[hil]at hj
   exact .inl hj.symm
  .simp only[e,if_false]at hj
   refine .inr ⟨xE hj,?_⟩
   intro hb
   have hd:=s.dis
   have h1:(L.map (·.1))[j]? = some b:=by simp[aAa,hj,hb]
   have h2:(L.map (·.1))[i]? = some b:=by simp[aAa,hi]
   have hj':j<(L.map (·.1)).length:=by
    rcases jP j (L.map (·.1)).length with q|q
    .exact q
    .simp[vL q]at h1
   exact e ((List.getElem?_inj (by simpa using hil) hd).1 (h2.trans h1.symm))
 have hother:∀k,k≠b->(w.heap.setIfInBounds b o')[k]? = w.heap[k]?:=λk hk=>by
  rw[aA0,if_neg (Ne.symm hk)]
 refine⟨s.os,s.tape,s.output,by simp;exact s.size,?_,s.le,s.old,?_,?_,?_,?_,?_⟩
 .intro k hk hM
  show(w.heap.setIfInBounds b o')[k]? = _
  have hne:k≠b:=by
   intro e;subst e
   rcases s.new _ hmem with h1|h1
   .simp only at h1;omega
   .exact hM h1
  rw[hother k hne];exact s.keep k hk hM
 .intro k p hk
  show(w.heap.setIfInBounds b o')[k]? = _
  have hne:k≠b:=by
   intro e;subst e
   have:=s.free _ hmem
   simp only at this
   rw[this]at hk;cases hk
  rw[hother k hne];exact s.imm k p hk
 .intro p hp
  show(w.heap.setIfInBounds b o')[p.1]? = _
  rcases hin p hp with rfl|⟨hp,hne⟩
  .simp[hbs]
  .rw[hother _ hne];exact s.own p hp
 .rw[hkeys];exact s.dis
 .intro p hp
  rcases hin p hp with rfl|⟨hp,_⟩
  .exact s.free (b,o) hmem
  .exact s.free p hp
 .intro p hp
  rcases hin p hp with rfl|⟨hp,_⟩
  .exact s.new (b,o) hmem
  .exact s.new p hp
def Qj(C:World->(Ending->World->Prop)->Prop)(h:HF)(A:LH)(R:Ending->HF->LH->Prop):Prop:=
 ∀w,Pre h A w->C w λx w'=>∃h' B,St ⟨w,h,A.map (·.1)⟩ h' B w'/\R x h' B
abbrev od(P:Program)(f:FuncId)(args:Array Value)(h:HF)(A:LH)(R:Ending->HF->LH->Prop):Prop:=Qj (rq P f args) h A R
abbrev mr(P:Program)(fv:Value)(args:Array Value)(h:HF)(A:LH)(R:Ending->HF->LH->Prop):Prop:=Qj (Mv P fv args) h A R
theorem od.mono{P:Program}{f:FuncId}{args:Array Value}{h:HF}{A:LH}{R R':Ending->HF->LH->Prop}(s:od P f args h A R)(hr:∀x h' B,h.le h'->R x h' B->R' x h' B):od P f args h A R':=
 λw p=>(s w p).mono λ_ _⟨h',B,t,r⟩=>⟨h',B,t,hr _ _ _ t.le r⟩
theorem mr.mono{P:Program}{f:Value}{args:Array Value}{h:HF}{A:LH}{R R':Ending->HF->LH->Prop}(s:mr P f args h A R)(hr:∀x h' B,h.le h'->R x h' B->R' x h' B):mr P f args h A R':=
 λw p=>(s w p).mono λ_ _⟨h',B,t,r⟩=>⟨h',B,t,hr _ _ _ t.le r⟩
end Go.Sg

namespace Go.Sg
def TT(P:Program)(b:Frame)(n:Nat)(todo:List Item)(F:List Frame->(Machine->Prop)->Prop)(e:Env)(ds:List Deferred)(X:Cx)(h:HF)(L:LH):Prop:=
 ∀w,St X h L w->∀a cs Φ,a.tmps.size=n->envOf a=e->a.defers=ds->F cs Φ->To P Φ (lone (b.atR a todo) cs w)
def TO(P:Program)(b:Frame)(n:Nat)(ops:Array Oper)(l:List Oper)(k:List Item)(F:List Frame->(Machine->Prop)->Prop)(e:Env)(ds:List Deferred)(X:Cx)(h:HF)(L:LH):Prop:=
 ∀w,St X h L w->∀is:List Nat,is.map (ops[·]?)=l.map some->∀a cs Φ,a.tmps.size=n->envOf a=e->a.defers=ds->F cs Φ->To P Φ (lone (b.atR a (.inRegion ops is::k)) cs w)
section rules
variable {P:Program} {b:Frame} {n:Nat} {k:List Item} {F:List Frame->(Machine->Prop)->Prop} {e:Env} {ds:List Deferred} {X:Cx} {h:HF} {L:LH}
theorem bz{todo:List Item}{L':LH}(hs:L'.Sublist L)(t:TT P b n todo F e ds X h L'):TT P b n todo F e ds X h L:=
 λw hw=>t w (hw.sub hs)
theorem lH{todo:List Item}{L':LH}(hs:L.Perm L')(t:TT P b n todo F e ds X h L'):TT P b n todo F e ds X h L:=
 λw hw=>t w (hw.perm hs)
theorem IF{todo:List Item}(l:List (Nat×Value))(hl:jd e l)(t:TT P b n todo F (upds e l) ds X h L):TT P b n todo F e ds X h L:=by
 rw[hl.upds]at t;exact t
theorem aN(t:TT P b n k F e ds X h L):TT P b n (.code .skip::k) F e ds X h L:=
 λw hw a cs Φ h1 h2 h3 h4=>.step stepR_skip (t w hw a cs Φ h1 h2 h3 h4)
theorem el{x y:Code}(t:TT P b n (.code x::.code y::k) F e ds X h L):TT P b n (.code (.seq x y)::k) F e ds X h L:=
 λw hw a cs Φ h1 h2 h3 h4=>.step stepR_seq (t w hw a cs Φ h1 h2 h3 h4)
theorem lZ{id:Nat}{c:Code}(t:TT P b n (.code c::.inBlock id::k) F e ds X h L):TT P b n (.code (.block id c)::k) F e ds X h L:=
 λw hw a cs Φ h1 h2 h3 h4=>.step stepR_block (t w hw a cs Φ h1 h2 h3 h4)
theorem eF{id:Nat}(t:TT P b n k F e ds X h L):TT P b n (.inBlock id::k) F e ds X h L:=
 λw hw a cs Φ h1 h2 h3 h4=>.step stepR_inBlock (t w hw a cs Φ h1 h2 h3 h4)
theorem lI{id:Nat}{k':List Item}(hx:exitTo id k=some k')(t:TT P b n k' F e ds X h L):TT P b n (.code (.exit id)::k) F e ds X h L:=
 λw hw a cs Φ h1 h2 h3 h4=>.step (stepR_exit hx) (t w hw a cs Φ h1 h2 h3 h4)
theorem j8{c:Operand}{x y:Code}{t:Bool}(hc:e.ev c=.bool t)(h1:t=true->TT P b n (.code x::k) F e ds X h L)(h0:t=false->TT P b n (.code y::k) F e ds X h L):
  TT P b n (.code (.cond c x y)::k) F e ds X h L:=by
 intro w hw a cs Φ hn he hd hF
 have hev:a.eval c=.bool t:=by rw[jZ,he];exact hc
 cases t with
 |true=>exact .step (stepR_cond hev) (h1 rfl w hw a cs Φ hn he hd hF)
 |false=>exact .step (stepR_cond hev) (h0 rfl w hw a cs Φ hn he hd hF)
theorem lu{c:Operand}{x y:Code}(hc:e.ev c=.bool true)(t:TT P b n (.code x::k) F e ds X h L):TT P b n (.code (.cond c x y)::k) F e ds X h L:=
 j8 hc (λ_=>t) (λh=>by cases h)
theorem oL{c:Operand}{x y:Code}(hc:e.ev c=.bool false)(t:TT P b n (.code y::k) F e ds X h L):TT P b n (.code (.cond c x y)::k) F e ds X h L:=
 j8 hc (λh=>by cases h) (λ_=>t)
theorem kg{c:Code}{ι : Type}(sl:ι->List (Nat×Value))(hh:ι->HF)(LL:ι->LH)(I:ι->Prop)(μ : ι->Nat)(i₀ : ι)(h0:jd e (sl i₀))(hs:∀w,St X h L w->St X (hh i₀) (LL i₀) w)(hI:I i₀)(round:∀i,I i->(∀i' e',μ i'<μ i->I i'->jd e' (sl i')->TT P b n (.inLoop c::k) F e' ds X (hh i') (LL i')) ->
   ∀e,TT P b n (.code c::.inLoop c::k) F (upds e (sl i)) ds X (hh i) (LL i)):
  TT P b n (.code (.loop c)::k) F e ds X h L:=by
 have key:∀m i e',μ i=m->I i->jd e' (sl i)->TT P b n (.code c::.inLoop c::k) F e' ds X (hh i) (LL i):=by
  intro m
  induction m using aCA with
  |_ m ih=>
   intro i e' hm hI hr
   have:=round i hI (λi' e'' hlt hI' hr' w hw a cs Φ h1 h2 h3 h4=>.step stepR_inLoop (ih _ (hm▸hlt) i' e'' rfl hI' hr' w hw a cs Φ h1 h2 h3 h4)) e'
   rw[hr.upds]at this
   exact this
 intro w hw a cs Φ h1 h2 h3 h4
 exact .step stepR_loop (key _ i₀ e rfl hI h0 w (hs w hw) a cs Φ h1 h2 h3 h4)
theorem bE{id:Nat}{l:List Oper}(t:TO P b n l.toArray l k F e ds X h L):TT P b n (.code (.region id l.toArray false)::k) F e ds X h L:=by
 intro w hw a cs Φ h1 h2 h3 h4
 refine .step stepR_region (t w hw _ ?_ a cs Φ h1 h2 h3 h4)
 apply aBk
 intro i
 simp only[aAa,List.size_toArray,List.getElem?_toArray]
 rcases jP i l.length with hi|hi
 .simp[List.getElem?_range hi,hi]
 .simp[vL hi,vL (l:=kG l.length) (by simpa using hi)]
theorem aJ{ops:Array Oper}(t:TT P b n k F e ds X h L):TO P b n ops [] k F e ds X h L:=by
 intro w hw is hi a cs Φ h1 h2 h3 h4
 simp only[aCe,List.map_eq_nil_iff]at hi
 subst hi
 exact .step stepR_region_end (t w hw a cs Φ h1 h2 h3 h4)
variable {ops:Array Oper} {l:List Oper} {o:Oper}
theorem oZ{is:List Nat}(hi:is.map (ops[·]?)=(o::l).map some):∃i js,is=i::js/\ops[i]? = some o/\js.map (ops[·]?)=l.map some:=by
 cases is with
 |nil=>simp at hi
 |cons i js=>
  simp only[xK,List.cons.injEq]at hi
  exact⟨i,js,rfl,hi.1,hi.2⟩
theorem D3{d:Nat}(hd:o.dst=some d)(hdn:d<n)(hnd:noDefer o.op=true)(hg:guardB ops e o=true)(hr:∀w,St X h L w->∃v w' h' L',(execOp e.ev o).run P w=.ok (.value v) w'/\St X h' L' w'/\TO P b n ops l k F (upd e d v) ds X h' L'):
  TO P b n ops (o::l) k F e ds X h L:=by
 intro w hw is hi a cs Φ hn he hds hF
 obtain⟨i,js,rfl,ho,hj⟩:=oZ hi
 obtain⟨v,w',h',L',hrun,hst,t⟩:=hr w hw
 have hwt:=(fK (ops:=ops) (o:=o) he).trans hg
 have hs:=stepGR_op (P:=P) (b:=b) (k:=k) (cs:=cs) (w:=w) (rest:=js) ho hwt
 refine .step (step_lone_go (fr':=b.atR (a.put o.dst v) (.inRegion ops js::k)) (cs':=cs) (w':=w') ?_) ?_
 .rw[hs,jI _ _ hnd,jZ,he,←gQ a js k ho v];simp[stepG.apply,hrun]
 .rw[hd]
  exact t w' hst js hj (a.put (some d) v) cs Φ (by rw[nX];exact hn) (by rw[oI _ _ _ (hn▸hdn),he]) (by rw[lR];exact hds) hF
theorem Pl(hd:o.dst=none)(hnd:noDefer o.op=true)(hg:guardB ops e o=true)(hr:∀w,St X h L w->∃w' h' L',(execOp e.ev o).run P w=.ok .skip w'/\St X h' L' w'/\TO P b n ops l k F e ds X h' L'):
  TO P b n ops (o::l) k F e ds X h L:=by
 intro w hw is hi a cs Φ hn he hds hF
 obtain⟨i,js,rfl,ho,hj⟩:=oZ hi
 obtain⟨w',h',L',hrun,hst,t⟩:=hr w hw
 have hwt:=(fK (ops:=ops) (o:=o) he).trans hg
 have hs:=stepGR_op (P:=P) (b:=b) (k:=k) (cs:=cs) (w:=w) (rest:=js) ho hwt
 refine .step (step_lone_go (fr':=b.atR (a.put o.dst undef) (.inRegion ops js::k)) (cs':=cs) (w':=w') ?_) ?_
 .rw[hs,jI _ _ hnd,jZ,he,←gQ a js k ho undef];simp[stepG.apply,hrun]
 .rw[hd]
  exact t w' hst js hj a cs Φ hn he hds hF
theorem Po{d:Nat}(hd:o.dst=some d)(hdn:d<n)(hg:guardB ops e o=false)(t:TO P b n ops l k F (upd e d undef) ds X h L):TO P b n ops (o::l) k F e ds X h L:=by
 intro w hw is hi a cs Φ hn he hds hF
 obtain⟨i,js,rfl,ho,hj⟩:=oZ hi
 have hwt:=(fK (ops:=ops) (o:=o) he).trans hg
 have hs:=stepR_op_skip (P:=P) (b:=b) (a:=a) (k:=k) (cs:=cs) (w:=w) (ops:=ops) (i:=i) (rest:=js) (by simp[ho,hwt])
 simp only[ho,aA7,hd]at hs
 exact .step hs (t w hw js hj (a.put (some d) undef) cs Φ (by rw[nX];exact hn) (by rw[oI _ _ _ (hn▸hdn),he]) (by rw[lR];exact hds) hF)
def TP(P:Program)(b:Frame)(n:Nat)(ch:List PanicEntry)(F:List Frame->(Machine->Prop)->Prop)(e:Env)(ds:List Deferred)(X:Cx)(h:HF)(L:LH):Prop:=
 ∀w,St X h L w->∀a cs Φ todo,a.tmps.size=n->envOf a=e->a.defers=ds->F cs Φ->To P Φ (lone { b.atR a todo with mode:=.panicking ch } cs w)
theorem Hy{d:Nat}(hd:o.dst=some d)(hdn:d<n)(hnd:noDefer o.op=true)(hg:guardB ops e o=true)(hr:∀w,St X h L w->∃nx w',(execOp e.ev o).run P w=.ok nx w'/\uN P w' (λ
   |.returned v,w''=>∃h' L',St X h' L' w''/\TO P b n ops l k F (upd e d v) ds X h' L'
   |.panicked ch,w''=>∃h' L',St X h' L' w''/\TP P b n ch F e ds X h' L'
   |.outgrown,_=>True) nx):
  TO P b n ops (o::l) k F e ds X h L:=by
 intro w hw is hi a cs Φ hn he hds hF
 obtain⟨i,js,rfl,ho,hj⟩:=oZ hi
 obtain⟨nx,w',hrun,hcall⟩:=hr w hw
 have hwt:=(fK (ops:=ops) (o:=o) he).trans hg
 have hs:=stepGR_op (P:=P) (b:=b) (k:=k) (cs:=cs) (w:=w) (rest:=js) ho hwt
 have hret:∀v w'',(∃h' L',St X h' L' w''/\TO P b n ops l k F (upd e d v) ds X h' L')->To P Φ (lone ((b.atR a (.inRegion ops (i::js)::k)).finish v) cs w''):=by
  rintro v w'' ⟨h',L',hst,t⟩
  rw[gQ a js k ho v,hd]
  exact t w'' hst js hj (a.put (some d) v) cs Φ (by rw[nX];exact hn) (by rw[oI _ _ _ (hn▸hdn),he]) (by rw[lR];exact hds) hF
 have hpan:∀ch w'',(∃h' L',St X h' L' w''/\TP P b n ch F e ds X h' L')->To P Φ (lone ((b.atR a (.inRegion ops (i::js)::k)).raise ch) cs w''):=by
  rintro ch w'' ⟨h',L',hst,t⟩
  exact t w'' hst a cs Φ _ hn he hds hF
 cases nx with
 |value v=>
  refine .step (step_lone_go (fr':=b.atR (a.put o.dst v) (.inRegion ops js::k)) (cs':=cs) (w':=w') ?_) ?_
  .rw[hs,jI _ _ hnd,jZ,he,←gQ a js k ho v];simp[stepG.apply,hrun]
  .have:=hret v w' hcall
   rw[gQ a js k ho v]at this
   exact this
 |enter f args=>
  refine .step (step_lone_go (fr':=aAb P f args .normal) (cs':=b.atR a (.inRegion ops (i::js)::k)::cs) (w':=w') ?_) ?_
  .rw[hs,jI _ _ hnd,jZ,he];simp[stepG.apply,hrun,aA6]
  .exact hcall _ cs Φ (λv w'' r=>hret v w'' r) (λch w'' r=>hpan ch w'' r)
 |round lp f tmps assign body=>
  refine .step (step_lone_go (fr':=aCy lp f tmps assign body .normal) (cs':=b.atR a (.inRegion ops (i::js)::k)::cs) (w':=w') ?_) ?_
  .rw[hs,jI _ _ hnd,jZ,he];simp[stepG.apply,hrun,aA6]
  .exact hcall _ cs Φ (λv w'' r=>hret v w'' r) (λch w'' r=>hpan ch w'' r)
 |_=>exact hcall.elim
end rules
def lS(P:Program)(X:Cx)(R:Ending->HF->LH->Prop)(cs:List Frame)(Φ : Machine->Prop):Prop:=
 ∃c cs',cs=c::cs'/\(∀v w',(∃h' B,St X h' B w'/\R (.returned v) h' B)->To P Φ (lone (c.finish v) cs' w')) /\
  (∀ch w',(∃h' B,St X h' B w'/\R (.panicked ch) h' B)->To P Φ (lone (c.raise ch) cs' w'))
def envArgs:List Value->Env
 |[]=>λ_=>undef
 |v::vs=>λt=>match t with
  |0=>v
  |t+1=>envArgs vs t
theorem oz(args:List Value)(m:Nat):envOf { tmps:=args.toArray++aAL m undef,defers:=[] }=envArgs args:=by
 funext t
 simp only[envOf,kN]
 induction args generalizing t with
 |nil=>
  simp only[envArgs,vB,aCl]
  simp[Array.getElem?_replicate]
  split<;>rfl
 |cons v vs ih=>
  cases t with
  |zero=>simp[envArgs,aCl]
  |succ t=>
   simp only[envArgs]
   rw[←ih t]
   simp[aCl]
def bodyFrame(f:FuncId):Frame:={ fn:=f,tmps:=#[],todo:=[],defers:=[],mode:=.run,kind:=.normal,roundOf:=none }
theorem cJ{P:Program}{f:FuncId}{fn:Func}{c:Code}{n:Nat}{args:List Value}{h:HF}{A:LH}{R:Ending->HF->LH->Prop}(hf:P.funcs[f]? = some fn)(hb:fn.body=some c)(hn:fn.ntmps=n)(hle:aCf args.length n=true)(t:∀X:Cx,X.M=A.map (·.1)->X.h0=h->TT P (bodyFrame f) n [.code c] (lS P X R) (envArgs args) [] X h A):od P f args.toArray h A R:=by
 intro w p caller cs Φ h1 h2
 have hle:=vQ hle
 have henter:aAb P f args.toArray .normal=(bodyFrame f).atR { tmps:=args.toArray++aAL (n-args.length) undef,defers:=[] } [.code c]:=by
  simp[aAb,aA6,hf,hb,hn,bodyFrame]
 rw[henter]
 exact t ⟨w,h,A.map (·.1)⟩ rfl rfl w (St.start p) _ (caller::cs) Φ (by simp;omega) (oz _ _) rfl ⟨caller,cs,rfl,h1,h2⟩
section ending
variable {P:Program} {f:FuncId} {n:Nat} {k:List Item} {e:Env} {ds:List Deferred} {X:Cx} {h:HF} {L:LH} {R:Ending->HF->LH->Prop} {fn:Func}
theorem ip{fr c:Frame}{cs:List Frame}{w:World}{v:Value}(hm:fr.mode=.returning)(hd:fr.defers=[])(hk:fr.kind=.normal)(hf:P.funcs[fr.fn]? = some fn)(hr:(results fn fr.tmps).run P w=.ok v w):step P (lone fr (c::cs) w)=.next (lone (c.finish v) cs w):=
 step_leave_returned (P:=P) (fr:=fr) ⟨hm,hd,hk,fn,hf,hr⟩
theorem pH{v:Value}{h2:HF}{B:LH}(hf:P.funcs[f]? = some fn)(hv:∀a:Act,envOf a=e->∀w,St X h L w->(results fn a.tmps).run P w=.ok v w)(hB:∀w,St X h L w->St X h2 B w)(hR:R (.returned v) h2 B):TT P (bodyFrame f) n (.code .ret::k) (lS P X R) e [] X h L:=by
 intro w hw a cs Φ hn he hds hF
 obtain⟨c,cs',rfl,h1,_⟩:=hF
 refine .step (stepR_ret rfl) (.step (ip (fn:=fn) (v:=v) rfl hds rfl hf (hv a he w hw)) ?_)
 exact h1 v w ⟨h2,B,hB w hw,hR⟩
theorem wI{v:Value}{h2:HF}{B:LH}(hf:P.funcs[f]? = some fn)(hv:∀a:Act,envOf a=e->∀w,St X h L w->(results fn a.tmps).run P w=.ok v w)(hB:∀w,St X h L w->St X h2 B w)(hR:R (.returned v) h2 B):TT P (bodyFrame f) n [] (lS P X R) e [] X h L:=by
 intro w hw a cs Φ hn he hds hF
 obtain⟨c,cs',rfl,h1,_⟩:=hF
 refine .step (stepR_end rfl) (.step (ip (fn:=fn) (v:=v) rfl hds rfl hf (hv a he w hw)) ?_)
 exact h1 v w ⟨h2,B,hB w hw,hR⟩
theorem NM{ch:List PanicEntry}{h2:HF}{B:LH}(hf:P.funcs[f]? = some fn)(hB:∀w,St X h L w->St X h2 B w)(hR:R (.panicked ch) h2 B):
  TP P (bodyFrame f) n ch (lS P X R) e [] X h L:=by
 intro w hw a cs Φ todo hn he hds hF
 obtain⟨c,cs',rfl,_,h3⟩:=hF
 refine .step (step_leave_panicked (P:=P) (fr:={ (bodyFrame f).atR a todo with mode:=.panicking ch }) ⟨rfl,hds,fn,hf⟩) ?_
 exact h3 ch w ⟨h2,B,hB w hw,hR⟩
theorem mb(hr:fn.results=#[])(a:Act)(w:World):(results fn a.tmps).run P w=.ok (.tuple #[]) w:=by
 simp[results,hr]
theorem res1{t:Nat}(hr:fn.results=#[.tmp t])(a:Act)(he:envOf a=e)(w:World):(results fn a.tmps).run P w=.ok (e t) w:=by
 subst he;simp[results,hr,envOf]
abbrev Ret(P:Program)(f:FuncId)(args:List Value)(h:HF)(v:Value):Prop:=od P f args.toArray h [] (λx h' B=>x=.returned v/\h'=h/\B=[])
theorem bv{a b:Bool}(h:a=b):Value.bool a=.bool b:=by rw[h]
end ending
end Go.Sg

namespace Go.Sg
def vcells:Value->List Value
 |.agg cs=>cs.toList
 |v=>[v]
theorem lY(v:Value):v.cells=(vcells v).toArray:=by cases v<;>simp[Value.cells,vcells]
def tySz(P:Program)(t:TypeId):Option (Nat×Bool):=
 match P.info? t,P.underlying t with
 |some i,some d=>some (i.size,match d with|.struct _|.array _ _=>true|_=>false)
 |_,_=>none
theorem gD{P:Program}{t:TypeId}{m:Nat}{a:Bool}(hT:tySz P t=some (m,a))(w:World):(sizeOf t).run P w=.ok m w:=by
 unfold tySz at hT
 cases hi:P.info? t with
 |none=>simp[hi]at hT
 |some i=>
  cases hu:P.underlying t with
  |none=>simp[hi,hu]at hT
  |some d=>
   simp only[hi,hu,kQ,aBG]at hT
   simp[sizeOf,typeInfo,hi,hT.1]
theorem DZ{P:Program}{t:TypeId}{m:Nat}{a:Bool}(hT:tySz P t=some (m,a))(w:World):(isAgg t).run P w=.ok a w:=by
 unfold tySz at hT
 cases hi:P.info? t with
 |none=>simp[hi]at hT
 |some i=>
  cases hu:P.underlying t with
  |none=>simp[hi,hu]at hT
  |some d=>
   simp only[hi,hu,kQ,aBG]at hT
   obtain⟨_,rfl⟩:=hT
   simp only[isAgg,xP,run_underlying hu,zM]
   cases d<;>rfl
def At(h:HF)(q:Addr)(cs:List Value):Prop:=
 ∃c T fz,h q.block=some (.cells c T fz)/\q.spot=none/\∀j v,cs[j]? = some v->c[q.off+j]? = some v
theorem At.mono{h h':HF}{q:Addr}{cs:List Value}(a:At h q cs)(hl:h.le h'):At h' q cs:=
 let ⟨c,T,fz,h1,h2,h3⟩:=a;⟨c,T,fz,hl _ _ h1,h2,h3⟩
theorem At.cell{X:Cx}{h:HF}{L:LH}{w:World}{q:Addr}{cs:List Value}(a:At h q cs)(s:St X h L w){j:Nat}{v:Value}(hj:cs[j]? = some v):
  w.cell? (q.add j)=some v:=by
 obtain⟨c,T,fz,h1,h2,h3⟩:=a
 have hb:=s.imm _ _ h1
 obtain⟨bk,off,spot⟩:=q
 simp only at h2
 subst h2
 have:=h3 j v hj
 simp only at this hb
 by_cases e:j=0
 .subst e;simpa[jT,aBR,hb]using this
 .simp[jT,e,aBR,hb,this]
theorem St.cell{X:Cx}{h:HF}{L:LH}{w:World}(s:St X h L w){i bk:Nat}{cl:List Value}{T:TypeId}{fz:Nat×Nat}(hL:nth L i=some (bk,.cells cl.toArray T fz)){off:Nat}{v:Value}(hv:nth cl off=some v):w.cell? ⟨bk,off,none⟩=some v:=by
 rw[im]at hL hv
 have:=s.own _ (xE hL)
 simp only at this
 simp[aBR,this,hv]
def cut:List Value->Nat->Nat->Option (List Value)
 |_,_,0=>some []
 |cl,off,n+1=>match nth cl off,cut cl (off+1) n with
  |some v,some l=>some (v::l)
  |_,_=>none
theorem Bx{cl:List Value}:∀{n off:Nat}{l:List Value},cut cl off n=some l->l.length=n/\∀j v,l[j]? = some v->nth cl (off+j)=some v
 |0,off,l,h=>by simp[cut]at h;subst h;simp
 |n+1,off,l,h=>by
  simp only[cut]at h
  split at h
  .rename_i v l' h1 h2
   simp only[kQ]at h
   subst h
   obtain⟨h3,h4⟩:=Bx h2
   refine⟨by simp[h3],λj u hj=>?_⟩
   cases j with
   |zero=>simp at hj;subst hj;simpa using h1
   |succ j=>simp at hj;have:=h4 j u hj;rw[Nat.add_assoc,Nat.add_comm 1 j]at this;exact this
  .cases h
theorem oP{P:Program}{t:TypeId}{m:Nat}(hT:tySz P t=some (m,false)){w:World}{a:Addr}{v:Value}(hc:w.cell? a=some v):(loadVar t a).run P w=.ok v w:=by
 simp[loadVar,DZ hT,hc]
theorem oO{P:Program}{t:TypeId}{cs:List Value}(hT:tySz P t=some (cs.length,true)){w:World}{a:Addr}(hc:∀j v,cs[j]? = some v->w.cell? (a.add j)=some v):
  (loadVar t a).run P w=.ok (.agg cs.toArray) w:=by
 simp[loadVar,DZ hT,gD hT,run_loadCells_list w a cs hc]
section ops
variable {P:Program} {b:Frame} {n:Nat} {k:List Item} {F:List Frame->(Machine->Prop)->Prop} {e:Env} {ds:List Deferred} {X:Cx} {h:HF} {L:LH}
variable {ops:Array Oper} {l:List Oper} {d:Nat} {ty:TypeId} {pos:String} {af:Array Edge} {g:Option (Nat×Bool)}
theorem oB{a b:Nat}(h:kR a b=true):a<b:=by
 simpa[Nat.blt_eq]using h
theorem tC{op:Op}(v:Value)(hop:noDefer op=true)(hr:∀w,St X h L w->(execOp e.ev ⟨some d,op,ty,pos,af,g⟩).run P w=.ok (.value v) w)(hd:kR d n=true)(hg:guardB ops e ⟨some d,op,ty,pos,af,g⟩=true)(t:TO P b n ops l k F (upd e d v) ds X h L):
  TO P b n ops (⟨some d,op,ty,pos,af,g⟩::l) k F e ds X h L:=
 D3 rfl (oB hd) hop hg λw hw=>⟨v,w,h,L,hr w hw,hw,t⟩
theorem HW{op:Op}(t:TO P b n ops l k F (upd e d undef) ds X h L)(hd:Nat.blt d n=true:=by rfl)(hg:guardB ops e ⟨some d,op,ty,pos,af,g⟩=false:=by rfl):
  TO P b n ops (⟨some d,op,ty,pos,af,g⟩::l) k F e ds X h L:=
 Po rfl (oB hd) hg t
theorem av{x:Operand}(t:TO P b n ops l k F (upd e d (e.ev x)) ds X h L)(hd:Nat.blt d n=true:=by rfl)(hg:guardB ops e ⟨some d,.move x,ty,pos,af,g⟩=true:=by rfl):
  TO P b n ops (⟨some d,.move x,ty,pos,af,g⟩::l) k F e ds X h L:=
 tC _ rfl (λw _=>by simp[execOp]) hd hg t
theorem gj{x:Operand}(t:TO P b n ops l k F (upd e d (e.ev x)) ds X h L)(hd:Nat.blt d n=true:=by rfl)(hg:guardB ops e ⟨some d,.assign x,ty,pos,af,g⟩=true:=by rfl):
  TO P b n ops (⟨some d,.assign x,ty,pos,af,g⟩::l) k F e ds X h L:=
 tC _ rfl (λw _=>by simp[execOp]) hd hg t
theorem eN{c x y:Operand}{s:Bool}(hc:e.ev c=.bool s)(t:TO P b n ops l k F (upd e d (bif s then e.ev x else e.ev y)) ds X h L)(hd:Nat.blt d n=true:=by rfl)(hg:guardB ops e ⟨some d,.pick c x y,ty,pos,af,g⟩=true:=by rfl):TO P b n ops (⟨some d,.pick c x y,ty,pos,af,g⟩::l) k F e ds X h L:=
 tC _ rfl (λw _=>by cases s<;>simp[execOp,hc,asBool]) hd hg t
theorem cy{t:TypeId}{x:Operand}(t':∀bk,TO P b n ops l k F (upd e d (.pointer (some ⟨bk,0,none⟩))) ds X h ((bk,.cells (vcells (e.ev x)).toArray t (0,0))::L))(hd:Nat.blt d n=true:=by rfl)(hg:guardB ops e ⟨some d,.box t x,ty,pos,af,g⟩=true:=by rfl):TO P b n ops (⟨some d,.box t x,ty,pos,af,g⟩::l) k F e ds X h L:=
 D3 rfl (oB hd) rfl hg λw hw=>⟨_,_,h,_,by simp[execOp,Instr.box,newVar,newRow,lY],hw.alloc _,t' _⟩
def zeroC(P:Program)(t:TypeId):Option (List Value):=(P.info? t).bind λi=>i.zero.map vcells
theorem rL{P:Program}{t:TypeId}{zs:List Value}(hz:zeroC P t=some zs)(w:World):∃z,(zeroValue t).run P w=.ok z w/\z.cells=zs.toArray:=by
 unfold zeroC at hz
 cases hi:P.info? t with
 |none=>simp[hi]at hz
 |some i=>
  cases hq:i.zero with
  |none=>simp[hi,hq]at hz
  |some z=>
   simp only[hi,hq,aA7,aBZ,kQ]at hz
   exact⟨z,by simp[zeroValue,typeInfo,hi,hq],by rw[lY,hz]⟩
theorem ba{t:TypeId}{zs:List Value}(hz:zeroC P t=some zs)(t':∀bk,TO P b n ops l k F (upd e d (.pointer (some ⟨bk,0,none⟩))) ds X h ((bk,.cells zs.toArray t (0,0))::L))(hd:Nat.blt d n=true:=by rfl)(hg:guardB ops e ⟨some d,.alloc t,ty,pos,af,g⟩=true:=by rfl):TO P b n ops (⟨some d,.alloc t,ty,pos,af,g⟩::l) k F e ds X h L:=
 D3 rfl (oB hd) rfl hg λw hw=>by
  obtain⟨z,h1,h2⟩:=rL hz w
  exact⟨_,_,h,_,by simp[execOp,Instr.alloc,h1,newVar,newRow,h2],hw.alloc _,t' _⟩
theorem nW(i:Nat){t:TypeId}{x:Operand}{m bk off T:Nat}{fz:Nat×Nat}{cl:List Value}{v:Value}(hT:tySz P t=some (m,false))(hx:e.ev x=.pointer (some ⟨bk,off,none⟩))(hL:nth L i=some (bk,.cells cl.toArray T fz))(hv:nth cl off=some v)(t':TO P b n ops l k F (upd e d v) ds X h L)(hd:Nat.blt d n=true:=by rfl)(hg:guardB ops e ⟨some d,.load t x,ty,pos,af,g⟩=true:=by rfl):TO P b n ops (⟨some d,.load t x,ty,pos,af,g⟩::l) k F e ds X h L:=
 tC _ rfl (λw hw=>by simp[execOp,aBB,hx,aAh,oP hT (hw.cell hL hv)]) hd hg t'
theorem cK(i:Nat){t:TypeId}{x:Operand}{m bk off T:Nat}{fz:Nat×Nat}{cl cs:List Value}(hT:tySz P t=some (m,true))(hx:e.ev x=.pointer (some ⟨bk,off,none⟩))(hL:nth L i=some (bk,.cells cl.toArray T fz))(hv:cut cl off m=some cs)(t':TO P b n ops l k F (upd e d (.agg cs.toArray)) ds X h L)(hd:Nat.blt d n=true:=by rfl)(hg:guardB ops e ⟨some d,.load t x,ty,pos,af,g⟩=true:=by rfl):TO P b n ops (⟨some d,.load t x,ty,pos,af,g⟩::l) k F e ds X h L:=
 tC _ rfl (λw hw=>by
  obtain⟨h1,h2⟩:=Bx hv
  subst h1
  have:∀j v,cs[j]? = some v->w.cell? ((⟨bk,off,none⟩:Addr).add j)=some v:=by
   intro j v hj
   have:=hw.cell hL (h2 j v hj)
   by_cases e0:j=0
   .subst e0;simpa[jT]using this
   .simpa[jT,e0]using this
  simp[execOp,aBB,hx,aAh,oO hT this]) hd hg t'
theorem jb{t:TypeId}{x:Operand}{m j:Nat}{q:Addr}{cs:List Value}{v:Value}(hT:tySz P t=some (m,false))(ha:At h q cs)(hx:e.ev x=.pointer (some (q.add j)))(hv:nth cs j=some v)(t':TO P b n ops l k F (upd e d v) ds X h L)(hd:Nat.blt d n=true:=by rfl)(hg:guardB ops e ⟨some d,.load t x,ty,pos,af,g⟩=true:=by rfl):TO P b n ops (⟨some d,.load t x,ty,pos,af,g⟩::l) k F e ds X h L:=
 tC _ rfl (λw hw=>by
  rw[im]at hv
  simp[execOp,aBB,hx,aAh,oP hT (ha.cell hw hv)]) hd hg t'
theorem dh{t:TypeId}{x:Operand}{m:Nat}{q:Addr}{v:Value}{cs:List Value}(hT:tySz P t=some (m,false))(ha:At h q (v::cs))(hx:e.ev x=.pointer (some q))(t':TO P b n ops l k F (upd e d v) ds X h L)(hd:Nat.blt d n=true:=by rfl)(hg:guardB ops e ⟨some d,.load t x,ty,pos,af,g⟩=true:=by rfl):TO P b n ops (⟨some d,.load t x,ty,pos,af,g⟩::l) k F e ds X h L:=
 jb (j:=0) hT ha (by simp[jT,hx]) rfl t' hd hg
theorem vv(q:Addr)(i j:Nat)(hq:q.spot=none):(q.add i).add j=q.add (i+j):=by
 obtain⟨bk,off,sp⟩:=q
 simp only at hq
 subst hq
 by_cases hi:i=0
 .subst hi;simp[jT]
 .by_cases hj:j=0
  .subst hj;simp[jT]
  .have:i+j≠0:=by omega
   simp[jT,hi,hj]
   omega
theorem zI{t:TypeId}{x:Operand}{m j:Nat}{q:Addr}{cs cs':List Value}(hT:tySz P t=some (m,true))(ha:At h q cs)(hx:e.ev x=.pointer (some (q.add j)))(hv:cut cs j m=some cs')(t':TO P b n ops l k F (upd e d (.agg cs'.toArray)) ds X h L)(hd:Nat.blt d n=true:=by rfl)(hg:guardB ops e ⟨some d,.load t x,ty,pos,af,g⟩=true:=by rfl):TO P b n ops (⟨some d,.load t x,ty,pos,af,g⟩::l) k F e ds X h L:=
 tC _ rfl (λw hw=>by
  obtain⟨h1,h2⟩:=Bx hv
  subst h1
  have hsp:q.spot=none:=by obtain⟨_,_,_,_,h2,_⟩:=ha;exact h2
  have:∀i v,cs'[i]? = some v->w.cell? ((q.add j).add i)=some v:=by
   intro i v hi
   have:=h2 i v hi
   rw[im]at this
   rw[vv q j i hsp]
   exact ha.cell hw this
  simp[execOp,aBB,hx,aAh,oO hT this]) hd hg t'
theorem Ml:∀(cs:List Value),cut cs 0 cs.length=some cs:=by
 have key:∀(cs pre:List Value),cut (pre++cs) pre.length cs.length=some cs:=by
  intro cs
  induction cs with
  |nil=>intro pre;rfl
  |cons v cs ih=>
   intro pre
   have:=ih (pre++[v])
   simp only[qE,jN,jG,jA,zA,jB]at this
   simp only[zA,cut,im]
   simp[this]
 intro cs
 simpa using key cs []
theorem dz{t:TypeId}{x:Operand}{m:Nat}{q:Addr}{cs:List Value}(hT:tySz P t=some (m,true))(ha:At h q cs)(hm:cs.length=m)(hx:e.ev x=.pointer (some q))(t':TO P b n ops l k F (upd e d (.agg cs.toArray)) ds X h L)(hd:Nat.blt d n=true:=by rfl)(hg:guardB ops e ⟨some d,.load t x,ty,pos,af,g⟩=true:=by rfl):TO P b n ops (⟨some d,.load t x,ty,pos,af,g⟩::l) k F e ds X h L:=
 zI (j:=0) hT ha (by simp[jT,hx]) (by subst hm;exact Ml cs) t' hd hg
def one:Value->Bool
 |.agg _|.tuple _=>false
 |_=>true
theorem QA(v:Value):one v=v.oneCell':=by cases v<;>rfl
def splice(cl:List Value)(off:Nat):List Value->List Value
 |[]=>cl
 |v::vs=>splice (setNth cl off v) (off+1) vs
theorem Gb(vs:List Value):∀(cl:List Value)(off:Nat),(splice cl off vs).length=cl.length:=by
 induction vs with
 |nil=>intro cl off;rfl
 |cons v vs ih=>intro cl off;simp[splice,ih,pR]
theorem IT{w:World}{bk off:Nat}{cl:List Value}{T:TypeId}{fz:Nat×Nat}(hb:w.heap[bk]? = some (.cells cl.toArray T fz))(v:Value):
  w.setCell ⟨bk,off,none⟩ v={ w with heap:=w.heap.setIfInBounds bk (.cells (setNth cl off v).toArray T fz) }:=by
 have hlt:=ib hb
 unfold World.setCell
 congr 1
 apply aCK
 intro i
 rw[Array.getElem?_modify,aA0]
 by_cases e:bk=i
 .subst e
  have h2:w.heap[bk]=.cells cl.toArray T fz:=by
   rw[aAd hlt]at hb;exact vT hb
  simp[h2,ma,hlt]
 .simp[e]
theorem IS{w:World}{bk:Nat}(o o':Obj):(w.heap.setIfInBounds bk o).setIfInBounds bk o'=w.heap.setIfInBounds bk o':=by
 apply aCK
 intro i
 simp only[aA0]
 by_cases e:bk=i
 .subst e;simp
 .simp[e]
theorem mz{P:Program}{bk T:Nat}(off0:Nat):∀(vs:List Value)(i:Nat)(cl:List Value)(w:World),w.heap[bk]? = some (.cells cl.toArray T (0,0)) ->
  off0+i+vs.length<=cl.length->(∀v∈vs,one v=true) ->
  (storeCells ⟨bk,off0,none⟩ vs i).run P w=.ok () { w with heap:=w.heap.setIfInBounds bk (.cells (splice cl (off0+i) vs).toArray T (0,0)) }:=by
 intro vs
 induction vs with
 |nil=>
  intro i cl w hb _ _
  simp only[storeCells,splice,aBj]
  congr 1
  have:w.heap.setIfInBounds bk (.cells cl.toArray T (0,0))=w.heap:=by
   apply aCK
   intro j
   rw[aA0]
   by_cases e:bk=j
   .subst e;rw[hb];simp[ib hb]
   .simp[e]
  rw[this]
 |cons v vs ih=>
  intro i cl w hb hle h1
  have hadd:(⟨bk,off0,none⟩:Addr).add i=⟨bk,off0+i,none⟩:=by
   by_cases e:i=0
   .subst e;simp[jT]
   .simp[jT,e]
  have hlt:off0+i<cl.length:=by simp at hle;omega
  have hc:w.cell? ⟨bk,off0+i,none⟩=some cl[off0+i]:=by simp[aBR,hb,hlt]
  have hfz:w.frozen? ⟨bk,off0+i,none⟩=false:=by simp[World.frozen?,hb]
  have hst:=run_store P w ⟨bk,off0+i,none⟩ v .plain (by rw[←QA];exact h1 v (zB ..))
  rw[hc]at hst
  simp only[hfz]at hst
  simp only[storeCells,xP,hadd,hst,Bool.false_eq_true,if_false,zM,IT hb]
  have hb':({ w with heap:=w.heap.setIfInBounds bk (.cells (setNth cl (off0+i) v).toArray T (0,0)) }:World).heap[bk]? = some (.cells (setNth cl (off0+i) v).toArray T (0,0)):=by
   simp[ib hb]
  rw[ih (i+1) _ _ hb' (by rw[pR];simp at hle;omega) (λu hu=>h1 u (vA _ hu))]
  simp only[splice,IS]
  rfl
theorem cT(i:Nat){t:TypeId}{x y:Operand}{m bk off T:Nat}{a:Bool}{cl vs:List Value}(hT:tySz P t=some (m,a))(hx:e.ev x=.pointer (some ⟨bk,off,none⟩))(hL:nth L i=some (bk,.cells cl.toArray T (0,0)))(hv:vcells (e.ev y)=vs)(hm:vs.length=m)(hle:aCf (off+vs.length) cl.length=true)(h1:vs.all one=true)(t':TO P b n ops l k F e ds X h (setNth L i (bk,.cells (splice cl off vs).toArray T (0,0))))(hg:guardB ops e ⟨none,.store t x y,ty,pos,af,g⟩=true:=by rfl):TO P b n ops (⟨none,.store t x y,ty,pos,af,g⟩::l) k F e ds X h L:=
 Pl rfl rfl hg λw hw=>by
  have hb:w.heap[bk]? = some (.cells cl.toArray T (0,0)):=by
   have h2:=hL
   rw[im]at h2
   exact hw.own _ (xE h2)
  refine⟨_,h,_,?_,hw.write hL _,t'⟩
  have hsize:(e.ev y).cells.size=m:=by rw[lY,hv];simpa using hm
  have hlist:(e.ev y).cells.toList=vs:=by rw[lY,hv]
  have:=mz (P:=P) off vs 0 cl w hb (by simpa using vQ hle) (by simpa using h1)
  simp only[aCg]at this
  simp[execOp,Instr.storeAt,hx,aAh,storeVar,gD hT,hsize,hlist,this]
def fldOf(P:Program)(s:TypeId)(i:Nat):Option Nat:=
 match P.underlying s with
 |some (.struct fs)=>match fs[i]? with
  |some f=>match P.info? f.type with
   |some ti=>bif aBa ti.size 0 then none else some f.offset
   |none=>none
  |none=>none
 |_=>none
theorem jY{s:TypeId}{x:Operand}{i off:Nat}{q:Addr}(hf:fldOf P s i=some off)(hx:e.ev x=.pointer (some q))(t':TO P b n ops l k F (upd e d (.pointer (some (q.add off)))) ds X h L)(hd:Nat.blt d n=true:=by rfl)(hg:guardB ops e ⟨some d,.fieldAddr s x i,ty,pos,af,g⟩=true:=by rfl):TO P b n ops (⟨some d,.fieldAddr s x i,ty,pos,af,g⟩::l) k F e ds X h L:=
 tC _ rfl (λw _=>by
  unfold fldOf at hf
  split at hf
  .rename_i fs hu
   split at hf
   .rename_i f hfi
    split at hf
    .rename_i ti hti
     cases hz:aBa ti.size 0 with
     |true=>simp[hz]at hf
     |false=>
      simp only[hz,cond_false,kQ]at hf
      have hne:ti.size≠0:=λe0=>by rw[e0]at hz;cases hz
      subst hf
      simp[execOp,Instr.fieldAt,run_underlying hu,hfi,hx,aAh,fieldPlace,sizeOf,typeInfo,hti,hne]
    .cases hf
   .cases hf
  .cases hf) hd hg t'
def intV(k:IntKind)(a b:Int):BinOp->Option Value
 |.add=>some (.int k (k.wrap (a+b)))
 |.sub=>some (.int k (k.wrap (a-b)))
 |.mul=>some (.int k (k.wrap (a*b)))
 |.eql=>some (.bool (a==b))
 |.neq=>some (.bool (a != b))
 |.lss=>some (.bool (decide (a<b)))
 |.leq=>some (.bool (decide (a<=b)))
 |.gtr=>some (.bool (decide (b<a)))
 |.geq=>some (.bool (decide (b<=a)))
 |_=>none
def strV(a b:ByteArray):BinOp->Option Value
 |.eql=>some (.bool (a.toList==b.toList))
 |.neq=>some (.bool !(a.toList==b.toList))
 |_=>none
def binV(op:BinOp):Value->Value->Option Value
 |.int k a,.int k' b=>if k=k' then intV k a b op else none
 |.string a,.string b=>strV a b op
 |_,_=>none
theorem Ei{op:BinOp}{t:TypeId}{x y:Operand}{a b v:Value}(hv:binV op a b=some v)(w:World):
  (do eqGuard op t x y a b;binOp op t a b:Sem Value).run P w=.ok v w:=by
 unfold binV at hv
 split at hv
 .rename_i k a k' b
  split at hv
  .rename_i hk
   subst hk
   cases op<;>simp[intV]at hv<;>subst hv<;>simp[eqGuard,binOp,Op.intArith,Op.intCmp]
  .cases hv
 .cases op<;>simp[strV]at hv<;>subst hv<;>simp[eqGuard,binOp,Op.stringOp]
 .cases hv
theorem LI{op:BinOp}{t u:TypeId}{x y:Operand}{v:Value}(hv:binV op (e.ev x) (e.ev y)=some v)(t':TO P b n ops l k F (upd e d v) ds X h L)(hd:Nat.blt d n=true:=by rfl)(hg:guardB ops e ⟨some d,.binOp op t x y u,ty,pos,af,g⟩=true:=by rfl):TO P b n ops (⟨some d,.binOp op t x y u,ty,pos,af,g⟩::l) k F e ds X h L:=
 tC _ rfl (λw _=>by
  have:=Ei (P:=P) (t:=t) (x:=x) (y:=y) hv w
  simp only[execOp,xP]at this ⊢
  simp[this]) hd hg t'
theorem iQ{op:BinOp}{t u:TypeId}{x y:Operand}{v v':Value}(hv:binV op (e.ev x) (e.ev y)=some v)(hvv:v=v')(t':TO P b n ops l k F (upd e d v') ds X h L)(hd:Nat.blt d n=true:=by rfl)(hg:guardB ops e ⟨some d,.binOp op t x y u,ty,pos,af,g⟩=true:=by rfl):TO P b n ops (⟨some d,.binOp op t x y u,ty,pos,af,g⟩::l) k F e ds X h L:=
 LI (hv.trans (by rw[hvv])) t' hd hg
theorem jv{z:Int}(h:-9223372036854775808<=z/\z<=9223372036854775807):Value.int .i64 (IntKind.i64.wrap z)=.int .i64 z:=by
 have:IntKind.i64.wrap z=z:=by
  simp only[IntKind.wrap,IntKind.signed,IntKind.bits]
  simp
  omega
 rw[this]
theorem us(d:Nat){s:Bool}(hs:e d=.bool s)(h1:s=true->TO P b n ops l k F (upd e d (.bool true)) ds X h L)(h0:s=false->TO P b n ops l k F (upd e d (.bool false)) ds X h L):
  TO P b n ops l k F e ds X h L:=by
 cases s with
 |true=>have:=h1 rfl;rw[←hs,un]at this;exact this
 |false=>have:=h0 rfl;rw[←hs,un]at this;exact this
theorem oo{c:Code}(sl:List (Nat×Value))(hk:∀e',TT P b n k F (upds e' sl) ds X h L)(t':(∀e',jd e' sl->TT P b n k F e' ds X h L)->TT P b n (.code c::k) F e ds X h L):TT P b n (.code c::k) F e ds X h L:=
 t' λe' hr=>by have:=hk e';rw[hr.upds]at this;exact this
theorem mU{t:TypeId}{x:Operand}{s:Bool}(hx:e.ev x=.bool s)(t':TO P b n ops l k F (upd e d (.bool !s)) ds X h L)(hd:Nat.blt d n=true:=by rfl)(hg:guardB ops e ⟨some d,.unOp .not t x,ty,pos,af,g⟩=true:=by rfl):TO P b n ops (⟨some d,.unOp .not t x,ty,pos,af,g⟩::l) k F e ds X h L:=
 tC _ rfl (λw _=>by simp[execOp,hx,Op.unary]) hd hg t'
theorem oF{x:Operand}{i:Nat}{vs:List Value}{v:Value}(hx:e.ev x=.tuple vs.toArray)(hv:nth vs i=some v)(t':TO P b n ops l k F (upd e d v) ds X h L)(hd:Nat.blt d n=true:=by rfl)(hg:guardB ops e ⟨some d,.extract x i,ty,pos,af,g⟩=true:=by rfl):TO P b n ops (⟨some d,.extract x i,ty,pos,af,g⟩::l) k F e ds X h L:=
 tC _ rfl (λw _=>by rw[im]at hv;simp[execOp,hx,Instr.extract,hv]) hd hg t'
theorem LG{x:Operand}{t E:TypeId}{base:Option Addr}{m c:Nat}(hT:P.underlying t=some (.slice E))(hx:e.ev x=.slice base m c)(t':TO P b n ops l k F (upd e d (.int .i64 (m:Nat))) ds X h L)(hd:Nat.blt d n=true:=by rfl)(hg:guardB ops e ⟨some d,.call ⟨.builtin .len,#[x],#[t]⟩,ty,pos,af,g⟩=true:=by rfl):TO P b n ops (⟨some d,.call ⟨.builtin .len,#[x],#[t]⟩,ty,pos,af,g⟩::l) k F e ds X h L:=
 tC _ rfl (λw _=>by simp[execOp,resolve,invoke,builtin,aCE,hx,run_underlying hT,goInt]) hd hg t'
theorem QF{f:FuncId}{as:Array Operand}{ats:Array TypeId}{vs:List Value}{A Fr:LH}{R:Ending->HF->LH->Prop}(hc:∀args w,(callFunc f args).run P w=.ok (.enter f args) w)(hvs:as.toList.map e.ev=vs)(hs:od P f vs.toArray h A R)(hL:L=A++Fr)(t':∀v h' B,h.le h'->R (.returned v) h' B->TO P b n ops l k F (upd e d v) ds X h' (B++Fr))(tp:∀ch h' B,h.le h'->R (.panicked ch) h' B->TP P b n ch F e ds X h' (B++Fr))(hd:Nat.blt d n=true:=by rfl)(hg:guardB ops e ⟨some d,.call ⟨.value (.func f),as,ats⟩,ty,pos,af,g⟩=true:=by rfl):
  TO P b n ops (⟨some d,.call ⟨.value (.func f),as,ats⟩,ty,pos,af,g⟩::l) k F e ds X h L:=
 Hy rfl (oB hd) rfl hg λw hw=>by
  subst hL
  have harr:as.map e.ev=vs.toArray:=aAs (by simp[←hvs])
  refine⟨.enter f vs.toArray,w,?_,?_⟩
  .simp[execOp,resolve,Env.ev,kJ,invoke,harr,hc]
  .refine j7 (rq.mono (hs w hw.pre.left) ?_)
   rintro x w' ⟨h',B,hst,hR⟩
   cases x with
   |returned v=>exact⟨h',_,hw.after hst,t' v h' B hst.le hR⟩
   |panicked ch=>exact⟨h',_,hw.after hst,tp ch h' B hst.le hR⟩
   |outgrown=>trivial
theorem ai{f:FuncId}{as:Array Operand}{ats:Array TypeId}{vs:List Value}{v:Value}(hc:∀args w,(callFunc f args).run P w=.ok (.enter f args) w)(hs:Ret P f vs h v)(hvs:as.toList.map e.ev=vs)(t':TO P b n ops l k F (upd e d v) ds X h L)(hd:Nat.blt d n=true:=by rfl)(hg:guardB ops e ⟨some d,.call ⟨.value (.func f),as,ats⟩,ty,pos,af,g⟩=true:=by rfl):
  TO P b n ops (⟨some d,.call ⟨.value (.func f),as,ats⟩,ty,pos,af,g⟩::l) k F e ds X h L:=
 QF (A:=[]) (Fr:=L) hc hvs hs rfl (λv' h' B _ hR=>by obtain⟨h1,h2,h3⟩:=hR;cases h1;subst h2 h3;exact t')
  (λch h' B _ hR=>by obtain⟨h1,_,_⟩:=hR;cases h1) hd hg
end ops
end Go.Sg

namespace Go.Sg
structure Rp(α : Type) where
 sz:Nat
 rep:HF->List Value->α->Prop
def Rp.Mono{α : Type}(R:Rp α):Prop:=∀(h h':HF)cs x,h.le h'->R.rep h cs x->R.rep h' cs x
def SlB{α : Type}(R:Rp α)(h:HF)(base:Option Addr)(xs:List α):Prop:=
 xs.length<=9223372036854775807/\∀(i:Nat)(x:α),xs[i]? = some x->∃p cs,base=some p/\At h (p.add (i*R.sz)) cs/\cs.length=R.sz/\R.rep h cs x
theorem SlB.mono{α : Type}{R:Rp α}{h h':HF}{base:Option Addr}{xs:List α}(a:SlB R h base xs)(hm:R.Mono)(hl:h.le h'):SlB R h' base xs:=
 ⟨a.1,λi x hx=>let ⟨p,cs,e,q,m,r⟩:=a.2 i x hx;⟨p,cs,e,q.mono hl,m,hm _ _ _ _ hl r⟩⟩
theorem SlB.nil{α : Type}{R:Rp α}{h:HF}{base:Option Addr}:SlB R h base []:=⟨by simp,λi x hx=>by simp at hx⟩
def SlC{α : Type}(R:Rp α)(h:HF)(base:Option Addr)(cap:Nat)(xs:List α):Prop:=SlB R h base xs/\xs.length<=cap
theorem SlC.mono{α : Type}{R:Rp α}{h h':HF}{base:Option Addr}{cap:Nat}{xs:List α}(a:SlC R h base cap xs)(hm:R.Mono)(hl:h.le h'):SlC R h' base cap xs:=⟨a.1.mono hm hl,a.2⟩
theorem SlC.nil{α : Type}{R:Rp α}{h:HF}{base:Option Addr}{cap:Nat}:SlC R h base cap []:=⟨SlB.nil,Nat.zero_le _⟩
def Rp.int:Rp Int:=⟨1,λ_ cs x=>cs=[.int .i64 x]⟩
def Rp.bool:Rp Bool:=⟨1,λ_ cs x=>cs=[.bool x]⟩
def Rp.str:Rp ByteArray:=⟨1,λ_ cs x=>cs=[.string x]⟩
theorem Rp.aO:Rp.int.Mono:=λ_ _ _ _ _ e=>e
theorem Rp.nM:Rp.bool.Mono:=λ_ _ _ _ _ e=>e
theorem Rp.hU:Rp.str.Mono:=λ_ _ _ _ _ e=>e
theorem At.EI{h:HF}{bk off T:Nat}{fz:Nat×Nat}{cl cs:List Value}(hb:h bk=some (.cells cl.toArray T fz))(hc:∀j v,cs[j]? = some v->cl[off+j]? = some v):At h ⟨bk,off,none⟩ cs:=
 ⟨_,T,fz,hb,rfl,λj v hj=>by simpa using hc j v hj⟩
section ops
variable {P:Program} {b:Frame} {n:Nat} {k:List Item} {F:List Frame->(Machine->Prop)->Prop} {e:Env} {ds:List Deferred} {X:Cx} {h:HF} {L:LH}
variable {ops:Array Oper} {l:List Oper} {d:Nat} {ty:TypeId} {pos:String} {af:Array Edge} {g:Option (Nat×Bool)}
end ops
end Go.Sg

namespace Go.Sg
def nexts(ops:Array Oper)(dn:List Nat):List Nat:=
 (kG ops.size).filter λi=>!dn.contains i&&((ops[i]?).map (·.after.all λe=>!Region.binds .any e||dn.contains e.on)).getD false
def sepAll(ops:Array Oper):Bool:=
 (kG ops.size).all λi=>match ops[i]? with
  |some oi=>(match oi.op with|.select ..=>false|.defer _=>false|_=>true)&&(kG ops.size).all λj=>match ops[j]? with
   |some oj=>j==i||oj.after.any (λe=>aCd .any e&&e.on==i)||oi.after.any (λe=>aCd .any e&&e.on==j)||oi.apart ops oj
   |none=>true
  |none=>true
def slotsIn(ops:Array Oper)(n:Nat):Bool:=ops.all λo=>match o.dst with|some d=>kR d n|none=>true
def pute(e:Env):Option Nat->Value->Env
 |some d,v=>upd e d v
 |none,_=>e
theorem Fz(a:Act)(d:Option Nat)(v:Value)(h:∀x,d=some x->x<a.tmps.size):envOf (a.put d v)=pute (envOf a) d v:=by
 cases d with
 |none=>rfl
 |some x=>exact oI a x v (h x rfl)
section
variable (P:Program) (b:Frame) (n:Nat) (ops:Array Oper) (k:List Item) (F:List Frame->(Machine->Prop)->Prop) (ds:List Deferred) (X:Cx)
def wd(o:Oper)(e:Env)(K:Env->HF->LH->Prop):Result Next->Prop
 |.ok .skip w'=>∃h' L',St X h' L' w'/\K (pute e o.dst undef) h' L'
 |.halt (.panic v) w'=>∃h' L',St X h' L' w'/\(∀e',TP P b n [{ v,recovered:=false }] F e' ds X h' L')
 |.ok nx w'=>uN P w' (λ
   |.returned v,w''=>∃h' L',St X h' L' w''/\K (pute e o.dst v) h' L'
   |.panicked ch,w''=>∃h' L',St X h' L' w''/\∀e',TP P b n ch F e' ds X h' L'
   |.outgrown,_=>True) nx
 |_=>False
def Stp(o:Oper)(e:Env)(h:HF)(L:LH)(K:Env->HF->LH->Prop):Prop:=
 if guardB ops e o=true then ∀w,St X h L w->wd P b n F ds X o e K ((execOp e.ev o).run P w)else K (pute e o.dst undef) h L
def TA(J:HF->LH->Prop):Nat->List Nat->Env->HF->LH->Prop
 |0,dn,e,h,L=>nexts ops dn=[]/\TT P b n k F e ds X h L
 |m+1,dn,e,h,L=>(nexts ops dn=[]->TT P b n k F e ds X h L) /\
   ∀i∈nexts ops dn,∀o,ops[i]? = some o->Stp P b n ops F ds X o e h L λe' h' L'=>J h' L'/\TA J m (i::dn) e' h' L'
end
section
variable {P:Program} {b:Frame} {n:Nat} {ops:Array Oper} {k:List Item} {F:List Frame->(Machine->Prop)->Prop} {ds:List Deferred} {X:Cx}
theorem wA{o:Oper}{e:Env}{K:Env->HF->LH->Prop}{v:Value}{w:World}(h:∃h' L',St X h' L' w/\K (pute e o.dst v) h' L'):wd P b n F ds X o e K (.ok (.value v) w):=h
theorem lP{o:Oper}{e:Env}{K:Env->HF->LH->Prop}{nx:Next}{w:World}(hnx:nx≠.skip)(h:uN P w (λ
   |.returned v,w''=>∃h' L',St X h' L' w''/\K (pute e o.dst v) h' L'
   |.panicked ch,w''=>∃h' L',St X h' L' w''/\∀e',TP P b n ch F e' ds X h' L'
   |.outgrown,_=>True) nx):wd P b n F ds X o e K (.ok nx w):=by
 cases nx<;>first|exact h|exact absurd rfl hnx
theorem wd.mono{o:Oper}{e e₂ : Env}{K K':Env->HF->LH->Prop}{r:Result Next}(hK:∀v h L,K (pute e o.dst v) h L->K' (pute e₂ o.dst v) h L)(h:wd P b n F ds X o e K r):wd P b n F ds X o e₂ K' r:=by
 cases r with
 |halt x w=>
  cases x with
  |panic v=>exact h
  |_=>exact h
 |ok nx w=>
  have key:uN P w (λ
   |.returned v,w''=>∃h' L',St X h' L' w''/\K (pute e o.dst v) h' L'
   |.panicked ch,w''=>∃h' L',St X h' L' w''/\∀e',TP P b n ch F e' ds X h' L'
   |.outgrown,_=>True) nx->uN P w (λ
   |.returned v,w''=>∃h' L',St X h' L' w''/\K' (pute e₂ o.dst v) h' L'
   |.panicked ch,w''=>∃h' L',St X h' L' w''/\∀e',TP P b n ch F e' ds X h' L'
   |.outgrown,_=>True) nx:=λhc=>hc.mono λx w' r=>by
    cases x with
    |returned v=>obtain⟨h',L',s,t⟩:=r;exact⟨h',L',s,hK _ _ _ t⟩
    |panicked ch=>exact r
    |outgrown=>trivial
  cases nx with
  |skip=>obtain⟨h',L',s,t⟩:=h;exact⟨h',L',s,hK _ _ _ t⟩
  |_=>exact key h
theorem Qx{o:Oper}{i:Nat}(hs:slotsIn ops n=true)(ho:ops[i]? = some o):∀x,o.dst=some x->x<n:=by
 intro x hx
 have:=aCh.1 hs o (Array.mem_of_getElem? ho)
 simp only[hx]at this
 exact oB this
theorem NS(hs:sepAll ops=true){i j:Nat}{oi oj:Oper}(hi:ops[i]? = some oi)(hj:ops[j]? = some oj)(hne:j≠i)(h1:∀e∈oj.after,aCd .any e=true->e.on≠i)(h2:∀e∈oi.after,aCd .any e=true->e.on≠j):oi.apart ops oj=true:=by
 simp only[sepAll,aAN,aBS]at hs
 have h0:=hs i (aAr.1 hi).1
 simp only[hi,xB,aAN,aBS]at h0
 have h3:=h0.2 j (aAr.1 hj).1
 simp only[hj,xD,beq_iff_eq,hne,false_or]at h3
 rcases h3 with(h3|h3)|h3
 .obtain⟨e,he,hb⟩:=Array.any_eq_true'.1 h3
  simp only[xB,beq_iff_eq]at hb
  exact absurd hb.2 (h1 e he hb.1)
 .obtain⟨e,he,hb⟩:=Array.any_eq_true'.1 h3
  simp only[xB,beq_iff_eq]at hb
  exact absurd hb.2 (h2 e he hb.1)
 .exact h3
theorem Ko(hs:sepAll ops=true){i:Nat}{oi:Oper}(hi:ops[i]? = some oi):(∀cs b,oi.op≠.select cs b)/\noDefer oi.op=true:=by
 simp only[sepAll,aAN,aBS]at hs
 have h0:=hs i (aAr.1 hi).1
 simp only[hi,xB]at h0
 have h1:=h0.1
 refine⟨λcs b e=>?_,?_⟩
 .rw[e]at h1;simp at h1
 .cases ho:oi.op with
  |defer c=>rw[ho]at h1;simp at h1
  |_=>rfl
theorem yl{i:Nat}{dn:List Nat}:i∈nexts ops dn↔i∉dn/\∃o,ops[i]? = some o/\∀e∈o.after,aCd .any e=true->e.on∈dn:=by
 unfold nexts
 rw[List.mem_filter,aBS]
 cases ho:ops[i]? with
 |none=>simp
 |some o=>
  have hlt:i<ops.size:=(aAr.1 ho).1
  simp only[hlt,true_and,aBZ,aBv,xB,Bool.not_eq_true',aCh,
   xD,kQ,exists_eq_left',List.contains_eq_mem,decide_eq_false_iff_not,decide_eq_true_eq]
  constructor
  .rintro⟨h0,h⟩
   exact⟨h0,λe he hb=>(h e he).resolve_left (by simp[hb])⟩
  .rintro⟨h0,h⟩
   refine⟨h0,λe he=>?_⟩
   cases hb:aCd .any e
   .exact .inl rfl
   .exact .inr (h e he hb)
theorem zO{i j:Nat}{dn:List Nat}(hj:j∈nexts ops dn)(hne:j≠i):j∈nexts ops (i::dn):=by
 rw[yl]at *
 obtain⟨h0,o,ho,h⟩:=hj
 exact⟨by simp[hne,h0],o,ho,λe he hb=>vA _ (h e he hb)⟩
theorem EJ{dn dn':List Nat}(hp:∀x,x∈dn↔x∈dn'):nexts ops dn=nexts ops dn':=by
 unfold nexts
 congr 1
 funext i
 have:∀x,dn.contains x=dn'.contains x:=λx=>by
  rw[qN];simp[hp]
 simp only[this]
theorem TA.perm{J:HF->LH->Prop}:∀{m:Nat}{dn dn':List Nat}{e:Env}{h:HF}{L:LH},(∀x,x∈dn↔x∈dn')->TA P b n ops k F ds X J m dn e h L->TA P b n ops k F ds X J m dn' e h L
 |0,dn,dn',e,h,L,hp,t=>by
  simp only[TA]at t ⊢
  rw[←EJ hp];exact t
 |m+1,dn,dn',e,h,L,hp,t=>by
  simp only[TA]at t ⊢
  rw[←EJ hp]
  refine⟨t.1,λi hi o ho=>?_⟩
  have:=t.2 i hi o ho
  unfold Stp at this ⊢
  have hp':∀x,x∈i::dn↔x∈i::dn':=λx=>by simp[hp]
  split
  .rename_i hg
   rw[if_pos hg]at this
   exact λw hw=>wd.mono (λv h L r=>⟨r.1,TA.perm hp' r.2⟩) (this w hw)
  .rename_i hg
   rw[if_neg hg]at this
   exact⟨this.1,TA.perm hp' this.2⟩
theorem QL{e:Env}{d:Nat}{v:Value}{x:Operand}(h:x≠.tmp d):(upd e d v).ev x=e.ev x:=by
 cases x with
 |tmp t=>exact oC e v (λhe=>h (by rw[he]))
 |_=>rfl
theorem JO{o:Oper}(hs:∀cs b,o.op≠.select cs b){e:Env}{d:Nat}{v:Value}(h:d∉o.looksAt ops):execOp (upd e d v).ev o=execOp e.ev o:=
 execOp_congr o hs λx hx=>QL λhxd=>h (by
  subst hxd
  exact aAc _ (List.mem_filterMap.2 ⟨.tmp d,by simpa using hx,rfl⟩))
theorem E5{o:Oper}{e:Env}{d:Nat}{v:Value}(h:d∉o.looksAt ops):guardB ops (upd e d v) o=guardB ops e o:=by
 unfold guardB
 cases hg:o.guard with
 |none=>rfl
 |some gw=>
  obtain⟨g,want⟩:=gw
  simp only
  cases ht:(ops[g]?).bind (·.dst)with
  |none=>rfl
  |some t=>
   have hne:t≠d:=λe0=>h (by subst e0;simp[Oper.looksAt,hg,ht])
   simp only[oC e v hne]
theorem Nd{e:Env}{d d':Nat}{v v':Value}(h:d≠d'):upd (upd e d v) d' v'=upd (upd e d' v') d v:=by
 funext t
 by_cases h1:t=d
 .subst h1
  rw[oC _ _ h,Ar,Ar]
 .by_cases h2:t=d'
  .subst h2
   rw[Ar,oC _ _ h1,Ar]
  .rw[oC _ _ h2,oC _ _ h1,oC _ _ h1,oC _ _ h2]
theorem IH(hsep:sepAll ops=true){J:HF->LH->Prop}{i d:Nat}{oi:Oper}{v:Value}(hi:ops[i]? = some oi)(hd:oi.dst=some d):
  ∀(m:Nat)(dn:List Nat)(e:Env)(h:HF)(L:LH),i∈nexts ops dn->J h L ->
   ((guardB ops e oi=true/\∀h' L',J h' L'->∀w,St X h' L' w->(execOp e.ev oi).run P w=.ok (.value v) w)\/(guardB ops e oi=false/\v=undef)) ->
   TA P b n ops k F ds X J m (i::dn) (upd e d v) h L->TA P b n ops k F ds X J (m+1) dn e h L:=by
 intro m
 induction m with
 |zero=>
  intro dn e h L hn hJ hy t
  simp only[TA]at t ⊢
  refine⟨(λh0=>by rw[h0]at hn;cases hn),λj hj o ho=>?_⟩
  by_cases hji:j=i
  .subst hji
   rw[hi]at ho;cases ho
   unfold Stp
   rcases hy with⟨hg,hr⟩|⟨hg,rfl⟩
   .rw[if_pos hg]
    intro w hw
    rw[hr h L hJ w hw]
    exact wA ⟨h,L,hw,hJ,by simp only[hd,pute];exact t⟩
   .rw[if_neg (by simp[hg])]
    exact⟨hJ,by simp only[hd,pute];exact t⟩
  .have:=zO hj hji
   rw[t.1]at this;cases this
 |succ m ih=>
  intro dn e h L hn hJ hy t
  simp only[TA]
  refine⟨(λh0=>by rw[h0]at hn;cases hn),λj hj o ho=>?_⟩
  by_cases hji:j=i
  .subst hji
   rw[hi]at ho;cases ho
   unfold Stp
   rcases hy with⟨hg,hr⟩|⟨hg,rfl⟩
   .rw[if_pos hg]
    intro w hw
    rw[hr h L hJ w hw]
    exact wA ⟨h,L,hw,hJ,by simp only[hd,pute];exact t⟩
   .rw[if_neg (by simp[hg])]
    exact⟨hJ,by simp only[hd,pute];exact t⟩
  .have hj':=zO hj hji
   simp only[TA]at t
   have hs:=t.2 j hj' o ho
   obtain⟨hjn,oj',hoj',hjw⟩:=yl.1 hj
   rw[ho]at hoj';cases hoj'
   obtain⟨hin,oi',hoi',hiw⟩:=yl.1 hn
   rw[hi]at hoi';cases hoi'
   have hap:=NS hsep hi ho hji (λe0 he hb heq=>hin (heq▸hjw e0 he hb)) (λe0 he hb heq=>hjn (heq▸hiw e0 he hb))
   obtain⟨a1,a2,a3⟩:=Oper.apart_spec hap
   have hgj:=E5 (e:=e) (v:=v) (a1 d hd)
   have hxj:=JO (Ko hsep ho).1 (e:=e) (v:=v) (a1 d hd)
   have hin':i∈nexts ops (j::dn):=zO hn (Ne.symm hji)
   have key:∀u h' L',J h' L'->TA P b n ops k F ds X J m (j::i::dn) (pute (upd e d v) o.dst u) h' L'->TA P b n ops k F ds X J (m+1) (j::dn) (pute e o.dst u) h' L':=by
    intro u h' L' hJ' tt
    have henv:pute (upd e d v) o.dst u=upd (pute e o.dst u) d v:=by
     cases hod:o.dst with
     |none=>rfl
     |some d'=>
      simp only[pute]
      exact Nd (λe0=>a2 d hd (by rw[hod,e0]))
    rw[henv]at tt
    refine ih (j::dn) _ h' L' hin' hJ' ?_ (TA.perm (λx=>by simp[or_left_comm]) tt)
    cases hod:o.dst with
    |none=>simpa[pute]using hy
    |some d'=>
     simp only[pute]
     have h3:=a3 d' hod
     rw[E5 h3,JO (Ko hsep hi).1 h3]
     exact hy
   unfold Stp at hs ⊢
   rw[hgj,hxj]at hs
   split
   .rename_i hg
    rw[if_pos hg]at hs
    exact λw hw=>wd.mono (λu h' L' r=>⟨r.1,key u h' L' r.1 r.2⟩) (hs w hw)
   .rename_i hg
    rw[if_neg hg]at hs
    exact⟨hs.1,key undef h L hs.1 hs.2⟩
theorem Qo(hsep:sepAll ops=true)(hsl:slotsIn ops n=true){i:Nat}{o:Oper}(ho:ops[i]? = some o){is:List Nat}{e:Env}{h:HF}{L:LH}{K:Env->HF->LH->Prop}(hK:∀e' h' L',K e' h' L'->∀w,St X h' L' w->∀a cs Φ,a.tmps.size=n->envOf a=e'->a.defers=ds->F cs Φ->To P Φ (lone (b.atR a (.inRegion ops is::k)) cs w))(hs:Stp P b n ops F ds X o e h L K):
  ∀w,St X h L w->∀a cs Φ,a.tmps.size=n->envOf a=e->a.defers=ds->F cs Φ->To P Φ (lone (b.atR a (.inRegion ops (i::is)::k)) cs w):=by
 intro w hw a cs Φ hn he hds hF
 have hlt:=Qx hsl ho
 have hput:∀v,envOf (a.put o.dst v)=pute e o.dst v:=λv=>by rw[Fz a o.dst v (λx hx=>by rw[hn];exact hlt x hx),he]
 have hnd:=(Ko hsep ho).2
 unfold Stp at hs
 by_cases hg:guardB ops e o=true
 .rw[if_pos hg]at hs
  have hwt:=(fK (ops:=ops) (o:=o) he).trans hg
  have hst:=stepGR_op (P:=P) (b:=b) (k:=k) (cs:=cs) (w:=w) (rest:=is) ho hwt
  have h1:=hs w hw
  have hret:∀v w'',(∃h' L',St X h' L' w''/\K (pute e o.dst v) h' L')->To P Φ (lone ((b.atR a (.inRegion ops (i::is)::k)).finish v) cs w''):=by
   rintro v w'' ⟨h',L',s,t⟩
   rw[gQ a is k ho v]
   exact hK _ h' L' t w'' s (a.put o.dst v) cs Φ (by rw[nX];exact hn) (hput v) (by rw[lR];exact hds) hF
  have hpan:∀ch w'',(∃h' L',St X h' L' w''/\∀e',TP P b n ch F e' ds X h' L')->To P Φ (lone ((b.atR a (.inRegion ops (i::is)::k)).raise ch) cs w''):=by
   rintro ch w'' ⟨h',L',s,t⟩
   exact t e w'' s a cs Φ _ hn he hds hF
  generalize hr:(execOp e.ev o).run P w=r at h1
  cases r with
  |halt x w'=>
   cases x with
   |panic v=>
    refine .step (step_lone_go (fr':={ b.atR a (.inRegion ops (i::is)::k)with mode:=.panicking [{ v,recovered:=false }] }) (cs':=cs) (w':=w') ?_) (hpan _ w' h1)
    rw[hst,jI _ _ hnd,jZ,he,←Frame.raise_atR];simp[stepG.apply,hr]
   |_=>exact h1.elim
  |ok nx w'=>
   cases nx with
   |value v=>
    refine .step (step_lone_go (fr':=b.atR (a.put o.dst v) (.inRegion ops is::k)) (cs':=cs) (w':=w') ?_) ?_
    .rw[hst,jI _ _ hnd,jZ,he,←gQ a is k ho v];simp[stepG.apply,hr]
    .have:=hret v w' h1
     rw[gQ a is k ho v]at this
     exact this
   |skip=>
    refine .step (step_lone_go (fr':=b.atR (a.put o.dst undef) (.inRegion ops is::k)) (cs':=cs) (w':=w') ?_) ?_
    .rw[hst,jI _ _ hnd,jZ,he,←gQ a is k ho undef];simp[stepG.apply,hr]
    .have:=hret undef w' h1
     rw[gQ a is k ho undef]at this
     exact this
   |enter f args=>
    refine .step (step_lone_go (fr':=aAb P f args .normal) (cs':=b.atR a (.inRegion ops (i::is)::k)::cs) (w':=w') ?_) ?_
    .rw[hst,jI _ _ hnd,jZ,he];simp[stepG.apply,hr,aA6]
    .exact h1 _ cs Φ (λv w'' r=>hret v w'' r) (λch w'' r=>hpan ch w'' r)
   |round lp f tmps assign body=>
    refine .step (step_lone_go (fr':=aCy lp f tmps assign body .normal) (cs':=b.atR a (.inRegion ops (i::is)::k)::cs) (w':=w') ?_) ?_
    .rw[hst,jI _ _ hnd,jZ,he];simp[stepG.apply,hr,aA6]
    .exact h1 _ cs Φ (λv w'' r=>hret v w'' r) (λch w'' r=>hpan ch w'' r)
   |_=>exact h1.elim
 .rw[if_neg hg]at hs
  have hg':guardB ops e o=false:=by simpa using hg
  have hwt:=(fK (ops:=ops) (o:=o) he).trans hg'
  have hst:=stepR_op_skip (P:=P) (b:=b) (a:=a) (k:=k) (cs:=cs) (w:=w) (ops:=ops) (i:=i) (rest:=is) (by simp[ho,hwt])
  simp only[ho,aA7]at hst
  exact .step hst (hK _ h L hs w hw (a.put o.dst undef) cs Φ (by rw[nX];exact hn) (hput undef) (by rw[lR];exact hds) hF)
theorem I1{listed:Array Bool}{dn:List Nat}(hl:∀j,j<ops.size->listed.getD j true=dn.contains j)(hl':∀j,listed.getD j false=true->j∈dn)(hdn:∀j∈dn,listed.getD j false=true):
  aCF .any ops listed=nexts ops dn:=by
 unfold aCF nexts
 apply List.filter_congr
 intro i hi
 rw[aBS]at hi
 rw[hl i hi]
 congr 1
 cases ho:ops[i]? with
 |none=>rfl
 |some o=>
  simp only[aBZ,aBv]
  congr 1
  funext e
  congr 1
  rw[qN]
  simp only[List.contains_eq_mem,decide_eq_true_eq]
  exact⟨hl' _,hdn _⟩
theorem NP(hsep:sepAll ops=true)(hsl:slotsIn ops n=true){J:HF->LH->Prop}:∀(m t:Nat)(listed:Array Bool)(dn:List Nat)(e:Env)(h:HF)(L:LH),
  listed.size=ops.size->(∀j,j<ops.size->listed.getD j true=dn.contains j)->(∀j∈dn,j<ops.size) ->
  TA P b n ops k F ds X J m dn e h L->∀w,St X h L w->∀a cs Φ,a.tmps.size=n->envOf a=e->a.defers=ds->F cs Φ ->
   To P Φ (lone (b.atR a (.inRegion ops (aCC .any ops m t listed [])::k)) cs w):=by
 intro m
 induction m with
 |zero=>
  intro t listed dn e h L _ _ _ ta w hw a cs Φ hn he hds hF
  simp only[TA]at ta
  exact .step stepR_region_end (ta.2 w hw a cs Φ hn he hds hF)
 |succ m ih=>
  intro t listed dn e h L hsz hl hdn ta w hw a cs Φ hn he hds hF
  have hfalse:∀j,listed.getD j false=true->j∈dn:=by
   intro j hj
   have hlt:j<ops.size:=by
    rcases jP j ops.size with q|q
    .exact q
    .rw[←hsz]at q;simp[kN,Array.getElem?_eq_none q]at hj
   have h2:=hl j hlt
   have h3:listed.getD j true=listed.getD j false:=by
    simp[kN,aAd (hsz▸hlt)]
   rw[h3,hj]at h2
   simpa using h2.symm
  have htrue:∀j∈dn,listed.getD j false=true:=by
   intro j hj
   have hlt:=hdn j hj
   have h2:=hl j hlt
   have h3:listed.getD j true=listed.getD j false:=by
    simp[kN,aAd (hsz▸hlt)]
   rw[←h3,h2];simpa using hj
  have hrd:=I1 (ops:=ops) hl hfalse htrue
  simp only[TA]at ta
  simp only[aCC]
  change To P Φ (lone (b.atR a (.inRegion ops (match(aCF .any ops listed)[t%(aCF .any ops listed).length]? with
   |some i=>aCC .any ops m (t/(aCF .any ops listed).length) (listed.setIfInBounds i true) [i]
   |none=>[].reverse)::k)) cs w)
  rw[hrd]
  cases hi:(nexts ops dn)[t%(nexts ops dn).length]? with
  |none=>
   have hnil:nexts ops dn=[]:=by
    cases hr:nexts ops dn with
    |nil=>rfl
    |cons x xs=>
     rw[hr]at hi
     have hlt:t%(x::xs).length<(x::xs).length:=Nat.mod_lt _ (by simp)
     simp at hi
     simp at hlt
     omega
   exact .step stepR_region_end (ta.1 hnil w hw a cs Φ hn he hds hF)
  |some i=>
   have him:=xE hi
   obtain⟨hin,o,ho,_⟩:=yl.1 him
   have hilt:i<ops.size:=(aAr.1 ho).1
   simp only[]
   rw[linearise_go_acc,List.reverse_singleton,List.singleton_append]
   refine Qo hsep hsl ho ?_ (ta.2 i him o ho) w hw a cs Φ hn he hds hF
   intro e' h' L' hK w' hw' a' cs' Φ' hn' he' hds' hF'
   refine ih _ (listed.setIfInBounds i true) (i::dn) e' h' L' (by simpa using hsz) ?_ ?_ hK.2 w' hw' a' cs' Φ' hn' he' hds' hF'
   .intro j hj
    by_cases e0:i=j
    .subst e0
     have:i<listed.size:=hsz▸hilt
     simp[kN,this]
    .have hc:(i::dn).contains j=dn.contains j:=by
      rw[qN];simp[Ne.symm e0]
     rw[hc,←hl j hj]
     simp[kN,Array.getElem?_setIfInBounds_ne e0]
   .intro j hj
    rcases kB.1 hj with rfl|hj
    .exact hilt
    .exact hdn j hj
def Jst(h1:HF)(K:LH)(h':HF)(L':LH):Prop:=h1.le h'/\∀p∈K,p∈L'
theorem Jst.nth{h1:HF}{K:LH}{h':HF}{L':LH}(j:Jst h1 K h' L'){i:Nat}{p:Nat×Obj}(hp:nth K i=some p):p∈L':=by
 rw[im]at hp
 exact j.2 p (xE hp)
theorem Jst.start(h:HF)(L:LH):Jst h L h L:=⟨HF.le_refl h,λ_ hp=>hp⟩
theorem Jst.cons{h1:HF}{K:LH}{h':HF}{L':LH}(j:Jst h1 K h' L')(p:Nat×Obj):Jst h1 K h' (p::L'):=⟨j.1,λq hq=>vA _ (j.2 q hq)⟩
theorem Jst.up{h1:HF}{K:LH}{h' h'':HF}{L':LH}(j:Jst h1 K h' L')(hl:h'.le h''):Jst h1 K h'' L':=⟨HF.le_trans j.1 hl,j.2⟩
theorem Jst.app{h1:HF}{K:LH}{h':HF}{L':LH}(j:Jst h1 K h' L')(B:LH):Jst h1 K h' (B++L'):=⟨j.1,λq hq=>zP _ (j.2 q hq)⟩
theorem eM(K:LH){id:Nat}{l:List Oper}{e:Env}{h:HF}{L:LH}(hm:P.follows .mixedOrders=true)(hchk:(sepAll l.toArray&&slotsIn l.toArray n)=true)(hK:Jst h K h L)(t:sepAll l.toArray=true->Jst h K h L->TA P b n l.toArray k F ds X (Jst h K) l.length [] e h L):TT P b n (.code (.region id l.toArray true)::k) F e ds X h L:=by
 intro w hw a cs Φ hn he hds hF
 simp only[xB]at hchk
 refine .step stepR_region_draw ?_
 simp only[Region.schedule,hm,Bool.true_or,if_true,Region.linearise]
 refine NP hchk.1 hchk.2 l.length _ _ [] e h L (by simp) ?_ (by simp) (t hchk.1 hK) _ (hw.drew _) a cs Φ hn he hds hF
 intro j hj
 simp at hj
 simp[kN,hj]
theorem i9(i:Nat){l:List Oper}{h1:HF}{K:LH}{m d:Nat}{oi:Oper}{v:Value}{dn:List Nat}{e:Env}{h:HF}{L:LH}(hsep:sepAll l.toArray=true)(hJ:Jst h1 K h L)(hi:nth l i=some oi)(hd:oi.dst=some d)(hn:(nexts l.toArray dn).contains i=true)(hg:guardB l.toArray e oi=true)(hr:∀h' L',Jst h1 K h' L'->∀w,St X h' L' w->(execOp e.ev oi).run P w=.ok (.value v) w)(t:TA P b n l.toArray k F ds X (Jst h1 K) m (i::dn) (upd e d v) h L):TA P b n l.toArray k F ds X (Jst h1 K) (m+1) dn e h L:=
 IH hsep (by rw[im]at hi;simpa using hi) hd m dn e h L (by simpa using hn) hJ (.inl ⟨hg,hr⟩) t
theorem mt(i:Nat){l:List Oper}{h1:HF}{K:LH}{m d:Nat}{oi:Oper}{dn:List Nat}{e:Env}{h:HF}{L:LH}(hsep:sepAll l.toArray=true)(hJ:Jst h1 K h L)(hi:nth l i=some oi)(hd:oi.dst=some d)(hn:(nexts l.toArray dn).contains i=true)(hg:guardB l.toArray e oi=false)(t:TA P b n l.toArray k F ds X (Jst h1 K) m (i::dn) (upd e d undef) h L):TA P b n l.toArray k F ds X (Jst h1 K) (m+1) dn e h L:=
 IH hsep (by rw[im]at hi;simpa using hi) hd m dn e h L (by simpa using hn) hJ (.inr ⟨hg,rfl⟩) t
theorem Qm(i:Nat){l:List Oper}{h1:HF}{K:LH}{m:Nat}{oi:Oper}{dn:List Nat}{e:Env}{h:HF}{L:LH}(hn:nexts l.toArray dn=[i])(hi:nth l i=some oi)(t:Stp P b n l.toArray F ds X oi e h L λe' h' L'=>Jst h1 K h' L'/\TA P b n l.toArray k F ds X (Jst h1 K) m (i::dn) e' h' L'):TA P b n l.toArray k F ds X (Jst h1 K) (m+1) dn e h L:=by
 rw[im]at hi
 refine⟨(λh0=>by rw[hn]at h0;cases h0),λj hj o ho=>?_⟩
 rw[hn,List.mem_singleton]at hj
 subst hj
 have:l.toArray[j]? = some oi:=by simpa using hi
 rw[this]at ho;cases ho
 exact t
theorem Pp{l:List Oper}{J:HF->LH->Prop}{m:Nat}{dn:List Nat}{e:Env}{h:HF}{L:LH}(is:List Nat)(hn:nexts l.toArray dn=is)(h0:is≠[])(t:∀i∈is,∀o,nth l i=some o->Stp P b n l.toArray F ds X o e h L λe' h' L'=>J h' L'/\TA P b n l.toArray k F ds X J m (i::dn) e' h' L'):TA P b n l.toArray k F ds X J (m+1) dn e h L:=by
 refine⟨λh1=>absurd (hn▸h1) h0,λj hj o ho=>?_⟩
 rw[hn]at hj
 exact t j hj o (by rw[im];simpa using ho)
theorem aV{J:HF->LH->Prop}{l:List Oper}{dn:List Nat}{e:Env}{h:HF}{L:LH}(hn:nexts l.toArray dn=[])(t:TT P b n k F e ds X h L):TA P b n l.toArray k F ds X J 0 dn e h L:=⟨hn,t⟩
theorem du{J:HF->LH->Prop}{dn:List Nat}{e:Env}{h:HF}{L:LH}{m:Nat}{x:Bool}(d:Nat)(hs:e d=.bool x)(h1:x=true->TA P b n ops k F ds X J m dn (upd e d (.bool true)) h L)(h0:x=false->TA P b n ops k F ds X J m dn (upd e d (.bool false)) h L):TA P b n ops k F ds X J m dn e h L:=by
 cases x with
 |true=>have:=h1 rfl;rw[←hs,un]at this;exact this
 |false=>have:=h0 rfl;rw[←hs,un]at this;exact this
def slotOk(n:Nat):Option Nat->Bool
 |some d=>kR d n
 |none=>true
theorem aC{l:List Oper}{o:Oper}{e:Env}{h:HF}{L:LH}(s:Stp P b n ops F ds X o e h L λe' h' L'=>TO P b n ops l k F e' ds X h' L')(hnd:noDefer o.op=true:=by rfl)(hso:slotOk n o.dst=true:=by rfl):TO P b n ops (o::l) k F e ds X h L:=by
 intro w hw is hi a cs Φ hn he hds hF
 have hsl:∀d,o.dst=some d->d<n:=λd hd=>by rw[hd]at hso;exact oB hso
 obtain⟨i,js,rfl,ho,hj⟩:=oZ hi
 have hput:∀v,envOf (a.put o.dst v)=pute e o.dst v:=λv=>by rw[Fz a o.dst v (λx hx=>by rw[hn];exact hsl x hx),he]
 unfold Stp at s
 by_cases hg:guardB ops e o=true
 .rw[if_pos hg]at s
  have hwt:=(fK (ops:=ops) (o:=o) he).trans hg
  have hst:=stepGR_op (P:=P) (b:=b) (k:=k) (cs:=cs) (w:=w) (rest:=js) ho hwt
  have h1:=s w hw
  have hret:∀v w'',(∃h' L',St X h' L' w''/\TO P b n ops l k F (pute e o.dst v) ds X h' L')->To P Φ (lone ((b.atR a (.inRegion ops (i::js)::k)).finish v) cs w''):=by
   rintro v w'' ⟨h',L',s,t⟩
   rw[gQ a js k ho v]
   exact t w'' s js hj (a.put o.dst v) cs Φ (by rw[nX];exact hn) (hput v) (by rw[lR];exact hds) hF
  have hpan:∀ch w'',(∃h' L',St X h' L' w''/\∀e',TP P b n ch F e' ds X h' L')->To P Φ (lone ((b.atR a (.inRegion ops (i::js)::k)).raise ch) cs w''):=by
   rintro ch w'' ⟨h',L',s,t⟩
   exact t e w'' s a cs Φ _ hn he hds hF
  generalize hr:(execOp e.ev o).run P w=r at h1
  cases r with
  |halt x w'=>
   cases x with
   |panic v=>
    refine .step (step_lone_go (fr':={ b.atR a (.inRegion ops (i::js)::k)with mode:=.panicking [{ v,recovered:=false }] }) (cs':=cs) (w':=w') ?_) (hpan _ w' h1)
    rw[hst,jI _ _ hnd,jZ,he,←Frame.raise_atR];simp[stepG.apply,hr]
   |_=>exact h1.elim
  |ok nx w'=>
   cases nx with
   |value v=>
    refine .step (step_lone_go (fr':=b.atR (a.put o.dst v) (.inRegion ops js::k)) (cs':=cs) (w':=w') ?_) ?_
    .rw[hst,jI _ _ hnd,jZ,he,←gQ a js k ho v];simp[stepG.apply,hr]
    .have:=hret v w' h1
     rw[gQ a js k ho v]at this
     exact this
   |skip=>
    refine .step (step_lone_go (fr':=b.atR (a.put o.dst undef) (.inRegion ops js::k)) (cs':=cs) (w':=w') ?_) ?_
    .rw[hst,jI _ _ hnd,jZ,he,←gQ a js k ho undef];simp[stepG.apply,hr]
    .have:=hret undef w' h1
     rw[gQ a js k ho undef]at this
     exact this
   |enter f args=>
    refine .step (step_lone_go (fr':=aAb P f args .normal) (cs':=b.atR a (.inRegion ops (i::js)::k)::cs) (w':=w') ?_) ?_
    .rw[hst,jI _ _ hnd,jZ,he];simp[stepG.apply,hr,aA6]
    .exact h1 _ cs Φ (λv w'' r=>hret v w'' r) (λch w'' r=>hpan ch w'' r)
   |round lp f tmps assign body=>
    refine .step (step_lone_go (fr':=aCy lp f tmps assign body .normal) (cs':=b.atR a (.inRegion ops (i::js)::k)::cs) (w':=w') ?_) ?_
    .rw[hst,jI _ _ hnd,jZ,he];simp[stepG.apply,hr,aA6]
    .exact h1 _ cs Φ (λv w'' r=>hret v w'' r) (λch w'' r=>hpan ch w'' r)
   |_=>exact h1.elim
 .rw[if_neg hg]at s
  have hg':guardB ops e o=false:=by simpa using hg
  have hwt:=(fK (ops:=ops) (o:=o) he).trans hg'
  have hst:=stepR_op_skip (P:=P) (b:=b) (a:=a) (k:=k) (cs:=cs) (w:=w) (ops:=ops) (i:=i) (rest:=js) (by simp[ho,hwt])
  simp only[ho,aA7]at hst
  exact .step hst (s w hw js hj (a.put o.dst undef) cs Φ (by rw[nX];exact hn) (hput undef) (by rw[lR];exact hds) hF)
end
end Go.Sg

namespace Go.Sg
section runs
variable {P:Program} {e:Env} {X:Cx} {h:HF} {L:LH} {d:Option Nat} {ty:TypeId} {pos:String} {af:Array Edge} {g:Option (Nat×Bool)}
theorem mE{x:Operand}:∀w,St X h L w->(execOp e.ev ⟨d,.move x,ty,pos,af,g⟩).run P w=.ok (.value (e.ev x)) w:=λw _=>by simp[execOp]
theorem Od{x:Operand}:∀w,St X h L w->(execOp e.ev ⟨d,.assign x,ty,pos,af,g⟩).run P w=.ok (.value (e.ev x)) w:=λw _=>by simp[execOp]
theorem Kw{c x y:Operand}{s:Bool}(hc:e.ev c=.bool s):∀w,St X h L w->(execOp e.ev ⟨d,.pick c x y,ty,pos,af,g⟩).run P w=.ok (.value (bif s then e.ev x else e.ev y)) w:=
 λw _=>by cases s<;>simp[execOp,hc,asBool]
theorem Oc{op:BinOp}{t u:TypeId}{x y:Operand}{v:Value}(hv:binV op (e.ev x) (e.ev y)=some v):∀w,St X h L w->(execOp e.ev ⟨d,.binOp op t x y u,ty,pos,af,g⟩).run P w=.ok (.value v) w:=
 λw _=>by
  have:=Ei (P:=P) (t:=t) (x:=x) (y:=y) hv w
  simp only[execOp,xP]at this ⊢
  simp[this]
theorem nl{op:BinOp}{t u:TypeId}{x y:Operand}{v v':Value}(hv:binV op (e.ev x) (e.ev y)=some v)(hvv:v=v'):∀w,St X h L w->(execOp e.ev ⟨d,.binOp op t x y u,ty,pos,af,g⟩).run P w=.ok (.value v') w:=
 hvv▸Oc hv
theorem I2{x:Operand}{t E:TypeId}{base:Option Addr}{m c:Nat}(hT:P.underlying t=some (.slice E))(hx:e.ev x=.slice base m c):
  ∀w,St X h L w->(execOp e.ev ⟨d,.call ⟨.builtin .len,#[x],#[t]⟩,ty,pos,af,g⟩).run P w=.ok (.value (.int .i64 (m:Nat))) w:=
 λw _=>by simp[execOp,resolve,invoke,builtin,aCE,hx,run_underlying hT,goInt]
theorem BP{x:Operand}{t:TypeId}{s:ByteArray}(hT:P.underlying t=some .string)(hx:e.ev x=.string s):
  ∀w,St X h L w->(execOp e.ev ⟨d,.call ⟨.builtin .len,#[x],#[t]⟩,ty,pos,af,g⟩).run P w=.ok (.value (.int .i64 (s.size:Nat))) w:=
 λw _=>by simp[execOp,resolve,invoke,builtin,aCE,hx,run_underlying hT,goInt]
theorem tx{s:TypeId}{x:Operand}{i off:Nat}{q:Addr}(hf:fldOf P s i=some off)(hx:e.ev x=.pointer (some q)):
  ∀w,St X h L w->(execOp e.ev ⟨d,.fieldAddr s x i,ty,pos,af,g⟩).run P w=.ok (.value (.pointer (some (q.add off)))) w:=λw _=>by
 unfold fldOf at hf
 split at hf
 .rename_i fs hu
  split at hf
  .rename_i f hfi
   split at hf
   .rename_i ti hti
    cases hz:aBa ti.size 0 with
    |true=>simp[hz]at hf
    |false=>
     simp only[hz,cond_false,kQ]at hf
     have hne:ti.size≠0:=λe0=>by rw[e0]at hz;cases hz
     subst hf
     simp[execOp,Instr.fieldAt,run_underlying hu,hfi,hx,aAh,fieldPlace,sizeOf,typeInfo,hti,hne]
   .cases hf
  .cases hf
 .cases hf
theorem cellM{w:World}(s:St X h L w){bk T:Nat}{cl:List Value}{fz:Nat×Nat}(hL:(bk,kH cl.toArray T fz)∈L){off:Nat}{v:Value}(hv:nth cl off=some v):w.cell? ⟨bk,off,none⟩=some v:=by
 rw[im]at hv
 have:=s.own _ hL
 simp only at this
 simp[aBR,this,hv]
theorem zw{t:TypeId}{x:Operand}{m bk off T:Nat}{fz:Nat×Nat}{cl:List Value}{v:Value}(hT:tySz P t=some (m,false))(hx:e.ev x=.pointer (some ⟨bk,off,none⟩))(hL:(bk,kH cl.toArray T fz)∈L)(hv:nth cl off=some v):∀w,St X h L w->(execOp e.ev ⟨d,.load t x,ty,pos,af,g⟩).run P w=.ok (.value v) w:=
 λw hw=>by simp[execOp,aBB,hx,aAh,oP hT (cellM hw hL hv)]
theorem jO{t:TypeId}{x:Operand}{m bk off T:Nat}{fz:Nat×Nat}{cl cs:List Value}(hT:tySz P t=some (m,true))(hx:e.ev x=.pointer (some ⟨bk,off,none⟩))(hL:(bk,kH cl.toArray T fz)∈L)(hv:cut cl off m=some cs):∀w,St X h L w->(execOp e.ev ⟨d,.load t x,ty,pos,af,g⟩).run P w=.ok (.value (.agg cs.toArray)) w:=
 λw hw=>by
  obtain⟨h1,h2⟩:=Bx hv
  subst h1
  have:∀j v,cs[j]? = some v->w.cell? ((⟨bk,off,none⟩:Addr).add j)=some v:=by
   intro j v hj
   have:=cellM hw hL (h2 j v hj)
   by_cases e0:j=0
   .subst e0;simpa[jT]using this
   .simpa[jT,e0]using this
  simp[execOp,aBB,hx,aAh,oO hT this]
theorem P8{t:TypeId}{x:Operand}{m:Nat}(j:Nat){q:Addr}{cs:List Value}{v:Value}(hT:tySz P t=some (m,false))(ha:At h q cs)(hx:e.ev x=.pointer (some (q.add j)))(hv:nth cs j=some v):∀w,St X h L w->(execOp e.ev ⟨d,.load t x,ty,pos,af,g⟩).run P w=.ok (.value v) w:=
 λw hw=>by
  rw[im]at hv
  simp[execOp,aBB,hx,aAh,oP hT (ha.cell hw hv)]
theorem Qv{t:TypeId}{x:Operand}{m:Nat}{q:Addr}{cs:List Value}{v:Value}(hT:tySz P t=some (m,false))(ha:At h q (v::cs))(hx:e.ev x=.pointer (some q)):
  ∀w,St X h L w->(execOp e.ev ⟨d,.load t x,ty,pos,af,g⟩).run P w=.ok (.value v) w:=
 P8 0 hT ha (by simp[jT,hx]) rfl
theorem N9{t:TypeId}{x:Operand}{m:Nat}(j:Nat){q:Addr}{cs cs':List Value}(hT:tySz P t=some (m,true))(ha:At h q cs)(hx:e.ev x=.pointer (some (q.add j)))(hv:cut cs j m=some cs'):∀w,St X h L w->(execOp e.ev ⟨d,.load t x,ty,pos,af,g⟩).run P w=.ok (.value (.agg cs'.toArray)) w:=
 λw hw=>by
  obtain⟨h1,h2⟩:=Bx hv
  subst h1
  have hsp:q.spot=none:=by obtain⟨_,_,_,_,h2,_⟩:=ha;exact h2
  have:∀i v,cs'[i]? = some v->w.cell? ((q.add j).add i)=some v:=by
   intro i v hi
   have:=h2 i v hi
   rw[im]at this
   rw[vv q j i hsp]
   exact ha.cell hw this
  simp[execOp,aBB,hx,aAh,oO hT this]
theorem lM{t:TypeId}{x:Operand}{m:Nat}{q:Addr}{cs:List Value}(hT:tySz P t=some (m,true))(ha:At h q cs)(hm:cs.length=m)(hx:e.ev x=.pointer (some q)):
  ∀w,St X h L w->(execOp e.ev ⟨d,.load t x,ty,pos,af,g⟩).run P w=.ok (.value (.agg cs.toArray)) w:=
 N9 0 hT ha (by simp[jT,hx]) (by subst hm;exact Ml cs)
theorem CP{t E:TypeId}{x ix:Operand}{m i sz:Nat}{a:Bool}{p:Addr}{cap:Nat}(hT:P.underlying t=some (.slice E))(hS:tySz P E=some (sz,a))(hx:e.ev x=.slice (some p) m cap)(hix:e.ev ix=.int .i64 (i:Nat))(hi:i<m):∀w,St X h L w->(execOp e.ev ⟨d,.indexAddr t x ix,ty,pos,af,g⟩).run P w=.ok (.value (.pointer (some (p.add (i*sz))))) w:=
 λw _=>by
  have:(i:Int)<(m:Int):=by omega
  simp[execOp,Instr.indexAt,hix,hx,asIntOf,run_underlying hT,gD hS,hi]
end runs
section anyidx
variable {P:Program} {b:Frame} {n:Nat} {k:List Item} {F:List Frame->(Machine->Prop)->Prop} {ds:List Deferred} {X:Cx}
end anyidx
section steps
variable {P:Program} {b:Frame} {n:Nat} {ops:Array Oper} {F:List Frame->(Machine->Prop)->Prop} {e:Env} {ds:List Deferred} {X:Cx} {h:HF} {L:LH} {K:Env->HF->LH->Prop}
variable {d:Option Nat} {ty:TypeId} {pos:String} {af:Array Edge} {g:Option (Nat×Bool)}
theorem iM{op:Op}(hg:guardB ops e ⟨d,op,ty,pos,af,g⟩=true)(t:∀w,St X h L w->∃v w' h' L',(execOp e.ev ⟨d,op,ty,pos,af,g⟩).run P w=.ok (.value v) w'/\St X h' L' w'/\K (pute e d v) h' L'):
  Stp P b n ops F ds X ⟨d,op,ty,pos,af,g⟩ e h L K:=by
 unfold Stp
 rw[if_pos hg]
 intro w hw
 obtain⟨v,w',h',L',hr,hs,hk⟩:=t w hw
 rw[hr]
 exact wA ⟨h',L',hs,hk⟩
theorem fw{op:Op}{v:Value}(hr:∀w,St X h L w->(execOp e.ev ⟨d,op,ty,pos,af,g⟩).run P w=.ok (.value v) w)(t:K (pute e d v) h L)(hg:guardB ops e ⟨d,op,ty,pos,af,g⟩=true:=by rfl):
  Stp P b n ops F ds X ⟨d,op,ty,pos,af,g⟩ e h L K:=
 iM hg λw hw=>⟨v,w,h,L,hr w hw,hw,t⟩
theorem QU{t:TypeId}{x:Operand}(t':∀bk,K (pute e d (.pointer (some ⟨bk,0,none⟩))) h ((bk,.cells (vcells (e.ev x)).toArray t (0,0))::L))(hg:guardB ops e ⟨d,.box t x,ty,pos,af,g⟩=true:=by rfl):Stp P b n ops F ds X ⟨d,.box t x,ty,pos,af,g⟩ e h L K:=
 iM hg λw hw=>⟨_,_,h,_,by simp[execOp,Instr.box,newVar,newRow,lY],hw.alloc _,t' _⟩
theorem AL{t:TypeId}{zs:List Value}(hz:zeroC P t=some zs)(t':∀bk,K (pute e d (.pointer (some ⟨bk,0,none⟩))) h ((bk,.cells zs.toArray t (0,0))::L))(hg:guardB ops e ⟨d,.alloc t,ty,pos,af,g⟩=true:=by rfl):Stp P b n ops F ds X ⟨d,.alloc t,ty,pos,af,g⟩ e h L K:=
 iM hg λw hw=>by
  obtain⟨z,h1,h2⟩:=rL hz w
  exact⟨_,_,h,_,by simp[execOp,Instr.alloc,h1,newVar,newRow,h2],hw.alloc _,t' _⟩
theorem ku(i:Nat){t:TypeId}{x y:Operand}{m bk off T:Nat}{a:Bool}{cl vs:List Value}(hT:tySz P t=some (m,a))(hx:e.ev x=.pointer (some ⟨bk,off,none⟩))(hL:nth L i=some (bk,.cells cl.toArray T (0,0)))(hv:vcells (e.ev y)=vs)(hm:vs.length=m)(hle:aCf (off+vs.length) cl.length=true)(h1:vs.all one=true)(t':K e h (setNth L i (bk,.cells (splice cl off vs).toArray T (0,0))))(hg:guardB ops e ⟨none,.store t x y,ty,pos,af,g⟩=true:=by rfl):Stp P b n ops F ds X ⟨none,.store t x y,ty,pos,af,g⟩ e h L K:=by
 unfold Stp
 rw[if_pos hg]
 intro w hw
 have hb:w.heap[bk]? = some (.cells cl.toArray T (0,0)):=by
  have h2:=hL
  rw[im]at h2
  exact hw.own _ (xE h2)
 have hsize:(e.ev y).cells.size=m:=by rw[lY,hv];simpa using hm
 have hlist:(e.ev y).cells.toList=vs:=by rw[lY,hv]
 have:=mz (P:=P) off vs 0 cl w hb (by simpa using vQ hle) (by simpa using h1)
 simp only[aCg]at this
 have hr:(execOp e.ev ⟨none,.store t x y,ty,pos,af,g⟩).run P w=.ok .skip { w with heap:=w.heap.setIfInBounds bk (.cells (splice cl off vs).toArray T (0,0)) }:=by
  simp[execOp,Instr.storeAt,hx,aAh,storeVar,gD hT,hsize,hlist,this]
 rw[hr]
 exact⟨h,_,hw.write hL _,t'⟩
theorem mO{f:FuncId}{as:Array Operand}{ats:Array TypeId}{vs:List Value}{A Fr:LH}{R:Ending->HF->LH->Prop}(hc:∀args w,(callFunc f args).run P w=.ok (.enter f args) w)(hvs:as.toList.map e.ev=vs)(hs:od P f vs.toArray h A R)(hL:L=A++Fr)(t':∀v h' B,h.le h'->R (.returned v) h' B->K (pute e d v) h' (B++Fr))(tp:∀ch h' B,h.le h'->R (.panicked ch) h' B->∀e',TP P b n ch F e' ds X h' (B++Fr))(hg:guardB ops e ⟨d,.call ⟨.value (.func f),as,ats⟩,ty,pos,af,g⟩=true:=by rfl):
  Stp P b n ops F ds X ⟨d,.call ⟨.value (.func f),as,ats⟩,ty,pos,af,g⟩ e h L K:=by
 unfold Stp
 rw[if_pos hg]
 intro w hw
 subst hL
 have harr:as.map e.ev=vs.toArray:=aAs (by simp[←hvs])
 have hr:(execOp e.ev ⟨d,.call ⟨.value (.func f),as,ats⟩,ty,pos,af,g⟩).run P w=.ok (.enter f vs.toArray) w:=by
  simp[execOp,resolve,Env.ev,kJ,invoke,harr,hc]
 rw[hr]
 refine lP (by simp) (j7 (rq.mono (hs w hw.pre.left) ?_))
 rintro x w' ⟨h',B,hst,hR⟩
 cases x with
 |returned v=>exact⟨h',_,hw.after hst,t' v h' B hst.le hR⟩
 |panicked ch=>exact⟨h',_,hw.after hst,tp ch h' B hst.le hR⟩
 |outgrown=>trivial
theorem fe{f:FuncId}{as:Array Operand}{ats:Array TypeId}{vs:List Value}{v:Value}(hc:∀args w,(callFunc f args).run P w=.ok (.enter f args) w)(hs:Ret P f vs h v)(hvs:as.toList.map e.ev=vs)(t':K (pute e d v) h L)(hg:guardB ops e ⟨d,.call ⟨.value (.func f),as,ats⟩,ty,pos,af,g⟩=true:=by rfl):
  Stp P b n ops F ds X ⟨d,.call ⟨.value (.func f),as,ats⟩,ty,pos,af,g⟩ e h L K:=
 mO (A:=[]) (Fr:=L) hc hvs hs rfl (λv' h' B _ hR=>by obtain⟨h1,h2,h3⟩:=hR;cases h1;subst h2 h3;exact t')
  (λch h' B _ hR=>by obtain⟨h1,_,_⟩:=hR;cases h1) hg
theorem bK{t E:TypeId}{len sz:Nat}{a:Bool}{parts:Array (Nat×Operand)}{zs cells:List Value}(hT:P.underlying t=some (.slice E))(hS:tySz P E=some (sz,a))(hz:zeroC P E=some zs)(hpos:kR 0 (len*sz)=true)(hlt:aCf (len*sz) 16777216=true)(hc:Instr.fill (λi=>some (i*sz,sz)) ((Array.range (len*sz)).map (zs.toArray[·%zs.toArray.size]!)) (parts.toList.map λp=>(p.1,e.ev p.2))=some cells.toArray)(t':∀bk,K (pute e d (.slice (some ⟨bk,0,none⟩) len len)) h ((bk,.cells cells.toArray E (0,0))::L))(hg:guardB ops e ⟨d,.buildSlice t len parts,ty,pos,af,g⟩=true:=by rfl):Stp P b n ops F ds X ⟨d,.buildSlice t len parts,ty,pos,af,g⟩ e h L K:=
 iM hg λw hw=>by
  obtain⟨z,h1,h2⟩:=rL hz w
  have hp:=oB hpos
  have hl:=vQ hlt
  have hparts:(parts.map λx=>(x.1,e.ev x.2)).toList=parts.toList.map λp=>(p.1,e.ev p.2):=by simp
  refine⟨_,_,h,_,?_,hw.alloc _,t' _⟩
  have hne:¬len*sz=0:=by omega
  have hnl:¬len*sz>2 ^ 24:=by omega
  simp only[execOp,Instr.buildSlice,xP,run_underlying hT,zM,gD hS,hnl,hne,if_false,h1,h2,aBj,hparts]
  rw[hc]
  simp[newRow]
theorem pI{t E:TypeId}{sz:Nat}{a:Bool}(hT:P.underlying t=some (.slice E))(hS:tySz P E=some (sz,a))(t':∀bk,K (pute e d (.slice (some ⟨bk,0,none⟩) 0 0)) h ((bk,.cells [].toArray E (0,0))::L))(hg:guardB ops e ⟨d,.buildSlice t 0 #[],ty,pos,af,g⟩=true:=by rfl):Stp P b n ops F ds X ⟨d,.buildSlice t 0 #[],ty,pos,af,g⟩ e h L K:=
 iM hg λw hw=>by
  refine⟨_,_,h,_,?_,hw.alloc _,t' _⟩
  have h0:(Array.range 0).map (λ_:Nat=>(default:Value))=#[]:=by apply Array.eq_empty_of_size_eq_zero;simp
  simp[execOp,Instr.buildSlice,run_underlying hT,gD hS,Instr.fill,newRow,h0]
theorem eG{fn:Fn}{first captured:Array Operand}{fl cl:List Value}(h1:first.toList.map e.ev=fl)(h2:captured.toList.map e.ev=cl)(t':K (pute e d (.func fn fl.toArray cl.toArray)) h L)(hg:guardB ops e ⟨d,.makeFunc fn first captured,ty,pos,af,g⟩=true:=by rfl):Stp P b n ops F ds X ⟨d,.makeFunc fn first captured,ty,pos,af,g⟩ e h L K:=
 iM hg λw hw=>⟨_,w,h,L,by
  have e1:first.map e.ev=fl.toArray:=aAs (by simp[←h1])
  have e2:captured.map e.ev=cl.toArray:=aAs (by simp[←h2])
  simp[execOp,Instr.makeFunc,e1,e2],hw,t'⟩
theorem fN{t:TypeId}{parts:Array (Nat×Operand)}{zs cells:List Value}{places:List (Nat×Nat)}{fs:Array Field}(hT:P.underlying t=some (.struct fs))(hz:zeroC P t=some zs)(hp:fs.toList.map (λf=>((P.info? f.type).map λi=>(f.offset,i.size)))=places.map some)(hc:Instr.fill (λi=>places.toArray[i]?) zs.toArray (parts.toList.map λp=>(p.1,e.ev p.2))=some cells.toArray)(t':K (pute e d (.agg cells.toArray)) h L)(hg:guardB ops e ⟨d,.build t parts,ty,pos,af,g⟩=true:=by rfl):Stp P b n ops F ds X ⟨d,.build t parts,ty,pos,af,g⟩ e h L K:=
 iM hg λw hw=>by
  obtain⟨z,h1,h2⟩:=rL hz w
  have hparts:(parts.map λx=>(x.1,e.ev x.2)).toList=parts.toList.map λp=>(p.1,e.ev p.2):=by simp
  refine⟨_,_,h,_,?_,hw,t'⟩
  have hm:∀(l:List Field)(pl:List (Nat×Nat)),l.map (λf=>((P.info? f.type).map λi=>(f.offset,i.size)))=pl.map some ->
    (l.mapM λf=>do pure (f.offset,←sizeOf f.type):Sem (List (Nat×Nat))).run P w=.ok pl w:=by
   intro l
   induction l with
   |nil=>intro pl hpl;cases pl with
    |nil=>simp
    |cons _ _=>simp at hpl
   |cons f l ih=>
    intro pl hpl
    cases pl with
    |nil=>simp at hpl
    |cons q pl=>
     simp only[xK,List.cons.injEq]at hpl
     cases hi:P.info? f.type with
     |none=>simp[hi]at hpl
     |some ti=>
      simp only[hi,aBZ,kQ]at hpl
      have hf:(do pure (f.offset,←sizeOf f.type):Sem (Nat×Nat)).run P w=.ok q w:=by
       simp[sizeOf,typeInfo,hi,hpl.1]
      rw[List.mapM_cons,xP,hf,zM,xP,ih pl hpl.2]
      rfl
  have hm2:=hm fs.toList places hp
  have hm3:(fs.mapM λf=>do pure (f.offset,←sizeOf f.type):Sem (Array (Nat×Nat))).run P w=.ok places.toArray w:=by
   have:(fs.mapM λf=>do pure (f.offset,←sizeOf f.type):Sem (Array (Nat×Nat)))=vB <$> (fs.toList.mapM λf=>do pure (f.offset,←sizeOf f.type):Sem (List (Nat×Nat))):=by
    rw[←List.mapM_toArray]
   rw[this,Sem.run_map,hm2]
   rfl
  simp only[execOp,Instr.build,xP,h1,zM,run_underlying hT,hm3,h2,hparts]
  rw[hc]
  simp
end steps
abbrev Q9(P:Program)(f:FuncId)(args:List Value)(h:HF)(A:LH)(v:Value):Prop:=od P f args.toArray h A (λx h' B=>x=.returned v/\h'=h/\B=A)
abbrev um(P:Program)(fv:Value)(args:List Value)(h:HF)(A:LH)(v:Value):Prop:=mr P fv args.toArray h A (λx h' B=>x=.returned v/\h'=h/\B=A)
theorem iJ{P:Program}{f:FuncId}{args cap:List Value}{h:HF}{A:LH}{v:Value}(hc:∀args w,(callFunc f args).run P w=.ok (.enter f args) w)(hr:Q9 P f (args++cap) h A v):
  um P (.func (.func f) #[] cap.toArray) args h A v:=by
 intro w hp
 refine⟨.enter f (args++cap).toArray,?_,j7 (hr w hp)⟩
 simp[kJ,invoke,hc]
theorem St.same{X:Cx}{h:HF}{L A:LH}{w w':World}(s:St X h L w)(hA:A.Sublist L)(t:St ⟨w,h,A.map (·.1)⟩ h A w'):St X h L w':=by
 have hkey:∀b,b<w.heap.size->w'.heap[b]? = w.heap[b]?:=by
  intro b hb
  by_cases hm:b∈A.map (·.1)
  .obtain⟨p,hp,rfl⟩:=jQ.1 hm
   rw[t.own p hp,s.own p (hA.subset hp)]
  .exact t.keep b hb hm
 have t2:St ⟨w,h,List.map (·.1) ([]:LH)⟩ h [] w':=
  ⟨t.os,t.tape,t.output,t.size,λb hb _=>hkey b hb,λ_ _ hb=>hb,λ_ _=>rfl,t.imm,λ_ hp=>(kA hp).elim,aAI,λ_ hp=>(kA hp).elim,λ_ hp=>(kA hp).elim⟩
 exact St.after (A:=[]) (B:=[]) (F:=L) s t2
theorem Pre.sub{h:HF}{L A:LH}{w:World}(s:Pre h L w)(hA:A.Sublist L):Pre h A w:=
 ⟨s.imm,λp hp=>s.own p (hA.subset hp),s.dis.sublist (hA.map _),λp hp=>s.free p (hA.subset hp)⟩
section steps2
variable {P:Program} {b:Frame} {n:Nat} {ops:Array Oper} {F:List Frame->(Machine->Prop)->Prop} {e:Env} {ds:List Deferred} {X:Cx} {h:HF} {L:LH} {K:Env->HF->LH->Prop}
variable {d:Option Nat} {ty:TypeId} {pos:String} {af:Array Edge} {g:Option (Nat×Bool)}
theorem mV{P:Program}{w:World}{R:Ending->World->Prop}{nx:Next}(h:uN P w R nx):nx≠.skip:=by
 intro e;subst e;exact h
theorem lT(A:LH){t:Nat}{as:Array Operand}{ats:Array TypeId}{fv:Value}{vs:List Value}{v:Value}(hA:A.Sublist L)(hs:um P fv vs h A v)(hf:e t=fv)(hvs:as.toList.map e.ev=vs)(t':K (pute e d v) h L)(hg:guardB ops e ⟨d,.call ⟨.value (.tmp t),as,ats⟩,ty,pos,af,g⟩=true:=by rfl):
  Stp P b n ops F ds X ⟨d,.call ⟨.value (.tmp t),as,ats⟩,ty,pos,af,g⟩ e h L K:=by
 unfold Stp
 rw[if_pos hg]
 intro w hw
 have harr:as.map e.ev=vs.toArray:=aAs (by simp[←hvs])
 obtain⟨nx,hrun,hcall⟩:=hs w (hw.pre.sub hA)
 have hr:(execOp e.ev ⟨d,.call ⟨.value (.tmp t),as,ats⟩,ty,pos,af,g⟩).run P w=.ok nx w:=by
  rw[←hrun]
  simp[execOp,resolve,Env.ev,harr,hf]
 rw[hr]
 refine lP (mV hcall) (hcall.mono ?_)
 rintro x w' ⟨h',B,hst,hx,hh,hB⟩
 subst hx hh hB
 exact⟨h',L,hw.same hA hst,t'⟩
end steps2
end Go.Sg

namespace Go.Sg
def roundFrame(l:Nat)(f:FuncId):Frame:={ fn:=f,tmps:=#[],todo:=[],defers:=[],mode:=.run,kind:=.normal,roundOf:=some l }
section rounds
variable {P:Program} {l:Nat} {f:FuncId} {n:Nat} {k:List Item} {e:Env} {X:Cx} {h:HF} {L:LH} {R:Ending->HF->LH->Prop} {fn:Func} {lp:Loop}
theorem qh{w:World}(s:St X h L w){i:Nat}(hL:nth L i=some (l,.loop lp)):w.heap[l]? = some (.loop lp):=by
 rw[im]at hL
 exact s.own _ (xE hL)
theorem jy(i:Nat){F:List Frame->(Machine->Prop)->Prop}{ds:List Deferred}(hL:nth L i=some (l,.loop lp))(hr:lp.state=.ready)(t:TT P (roundFrame l f) n k F e ds X h (setNth L i (l,.loop { lp with state:=.busy }))):TT P (roundFrame l f) n (.beginRound::k) F e ds X h L:=by
 intro w hw a cs Φ hn he hds hF
 have hb:=qh hw hL
 refine .step (stepR_beginRound (l:=l) (w':={ w with heap:=w.heap.setIfInBounds l (.loop { lp with state:=.busy }) }) rfl ?_) (t _ (hw.write hL _) a cs Φ hn he hds hF)
 simp[Instr.beginRound,aBo,getObj,setObj,aBX,hb,hr]
theorem uU{w:World}(hb:w.heap[l]? = some (.loop lp))(jump:Option Code):
  (Instr.endRound l jump).run P w=.ok (.bool jump.isNone) { w with heap:=w.heap.setIfInBounds l (.loop { lp with state:=if jump.isNone then .ready else .done,pending:=jump }) }:=by
 simp[Instr.endRound,aBo,getObj,setObj,aBX,hb]
theorem Ln(i:Nat)(hL:nth L i=some (l,.loop lp))(hR:R (.returned (.bool true)) h (setNth L i (l,.loop { lp with state:=.ready,pending:=none }))):
  TT P (roundFrame l f) n [] (lS P X R) e [] X h L:=by
 intro w hw a cs Φ hn he hds hF
 obtain⟨c,cs',rfl,h1,_⟩:=hF
 exact .step (stepR_round_end (b:=roundFrame l f) rfl rfl (uU (qh hw hL) none)) (h1 _ _ ⟨h,_,hw.write hL _,hR⟩)
theorem Pf(i:Nat)(hL:nth L i=some (l,.loop lp))(hR:R (.returned (.bool false)) h (setNth L i (l,.loop { lp with state:=.done,pending:=some .ret }))):
  TT P (roundFrame l f) n (.code .ret::k) (lS P X R) e [] X h L:=by
 intro w hw a cs Φ hn he hds hF
 obtain⟨c,cs',rfl,h1,_⟩:=hF
 exact .step (stepR_round_ret (b:=roundFrame l f) rfl rfl (uU (qh hw hL) (some .ret))) (h1 _ _ ⟨h,_,hw.write hL _,hR⟩)
theorem NI(i:Nat){id:Nat}(hx:exitTo id k=none)(hL:nth L i=some (l,.loop lp))(hR:R (.returned (.bool false)) h (setNth L i (l,.loop { lp with state:=.done,pending:=some (.exit id) }))):
  TT P (roundFrame l f) n (.code (.exit id)::k) (lS P X R) e [] X h L:=by
 intro w hw a cs Φ hn he hds hF
 obtain⟨c,cs',rfl,h1,_⟩:=hF
 exact .step (stepR_round_exit (b:=roundFrame l f) rfl rfl hx (uU (qh hw hL) (some (.exit id)))) (h1 _ _ ⟨h,_,hw.write hL _,hR⟩)
theorem NL{ch:List PanicEntry}(hf:P.funcs[f]? = some fn)(hR:R (.panicked ch) h L):TP P (roundFrame l f) n ch (lS P X R) e [] X h L:=by
 intro w hw a cs Φ todo hn he hds hF
 obtain⟨c,cs',rfl,_,h3⟩:=hF
 refine .step (step_leave_panicked (P:=P) (fr:={ (roundFrame l f).atR a todo with mode:=.panicking ch }) ⟨rfl,hds,fn,hf⟩) ?_
 exact h3 ch w ⟨h,L,hw,hR⟩
end rounds
theorem wK{P:Program}{l:Nat}{lp:Loop}{i:Nat}{args:List Value}{h:HF}{A:LH}{R:Ending->HF->LH->Prop}(hl:nth A i=some (l,.loop lp))(hsz:args.length=lp.params.size)(t:∀X:Cx,X.M=A.map (·.1)->X.h0=h->(∀b∈X.M,b<X.w0.heap.size)->TT P (roundFrame l lp.fn) lp.tmps.size [.code lp.assign,.beginRound,.code lp.body] (lS P X R)
   (envOf { tmps:=(lp.params.zip args.toArray).foldl (λtmps p=>tmps.setIfInBounds p.1 p.2) lp.tmps,defers:=[] }) [] X h A):
  mr P (.func (.yield l) #[] #[]) args.toArray h A R:=by
 intro w hp
 have hb:w.heap[l]? = some (.loop lp):=by
  rw[im]at hl
  exact hp.own _ (xE hl)
 refine⟨.round l lp.fn ((lp.params.zip args.toArray).foldl (λtmps p=>tmps.setIfInBounds p.1 p.2) lp.tmps) lp.assign lp.body,?_,?_⟩
 .simp[kJ,invoke,Instr.yield,aBo,getObj,aBX,hb,hsz]
 .intro c cs Φ h1 h2
  have hfold:∀(ps:List (Tmp×Value))(ts:Array Value),(ps.foldl (λtmps p=>tmps.setIfInBounds p.1 p.2) ts).size=ts.size:=by
   intro ps
   induction ps with
   |nil=>intro ts;rfl
   |cons p ps ih=>intro ts;simp[ih]
  have hfr:aCy l lp.fn ((lp.params.zip args.toArray).foldl (λtmps p=>tmps.setIfInBounds p.1 p.2) lp.tmps) lp.assign lp.body .normal =
    (roundFrame l lp.fn).atR { tmps:=(lp.params.zip args.toArray).foldl (λtmps p=>tmps.setIfInBounds p.1 p.2) lp.tmps,defers:=[] } [.code lp.assign,.beginRound,.code lp.body]:=by
   simp[aCy,aA6,roundFrame]
  rw[hfr]
  refine t ⟨w,h,A.map (·.1)⟩ rfl rfl (λb hb=>by obtain⟨p,hp',rfl⟩:=jQ.1 hb;exact ib (hp.own p hp')) w (St.start hp) _ (c::cs) Φ ?_ rfl rfl ⟨c,cs,rfl,h1,h2⟩
  simp only
  rw[←aB3]
  exact hfold _ _
def YR{α : Type}(C:List α->HF->LH->Prop)(Sp:HF->LH->Prop)(Pn:List PanicEntry->HF->LH->Prop)(done:List α)(x:α)(r:Ending)(h:HF)(B:LH):Prop:=
 (r=.returned (.bool true)/\C (done++[x]) h B)\/(r=.returned (.bool false)/\Sp h B)\/∃ch,r=.panicked ch/\Pn ch h B
def ItR{α : Type}(C:List α->HF->LH->Prop)(Sp:HF->LH->Prop)(Pn:List PanicEntry->HF->LH->Prop)(xs:List α)(r:Ending)(h:HF)(B:LH):Prop:=
 (r=.returned (.tuple #[])/\(C xs h B\/Sp h B))\/∃ch,r=.panicked ch/\Pn ch h B
def Na{α : Type}(P:Program)(it:Value)(val:α->HF->List Value->Prop)(xs:List α)(h:HF):Prop:=
 ∀(yf:Fn)(ya yb:Array Value)(C:List α->HF->LH->Prop)(Sp:HF->LH->Prop)(Pn:List PanicEntry->HF->LH->Prop)(h':HF)(A:LH),h.le h'->(∀done h1 h2 B,HF.le h1 h2->C done h1 B->C done h2 B)->(∀h1 h2 B,HF.le h1 h2->Sp h1 B->Sp h2 B)->(∀ch h1 h2 B,HF.le h1 h2->Pn ch h1 B->Pn ch h2 B)->C [] h' A ->
  (∀done x rest vs h'' B,xs=done++x::rest->h'.le h''->C done h'' B->val x h'' vs->mr P (.func yf ya yb) vs.toArray h'' B (YR C Sp Pn done x)) ->
  mr P it #[.func yf ya yb] h' A (ItR C Sp Pn xs)
theorem Na.mono{α : Type}{P:Program}{it:Value}{val:α->HF->List Value->Prop}{xs:List α}{h h':HF}(i:Na P it val xs h)(hl:h.le h'):Na P it val xs h':=
 λyf ya yb C Sp Pn h'' A hl'=>i yf ya yb C Sp Pn h'' A (HF.le_trans hl hl')
theorem PF{α : Type}{P:Program}{f:FuncId}{cap:List Value}{val:α->HF->List Value->Prop}{xs:List α}{h:HF}(hc:∀args w,(callFunc f args).run P w=.ok (.enter f args) w)(hr:∀(yf:Fn)(ya yb:Array Value)(C:List α->HF->LH->Prop)(Sp:HF->LH->Prop)(Pn:List PanicEntry->HF->LH->Prop)(h':HF)(A:LH),h.le h'->(∀done h1 h2 B,HF.le h1 h2->C done h1 B->C done h2 B)->(∀h1 h2 B,HF.le h1 h2->Sp h1 B->Sp h2 B)->(∀ch h1 h2 B,HF.le h1 h2->Pn ch h1 B->Pn ch h2 B)->C [] h' A ->
   (∀done x rest vs h'' B,xs=done++x::rest->h'.le h''->C done h'' B->val x h'' vs->mr P (.func yf ya yb) vs.toArray h'' B (YR C Sp Pn done x))->od P f (.func yf ya yb::cap).toArray h' A (ItR C Sp Pn xs)):
  Na P (.func (.func f) #[] cap.toArray) val xs h:=by
 intro yf ya yb C Sp Pn h' A hl m1 m2 m3 hC hy w hp
 refine⟨.enter f (.func yf ya yb::cap).toArray,?_,j7 (hr yf ya yb C Sp Pn h' A hl m1 m2 m3 hC hy w hp)⟩
 simp[kJ,invoke,hc]
def marks(rs:List Nat):List Deferred:=rs.map λr=>{ target:=.collected r,args:=#[] }
def markB(rs:List Nat):LH:=rs.map λr=>(r,.deferred (some []))
section calls
variable {P:Program} {b:Frame} {n:Nat} {ops:Array Oper} {F:List Frame->(Machine->Prop)->Prop} {e:Env} {ds:List Deferred} {X:Cx} {h:HF} {L:LH} {K:Env->HF->LH->Prop}
variable {d:Option Nat} {ty:TypeId} {pos:String} {af:Array Edge} {g:Option (Nat×Bool)}
theorem AJ(Fr A:LH){t:Nat}{as:Array Operand}{ats:Array TypeId}{fv:Value}{vs:List Value}{R:Ending->HF->LH->Prop}(hL:L=Fr++A)(hs:mr P fv vs.toArray h A R)(hf:e t=fv)(hvs:as.toList.map e.ev=vs)(t':∀v h' B,h.le h'->R (.returned v) h' B->K (pute e d v) h' (Fr++B))(tp:∀ch h' B,h.le h'->R (.panicked ch) h' B->∀e',TP P b n ch F e' ds X h' (Fr++B))(hg:guardB ops e ⟨d,.call ⟨.value (.tmp t),as,ats⟩,ty,pos,af,g⟩=true:=by rfl):
  Stp P b n ops F ds X ⟨d,.call ⟨.value (.tmp t),as,ats⟩,ty,pos,af,g⟩ e h L K:=by
 unfold Stp
 rw[if_pos hg]
 intro w hw
 subst hL
 have hw':=hw.perm jJ
 have harr:as.map e.ev=vs.toArray:=aAs (by simp[←hvs])
 obtain⟨nx,hrun,hcall⟩:=hs w hw'.pre.left
 have hr:(execOp e.ev ⟨d,.call ⟨.value (.tmp t),as,ats⟩,ty,pos,af,g⟩).run P w=.ok nx w:=by
  rw[←hrun]
  simp[execOp,resolve,Env.ev,harr,hf]
 rw[hr]
 refine lP (mV hcall) (hcall.mono ?_)
 rintro x w' ⟨h',B,hst,hR⟩
 cases x with
 |returned v=>exact⟨h',_,(hw'.after hst).perm jJ,t' v h' B hst.le hR⟩
 |panicked ch=>exact⟨h',_,(hw'.after hst).perm jJ,tp ch h' B hst.le hR⟩
 |outgrown=>trivial
end calls
def RdR{α : Type}(l r:Nat)(lp:Loop)(I:List α->HF->LH->Prop)(J:Code->HF->LH->Prop)(Pn:List PanicEntry->HF->LH->Prop)(done:List α)(x:α)(r':Ending)(h:HF)(B:LH):Prop:=
 (r'=.returned (.bool true)/\∃L',B=(l,.loop { lp with state:=.ready,pending:=none })::(r,.deferred (some []))::L'/\I (done++[x]) h L') \/
 (r'=.returned (.bool false)/\∃c L',B=(l,.loop { lp with state:=.done,pending:=some c })::(r,.deferred (some []))::L'/\J c h L') \/
 (∃ch,r'=.panicked ch/\∃lp' L',B=(l,.loop lp')::(r,.deferred (some []))::L'/\Pn ch h L')
theorem HK{α : Type}{P:Program}{l r:Nat}{f:FuncId}{n:Nat}{e:Env}{X:Cx}{h:HF}{L:LH}{lp lp':Loop}{I:List α->HF->LH->Prop}{J:Code->HF->LH->Prop}{Pn:List PanicEntry->HF->LH->Prop}{done:List α}{x:α}(hlp:lp'={ lp with state:=.busy })(hI:I (done++[x]) h L):
  TT P (roundFrame l f) n [] (lS P X (RdR l r lp I J Pn done x)) e [] X h ((l,.loop lp')::(r,.deferred (some []))::L):=
 Ln 0 rfl (.inl ⟨rfl,L,by rw[hlp];rfl,hI⟩)
theorem Qr{α : Type}{P:Program}{l r:Nat}{f:FuncId}{n:Nat}{k:List Item}{e:Env}{X:Cx}{h:HF}{L:LH}{lp lp':Loop}{I:List α->HF->LH->Prop}{J:Code->HF->LH->Prop}{Pn:List PanicEntry->HF->LH->Prop}{done:List α}{x:α}(hlp:lp'={ lp with state:=.busy })(hJ:J .ret h L):
  TT P (roundFrame l f) n (.code .ret::k) (lS P X (RdR l r lp I J Pn done x)) e [] X h ((l,.loop lp')::(r,.deferred (some []))::L):=
 Pf 0 rfl (.inr (.inl ⟨rfl,.ret,L,by rw[hlp];rfl,hJ⟩))
theorem Pu{α : Type}{P:Program}{l r:Nat}{f:FuncId}{n:Nat}{k:List Item}{id:Nat}{e:Env}{X:Cx}{h:HF}{L:LH}{lp lp':Loop}{I:List α->HF->LH->Prop}{J:Code->HF->LH->Prop}{Pn:List PanicEntry->HF->LH->Prop}{done:List α}{x:α}(hx:exitTo id k=none)(hlp:lp'={ lp with state:=.busy })(hJ:J (.exit id) h L):
  TT P (roundFrame l f) n (.code (.exit id)::k) (lS P X (RdR l r lp I J Pn done x)) e [] X h ((l,.loop lp')::(r,.deferred (some []))::L):=
 NI 0 hx rfl (.inr (.inl ⟨rfl,.exit id,L,by rw[hlp];rfl,hJ⟩))
theorem Qt{α : Type}{P:Program}{l r:Nat}{f:FuncId}{n:Nat}{ch:List PanicEntry}{e:Env}{X:Cx}{h:HF}{L:LH}{lp lp':Loop}{fn:Func}{I:List α->HF->LH->Prop}{J:Code->HF->LH->Prop}{Pn:List PanicEntry->HF->LH->Prop}{done:List α}{x:α}(hf:P.funcs[f]? = some fn)(hP:Pn ch h L):
  TP P (roundFrame l f) n ch (lS P X (RdR l r lp I J Pn done x)) e [] X h ((l,.loop lp')::(r,.deferred (some []))::L):=
 NL hf (.inr (.inr ⟨ch,rfl,lp',L,rfl,hP⟩))
def setParams(e:Env):List Nat->List Value->Env
 |p::ps,v::vs=>setParams (upd e p v) ps vs
 |_,_=>e
theorem rA{n:Nat}:∀(ps:List Nat)(vs:List Value)(ts:Array Value)(ds:List Deferred),ts.size=n->(∀p∈ps,p<n) ->
  envOf { tmps:=(ps.zip vs).foldl (λtmps p=>tmps.setIfInBounds p.1 p.2) ts,defers:=[] }=setParams (envOf { tmps:=ts,defers:=ds }) ps vs
 |[],vs,ts,ds,_,_=>by simp[setParams];rfl
 |p::ps,[],ts,ds,_,_=>by simp[setParams];rfl
 |p::ps,v::vs,ts,ds,hn,hp=>by
  simp only[List.zip_cons_cons,List.foldl_cons,setParams]
  rw[rA ps vs (ts.setIfInBounds p v) ds (by simpa using hn) (λq hq=>hp q (vA _ hq))]
  congr 1
  exact oI ⟨ts,ds⟩ p v (hn▸hp p (zB ..))
theorem NJ{α : Type}{P:Program}{f:FuncId}{n:Nat}{k:List Item}{F:List Frame->(Machine->Prop)->Prop}{e:Env}{ds:List Deferred}{X:Cx}{h:HF}{L:LH}{g:Operand}{ps:List Tmp}{assign body:Code}{val:α->HF->List Value->Prop}{xs:List α}(I:List α->HF->LH->Prop)(J:Code->HF->LH->Prop)(Pn:List PanicEntry->HF->LH->Prop){f0:FuncId}{cap:List Value}(hgv:e.ev g=.func (.func f0) #[] cap.toArray)(hc0:∀args w,(callFunc f0 args).run P w=.ok (.enter f0 args) w)(hit:Na P (.func (.func f0) #[] cap.toArray) val xs h)(hps:ps.all (λp=>kR p n)=true)(hval:∀x h vs,val x h vs->vs.length=ps.length)(hIm:∀done h1 h2 B,HF.le h1 h2->I done h1 B->I done h2 B)(hJm:∀c h1 h2 B,HF.le h1 h2->J c h1 B->J c h2 B)(hPm:∀ch h1 h2 B,HF.le h1 h2->Pn ch h1 B->Pn ch h2 B)(h0:I [] h L)(round:∀l r lp done x rest vs h' L' X',xs=done++x::rest->h.le h'->I done h' L'->val x h' vs->lp.state=.ready->X'.h0=h'->(∀b∈X'.M,b<X'.w0.heap.size) ->
   TT P (roundFrame l f) n [.code assign,.beginRound,.code body] (lS P X' (RdR l r lp I J Pn done x)) (setParams e ps vs) [] X' h' ((l,.loop lp)::(r,.deferred (some []))::L'))(next:∀r h' L',h.le h'->I xs h' L'->TT P (bodyFrame f) n k F e ({ target:=.collected r,args:=#[] }::ds) X h' ((r,.deferred (some []))::L'))(jump:∀r c h' L',h.le h'->J c h' L'->TT P (bodyFrame f) n (.code c::k) F e ({ target:=.collected r,args:=#[] }::ds) X h' ((r,.deferred (some []))::L'))(pan:∀r ch h' L',h.le h'->Pn ch h' L'->TP P (bodyFrame f) n ch F e ({ target:=.collected r,args:=#[] }::ds) X h' ((r,.deferred (some []))::L')):
  TT P (bodyFrame f) n (.code (.rangeFunc g ps.toArray assign body)::k) F e ds X h L:=by
 intro w hw a cs Φ hn he hds hF
 let r:=w.heap.size
 let w1:World:={ w with heap:=w.heap.push (.deferred (some [])) }
 have hw1:St X h ((r,.deferred (some []))::L) w1:=hw.alloc _
 let l:=w1.heap.size
 let lp:Loop:={ state:=.ready,pending:=none,fn:=f,tmps:=a.tmps,params:=ps.toArray,assign,body,defers:=r }
 let w2:World:={ w1 with heap:=w1.heap.push (.loop lp) }
 have hw2:St X h ((l,.loop lp)::(r,.deferred (some []))::L) w2:=hw1.alloc _
 have henter:(aBY (bodyFrame f).fn a.tmps ps.toArray assign body (bodyFrame f).roundOf).run P w=.ok (l,[{ target:=.collected r,args:=#[] }]) w2:=by
  simp[aBY,bodyFrame,r,l,lp,w2,w1]
 let C:List α->HF->LH->Prop:=λdone h' B=>∃L',B=(l,.loop lp)::(r,.deferred (some []))::L'/\I done h' L'
 let Sp:HF->LH->Prop:=λh' B=>∃c L',B=(l,.loop { lp with state:=.done,pending:=some c })::(r,.deferred (some []))::L'/\J c h' L'
 let Pm:List PanicEntry->HF->LH->Prop:=λch h' B=>∃lp' L',B=(l,.loop lp')::(r,.deferred (some []))::L'/\Pn ch h' L'
 have hps':∀p∈ps,p<n:=λp hp=>oB (aAN.1 hps p hp)
 have hy:∀done x rest vs h'' B,xs=done++x::rest->h.le h''->C done h'' B->val x h'' vs->mr P (.func (.yield l) #[] #[]) vs.toArray h'' B (YR C Sp Pm done x):=by
  rintro done x rest vs h'' B hxs hle ⟨L',rfl,hI⟩ hv
  refine mr.mono (R:=RdR l r lp I J Pn done x) (wK (i:=0) (lp:=lp) rfl (by simp[lp];exact hval x h'' vs hv) ?_) ?_
  .intro X' _ hX' hXM'
   have henv:envOf { tmps:=(ps.toArray.zip vs.toArray).foldl (λtmps p=>tmps.setIfInBounds p.1 p.2) a.tmps,defers:=[] }=setParams e ps vs:=by
    have:=rA ps vs a.tmps a.defers hn hps'
    rw[←he]
    rw[←aB3]
    simpa using this
   have:=round l r lp done x rest vs h'' L' X' hxs hle hI hv rfl hX' hXM'
   rw[←henv,←hn]at this
   exact this
  .rintro x' h3 B' _ (⟨e1,L2,e2,h2⟩|⟨e1,c,L2,e2,h2⟩|⟨ch,e1,lp',L2,e2,h2⟩)
   .exact .inl ⟨e1,L2,e2,h2⟩
   .exact .inr (.inl ⟨e1,c,L2,e2,h2⟩)
   .exact .inr (.inr ⟨ch,e1,lp',L2,e2,h2⟩)
 have hs:=hit (.yield l) #[] #[] C Sp Pm h ((l,.loop lp)::(r,.deferred (some []))::L) (HF.le_refl h) (λ_ _ _ _ hl⟨L',e1,hi⟩=>⟨L',e1,hIm _ _ _ _ hl hi⟩) (λ_ _ _ hl⟨c,L',e1,hi⟩=>⟨c,L',e1,hJm _ _ _ _ hl hi⟩) (λ_ _ _ _ hl⟨lp',L',e1,hi⟩=>⟨lp',L',e1,hPm _ _ _ _ hl hi⟩) ⟨L,rfl,h0⟩ hy
 obtain⟨nx,hrun,hcall⟩:=hs w2 hw2.pre
 have hev:a.eval g=e.ev g:=by rw[jZ,he]
 have hnx:nx=.enter f0 (Value.func (.yield l) #[] #[]::cap).toArray:=by
  simp[kJ,invoke,hc0]at hrun
  simpa using hrun.symm
 subst hnx
 have hres:(resolve a.eval (rangeCall g l) 0).run P w2=.ok { target:=.fn (.func f0) cap.toArray,args:=#[.func (.yield l) #[] #[]] } w2:=by
  have hcst:∀v,a.eval (.const v)=v:=λ_=>rfl
  simp[resolve,rangeCall,hev,hgv,hcst,kJ]
 have hinv:(invoke (.fn (.func f0) cap.toArray) #[.func (.yield l) #[] #[]]).run P w2=.ok (.enter f0 (Value.func (.yield l) #[] #[]::cap).toArray) w2:=by
  simp[invoke,hc0]
 have hback:∀v w3,(∃h' B,St ⟨w2,h,((l,Obj.loop lp)::(r,.deferred (some []))::L).map (·.1)⟩ h' B w3/\ItR C Sp Pm xs (.returned v) h' B) ->
   To P Φ (lone (((bodyFrame f).atR { a with defers:=[{ target:=.collected r,args:=#[] }]++a.defers } (.inRangeFunc l::k)).finish v) cs w3):=by
  rintro v w3 ⟨h',B,hst,hR⟩
  rw[finish_atR_inRangeFunc]
  have hS3:St X h' B w3:=by
   have:=St.after (A:=(l,.loop lp)::(r,.deferred (some []))::L) (F:=[]) (by simpa using hw2) hst
   simpa using this
  have hle:=hst.le
  rcases hR with⟨_,hCS⟩|⟨ch,hx,_⟩
  .rcases hCS with⟨L',rfl,hI⟩|⟨c,L',rfl,hJ⟩
   .have hb:w3.heap[l]? = some (.loop lp):=hS3.own _ (zB ..)
    have hend:(Instr.endLoop l).run P w3=.ok none { w3 with heap:=w3.heap.setIfInBounds l (.loop { lp with state:=.exhausted }) }:=by
     simp[Instr.endLoop,aBo,getObj,setObj,aBX,hb,lp]
    refine .step (stepR_endRangeFunc hend) ?_
    have hS4:=hS3.write (i:=0) rfl (.loop { lp with state:=.exhausted })
    exact next r h' L' hle hI _ (hS4.sub (List.sublist_cons_self ..)) { a with defers:={ target:=.collected r,args:=#[] }::a.defers } cs Φ hn he (by rw[hds]) hF
   .have hb:w3.heap[l]? = some (.loop { lp with state:=.done,pending:=some c }):=hS3.own _ (zB ..)
    have hend:(Instr.endLoop l).run P w3=.ok (some c) { w3 with heap:=w3.heap.setIfInBounds l (.loop { lp with state:=.exhausted,pending:=some c }) }:=by
     simp[Instr.endLoop,aBo,getObj,setObj,aBX,hb,lp]
    refine .step (stepR_endRangeFunc hend) ?_
    have hS4:=hS3.write (i:=0) rfl (.loop { lp with state:=.exhausted,pending:=some c })
    exact jump r c h' L' hle hJ _ (hS4.sub (List.sublist_cons_self ..)) { a with defers:={ target:=.collected r,args:=#[] }::a.defers } cs Φ hn he (by rw[hds]) hF
  .cases hx
 have hraise:∀ch w3,(∃h' B,St ⟨w2,h,((l,Obj.loop lp)::(r,.deferred (some []))::L).map (·.1)⟩ h' B w3/\ItR C Sp Pm xs (.panicked ch) h' B) ->
   To P Φ (lone (((bodyFrame f).atR { a with defers:=[{ target:=.collected r,args:=#[] }]++a.defers } (.inRangeFunc l::k)).raise ch) cs w3):=by
  rintro ch w3 ⟨h',B,hst,hR⟩
  have hS3:St X h' B w3:=by
   have:=St.after (A:=(l,.loop lp)::(r,.deferred (some []))::L) (F:=[]) (by simpa using hw2) hst
   simpa using this
  rcases hR with⟨hx,_⟩|⟨ch',hx,lp',L',rfl,hP⟩
  .cases hx
  .cases hx
   exact pan r ch h' L' hst.le hP w3 (hS3.sub (List.sublist_cons_self ..)) { a with defers:={ target:=.collected r,args:=#[] }::a.defers } cs Φ _ hn he (by rw[hds]) hF
 refine .step (stepR_rangeFunc henter hres hinv) ?_
 exact hcall _ cs Φ hback hraise
end Go.Sg

namespace Go.Sg
theorem D8{P:Program}{fr:Frame}{cs:List Frame}{w:World}{r:Nat}{args:Array Value}{ds:List Deferred}(hm:fr.mode≠.run)(hd:fr.defers={ target:=.collected r,args }::ds)(hb:w.heap[r]? = some (.deferred (some []))):step P (lone fr cs w)=.next (lone { fr with defers:=ds } cs { w with heap:=w.heap.setIfInBounds r (.deferred none) }):=by
 have ht:(Instr.takeDeferred r).run P w=.ok [] { w with heap:=w.heap.setIfInBounds r (.deferred none) }:=by
  simp[Instr.takeDeferred,getObj,setObj,aBX,hb]
 refine step_lone_go ?_
 have hu:stepG P true { frame:=fr,callers:=cs,status:=.running,dying:=none } w=unwind P true fr cs none w:=by
  unfold stepG
  cases hmode:fr.mode with
  |run=>exact absurd hmode hm
  |returning=>simp[hmode]
  |panicking c=>simp[hmode]
 rw[hu]
 unfold unwind
 rw[hd]
 simp[Sem.runT_eq,ht,GStep.bare_after]
theorem ru{P:Program}{X:Cx}{h:HF}{cs:List Frame}{Φ : Machine->Prop}:∀(rs:List Nat)(L:LH)(fr:Frame)(w:World),fr.mode≠.run->fr.defers=marks rs->St X h (L++markB rs) w ->
  (∀w',St X h L w'->To P Φ (lone { fr with defers:=[] } cs w'))->To P Φ (lone fr cs w)
 |[],L,fr,w,_,hd,hw,t=>by
  have hfr:{ fr with defers:=[] }=fr:=by
   cases fr;simp only[marks,aCe]at hd;simp_all
  have:=t w (by simpa[markB]using hw)
  rw[hfr]at this
  exact this
 |r::rs,L,fr,w,hm,hd,hw,t=>by
  have hb:w.heap[r]? = some (.deferred (some [])):=hw.own (r,.deferred (some [])) (zP _ (by simp[markB]))
  have hi:nth (L++markB (r::rs)) L.length=some (r,.deferred (some [])):=by
   rw[im];simp[markB]
  have hw2:=hw.write hi (.deferred none)
  have hw3:St X h (L++markB rs) { w with heap:=w.heap.setIfInBounds r (.deferred none) }:=by
   refine hw2.sub ?_
   rw[ma]
   have:(L++markB (r::rs)).set L.length (r,.deferred none)=L++(r,.deferred none)::markB rs:=by
    simp[markB]
   rw[this]
   exact(List.Sublist.refl L).append (List.sublist_cons_self ..)
  refine .step (D8 (ds:=marks rs) hm (by simpa[marks]using hd) hb) ?_
  exact ru rs L { fr with defers:=marks rs } _ hm rfl hw3 t
section ending
variable {P:Program} {f:FuncId} {n:Nat} {k:List Item} {e:Env} {X:Cx} {h:HF} {L:LH} {R:Ending->HF->LH->Prop} {fn:Func}
theorem uO(rs:List Nat){v:Value}{h2:HF}{B:LH}(hf:P.funcs[f]? = some fn)(hv:∀a:Act,envOf a=e->∀w,St X h L w->(results fn a.tmps).run P w=.ok v w)(hB:∀w,St X h L w->St X h2 B w)(hR:R (.returned v) h2 B):TT P (bodyFrame f) n (.code .ret::k) (lS P X R) e (marks rs) X h (L++markB rs):=by
 intro w hw a cs Φ hn he hds hF
 obtain⟨c,cs',rfl,h1,_⟩:=hF
 refine .step (stepR_ret rfl) (ru rs L _ w (by simp) hds hw λw' hw'=>?_)
 refine .step (ip (fn:=fn) (v:=v) rfl rfl rfl hf (hv a he w' hw')) ?_
 exact h1 v w' ⟨h2,B,hB w' hw',hR⟩
theorem Lo(rs:List Nat){v:Value}{h2:HF}{B:LH}(hf:P.funcs[f]? = some fn)(hv:∀a:Act,envOf a=e->∀w,St X h L w->(results fn a.tmps).run P w=.ok v w)(hB:∀w,St X h L w->St X h2 B w)(hR:R (.returned v) h2 B):TT P (bodyFrame f) n [] (lS P X R) e (marks rs) X h (L++markB rs):=by
 intro w hw a cs Φ hn he hds hF
 obtain⟨c,cs',rfl,h1,_⟩:=hF
 refine .step (stepR_end rfl) (ru rs L _ w (by simp) hds hw λw' hw'=>?_)
 refine .step (ip (fn:=fn) (v:=v) rfl rfl rfl hf (hv a he w' hw')) ?_
 exact h1 v w' ⟨h2,B,hB w' hw',hR⟩
theorem Hx(rs:List Nat){ch:List PanicEntry}{h2:HF}{B:LH}(hf:P.funcs[f]? = some fn)(hB:∀w,St X h L w->St X h2 B w)(hR:R (.panicked ch) h2 B):
  TP P (bodyFrame f) n ch (lS P X R) e (marks rs) X h (L++markB rs):=by
 intro w hw a cs Φ todo hn he hds hF
 obtain⟨c,cs',rfl,_,h3⟩:=hF
 refine ru rs L _ w (by simp) hds hw λw' hw'=>?_
 refine .step (step_leave_panicked (P:=P) (fr:={ { (bodyFrame f).atR a todo with mode:=.panicking ch }with defers:=[] }) ⟨rfl,rfl,fn,hf⟩) ?_
 exact h3 ch w' ⟨h2,B,hB w' hw',hR⟩
theorem Lp{b:Frame}{ch:List PanicEntry}{F:List Frame->(Machine->Prop)->Prop}{ds:List Deferred}{L':LH}(hs:L.Perm L')(t:TP P b n ch F e ds X h L'):TP P b n ch F e ds X h L:=
 λw hw=>t w (hw.perm hs)
theorem zm{b:Frame}{ch:List PanicEntry}{F:List Frame->(Machine->Prop)->Prop}{ds:List Deferred}{L':LH}(hs:L'.Sublist L)(t:TP P b n ch F e ds X h L'):TP P b n ch F e ds X h L:=
 λw hw=>t w (hw.sub hs)
end ending
theorem wH{P:Program}{b:Frame}{n:Nat}{k:List Item}{F:List Frame->(Machine->Prop)->Prop}{e:Env}{ds:List Deferred}{X:Cx}{h:HF}{L:LH}{c:Code}{ι : Type}(sl:ι->List (Nat×Value))(dd:ι->List Deferred)(hh:ι->HF)(LL:ι->LH)(I:ι->Prop)(μ : ι->Nat)(i₀ : ι)(hds:ds=dd i₀)(h0:jd e (sl i₀))(hs:∀w,St X h L w->St X (hh i₀) (LL i₀) w)(hI:I i₀)(round:∀i,I i->(∀i' e',μ i'<μ i->I i'->jd e' (sl i')->TT P b n (.inLoop c::k) F e' (dd i') X (hh i') (LL i')) ->
   ∀e,TT P b n (.code c::.inLoop c::k) F (upds e (sl i)) (dd i) X (hh i) (LL i)):
  TT P b n (.code (.loop c)::k) F e ds X h L:=by
 have key:∀m i e',μ i=m->I i->jd e' (sl i)->TT P b n (.code c::.inLoop c::k) F e' (dd i) X (hh i) (LL i):=by
  intro m
  induction m using aCA with
  |_ m ih=>
   intro i e' hm hI hr
   have:=round i hI (λi' e'' hlt hI' hr' w hw a cs Φ h1 h2 h3 h4=>.step stepR_inLoop (ih _ (hm▸hlt) i' e'' rfl hI' hr' w hw a cs Φ h1 h2 h3 h4)) e'
   rw[hr.upds]at this
   exact this
 subst hds
 intro w hw a cs Φ h1 h2 h3 h4
 exact .step stepR_loop (key _ i₀ e rfl hI h0 w (hs w hw) a cs Φ h1 h2 h3 h4)
end Go.Sg

namespace Go.Sg
structure Rp.Good{α : Type}(R:Rp α):Prop where
 mono:R.Mono
 one:∀h cs x,R.rep h cs x->cs.all one=true
 pos:0<R.sz
theorem Rp.iK:Rp.int.Good:=⟨Rp.aO,λ_ _ _ e=>by cases e;rfl,Nat.one_pos⟩
theorem Rp.Ct:Rp.bool.Good:=⟨Rp.nM,λ_ _ _ e=>by cases e;rfl,Nat.one_pos⟩
def bI{α : Type}(R:Rp α)(h:HF):List Value->List α->Prop
 |cl,[]=>cl=[]
 |cl,x::xs=>∃cs rest,cl=cs++rest/\cs.length=R.sz/\R.rep h cs x/\bI R h rest xs
section cells
variable {α : Type} {R:Rp α} {h h':HF}
theorem bI.len:∀{xs:List α}{cl:List Value},bI R h cl xs->cl.length=xs.length*R.sz
 |[],cl,e=>by cases e;simp
 |x::xs,cl,⟨cs,rest,e,hl,_,hr⟩=>by subst e;simp[hl,hr.len,Nat.add_mul];omega
theorem bI.mono(hm:R.Mono)(hl:h.le h'):∀{xs:List α}{cl:List Value},bI R h cl xs->bI R h' cl xs
 |[],cl,e=>e
 |x::xs,cl,⟨cs,rest,e,hs,r,hr⟩=>⟨cs,rest,e,hs,hm _ _ _ _ hl r,hr.mono hm hl⟩
theorem bI.app{b:List Value}{ys:List α}(hb:bI R h b ys):∀{xs:List α}{a:List Value},bI R h a xs->bI R h (a++b) (xs++ys)
 |[],a,e=>by cases e;exact hb
 |x::xs,a,⟨cs,rest,e,hs,r,hr⟩=>⟨cs,rest++b,by rw[e,qE],hs,r,bI.app hb hr⟩
theorem bI.Mn(hg:R.Good):∀{xs:List α}{cl:List Value},bI R h cl xs->cl.all one=true
 |[],cl,e=>by cases e;rfl
 |x::xs,cl,⟨cs,rest,e,hs,r,hr⟩=>by subst e;rw[List.all_append,hg.one _ _ _ r,hr.Mn hg];rfl
theorem bI.get:∀{xs:List α}{cl:List Value},bI R h cl xs->∀i x,xs[i]? = some x->∃cs,cs.length=R.sz/\R.rep h cs x/\∀j v,cs[j]? = some v->cl[i*R.sz+j]? = some v
 |[],cl,_,i,x,hx=>by simp at hx
 |y::xs,cl,⟨cs,rest,e,hs,r,hr⟩,0,x,hx=>by
  simp at hx;subst hx e
  refine⟨cs,hs,r,λj v hj=>?_⟩
  have hlt:j<cs.length:=(List.getElem?_eq_some_iff.1 hj).1
  simp[List.getElem?_append_left hlt,hj]
 |y::xs,cl,⟨cs,rest,e,hs,r,hr⟩,i+1,x,hx=>by
  simp at hx
  subst e
  obtain⟨ds,h1,h2,h3⟩:=hr.get i x hx
  refine⟨ds,h1,h2,λj v hj=>?_⟩
  have:=h3 j v hj
  have hge:cs.length<=(i+1)*R.sz+j:=by rw[hs,Nat.add_mul];omega
  rw[List.getElem?_append_right hge,hs]
  have e1:(i+1)*R.sz+j-R.sz=i*R.sz+j:=by rw[Nat.add_mul];omega
  rw[e1];exact this
theorem qz(bk n:Nat):(⟨bk,0,none⟩:Addr).add n=⟨bk,n,none⟩:=by
 by_cases e0:n=0
 .simp[jT,e0]
 .simp[jT,e0]
theorem bI.slB{bk T:Nat}{fz:Nat×Nat}{cl sp:List Value}{xs:List α}(hc:bI R h cl xs)(hb:h bk=some (.cells (cl++sp).toArray T fz))(hle:xs.length<=9223372036854775807):SlB R h (some ⟨bk,0,none⟩) xs:=by
 refine⟨hle,?_⟩
 intro i x hx
 obtain⟨cs,h1,h2,h3⟩:=hc.get i x hx
 refine⟨_,cs,rfl,?_,h1,h2⟩
 rw[qz]
 refine At.EI hb λj v hj=>?_
 have:=h3 j v hj
 have hlt:=(List.getElem?_eq_some_iff.1 this).1
 rw[List.getElem?_append_left hlt];exact this
theorem bI.QB{base:Option Addr}:∀{xs:List α},SlB R h base xs->∃cl,bI R h cl xs/\∀a,base=some a->xs≠[]->At h a cl:=by
 intro xs hs
 cases hxs:xs with
 |nil=>exact⟨[],rfl,λ_ _ hne=>(hne rfl).elim⟩
 |cons x0 xs0=>
  obtain⟨p,cs0,hp,hA0,_,_⟩:=hs.2 0 x0 (by rw[hxs];rfl)
  subst hp
  have hA0':At h p cs0:=by simpa[jT]using hA0
  obtain⟨arr,T,fz,hb,hsp,_⟩:=hA0'
  have key:∀(ys:List α)(k:Nat),(∀i y,ys[i]? = some y->xs[k+i]? = some y)->∃cl,bI R h cl ys/\∀j v,cl[j]? = some v->arr[p.off+(k*R.sz+j)]? = some v:=by
   intro ys
   induction ys with
   |nil=>intro k _;exact⟨[],rfl,λj v hj=>by simp at hj⟩
   |cons y ys ih=>
    intro k hk
    obtain⟨q,cs,hq,hA,hl,hr⟩:=hs.2 k y (hk 0 y rfl)
    cases hq
    obtain⟨cl,hc,hcl⟩:=ih (k+1) (λi z hz=>by have:=hk (i+1) z (by simpa using hz);rw[show k+1+i=k+(i+1) by omega];exact this)
    refine⟨cs++cl,⟨cs,cl,rfl,hl,hr,hc⟩,λj v hj=>?_⟩
    have hblk:(p.add (k*R.sz)).block=p.block:=by unfold jT;split<;>simp[hsp]
    have hoff:(p.add (k*R.sz)).off=p.off+k*R.sz:=by
     unfold jT;split
     .simp_all
     .simp[hsp]
    obtain⟨arr',T',fz',hb',hsp',hg'⟩:=hA
    rw[hblk,hb]at hb'
    cases hb'
    rcases jP j cs.length with hlt|hge
    .rw[List.getElem?_append_left hlt]at hj
     have:=hg' j v hj
     rw[hoff]at this
     rw[←Nat.add_assoc];exact this
    .rw[List.getElem?_append_right hge]at hj
     have:=hcl _ v hj
     rw[hl]at this hge
     rw[show k*R.sz+j=(k+1)*R.sz+(j-R.sz) by rw[Nat.add_mul];omega];exact this
  obtain⟨cl,hc,hcl⟩:=key xs 0 (λi y hy=>by simpa using hy)
  refine⟨cl,by rw[←hxs];exact hc,λa ha _=>?_⟩
  cases ha
  exact⟨arr,T,fz,hb,hsp,λj v hj=>by simpa using hcl j v hj⟩
end cells
def dG{α : Type}(R:Rp α)(E:TypeId)(h:HF)(xs:List α)(base:Option Addr)(cap:Nat)(G:LH):Prop:=
 (xs=[]/\base=none/\cap=0/\G=[]) \/
 ∃bk cl sp,base=some ⟨bk,0,none⟩/\bI R h cl xs/\(cl++sp).length=cap*R.sz/\xs.length<=cap/\xs.length<=9223372036854775807/\G=[(bk,.cells (cl++sp).toArray E (0,0))]
theorem dG.nil{α : Type}{R:Rp α}{E:TypeId}{h:HF}:dG R E h [] none 0 []:=.inl ⟨rfl,rfl,rfl,rfl⟩
theorem dG.mono{α : Type}{R:Rp α}{E:TypeId}{h h':HF}{xs:List α}{base:Option Addr}{cap:Nat}{G:LH}(g:dG R E h xs base cap G)(hm:R.Mono)(hl:h.le h'):dG R E h' xs base cap G:=by
 rcases g with g|⟨bk,cl,sp,h1,h2,h3⟩
 .exact .inl g
 .exact .inr ⟨bk,cl,sp,h1,h2.mono hm hl,h3⟩
theorem dG.lit{α : Type}{R:Rp α}{E:TypeId}{h:HF}{xs:List α}{bk cap:Nat}{cl:List Value}(hc:bI R h cl xs)(hl:xs.length=cap)(hb:xs.length<=9223372036854775807:=by simp):dG R E h xs (some ⟨bk,0,none⟩) cap [(bk,.cells cl.toArray E (0,0))]:=
 .inr ⟨bk,cl,[],rfl,hc,by simp[hc.len,hl],by omega,hb,by simp⟩
def Src{α : Type}(R:Rp α)(h:HF)(L:LH)(x:Value)(ys:List α):Prop:=
 ∃base c cl,x=.slice base ys.length c/\bI R h cl ys/\(ys≠[]->∃a,base=some a)/\∀X w,St X h L w->∀a,base=some a->∀j u,cl[j]? = some u->w.cell? (a.add j)=some u
theorem mu{α : Type}{R:Rp α}{h:HF}{L:LH}{base:Option Addr}{ys:List α}{c:Nat}(hs:SlB R h base ys):Src R h L (.slice base ys.length c) ys:=by
 obtain⟨cl,hc,hA⟩:=bI.QB hs
 refine⟨base,c,cl,rfl,hc,λhne=>?_,λX w hw a ha j u hj=>?_⟩
 .cases ys with
  |nil=>exact(hne rfl).elim
  |cons y ys=>obtain⟨p,_,hp,_⟩:=hs.2 0 y rfl;exact⟨p,hp⟩
 .have hne:ys≠[]:=by
   intro e;subst e;cases hc;simp at hj
  exact(hA a ha hne).cell hw hj
theorem fd{α : Type}{R:Rp α}{h:HF}{L:LH}(i:Nat){bk T:Nat}{fz:Nat×Nat}{cl:List Value}{ys:List α}{c:Nat}(hL:nth L i=some (bk,.cells cl.toArray T fz))(hc:bI R h cl ys):
  Src R h L (.slice (some ⟨bk,0,none⟩) ys.length c) ys:=
 ⟨_,c,cl,rfl,hc,λ_=>⟨_,rfl⟩,λX w hw a ha j u hj=>by
  cases ha
  rw[qz]
  exact hw.cell hL (by rw[im];exact hj)⟩
theorem bI.slB0{α : Type}{R:Rp α}{h:HF}{bk T:Nat}{fz:Nat×Nat}{cl:List Value}{xs:List α}(hc:bI R h cl xs)(hb:h bk=some (.cells cl.toArray T fz))(hle:xs.length<=9223372036854775807:=by simp){cap:Nat}(hcap:xs.length<=cap:=by simp):SlC R h (some ⟨bk,0,none⟩) cap xs:=
 ⟨bI.slB (sp:=[]) hc (by simpa using hb) hle,hcap⟩
def Rp.sl{α : Type}(R:Rp α):Rp (List α):=⟨1,λh cs xs=>∃b c,cs=[.slice b xs.length c]/\SlC R h b c xs⟩
theorem Rp.s9{α : Type}{R:Rp α}(hm:R.Mono):(Rp.sl R).Mono:=λ_ _ _ _ hl⟨b,c,e,s⟩=>⟨b,c,e,s.mono hm hl⟩
theorem Rp.Ls{α : Type}{R:Rp α}(hm:R.Mono):(Rp.sl R).Good:=⟨Rp.s9 hm,λ_ _ _⟨_,_,e,_⟩=>by cases e;rfl,Nat.one_pos⟩
theorem yh{P:Program}{α : Type}{R:Rp α}{h:HF}{L:LH}{x:Value}{ys:List α}(s:Src R h L x ys){X:Cx}{w:World}(hw:St X h L w):
  ∃cl base c,x=.slice base ys.length c/\bI R h cl ys/\(Builtin.firstCells R.sz ys.length x).run P w=.ok cl.toArray w:=by
 obtain⟨base,c,cl,rfl,hc,h1,h2⟩:=s
 refine⟨cl,base,c,rfl,hc,?_⟩
 cases base with
 |none=>
  have:ys=[]:=Classical.byContradiction λhne=>by obtain⟨a,ha⟩:=h1 hne;cases ha
  subst this;cases hc
  simp[Builtin.firstCells]
 |some a=>exact run_firstCells_some w _ _ a _ _ cl hc.len (h2 X w hw a rfl)
theorem LJ{α : Type}(a:List α)(x:α)(b:List α):nth (a++x::b) a.length=some x:=by rw[im];simp
theorem Ec{α : Type}(a:List α)(x y:α)(b:List α):setNth (a++x::b) a.length y=a++y::b:=by rw[ma];simp
def bytesOf(P:Program)(E:TypeId):Option Nat:=(P.info? E).map (·.bytes)
theorem ye(vs:List Value):∀(cl sp:List Value),vs.length<=sp.length->splice (cl++sp) cl.length vs=cl++(vs++sp.drop vs.length):=by
 induction vs with
 |nil=>intro cl sp _;simp[splice]
 |cons v vs ih=>
  intro cl sp hl
  cases sp with
  |nil=>simp at hl
  |cons s sp=>
   simp only[splice]
   have:=ih (cl++[v]) sp (by simpa using hl)
   simp only[ma,jA,zA,jB,qE,jN,jG]at this ⊢
   rw[show(cl++s::sp).set cl.length v=cl++v::sp by simp]
   simpa using this
theorem Ks{P:Program}{α : Type}{R:Rp α}(hg:R.Good){X:Cx}{h:HF}{w:World}(A Q:LH){t ty E:TypeId}{xs ys:List α}{base:Option Addr}{cap:Nat}{G:LH}{x:Value}{Aq:Nat}{a:Bool}{zs:List Value}(hw:St X h (A++(G++Q)) w)(hT:P.underlying t=some (.slice E))(hS:tySz P E=some (R.sz,a))(hz:zeroC P E=some zs)(hzl:zs.length=R.sz)(hby:bytesOf P E=some Aq)(hG:dG R E h xs base cap G)(hsrc:Src R h (A++(G++Q)) x ys)(hb:(xs.length+ys.length)*Aq<=140737488355328)(hb2:xs.length+ys.length<=9223372036854775807):
  ∃base' cap' G' w',(Builtin.append_ #[t,t] ty #[.slice base xs.length cap,x]).run P w=.ok (.slice base' (xs++ys).length cap') w'/\dG R E h (xs++ys) base' cap' G'/\St X h (A++(G'++Q)) w':=by
 obtain⟨i,hi,hby'⟩:∃i,P.info? E=some i/\i.bytes=Aq:=by
  unfold bytesOf at hby
  cases hi:P.info? E with
  |none=>simp[hi]at hby
  |some i=>exact⟨i,rfl,by simpa[hi]using hby⟩
 have hsz:i.size=R.sz:=by
  have:=gD hS w
  simpa[sizeOf,typeInfo,hi]using this
 obtain⟨z,hzz,hzc⟩:∃z,i.zero=some z/\z.cells=zs.toArray:=by
  unfold zeroC at hz
  cases hzz:i.zero with
  |none=>simp[hi,hzz]at hz
  |some z=>exact⟨z,rfl,by simp[hi,hzz]at hz;rw[lY,hz]⟩
 have hnewlen:(xs++ys).length=xs.length+ys.length:=by simp
 obtain⟨cl,bs,c,hx,hc,hf⟩:=yh (P:=P) hsrc hw
 by_cases hroom:xs.length+ys.length<=cap
 ·
  rcases hG with⟨rfl,rfl,rfl,rfl⟩|⟨bk,cl0,sp,rfl,hc0,hlen,hle,_,rfl⟩
  .have hy:ys=[]:=List.eq_nil_of_length_eq_zero (by simpa using hroom)
   subst hy
   cases hc
   refine⟨none,0,[],w,?_,dG.nil,by simpa using hw⟩
   subst hx
   rw[←hsz]at hf
   simp[Builtin.append_,run_underlying hT,sizeOf,typeInfo,hi,Builtin.lenOf,hf]at hf ⊢
  .have hlcl:=hc.len
   have hl0:=hc0.len
   have hfit:cl.length<=sp.length:=by
    simp only[jA]at hlen
    have:(xs.length+ys.length)*R.sz<=cap*R.sz:=Nat.mul_le_mul_right _ hroom
    rw[Nat.add_mul]at this
    omega
   have hown:w.heap[bk]? = some (.cells (cl0++sp).toArray E (0,0)):=hw.own (bk,_) (by simp)
   have hst:=mz (P:=P) (T:=E) (xs.length*R.sz) cl 0 (cl0++sp) w hown (by simp;omega) (by simpa using hc.Mn hg)
   simp only[aCg]at hst
   have hwr:=hw.write (i:=A.length) (b:=bk) (o:=.cells (cl0++sp).toArray E (0,0)) (by simpa using LJ A _ Q) (.cells (splice (cl0++sp) (xs.length*R.sz) cl).toArray E (0,0))
   refine⟨some ⟨bk,0,none⟩,cap,[(bk,.cells (splice (cl0++sp) (xs.length*R.sz) cl).toArray E (0,0))],{ w with heap:=w.heap.setIfInBounds bk (.cells (splice (cl0++sp) (xs.length*R.sz) cl).toArray E (0,0)) },?_,?_,?_⟩
   .subst hx
    rw[←hsz]at hf hst ⊢
    simp[Builtin.append_,run_underlying hT,sizeOf,typeInfo,hi,Builtin.lenOf,hf,hroom,qz,hst]
   .have hsp:=ye cl cl0 sp hfit
    rw[hl0]at hsp
    refine .inr ⟨bk,cl0++cl,sp.drop cl.length,rfl,bI.app hc hc0,?_,by simpa using hroom,by simpa using hb2,?_⟩
    .simp only[jA,List.length_drop]at hlen ⊢;omega
    .rw[hsp];simp
   .have:=Ec A (bk,kH (cl0++sp).toArray E (0,0)) (bk,.cells (splice (cl0++sp) (xs.length*R.sz) cl).toArray E (0,0)) Q
    simp only[jN,jG]at hwr ⊢
    rw[this]at hwr
    exact hwr
 ·
  have hcap:cap<xs.length+ys.length:=by omega
  have hwd:St X h (A++(G++Q)) w.drew:=hw.drew _
  obtain⟨cl0,hc0,hf0⟩:∃cl0,bI R h cl0 xs/\(Builtin.firstCells R.sz xs.length (.slice base xs.length cap)).run P w.drew=.ok cl0.toArray w.drew:=by
   rcases hG with⟨rfl,rfl,rfl,rfl⟩|⟨bk,cl0,sp,rfl,hc0,hlen,hle,_,rfl⟩
   .exact⟨[],rfl,by simp[Builtin.firstCells]⟩
   .refine⟨cl0,hc0,run_firstCells_some _ _ _ _ _ _ _ hc0.len λj v hj=>?_⟩
    have hown:w.drew.heap[bk]? = some (.cells (cl0++sp).toArray E (0,0)):=hwd.own (bk,_) (by simp)
    have hlt:=(List.getElem?_eq_some_iff.1 hj).1
    rw[qz]
    simp only[aBR,hown]
    simp[List.getElem?_append_left hlt,hj]
  obtain⟨cl',_,_,hx',hc',hf'⟩:=yh (P:=P) hsrc hwd
  have hfit:Builtin.nextslicecap (xs.length+ys.length) cap*i.bytes<=281474976710656:=growslice_fits hcap (by rw[hby'];exact hb)
  have h48':¬(281474976710656<Builtin.nextslicecap (xs.length+ys.length) cap*i.bytes):=by omega
  have h63':¬(9223372036854775807<((xs.length:Int)+(ys.length:Int))):=by omega
  have hge:=grownCap_ge w (xs.length+ys.length) cap E
  let nc:=grownCap w (xs.length+ys.length) cap E
  let rest:=(Builtin.zeroCells z.cells (nc-(xs.length+ys.length))).toList
  refine⟨some ⟨w.heap.size,0,none⟩,nc,[(w.heap.size,.cells ((cl0++cl')++rest).toArray E (0,0))],w.drew.alloc (.cells ((cl0++cl')++rest).toArray E),?_,?_,?_⟩
  .subst hx
   rw[←hsz]at hf0 hf'
   simp[Builtin.append_,run_underlying hT,sizeOf,typeInfo,zeroValue,hi,hzz,Builtin.lenOf,hroom,h63',h48',Question.forced,hf0,hf',newRow,grownCap,nc,rest]
   congr 2
   apply aAs
   simp
  .refine .inr ⟨w.heap.size,cl0++cl',rest,rfl,bI.app hc' hc0,?_,by rw[hnewlen];exact hge,by rw[hnewlen];exact hb2,rfl⟩
   have:rest.length=(nc-(xs.length+ys.length))*R.sz:=by
    simp[rest,Builtin.zeroCells,hzc,hzl]
   simp only[jA,this,hc0.len,hc'.len,←Nat.add_mul]
   congr 1
   omega
  .have h1:=hwd.alloc (.cells ((cl0++cl')++rest).toArray E (0,0))
   have hsub:((w.heap.size,kH ((cl0++cl')++rest).toArray E (0,0))::(A++Q)).Sublist ((w.heap.size,kH ((cl0++cl')++rest).toArray E (0,0))::(A++(G++Q))):=
    .cons_cons _ ((List.Sublist.refl A).append (List.sublist_append_right G Q))
   have h2:=h1.sub hsub
   exact h2.perm (List.perm_middle.symm)
section step
variable {P:Program} {b:Frame} {n:Nat} {ops:Array Oper} {F:List Frame->(Machine->Prop)->Prop} {e:Env} {ds:List Deferred} {X:Cx} {h:HF} {L:LH} {K:Env->HF->LH->Prop}
variable {d:Option Nat} {ty:TypeId} {pos:String} {af:Array Edge} {g:Option (Nat×Bool)}
theorem dK{α : Type}{R:Rp α}(hg:R.Good)(A Q:LH)(LL:LH->LH){t E:TypeId}{s y:Operand}{xs ys:List α}{base:Option Addr}{cap:Nat}{G:LH}{m Aq:Nat}{a:Bool}{zs:List Value}(hL:L=A++(G++Q))(hLL:∀G',A++(Q++G')=LL G')(hT:P.underlying t=some (.slice E))(hS:tySz P E=some (R.sz,a))(hz:zeroC P E=some zs)(hzl:zs.length=R.sz)(hby:bytesOf P E=some Aq)(hG:dG R E h xs base cap G)(hx:e.ev s=.slice base m cap)(hm:m=xs.length)(hsrc:Src R h L (e.ev y) ys)(hb:(xs.length+ys.length)*Aq<=140737488355328)(hb2:xs.length+ys.length<=9223372036854775807)(t':∀base' cap' G',dG R E h (xs++ys) base' cap' G'->K (pute e d (.slice base' (xs++ys).length cap')) h (LL G'))(hgd:guardB ops e ⟨d,.call ⟨.builtin .append,#[s,y],#[t,t]⟩,ty,pos,af,g⟩=true:=by rfl):Stp P b n ops F ds X ⟨d,.call ⟨.builtin .append,#[s,y],#[t,t]⟩,ty,pos,af,g⟩ e h L K:=
 iM hgd λw hw=>by
  subst hL hm
  obtain⟨base',cap',G',w',hr,hG',hst⟩:=Ks (P:=P) (ty:=ty) hg A Q hw hT hS hz hzl hby hG hsrc hb hb2
  refine⟨_,w',h,_,?_,(hLL G')▸hst.perm (List.Perm.append_left A jJ),t' _ _ _ hG'⟩
  simp[execOp,resolve,invoke,builtin,hx,hr]
end step
end Go.Sg
