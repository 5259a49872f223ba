import Derived.AtR
import Derived.Below
import Derived.Laws.Cells
import Derived.Laws.Entries
import Derived.Orders
import Derived.RangeFuncIn
import Derived.Laws.AppendOwn
/- A part of the proof of JudgeReason. -/
set_option linter.unusedVariables false
set_option linter.unusedSimpArgs false
set_option maxRecDepth 100000
namespace Go.Sg
def To (P:Program) (Φ : Machine→Prop) (m:Machine):Prop:=∃ m',Steps P m m'∧Φ m'
theorem To.now {P:Program} {Φ : Machine→Prop} {m:Machine} (h:Φ m):To P Φ m:=⟨m,.refl P m,h⟩
theorem To.step {P:Program} {Φ : Machine→Prop} {m m₁ : Machine} (h:step P m=.next m₁) (h':To P Φ m₁):To P Φ m:=
 let ⟨m',s,p⟩:=h';⟨m',.head h s,p⟩
abbrev Env:=Nat→Value
def upd (e:Env) (d:Nat) (v:Value):Env:=fun t=>bif Nat.beq t d then v else e t
def Env.ev (e:Env):Operand→Value
 | .tmp t=>e t
 | .const v=>v
 | .global g=>.pointer (some ⟨g,0,none⟩)
 | .func f=>.func (.func f) #[] #[]
def envOf (a:Act):Env:=fun t=>a.tmps.getD t undef
theorem jq (a:Act):a.eval=(envOf a).ev:=by
 funext x;cases x <;> rfl
theorem na (a:Act) (d:Nat) (v:Value) (h:d < a.tmps.size):envOf (a.put (some d) v)=upd (envOf a) d v:=by
 funext t
 simp only [envOf,Act.put,upd]
 by_cases e:t=d
 ·subst e
  have:Nat.beq t t=true:=Nat.beq_refl t
  simp [Array.getD_eq_getD_getElem?,h]
 ·have:Nat.beq t d=false:=by
   cases hb:Nat.beq t d
   ·rfl
   ·exact absurd (Nat.eq_of_beq_eq_true hb) e
  simp [this,Array.getD_eq_getD_getElem?,Ne.symm e]
theorem mI (a:Act) (d:Option Tmp) (v:Value):(a.put d v).tmps.size=a.tmps.size:=by
 cases d <;> simp [Act.put]
theorem kF (a:Act) (d:Option Tmp) (v:Value):(a.put d v).defers=a.defers:=by
 cases d <;> simp [Act.put]
theorem tC (e:Env) (d:Nat):upd e d (e d)=e:=by
 funext t
 simp only [upd]
 cases hb:Nat.beq t d
 ·rfl
 ·have:=Nat.eq_of_beq_eq_true hb
  subst this;rfl
theorem wE (e:Env) (d:Nat) (v:Value):upd e d v d=v:=by
 simp [upd,Nat.beq_refl]
theorem m7 (e:Env) {d t:Nat} (v:Value) (h:t≠d):upd e d v t=e t:=by
 have:Nat.beq t d=false:=by
  cases hb:Nat.beq t d
  ·rfl
  ·exact absurd (Nat.eq_of_beq_eq_true hb) h
 simp [upd,this]
def upds (e:Env):List (Nat×Value)→Env
 | []=>e
 | (d,v)::l=>upd (upds e l) d v
def ju (e:Env):List (Nat×Value)→Prop
 | []=>True
 | (d,v)::l=>e d=v∧ju e l
theorem ju.upds {e:Env}:∀ {l:List (Nat×Value)},ju e l→upds e l=e
 | [],_=>rfl
 | (d,v)::l,h=>by
  show upd (Sg.upds e l) d v=e
  rw [ju.upds h.2,← h.1];exact tC e d
def o9 (P:Program) (f:FuncId) (args:Array Value) (w:World) (R:Ending→World→Prop):Prop:=
 ∀ c cs Φ,(∀ v w',R (.returned v) w'→To P Φ (lone (c.finish v) cs w'))→(∀ ch w',R (.panicked ch) w'→To P Φ (lone (c.raise ch) cs w')) →
  To P Φ (lone (Frame.enter P f args .normal) (c::cs) w)
def sf (P:Program) (w:World) (R:Ending→World→Prop):Next→Prop
 | .value v=>R (.returned v) w
 | .enter f args=>o9 P f args w R
 | .round l f tmps assign body=>∀ c cs Φ,(∀ v w',R (.returned v) w'→To P Φ (lone (c.finish v) cs w')) →
   (∀ ch w',R (.panicked ch) w'→To P Φ (lone (c.raise ch) cs w'))→To P Φ (lone (Frame.round l f tmps assign body .normal) (c::cs) w)
 | _=>False
theorem o9.mono {P:Program} {f:FuncId} {args:Array Value} {w:World} {R R':Ending→World→Prop} (h:o9 P f args w R)
  (hr:∀ x w',R x w'→R' x w'):o9 P f args w R':=
 fun c cs Φ h1 h2=>h c cs Φ (fun v w' r=>h1 v w' (hr _ _ r)) (fun v w' r=>h2 v w' (hr _ _ r))
theorem jD {P:Program} {f:FuncId} {args:Array Value} {w:World} {R:Ending→World→Prop} (h:o9 P f args w R):sf P w R (.enter f args):=h
theorem sf.mono {P:Program} {w:World} {R R':Ending→World→Prop} {nx:Next} (h:sf P w R nx)
  (hr:∀ x w',R x w'→R' x w'):sf P w R' nx:=by
 cases nx with
 | value v=>exact hr _ _ h
 | enter f args=>exact o9.mono h hr
 | round l f tmps assign body=>exact fun c cs Φ h1 h2=>h c cs Φ (fun v w' r=>h1 v w' (hr _ _ r)) (fun v w' r=>h2 v w' (hr _ _ r))
 | _=>exact h.elim
def Id (P:Program) (fv:Value) (args:Array Value) (w:World) (R:Ending→World→Prop):Prop:=
 ∃ nx,(do let d ← Deferred.ofValue fv args;invoke d.target d.args:Sem Next).run P w=.ok nx w∧sf P w R nx
theorem Id.mono {P:Program} {fv:Value} {args:Array Value} {w:World} {R R':Ending→World→Prop} (h:Id P fv args w R)
  (hr:∀ x w',R x w'→R' x w'):Id P fv args w R':=
 let ⟨nx,h1,h2⟩:=h;⟨nx,h1,h2.mono hr⟩
section ops
variable {b:Frame} {ops:Array Oper} {i:Nat} {e:Env} {o:Oper}
def noDefer:Op→Bool
 | .defer _=>false
 | _=>true
def guardB (ops:Array Oper) (e:Env) (o:Oper):Bool:=
 match o.guard with
 | none=>true
 | some (j,want)=>
  match (ops[j]?).bind (·.dst) with
  | some d=>match e d with
   | .bool x=>x==want
   | _=>false
  | none=>false
theorem fq {a:Act} (he:envOf a=e):Region.wanted o (yielded ops a.tmps)=guardB ops e o:=by
 unfold guardB
 unfold Region.wanted
 cases hg:o.guard with
 | none=>rfl
 | some p=>
  obtain ⟨j,want⟩:=p
  simp only
  cases hj:(ops[j]?).bind (·.dst) with
  | none=>simp [yielded,hj]
  | some d=>
   have hed:e d=a.tmps.getD d undef:=by rw [← he];rfl
   simp only [hed,yielded,hj,Option.bind_some,Array.getD_eq_getD_getElem?]
   cases hq:a.tmps[d]? with
   | none=>simp [undef]
   | some v=>
    simp only [Option.getD_some]
    cases v <;> first | rfl | (simp)
theorem jk (ro:Option Nat) (ρ : Operand→Value) (h:noDefer o.op=true):Oper.semAt ro ρ o=execOp ρ o:=
 Oper.semAt_eq ro ρ o (fun c hc=>by rw [hc] at h;cases h)
theorem gz (a:Act) (rest:List Nat) (k:List Item) (ho:ops[i]? = some o) (v:Value):
  (b.atR a (.inRegion ops (i::rest)::k)).finish v=b.atR (a.put o.dst v) (.inRegion ops rest::k):=by
 rw [Frame.finish_atR,ho];rfl
end ops
end Go.Sg
namespace Go.Sg
abbrev HF:=Nat→Option Obj
abbrev LH:=List (Nat×Obj)
structure Cx where
 w0:World
 h0:HF
 M:List Nat
structure St (X:Cx) (h:HF) (L:LH) (w:World):Prop where
 os:w.os=X.w0.os
 tape:w.tape=X.w0.tape
 output:w.output=X.w0.output
 size:X.w0.heap.size≤w.heap.size
 keep:∀ b,b < X.w0.heap.size→b∉X.M→w.heap[b]? = X.w0.heap[b]?
 le:∀ b o,X.h0 b=some o→h b=some o
 old:∀ b,b < X.w0.heap.size→h b=X.h0 b
 imm:∀ b o,h b=some o→w.heap[b]? = some o
 own:∀ p∈L,w.heap[p.1]? = some p.2
 dis:(L.map (·.1)).Nodup
 free:∀ p∈L,h p.1=none
 new:∀ p∈L,X.w0.heap.size≤p.1∨p.1∈X.M
structure Pre (h:HF) (L:LH) (w:World):Prop where
 imm:∀ b o,h b=some o→w.heap[b]? = some o
 own:∀ p∈L,w.heap[p.1]? = some p.2
 dis:(L.map (·.1)).Nodup
 free:∀ p∈L,h p.1=none
theorem gQ {w:World} {b:Nat} {o:Obj} (h:w.heap[b]? = some o):b < w.heap.size:=by
 rcases Nat.lt_or_ge b w.heap.size with h1 | h1
 ·exact h1
 ·simp [Array.getElem?_eq_none h1] at h
theorem St.start {h:HF} {L:LH} {w:World} (p:Pre h L w):St ⟨w,h,L.map (·.1)⟩ h L w:=
 ⟨rfl,rfl,rfl,Nat.le_refl _,fun _ _ _=>rfl,fun _ _ h=>h,fun _ _=>rfl,p.imm,p.own,p.dis,p.free,fun _ hq=>.inr (List.mem_map_of_mem hq)⟩
theorem St.pre {X:Cx} {h:HF} {L:LH} {w:World} (s:St X h L w):Pre h L w:=⟨s.imm,s.own,s.dis,s.free⟩
theorem Pre.left {h:HF} {A B:LH} {w:World} (s:Pre h (A++B) w):Pre h A w:=
  ⟨s.imm,fun p hp=>s.own p (List.mem_append_left _ hp),by have:=s.dis;rw [List.map_append,List.nodup_append] at this;exact this.1,
   fun p hp=>s.free p (List.mem_append_left _ hp)⟩
theorem St.sub {X:Cx} {h:HF} {L L':LH} {w:World} (s:St X h L w) (hs:L'.Sublist L):St X h L' w:=
 ⟨s.os,s.tape,s.output,s.size,s.keep,s.le,s.old,s.imm,fun p hp=>s.own p (hs.subset hp),s.dis.sublist (hs.map _),fun p hp=>s.free p (hs.subset hp),fun p hp=>s.new p (hs.subset hp)⟩
theorem St.forget {X:Cx} {h:HF} {L:LH} {w:World} (s:St X h L w):St X X.h0 [] w:=
 ⟨s.os,s.tape,s.output,s.size,s.keep,fun _ _ h=>h,fun _ _=>rfl,fun b o hb=>s.imm b o (s.le b o hb),fun _ hp=>(List.not_mem_nil hp).elim,List.nodup_nil,fun _ hp=>(List.not_mem_nil hp).elim,fun _ hp=>(List.not_mem_nil hp).elim⟩
theorem St.lower {X:Cx} {h:HF} {L:LH} {w:World} (s:St X h L w):St X X.h0 L w:=
 ⟨s.os,s.tape,s.output,s.size,s.keep,fun _ _ h=>h,fun _ _=>rfl,fun b o hb=>s.imm b o (s.le b o hb),s.own,s.dis,(fun p hp=>by
  cases hb:X.h0 p.1 with
  | none=>rfl
  | some o=>have:=s.le _ _ hb;rw [s.free p hp] at this;cases this),s.new⟩
theorem St.perm {X:Cx} {h:HF} {L L':LH} {w:World} (s:St X h L w) (hs:L.Perm L'):St X h L' w:=
 ⟨s.os,s.tape,s.output,s.size,s.keep,s.le,s.old,s.imm,fun p hp=>s.own p (hs.mem_iff.2 hp),(hs.map _).nodup_iff.1 s.dis,fun p hp=>s.free p (hs.mem_iff.2 hp),fun p hp=>s.new p (hs.mem_iff.2 hp)⟩
def HF.add (h:HF) (b:Nat) (o:Obj):HF:=fun x=>if x=b then some o else h x
theorem HF.uG (h:HF) (b:Nat) (o:Obj):h.add b o b=some o:=by simp [HF.add]
def HF.le (h h':HF):Prop:=∀ b o,h b=some o→h' b=some o
theorem HF.le_refl (h:HF):h.le h:=fun _ _ h=>h
theorem HF.le_trans {a b c:HF} (x:a.le b) (y:b.le c):a.le c:=fun k o h=>y k o (x k o h)
theorem HF.yk {h:HF} {b:Nat} {o:Obj} (hb:h b=none):h.le (h.add b o):=fun k p hk=>by
 unfold HF.add
 by_cases e:k=b
 ·subst e;rw [hb] at hk;cases hk
 ·simp [e,hk]
theorem St.freeze {X:Cx} {h:HF} {L:LH} {w:World} {b:Nat} {o:Obj} (s:St X h ((b,o)::L) w) (hb:b∉X.M):St X (h.add b o) L w:=by
 have hnew:X.w0.heap.size≤b:=(s.new (b,o) (List.mem_cons_self ..)).resolve_right hb
 have hdis:=s.dis
 rw [List.map_cons,List.nodup_cons] at hdis
 have hfr:=s.free (b,o) (List.mem_cons_self ..)
 refine ⟨s.os,s.tape,s.output,s.size,s.keep,fun k p hk=>HF.yk hfr k p (s.le k p hk),?_,?_,fun p hp=>s.own p (List.mem_cons_of_mem _ hp),hdis.2,?_,fun p hp=>s.new p (List.mem_cons_of_mem _ hp)⟩
 ·intro k hk
  rw [← s.old k hk]
  unfold HF.add
  rw [if_neg (by omega)]
 ·intro k p hk
  unfold HF.add at hk
  by_cases e:k=b
  ·subst e
   simp only [if_true,Option.some.injEq] at hk
   subst hk
   exact s.own (k,o) (List.mem_cons_self ..)
  ·rw [if_neg e] at hk;exact s.imm k p hk
 ·intro p hp
  unfold HF.add
  rw [if_neg]
  ·exact s.free p (List.mem_cons_of_mem _ hp)
  ·intro e
   have hm:p.1∈L.map (·.1):=List.mem_map_of_mem hp
   rw [e] at hm
   exact hdis.1 hm
theorem St.after {X:Cx} {h h':HF} {A B F:LH} {w w':World} (s:St X h (A++F) w) (t:St ⟨w,h,A.map (·.1)⟩ h' B w'):St X h' (B++F) w':=by
 have hF:∀ p∈F,p.1 < w.heap.size∧p.1∉A.map (·.1):=by
  intro p hp
  refine ⟨gQ (s.own p (List.mem_append_right _ hp)),?_⟩
  have:=s.dis
  rw [List.map_append,List.nodup_append] at this
  intro hm
  exact this.2.2 p.1 hm p.1 (List.mem_map_of_mem hp) rfl
 have ts:w.heap.size≤w'.heap.size:=t.size
 refine ⟨t.os.trans s.os,t.tape.trans s.tape,t.output.trans s.output,Nat.le_trans s.size ts,?_,fun b o hb=>t.le b o (s.le b o hb),?_,t.imm,?_,?_,?_,?_⟩
 ·intro b hb hM
  have hlt:b < w.heap.size:=Nat.lt_of_lt_of_le hb s.size
  rw [← s.keep b hb hM]
  refine t.keep b hlt ?_
  intro hm
  obtain ⟨p,hp,rfl⟩:=List.mem_map.1 hm
  rcases s.new p (List.mem_append_left _ hp) with h1 | h1
  ·omega
  ·exact hM h1
 ·intro b hb
  rw [← s.old b hb]
  exact t.old b (Nat.lt_of_lt_of_le hb s.size)
 ·intro p hp
  rcases List.mem_append.1 hp with hp | hp
  ·exact t.own p hp
  ·obtain ⟨h1,h2⟩:=hF p hp
   rw [t.keep p.1 h1 h2]
   exact s.own p (List.mem_append_right _ hp)
 ·rw [List.map_append,List.nodup_append]
  refine ⟨t.dis,?_,?_⟩
  ·have:=s.dis
   rw [List.map_append,List.nodup_append] at this
   exact this.2.1
  ·intro x hx y hy e
   obtain ⟨p,hp,rfl⟩:=List.mem_map.1 hx
   obtain ⟨q,hq,rfl⟩:=List.mem_map.1 hy
   obtain ⟨h1,h2⟩:=hF q hq
   rcases t.new p hp with h3 | h3
   ·have:w.heap.size≤p.1:=h3
    omega
   ·exact h2 (e ▸ h3)
 ·intro p hp
  rcases List.mem_append.1 hp with hp | hp
  ·exact t.free p hp
  ·obtain ⟨h1,h2⟩:=hF p hp
   have:=t.old p.1 h1
   rw [this]
   exact s.free p (List.mem_append_right _ hp)
 ·intro p hp
  rcases List.mem_append.1 hp with hp | hp
  ·rcases t.new p hp with h3 | h3
   ·exact .inl (Nat.le_trans s.size h3)
   ·obtain ⟨q,hq,hqp⟩:=List.mem_map.1 h3
    have:=s.new q (List.mem_append_left _ hq)
    rw [hqp] at this
    exact this
  ·exact s.new p (List.mem_append_right _ hp)
theorem St.below {X:Cx} {h:HF} {L:LH} {w:World} (s:St X h L w) (hM:X.M=[]):RowKit.Below X.w0.heap.size X.w0 w:=
 ⟨s.os,s.tape,s.output,s.size,fun k hk=>s.keep k hk (by rw [hM];simp)⟩
theorem St.hle {X:Cx} {h:HF} {L:LH} {w:World} (s:St X h L w):X.h0.le h:=s.le
theorem St.alloc {X:Cx} {h:HF} {L:LH} {w:World} (s:St X h L w) (o:Obj):
  St X h ((w.heap.size,o)::L) { w with heap:=w.heap.push o }:=by
 have hs:(w.heap.push o).size=w.heap.size+1:=by simp
 have hold:∀ b,b < w.heap.size→(w.heap.push o)[b]? = w.heap[b]?:=fun b hb=>by
  rw [Array.getElem?_push,if_neg (by omega)]
 refine ⟨s.os,s.tape,s.output,by simp;exact Nat.le_succ_of_le s.size,?_,s.le,s.old,?_,?_,?_,?_,?_⟩
 ·intro b hb hM
  show (w.heap.push o)[b]? = _
  rw [hold b (Nat.lt_of_lt_of_le hb s.size)];exact s.keep b hb hM
 ·intro b p hb
  show (w.heap.push o)[b]? = _
  rw [hold b (gQ (s.imm b p hb))];exact s.imm b p hb
 ·intro p hp
  show (w.heap.push o)[p.1]? = _
  rcases List.mem_cons.1 hp with rfl | hp
  ·simp
  ·rw [hold p.1 (gQ (s.own p hp))];exact s.own p hp
 ·rw [List.map_cons,List.nodup_cons]
  refine ⟨?_,s.dis⟩
  intro hm
  obtain ⟨p,hp,hpe⟩:=List.mem_map.1 hm
  have:=gQ (s.own p hp)
  simp only at hpe
  omega
 ·intro p hp
  rcases List.mem_cons.1 hp with rfl | hp
  ·cases hh:h w.heap.size with
   | none=>rfl
   | some q=>have:=gQ (s.imm _ _ hh);omega
  ·exact s.free p hp
 ·intro p hp
  rcases List.mem_cons.1 hp with rfl | hp
  ·exact .inl s.size
  ·exact s.new p hp
theorem St.drew {X:Cx} {h:HF} {L:LH} {w:World} (s:St X h L w) (d:Nat):St X h L { w with drawn:=d }:=
 ⟨s.os,s.tape,s.output,s.size,s.keep,s.le,s.old,s.imm,s.own,s.dis,s.free,s.new⟩
def nth {α : Type}:List α→Nat→Option α
 | [],_=>none
 | x::_,0=>some x
 | _::l,i+1=>nth l i
theorem gP {α : Type} (l:List α) (i:Nat):nth l i=l[i]?:=by
 induction l generalizing i with
 | nil=>simp [nth]
 | cons x l ih=>cases i <;> simp [nth,ih]
def setNth {α : Type}:List α→Nat→α→List α
 | [],_,_=>[]
 | _::l,0,y=>y::l
 | x::l,i+1,y=>x::setNth l i y
theorem kN {α : Type} (l:List α) (i:Nat) (y:α):setNth l i y=l.set i y:=by
 induction l generalizing i with
 | nil=>simp [setNth]
 | cons x l ih=>cases i <;> simp [setNth,ih]
theorem og {α : Type} (l:List α) (i:Nat) (y:α):(setNth l i y).length=l.length:=by
 rw [kN];simp
theorem St.write {X:Cx} {h:HF} {L:LH} {w:World} (s:St X h L w) {i b:Nat} {o:Obj} (hi:nth L i=some (b,o)) (o':Obj):
  St X h (setNth L i (b,o')) { w with heap:=w.heap.setIfInBounds b o' }:=by
 rw [gP] at hi
 rw [kN]
 have hmem:(b,o)∈L:=List.mem_of_getElem? hi
 have hil:i < L.length:=by
  rcases Nat.lt_or_ge i L.length with h1 | h1
  ·exact h1
  ·simp [List.getElem?_eq_none h1] at hi
 have hbs:b < w.heap.size:=gQ (s.own _ hmem)
 have hkeys:(L.set i (b,o')).map (·.1)=L.map (·.1):=by
  rw [List.map_set]
  apply List.ext_getElem?
  intro j
  rw [List.getElem?_set]
  by_cases e:i=j
  ·subst e
   simp [hil]
   have:L[i]? = some (b,o):=hi
   rw [List.getElem?_eq_getElem hil] at this
   simp only [Option.some.injEq] at this
   rw [this]
  ·simp [e]
 have hin:∀ p∈L.set i (b,o'),p=(b,o')∨(p∈L∧p.1≠b):=by
  intro p hp
  obtain ⟨j,hj⟩:=List.getElem?_of_mem hp
  rw [List.getElem?_set] at hj
  by_cases e:i=j
  ·subst e
   simp [hil] at hj
   exact .inl hj.symm
  ·simp only [e,if_false] at hj
   refine .inr ⟨List.mem_of_getElem? hj,?_⟩
   intro hb
   have hd:=s.dis
   have h1:(L.map (·.1))[j]? = some b:=by simp [List.getElem?_map,hj,hb]
   have h2:(L.map (·.1))[i]? = some b:=by simp [List.getElem?_map,hi]
   have hj':j < (L.map (·.1)).length:=by
    rcases Nat.lt_or_ge j (L.map (·.1)).length with q | q
    ·exact q
    ·simp [List.getElem?_eq_none q] at h1
   exact e ((List.getElem?_inj (by simpa using hil) hd).1 (h2.trans h1.symm))
 have hother:∀ k,k≠b→(w.heap.setIfInBounds b o')[k]? = w.heap[k]?:=fun k hk=>by
  rw [Array.getElem?_setIfInBounds,if_neg (Ne.symm hk)]
 refine ⟨s.os,s.tape,s.output,by simp;exact s.size,?_,s.le,s.old,?_,?_,?_,?_,?_⟩
 ·intro k hk hM
  show (w.heap.setIfInBounds b o')[k]? = _
  have hne:k≠b:=by
   intro e;subst e
   rcases s.new _ hmem with h1 | h1
   ·simp only at h1;omega
   ·exact hM h1
  rw [hother k hne];exact s.keep k hk hM
 ·intro k p hk
  show (w.heap.setIfInBounds b o')[k]? = _
  have hne:k≠b:=by
   intro e;subst e
   have:=s.free _ hmem
   simp only at this
   rw [this] at hk;cases hk
  rw [hother k hne];exact s.imm k p hk
 ·intro p hp
  show (w.heap.setIfInBounds b o')[p.1]? = _
  rcases hin p hp with rfl | ⟨hp,hne⟩
  ·simp [hbs]
  ·rw [hother _ hne];exact s.own p hp
 ·rw [hkeys];exact s.dis
 ·intro p hp
  rcases hin p hp with rfl | ⟨hp,_⟩
  ·exact s.free (b,o) hmem
  ·exact s.free p hp
 ·intro p hp
  rcases hin p hp with rfl | ⟨hp,_⟩
  ·exact s.new (b,o) hmem
  ·exact s.new p hp
def Md (C:World→(Ending→World→Prop)→Prop) (h:HF) (A:LH) (R:Ending→HF→LH→Prop):Prop:=
 ∀ w,Pre h A w→C w fun x w'=>∃ h' B,St ⟨w,h,A.map (·.1)⟩ h' B w'∧R x h' B
abbrev mP (P:Program) (f:FuncId) (args:Array Value) (h:HF) (A:LH) (R:Ending→HF→LH→Prop):Prop:=Md (o9 P f args) h A R
abbrev kZ (P:Program) (fv:Value) (args:Array Value) (h:HF) (A:LH) (R:Ending→HF→LH→Prop):Prop:=Md (Id P fv args) h A R
theorem mP.mono {P:Program} {f:FuncId} {args:Array Value} {h:HF} {A:LH} {R R':Ending→HF→LH→Prop} (s:mP P f args h A R)
  (hr:∀ x h' B,h.le h'→R x h' B→R' x h' B):mP P f args h A R':=
 fun w p=>(s w p).mono fun _ _ ⟨h',B,t,r⟩=>⟨h',B,t,hr _ _ _ t.le r⟩
theorem kZ.mono {P:Program} {f:Value} {args:Array Value} {h:HF} {A:LH} {R R':Ending→HF→LH→Prop} (s:kZ P f args h A R)
  (hr:∀ x h' B,h.le h'→R x h' B→R' x h' B):kZ P f args h A R':=
 fun w p=>(s w p).mono fun _ _ ⟨h',B,t,r⟩=>⟨h',B,t,hr _ _ _ t.le r⟩
end Go.Sg
namespace Go.Sg
def TT (P:Program) (b:Frame) (n:Nat) (todo:List Item) (F:List Frame→(Machine→Prop)→Prop) (e:Env) (ds:List Deferred) (X:Cx) (h:HF) (L:LH):Prop:=
 ∀ w,St X h L w→∀ a cs Φ,a.tmps.size=n→envOf a=e→a.defers=ds→F cs Φ→To P Φ (lone (b.atR a todo) cs w)
def TO (P:Program) (b:Frame) (n:Nat) (ops:Array Oper) (l:List Oper) (k:List Item) (F:List Frame→(Machine→Prop)→Prop) (e:Env) (ds:List Deferred) (X:Cx) (h:HF) (L:LH):Prop:=
 ∀ w,St X h L w→∀ is:List Nat,is.map (ops[·]?)=l.map some→∀ a cs Φ,a.tmps.size=n→envOf a=e→a.defers=ds→F cs Φ→To P Φ (lone (b.atR a (.inRegion ops is::k)) cs w)
section rules
variable {P:Program} {b:Frame} {n:Nat} {k:List Item} {F:List Frame→(Machine→Prop)→Prop} {e:Env} {ds:List Deferred} {X:Cx} {h:HF} {L:LH}
theorem bB {todo:List Item} {L':LH} (hs:L'.Sublist L) (t:TT P b n todo F e ds X h L'):TT P b n todo F e ds X h L:=
 fun w hw=>t w (hw.sub hs)
theorem mp {todo:List Item} {L':LH} (hs:L.Perm L') (t:TT P b n todo F e ds X h L'):TT P b n todo F e ds X h L:=
 fun w hw=>t w (hw.perm hs)
theorem EH {todo:List Item} (l:List (Nat×Value)) (hl:ju e l) (t:TT P b n todo F (upds e l) ds X h L):TT P b n todo F e ds X h L:=by
 rw [hl.upds] at t;exact t
theorem aJ (t:TT P b n k F e ds X h L):TT P b n (.code .skip::k) F e ds X h L:=
 fun w hw a cs Φ h1 h2 h3 h4=>.step stepR_skip (t w hw a cs Φ h1 h2 h3 h4)
theorem aR {x y:Code} (t:TT P b n (.code x::.code y::k) F e ds X h L):TT P b n (.code (.seq x y)::k) F e ds X h L:=
 fun w hw a cs Φ h1 h2 h3 h4=>.step stepR_seq (t w hw a cs Φ h1 h2 h3 h4)
theorem ie {id:Nat} {c:Code} (t:TT P b n (.code c::.inBlock id::k) F e ds X h L):TT P b n (.code (.block id c)::k) F e ds X h L:=
 fun w hw a cs Φ h1 h2 h3 h4=>.step stepR_block (t w hw a cs Φ h1 h2 h3 h4)
theorem da {id:Nat} (t:TT P b n k F e ds X h L):TT P b n (.inBlock id::k) F e ds X h L:=
 fun w hw a cs Φ h1 h2 h3 h4=>.step stepR_inBlock (t w hw a cs Φ h1 h2 h3 h4)
theorem kv {id:Nat} {k':List Item} (hx:exitTo id k=some k') (t:TT P b n k' F e ds X h L):TT P b n (.code (.exit id)::k) F e ds X h L:=
 fun w hw a cs Φ h1 h2 h3 h4=>.step (stepR_exit hx) (t w hw a cs Φ h1 h2 h3 h4)
theorem jG {c:Operand} {x y:Code} {t:Bool} (hc:e.ev c=.bool t) (h1:t=true→TT P b n (.code x::k) F e ds X h L) (h0:t=false→TT P b n (.code y::k) F e ds X h L):
  TT P b n (.code (.cond c x y)::k) F e ds X h L:=by
 intro w hw a cs Φ hn he hd hF
 have hev:a.eval c=.bool t:=by rw [jq,he];exact hc
 cases t with
 | true=>exact .step (stepR_cond hev) (h1 rfl w hw a cs Φ hn he hd hF)
 | false=>exact .step (stepR_cond hev) (h0 rfl w hw a cs Φ hn he hd hF)
theorem iq {c:Operand} {x y:Code} (hc:e.ev c=.bool true) (t:TT P b n (.code x::k) F e ds X h L):TT P b n (.code (.cond c x y)::k) F e ds X h L:=
 jG hc (fun _=>t) (fun h=>by cases h)
theorem kL {c:Operand} {x y:Code} (hc:e.ev c=.bool false) (t:TT P b n (.code y::k) F e ds X h L):TT P b n (.code (.cond c x y)::k) F e ds X h L:=
 jG hc (fun h=>by cases h) (fun _=>t)
theorem ku {c:Code} {ι : Type} (sl:ι→List (Nat×Value)) (hh:ι→HF) (LL:ι→LH) (I:ι→Prop) (μ : ι→Nat) (i₀ : ι) (h0:ju e (sl i₀))
  (hs:∀ w,St X h L w→St X (hh i₀) (LL i₀) w) (hI:I i₀)
  (round:∀ i,I i→(∀ i' e',μ i' < μ i→I i'→ju e' (sl i')→TT P b n (.inLoop c::k) F e' ds X (hh i') (LL i')) →
   ∀ e,TT P b n (.code c::.inLoop c::k) F (upds e (sl i)) ds X (hh i) (LL i)):
  TT P b n (.code (.loop c)::k) F e ds X h L:=by
 have key:∀ m i e',μ i=m→I i→ju e' (sl i)→TT P b n (.code c::.inLoop c::k) F e' ds X (hh i) (LL i):=by
  intro m
  induction m using Nat.strongRecOn with
  | _ m ih=>
   intro i e' hm hI hr
   have:=round i hI (fun i' e'' hlt hI' hr' w hw a cs Φ h1 h2 h3 h4=>.step stepR_inLoop (ih _ (hm ▸ hlt) i' e'' rfl hI' hr' w hw a cs Φ h1 h2 h3 h4)) e'
   rw [hr.upds] at this
   exact this
 intro w hw a cs Φ h1 h2 h3 h4
 exact .step stepR_loop (key _ i₀ e rfl hI h0 w (hs w hw) a cs Φ h1 h2 h3 h4)
theorem ay {id:Nat} {l:List Oper} (t:TO P b n l.toArray l k F e ds X h L):TT P b n (.code (.region id l.toArray false)::k) F e ds X h L:=by
 intro w hw a cs Φ h1 h2 h3 h4
 refine .step stepR_region (t w hw _ ?_ a cs Φ h1 h2 h3 h4)
 apply List.ext_getElem?
 intro i
 simp only [List.getElem?_map,List.size_toArray,List.getElem?_toArray]
 rcases Nat.lt_or_ge i l.length with hi | hi
 ·simp [List.getElem?_range hi,hi]
 ·simp [List.getElem?_eq_none hi,List.getElem?_eq_none (l:=List.range l.length) (by simpa using hi)]
theorem aD {ops:Array Oper} (t:TT P b n k F e ds X h L):TO P b n ops [] k F e ds X h L:=by
 intro w hw is hi a cs Φ h1 h2 h3 h4
 simp only [List.map_nil,List.map_eq_nil_iff] at hi
 subst hi
 exact .step stepR_region_end (t w hw a cs Φ h1 h2 h3 h4)
variable {ops:Array Oper} {l:List Oper} {o:Oper}
theorem nw {is:List Nat} (hi:is.map (ops[·]?)=(o::l).map some):∃ i js,is=i::js∧ops[i]? = some o∧js.map (ops[·]?)=l.map some:=by
 cases is with
 | nil=>simp at hi
 | cons i js=>
  simp only [List.map_cons,List.cons.injEq] at hi
  exact ⟨i,js,rfl,hi.1,hi.2⟩
theorem Aq {d:Nat} (hd:o.dst=some d) (hdn:d < n) (hnd:noDefer o.op=true) (hg:guardB ops e o=true)
  (hr:∀ w,St X h L w→∃ v w' h' L',(execOp e.ev o).run P w=.ok (.value v) w'∧St X h' L' w'∧TO P b n ops l k F (upd e d v) ds X h' L'):
  TO P b n ops (o::l) k F e ds X h L:=by
 intro w hw is hi a cs Φ hn he hds hF
 obtain ⟨i,js,rfl,ho,hj⟩:=nw hi
 obtain ⟨v,w',h',L',hrun,hst,t⟩:=hr w hw
 have hwt:=(fq (ops:=ops) (o:=o) he).trans hg
 have hs:=stepGR_op (P:=P) (b:=b) (k:=k) (cs:=cs) (w:=w) (rest:=js) ho hwt
 refine .step (step_lone_go (fr':=b.atR (a.put o.dst v) (.inRegion ops js::k)) (cs':=cs) (w':=w') ?_) ?_
 ·rw [hs,jk _ _ hnd,jq,he,← gz a js k ho v];simp [stepG.apply,hrun]
 ·rw [hd]
  exact t w' hst js hj (a.put (some d) v) cs Φ (by rw [mI];exact hn) (by rw [na _ _ _ (hn ▸ hdn),he]) (by rw [kF];exact hds) hF
theorem K7 (hd:o.dst=none) (hnd:noDefer o.op=true) (hg:guardB ops e o=true)
  (hr:∀ w,St X h L w→∃ w' h' L',(execOp e.ev o).run P w=.ok .skip w'∧St X h' L' w'∧TO P b n ops l k F e ds X h' L'):
  TO P b n ops (o::l) k F e ds X h L:=by
 intro w hw is hi a cs Φ hn he hds hF
 obtain ⟨i,js,rfl,ho,hj⟩:=nw hi
 obtain ⟨w',h',L',hrun,hst,t⟩:=hr w hw
 have hwt:=(fq (ops:=ops) (o:=o) he).trans hg
 have hs:=stepGR_op (P:=P) (b:=b) (k:=k) (cs:=cs) (w:=w) (rest:=js) ho hwt
 refine .step (step_lone_go (fr':=b.atR (a.put o.dst undef) (.inRegion ops js::k)) (cs':=cs) (w':=w') ?_) ?_
 ·rw [hs,jk _ _ hnd,jq,he,← gz a js k ho undef];simp [stepG.apply,hrun]
 ·rw [hd]
  exact t w' hst js hj a cs Φ hn he hds hF
theorem K8 {d:Nat} (hd:o.dst=some d) (hdn:d < n) (hg:guardB ops e o=false) (t:TO P b n ops l k F (upd e d undef) ds X h L):TO P b n ops (o::l) k F e ds X h L:=by
 intro w hw is hi a cs Φ hn he hds hF
 obtain ⟨i,js,rfl,ho,hj⟩:=nw hi
 have hwt:=(fq (ops:=ops) (o:=o) he).trans hg
 have hs:=stepR_op_skip (P:=P) (b:=b) (a:=a) (k:=k) (cs:=cs) (w:=w) (ops:=ops) (i:=i) (rest:=js) (by simp [ho,hwt])
 simp only [ho,Option.bind_some,hd] at hs
 exact .step hs (t w hw js hj (a.put (some d) undef) cs Φ (by rw [mI];exact hn) (by rw [na _ _ _ (hn ▸ hdn),he]) (by rw [kF];exact hds) hF)
def TP (P:Program) (b:Frame) (n:Nat) (ch:List PanicEntry) (F:List Frame→(Machine→Prop)→Prop) (e:Env) (ds:List Deferred) (X:Cx) (h:HF) (L:LH):Prop:=
 ∀ w,St X h L w→∀ a cs Φ todo,a.tmps.size=n→envOf a=e→a.defers=ds→F cs Φ→To P Φ (lone { b.atR a todo with mode:=.panicking ch } cs w)
theorem DL {d:Nat} (hd:o.dst=some d) (hdn:d < n) (hnd:noDefer o.op=true) (hg:guardB ops e o=true)
  (hr:∀ w,St X h L w→∃ nx w',(execOp e.ev o).run P w=.ok nx w'∧sf P w' (fun
   | .returned v,w''=>∃ h' L',St X h' L' w''∧TO P b n ops l k F (upd e d v) ds X h' L'
   | .panicked ch,w''=>∃ h' L',St X h' L' w''∧TP P b n ch F e ds X h' L'
   | .outgrown,_=>True) nx):
  TO P b n ops (o::l) k F e ds X h L:=by
 intro w hw is hi a cs Φ hn he hds hF
 obtain ⟨i,js,rfl,ho,hj⟩:=nw hi
 obtain ⟨nx,w',hrun,hcall⟩:=hr w hw
 have hwt:=(fq (ops:=ops) (o:=o) he).trans hg
 have hs:=stepGR_op (P:=P) (b:=b) (k:=k) (cs:=cs) (w:=w) (rest:=js) ho hwt
 have hret:∀ v w'',(∃ h' L',St X h' L' w''∧TO P b n ops l k F (upd e d v) ds X h' L')→To P Φ (lone ((b.atR a (.inRegion ops (i::js)::k)).finish v) cs w''):=by
  rintro v w'' ⟨h',L',hst,t⟩
  rw [gz a js k ho v,hd]
  exact t w'' hst js hj (a.put (some d) v) cs Φ (by rw [mI];exact hn) (by rw [na _ _ _ (hn ▸ hdn),he]) (by rw [kF];exact hds) hF
 have hpan:∀ ch w'',(∃ h' L',St X h' L' w''∧TP P b n ch F e ds X h' L')→To P Φ (lone ((b.atR a (.inRegion ops (i::js)::k)).raise ch) cs w''):=by
  rintro ch w'' ⟨h',L',hst,t⟩
  exact t w'' hst a cs Φ _ hn he hds hF
 cases nx with
 | value v=>
  refine .step (step_lone_go (fr':=b.atR (a.put o.dst v) (.inRegion ops js::k)) (cs':=cs) (w':=w') ?_) ?_
  ·rw [hs,jk _ _ hnd,jq,he,← gz a js k ho v];simp [stepG.apply,hrun]
  ·have:=hret v w' hcall
   rw [gz a js k ho v] at this
   exact this
 | enter f args=>
  refine .step (step_lone_go (fr':=Frame.enter P f args .normal) (cs':=b.atR a (.inRegion ops (i::js)::k)::cs) (w':=w') ?_) ?_
  ·rw [hs,jk _ _ hnd,jq,he];simp [stepG.apply,hrun,Frame.atR]
  ·exact hcall _ cs Φ (fun v w'' r=>hret v w'' r) (fun ch w'' r=>hpan ch w'' r)
 | round lp f tmps assign body=>
  refine .step (step_lone_go (fr':=Frame.round lp f tmps assign body .normal) (cs':=b.atR a (.inRegion ops (i::js)::k)::cs) (w':=w') ?_) ?_
  ·rw [hs,jk _ _ hnd,jq,he];simp [stepG.apply,hrun,Frame.atR]
  ·exact hcall _ cs Φ (fun v w'' r=>hret v w'' r) (fun ch w'' r=>hpan ch w'' r)
 | _=>exact hcall.elim
end rules
def kG (P:Program) (X:Cx) (R:Ending→HF→LH→Prop) (cs:List Frame) (Φ : Machine→Prop):Prop:=
 ∃ c cs',cs=c::cs'∧(∀ v w',(∃ h' B,St X h' B w'∧R (.returned v) h' B)→To P Φ (lone (c.finish v) cs' w')) ∧
  (∀ ch w',(∃ h' B,St X h' B w'∧R (.panicked ch) h' B)→To P Φ (lone (c.raise ch) cs' w'))
def envArgs:List Value→Env
 | []=>fun _=>undef
 | v::vs=>fun t=>match t with
  | 0=>v
  | t+1=>envArgs vs t
theorem m4 (args:List Value) (m:Nat):envOf { tmps:=args.toArray++Array.replicate m undef,defers:=[] }=envArgs args:=by
 funext t
 simp only [envOf,Array.getD_eq_getD_getElem?]
 induction args generalizing t with
 | nil=>
  simp only [envArgs,List.toArray,Array.getElem?_append]
  simp [Array.getElem?_replicate]
  split <;> rfl
 | cons v vs ih=>
  cases t with
  | zero=>simp [envArgs,Array.getElem?_append]
  | succ t=>
   simp only [envArgs]
   rw [← ih t]
   simp [Array.getElem?_append]
def bodyFrame (f:FuncId):Frame:={ fn:=f,tmps:=#[],todo:=[],defers:=[],mode:=.run,kind:=.normal,roundOf:=none }
theorem cz {P:Program} {f:FuncId} {fn:Func} {c:Code} {n:Nat} {args:List Value} {h:HF} {A:LH} {R:Ending→HF→LH→Prop}
  (hf:P.funcs[f]? = some fn) (hb:fn.body=some c) (hn:fn.ntmps=n) (hle:Nat.ble args.length n=true)
  (t:∀ X:Cx,X.M=A.map (·.1)→X.h0=h→TT P (bodyFrame f) n [.code c] (kG P X R) (envArgs args) [] X h A):mP P f args.toArray h A R:=by
 intro w p caller cs Φ h1 h2
 have hle:=Nat.le_of_ble_eq_true hle
 have henter:Frame.enter P f args.toArray .normal=(bodyFrame f).atR { tmps:=args.toArray++Array.replicate (n - args.length) undef,defers:=[] } [.code c]:=by
  simp [Frame.enter,Frame.atR,hf,hb,hn,bodyFrame]
 rw [henter]
 exact t ⟨w,h,A.map (·.1)⟩ rfl rfl w (St.start p) _ (caller::cs) Φ (by simp;omega) (m4 _ _) rfl ⟨caller,cs,rfl,h1,h2⟩
section ending
variable {P:Program} {f:FuncId} {n:Nat} {k:List Item} {e:Env} {ds:List Deferred} {X:Cx} {h:HF} {L:LH} {R:Ending→HF→LH→Prop} {fn:Func}
theorem gY {fr c:Frame} {cs:List Frame} {w:World} {v:Value} (hm:fr.mode=.returning) (hd:fr.defers=[]) (hk:fr.kind=.normal)
  (hf:P.funcs[fr.fn]? = some fn) (hr:(results fn fr.tmps).run P w=.ok v w):step P (lone fr (c::cs) w)=.next (lone (c.finish v) cs w):=
 step_leave_returned (P:=P) (fr:=fr) ⟨hm,hd,hk,fn,hf,hr⟩
theorem nY {v:Value} {h2:HF} {B:LH} (hf:P.funcs[f]? = some fn) (hv:∀ a:Act,envOf a=e→∀ w,St X h L w→(results fn a.tmps).run P w=.ok v w)
  (hB:∀ w,St X h L w→St X h2 B w) (hR:R (.returned v) h2 B):TT P (bodyFrame f) n (.code .ret::k) (kG P X R) e [] X h L:=by
 intro w hw a cs Φ hn he hds hF
 obtain ⟨c,cs',rfl,h1,_⟩:=hF
 refine .step (stepR_ret rfl) (.step (gY (fn:=fn) (v:=v) rfl hds rfl hf (hv a he w hw)) ?_)
 exact h1 v w ⟨h2,B,hB w hw,hR⟩
theorem tL {v:Value} {h2:HF} {B:LH} (hf:P.funcs[f]? = some fn) (hv:∀ a:Act,envOf a=e→∀ w,St X h L w→(results fn a.tmps).run P w=.ok v w)
  (hB:∀ w,St X h L w→St X h2 B w) (hR:R (.returned v) h2 B):TT P (bodyFrame f) n [] (kG P X R) e [] X h L:=by
 intro w hw a cs Φ hn he hds hF
 obtain ⟨c,cs',rfl,h1,_⟩:=hF
 refine .step (stepR_end rfl) (.step (gY (fn:=fn) (v:=v) rfl hds rfl hf (hv a he w hw)) ?_)
 exact h1 v w ⟨h2,B,hB w hw,hR⟩
theorem Ju {ch:List PanicEntry} {h2:HF} {B:LH} (hf:P.funcs[f]? = some fn) (hB:∀ w,St X h L w→St X h2 B w) (hR:R (.panicked ch) h2 B):
  TP P (bodyFrame f) n ch (kG P X R) e [] X h L:=by
 intro w hw a cs Φ todo hn he hds hF
 obtain ⟨c,cs',rfl,_,h3⟩:=hF
 refine .step (step_leave_panicked (P:=P) (fr:={ (bodyFrame f).atR a todo with mode:=.panicking ch }) ⟨rfl,hds,fn,hf⟩) ?_
 exact h3 ch w ⟨h2,B,hB w hw,hR⟩
theorem kO (hr:fn.results=#[]) (a:Act) (w:World):(results fn a.tmps).run P w=.ok (.tuple #[]) w:=by
 simp [results,hr]
theorem res1 {t:Nat} (hr:fn.results=#[.tmp t]) (a:Act) (he:envOf a=e) (w:World):(results fn a.tmps).run P w=.ok (e t) w:=by
 subst he;simp [results,hr,envOf]
abbrev Ret (P:Program) (f:FuncId) (args:List Value) (h:HF) (v:Value):Prop:=mP P f args.toArray h [] (fun x h' B=>x=.returned v∧h'=h∧B=[])
theorem bv {a b:Bool} (h:a=b):Value.bool a=.bool b:=by rw [h]
end ending
end Go.Sg
namespace Go.Sg
def vcells:Value→List Value
 | .agg cs=>cs.toList
 | v=>[v]
theorem lC (v:Value):v.cells=(vcells v).toArray:=by cases v <;> simp [Value.cells,vcells]
def tySz (P:Program) (t:TypeId):Option (Nat×Bool):=
 match P.info? t,P.underlying t with
 | some i,some d=>some (i.size,match d with | .struct _ | .array _ _=>true | _=>false)
 | _,_=>none
theorem iy {P:Program} {t:TypeId} {m:Nat} {a:Bool} (hT:tySz P t=some (m,a)) (w:World):(sizeOf t).run P w=.ok m w:=by
 unfold tySz at hT
 cases hi:P.info? t with
 | none=>simp [hi] at hT
 | some i=>
  cases hu:P.underlying t with
  | none=>simp [hi,hu] at hT
  | some d=>
   simp only [hi,hu,Option.some.injEq,Prod.mk.injEq] at hT
   simp [sizeOf,typeInfo,hi,hT.1]
theorem Am {P:Program} {t:TypeId} {m:Nat} {a:Bool} (hT:tySz P t=some (m,a)) (w:World):(isAgg t).run P w=.ok a w:=by
 unfold tySz at hT
 cases hi:P.info? t with
 | none=>simp [hi] at hT
 | some i=>
  cases hu:P.underlying t with
  | none=>simp [hi,hu] at hT
  | some d=>
   simp only [hi,hu,Option.some.injEq,Prod.mk.injEq] at hT
   obtain ⟨_,rfl⟩:=hT
   simp only [isAgg,Sem.run_bind,run_underlying hu,Result.andThen_ok]
   cases d <;> rfl
def At (h:HF) (q:Addr) (cs:List Value):Prop:=
 ∃ c T fz,h q.block=some (.cells c T fz)∧q.spot=none∧∀ j v,cs[j]? = some v→c[q.off+j]? = some v
theorem At.mono {h h':HF} {q:Addr} {cs:List Value} (a:At h q cs) (hl:h.le h'):At h' q cs:=
 let ⟨c,T,fz,h1,h2,h3⟩:=a;⟨c,T,fz,hl _ _ h1,h2,h3⟩
theorem At.cell {X:Cx} {h:HF} {L:LH} {w:World} {q:Addr} {cs:List Value} (a:At h q cs) (s:St X h L w) {j:Nat} {v:Value} (hj:cs[j]? = some v):
  w.cell? (q.add j)=some v:=by
 obtain ⟨c,T,fz,h1,h2,h3⟩:=a
 have hb:=s.imm _ _ h1
 obtain ⟨bk,off,spot⟩:=q
 simp only at h2
 subst h2
 have:=h3 j v hj
 simp only at this hb
 by_cases e:j=0
 ·subst e;simpa [Addr.add,World.cell?,hb] using this
 ·simp [Addr.add,e,World.cell?,hb,this]
theorem St.cell {X:Cx} {h:HF} {L:LH} {w:World} (s:St X h L w) {i bk:Nat} {cl:List Value} {T:TypeId} {fz:Nat×Nat} (hL:nth L i=some (bk,.cells cl.toArray T fz))
  {off:Nat} {v:Value} (hv:nth cl off=some v):w.cell? ⟨bk,off,none⟩=some v:=by
 rw [gP] at hL hv
 have:=s.own _ (List.mem_of_getElem? hL)
 simp only at this
 simp [World.cell?,this,hv]
def cut:List Value→Nat→Nat→Option (List Value)
 | _,_,0=>some []
 | cl,off,n+1=>match nth cl off,cut cl (off+1) n with
  | some v,some l=>some (v::l)
  | _,_=>none
theorem xF {cl:List Value}:∀ {n off:Nat} {l:List Value},cut cl off n=some l→l.length=n∧∀ j v,l[j]? = some v→nth cl (off+j)=some v
 | 0,off,l,h=>by simp [cut] at h;subst h;simp
 | n+1,off,l,h=>by
  simp only [cut] at h
  split at h
  ·rename_i v l' h1 h2
   simp only [Option.some.injEq] at h
   subst h
   obtain ⟨h3,h4⟩:=xF h2
   refine ⟨by simp [h3],fun j u hj=>?_⟩
   cases j with
   | zero=>simp at hj;subst hj;simpa using h1
   | succ j=>simp at hj;have:=h4 j u hj;rw [Nat.add_assoc,Nat.add_comm 1 j] at this;exact this
  ·cases h
theorem nl {P:Program} {t:TypeId} {m:Nat} (hT:tySz P t=some (m,false)) {w:World} {a:Addr} {v:Value} (hc:w.cell? a=some v):(loadVar t a).run P w=.ok v w:=by
 simp [loadVar,Am hT,hc]
theorem nk {P:Program} {t:TypeId} {cs:List Value} (hT:tySz P t=some (cs.length,true)) {w:World} {a:Addr} (hc:∀ j v,cs[j]? = some v→w.cell? (a.add j)=some v):
  (loadVar t a).run P w=.ok (.agg cs.toArray) w:=by
 simp [loadVar,Am hT,iy hT,run_loadCells_list w a cs hc]
section ops
variable {P:Program} {b:Frame} {n:Nat} {k:List Item} {F:List Frame→(Machine→Prop)→Prop} {e:Env} {ds:List Deferred} {X:Cx} {h:HF} {L:LH}
variable {ops:Array Oper} {l:List Oper} {d:Nat} {ty:TypeId} {pos:String} {af:Array Edge} {g:Option (Nat×Bool)}
theorem m6 {a b:Nat} (h:Nat.blt a b=true):a < b:=by
 simpa [Nat.blt_eq] using h
theorem qP {op:Op} (v:Value) (hop:noDefer op=true) (hr:∀ w,St X h L w→(execOp e.ev ⟨some d,op,ty,pos,af,g⟩).run P w=.ok (.value v) w)
  (hd:Nat.blt d n=true) (hg:guardB ops e ⟨some d,op,ty,pos,af,g⟩=true) (t:TO P b n ops l k F (upd e d v) ds X h L):
  TO P b n ops (⟨some d,op,ty,pos,af,g⟩::l) k F e ds X h L:=
 Aq rfl (m6 hd) hop hg fun w hw=>⟨v,w,h,L,hr w hw,hw,t⟩
theorem ui {op:Op} (t:TO P b n ops l k F (upd e d undef) ds X h L) (hd:Nat.blt d n=true:=by rfl) (hg:guardB ops e ⟨some d,op,ty,pos,af,g⟩=false:=by rfl):
  TO P b n ops (⟨some d,op,ty,pos,af,g⟩::l) k F e ds X h L:=
 K8 rfl (m6 hd) hg t
theorem aj {x:Operand} (t:TO P b n ops l k F (upd e d (e.ev x)) ds X h L) (hd:Nat.blt d n=true:=by rfl) (hg:guardB ops e ⟨some d,.move x,ty,pos,af,g⟩=true:=by rfl):
  TO P b n ops (⟨some d,.move x,ty,pos,af,g⟩::l) k F e ds X h L:=
 qP _ rfl (fun w _=>by simp [execOp]) hd hg t
theorem cK {x:Operand} (t:TO P b n ops l k F (upd e d (e.ev x)) ds X h L) (hd:Nat.blt d n=true:=by rfl) (hg:guardB ops e ⟨some d,.assign x,ty,pos,af,g⟩=true:=by rfl):
  TO P b n ops (⟨some d,.assign x,ty,pos,af,g⟩::l) k F e ds X h L:=
 qP _ rfl (fun w _=>by simp [execOp]) hd hg t
theorem ek {c x y:Operand} {s:Bool} (hc:e.ev c=.bool s) (t:TO P b n ops l k F (upd e d (bif s then e.ev x else e.ev y)) ds X h L) (hd:Nat.blt d n=true:=by rfl)
  (hg:guardB ops e ⟨some d,.pick c x y,ty,pos,af,g⟩=true:=by rfl):TO P b n ops (⟨some d,.pick c x y,ty,pos,af,g⟩::l) k F e ds X h L:=
 qP _ rfl (fun w _=>by cases s <;> simp [execOp,hc,asBool]) hd hg t
theorem cA {t:TypeId} {x:Operand} (t':∀ bk,TO P b n ops l k F (upd e d (.pointer (some ⟨bk,0,none⟩))) ds X h ((bk,.cells (vcells (e.ev x)).toArray t (0,0))::L))
  (hd:Nat.blt d n=true:=by rfl) (hg:guardB ops e ⟨some d,.box t x,ty,pos,af,g⟩=true:=by rfl):TO P b n ops (⟨some d,.box t x,ty,pos,af,g⟩::l) k F e ds X h L:=
 Aq rfl (m6 hd) rfl hg fun w hw=>⟨_,_,h,_,by simp [execOp,Instr.box,newVar,newRow,lC],hw.alloc _,t' _⟩
def zeroC (P:Program) (t:TypeId):Option (List Value):=(P.info? t).bind fun i=>i.zero.map vcells
theorem pu {P:Program} {t:TypeId} {zs:List Value} (hz:zeroC P t=some zs) (w:World):∃ z,(zeroValue t).run P w=.ok z w∧z.cells=zs.toArray:=by
 unfold zeroC at hz
 cases hi:P.info? t with
 | none=>simp [hi] at hz
 | some i=>
  cases hq:i.zero with
  | none=>simp [hi,hq] at hz
  | some z=>
   simp only [hi,hq,Option.bind_some,Option.map_some,Option.some.injEq] at hz
   exact ⟨z,by simp [zeroValue,typeInfo,hi,hq],by rw [lC,hz]⟩
theorem aV {t:TypeId} {zs:List Value} (hz:zeroC P t=some zs) (t':∀ bk,TO P b n ops l k F (upd e d (.pointer (some ⟨bk,0,none⟩))) ds X h ((bk,.cells zs.toArray t (0,0))::L))
  (hd:Nat.blt d n=true:=by rfl) (hg:guardB ops e ⟨some d,.alloc t,ty,pos,af,g⟩=true:=by rfl):TO P b n ops (⟨some d,.alloc t,ty,pos,af,g⟩::l) k F e ds X h L:=
 Aq rfl (m6 hd) rfl hg fun w hw=>by
  obtain ⟨z,h1,h2⟩:=pu hz w
  exact ⟨_,_,h,_,by simp [execOp,Instr.alloc,h1,newVar,newRow,h2],hw.alloc _,t' _⟩
theorem kl (i:Nat) {t:TypeId} {x:Operand} {m bk off T:Nat} {fz:Nat×Nat} {cl:List Value} {v:Value} (hT:tySz P t=some (m,false)) (hx:e.ev x=.pointer (some ⟨bk,off,none⟩))
  (hL:nth L i=some (bk,.cells cl.toArray T fz)) (hv:nth cl off=some v) (t':TO P b n ops l k F (upd e d v) ds X h L)
  (hd:Nat.blt d n=true:=by rfl) (hg:guardB ops e ⟨some d,.load t x,ty,pos,af,g⟩=true:=by rfl):TO P b n ops (⟨some d,.load t x,ty,pos,af,g⟩::l) k F e ds X h L:=
 qP _ rfl (fun w hw=>by simp [execOp,Instr.loadAt,hx,Instr.sureAddr,nl hT (hw.cell hL hv)]) hd hg t'
theorem cW (i:Nat) {t:TypeId} {x:Operand} {m bk off T:Nat} {fz:Nat×Nat} {cl cs:List Value} (hT:tySz P t=some (m,true)) (hx:e.ev x=.pointer (some ⟨bk,off,none⟩))
  (hL:nth L i=some (bk,.cells cl.toArray T fz)) (hv:cut cl off m=some cs) (t':TO P b n ops l k F (upd e d (.agg cs.toArray)) ds X h L)
  (hd:Nat.blt d n=true:=by rfl) (hg:guardB ops e ⟨some d,.load t x,ty,pos,af,g⟩=true:=by rfl):TO P b n ops (⟨some d,.load t x,ty,pos,af,g⟩::l) k F e ds X h L:=
 qP _ rfl (fun w hw=>by
  obtain ⟨h1,h2⟩:=xF hv
  subst h1
  have:∀ j v,cs[j]? = some v→w.cell? ((⟨bk,off,none⟩:Addr).add j)=some v:=by
   intro j v hj
   have:=hw.cell hL (h2 j v hj)
   by_cases e0:j=0
   ·subst e0;simpa [Addr.add] using this
   ·simpa [Addr.add,e0] using this
  simp [execOp,Instr.loadAt,hx,Instr.sureAddr,nk hT this]) hd hg t'
theorem kd {t:TypeId} {x:Operand} {m j:Nat} {q:Addr} {cs:List Value} {v:Value} (hT:tySz P t=some (m,false)) (ha:At h q cs) (hx:e.ev x=.pointer (some (q.add j)))
  (hv:nth cs j=some v) (t':TO P b n ops l k F (upd e d v) ds X h L)
  (hd:Nat.blt d n=true:=by rfl) (hg:guardB ops e ⟨some d,.load t x,ty,pos,af,g⟩=true:=by rfl):TO P b n ops (⟨some d,.load t x,ty,pos,af,g⟩::l) k F e ds X h L:=
 qP _ rfl (fun w hw=>by
  rw [gP] at hv
  simp [execOp,Instr.loadAt,hx,Instr.sureAddr,nl hT (ha.cell hw hv)]) hd hg t'
theorem dF {t:TypeId} {x:Operand} {m:Nat} {q:Addr} {v:Value} {cs:List Value} (hT:tySz P t=some (m,false)) (ha:At h q (v::cs)) (hx:e.ev x=.pointer (some q))
  (t':TO P b n ops l k F (upd e d v) ds X h L)
  (hd:Nat.blt d n=true:=by rfl) (hg:guardB ops e ⟨some d,.load t x,ty,pos,af,g⟩=true:=by rfl):TO P b n ops (⟨some d,.load t x,ty,pos,af,g⟩::l) k F e ds X h L:=
 kd (j:=0) hT ha (by simp [Addr.add,hx]) rfl t' hd hg
theorem sR (q:Addr) (i j:Nat) (hq:q.spot=none):(q.add i).add j=q.add (i+j):=by
 obtain ⟨bk,off,sp⟩:=q
 simp only at hq
 subst hq
 by_cases hi:i=0
 ·subst hi;simp [Addr.add]
 ·by_cases hj:j=0
  ·subst hj;simp [Addr.add]
  ·have:i+j≠0:=by omega
   simp [Addr.add,hi,hj]
   omega
theorem we {t:TypeId} {x:Operand} {m j:Nat} {q:Addr} {cs cs':List Value} (hT:tySz P t=some (m,true)) (ha:At h q cs) (hx:e.ev x=.pointer (some (q.add j)))
  (hv:cut cs j m=some cs') (t':TO P b n ops l k F (upd e d (.agg cs'.toArray)) ds X h L)
  (hd:Nat.blt d n=true:=by rfl) (hg:guardB ops e ⟨some d,.load t x,ty,pos,af,g⟩=true:=by rfl):TO P b n ops (⟨some d,.load t x,ty,pos,af,g⟩::l) k F e ds X h L:=
 qP _ rfl (fun w hw=>by
  obtain ⟨h1,h2⟩:=xF hv
  subst h1
  have hsp:q.spot=none:=by obtain ⟨_,_,_,_,h2,_⟩:=ha;exact h2
  have:∀ i v,cs'[i]? = some v→w.cell? ((q.add j).add i)=some v:=by
   intro i v hi
   have:=h2 i v hi
   rw [gP] at this
   rw [sR q j i hsp]
   exact ha.cell hw this
  simp [execOp,Instr.loadAt,hx,Instr.sureAddr,nk hT this]) hd hg t'
theorem H4:∀ (cs:List Value),cut cs 0 cs.length=some cs:=by
 have key:∀ (cs pre:List Value),cut (pre++cs) pre.length cs.length=some cs:=by
  intro cs
  induction cs with
  | nil=>intro pre;rfl
  | cons v cs ih=>
   intro pre
   have:=ih (pre++[v])
   simp only [List.append_assoc,List.cons_append,List.nil_append,List.length_append,List.length_cons,List.length_nil] at this
   simp only [List.length_cons,cut,gP]
   simp [this]
 intro cs
 simpa using key cs []
theorem dz {t:TypeId} {x:Operand} {m:Nat} {q:Addr} {cs:List Value} (hT:tySz P t=some (m,true)) (ha:At h q cs) (hm:cs.length=m) (hx:e.ev x=.pointer (some q))
  (t':TO P b n ops l k F (upd e d (.agg cs.toArray)) ds X h L)
  (hd:Nat.blt d n=true:=by rfl) (hg:guardB ops e ⟨some d,.load t x,ty,pos,af,g⟩=true:=by rfl):TO P b n ops (⟨some d,.load t x,ty,pos,af,g⟩::l) k F e ds X h L:=
 we (j:=0) hT ha (by simp [Addr.add,hx]) (by subst hm;exact H4 cs) t' hd hg
def one:Value→Bool
 | .agg _ | .tuple _=>false
 | _=>true
theorem Mr (v:Value):one v=v.oneCell':=by cases v <;> rfl
def splice (cl:List Value) (off:Nat):List Value→List Value
 | []=>cl
 | v::vs=>splice (setNth cl off v) (off+1) vs
theorem CB (vs:List Value):∀ (cl:List Value) (off:Nat),(splice cl off vs).length=cl.length:=by
 induction vs with
 | nil=>intro cl off;rfl
 | cons v vs ih=>intro cl off;simp [splice,ih,og]
theorem ES {w:World} {bk off:Nat} {cl:List Value} {T:TypeId} {fz:Nat×Nat} (hb:w.heap[bk]? = some (.cells cl.toArray T fz)) (v:Value):
  w.setCell ⟨bk,off,none⟩ v={ w with heap:=w.heap.setIfInBounds bk (.cells (setNth cl off v).toArray T fz) }:=by
 have hlt:=gQ hb
 unfold World.setCell
 congr 1
 apply Array.ext_getElem?
 intro i
 rw [Array.getElem?_modify,Array.getElem?_setIfInBounds]
 by_cases e:bk=i
 ·subst e
  have h2:w.heap[bk]=.cells cl.toArray T fz:=by
   rw [Array.getElem?_eq_getElem hlt] at hb;exact Option.some.inj hb
  simp [h2,kN,hlt]
 ·simp [e]
theorem ER {w:World} {bk:Nat} (o o':Obj):(w.heap.setIfInBounds bk o).setIfInBounds bk o'=w.heap.setIfInBounds bk o':=by
 apply Array.ext_getElem?
 intro i
 simp only [Array.getElem?_setIfInBounds]
 by_cases e:bk=i
 ·subst e;simp
 ·simp [e]
theorem lj {P:Program} {bk T:Nat} (off0:Nat):∀ (vs:List Value) (i:Nat) (cl:List Value) (w:World),w.heap[bk]? = some (.cells cl.toArray T (0,0)) →
  off0+i+vs.length≤cl.length→(∀ v∈vs,one v=true) →
  (storeCells ⟨bk,off0,none⟩ vs i).run P w=.ok () { w with heap:=w.heap.setIfInBounds bk (.cells (splice cl (off0+i) vs).toArray T (0,0)) }:=by
 intro vs
 induction vs with
 | nil=>
  intro i cl w hb _ _
  simp only [storeCells,splice,Sem.run_pure]
  congr 1
  have:w.heap.setIfInBounds bk (.cells cl.toArray T (0,0))=w.heap:=by
   apply Array.ext_getElem?
   intro j
   rw [Array.getElem?_setIfInBounds]
   by_cases e:bk=j
   ·subst e;rw [hb];simp [gQ hb]
   ·simp [e]
  rw [this]
 | cons v vs ih=>
  intro i cl w hb hle h1
  have hadd:(⟨bk,off0,none⟩:Addr).add i=⟨bk,off0+i,none⟩:=by
   by_cases e:i=0
   ·subst e;simp [Addr.add]
   ·simp [Addr.add,e]
  have hlt:off0+i < cl.length:=by simp at hle;omega
  have hc:w.cell? ⟨bk,off0+i,none⟩=some cl[off0+i]:=by simp [World.cell?,hb,hlt]
  have hfz:w.frozen? ⟨bk,off0+i,none⟩=false:=by simp [World.frozen?,hb]
  have hst:=run_store P w ⟨bk,off0+i,none⟩ v .plain (by rw [← Mr];exact h1 v (List.mem_cons_self ..))
  rw [hc] at hst
  simp only [hfz] at hst
  simp only [storeCells,Sem.run_bind,hadd,hst,Bool.false_eq_true,if_false,Result.andThen_ok,ES hb]
  have hb':({ w with heap:=w.heap.setIfInBounds bk (.cells (setNth cl (off0+i) v).toArray T (0,0)) }:World).heap[bk]? = some (.cells (setNth cl (off0+i) v).toArray T (0,0)):=by
   simp [gQ hb]
  rw [ih (i+1) _ _ hb' (by rw [og];simp at hle;omega) (fun u hu=>h1 u (List.mem_cons_of_mem _ hu))]
  simp only [splice,ER]
  rfl
theorem cJ (i:Nat) {t:TypeId} {x y:Operand} {m bk off T:Nat} {a:Bool} {cl vs:List Value} (hT:tySz P t=some (m,a)) (hx:e.ev x=.pointer (some ⟨bk,off,none⟩))
  (hL:nth L i=some (bk,.cells cl.toArray T (0,0))) (hv:vcells (e.ev y)=vs) (hm:vs.length=m) (hle:Nat.ble (off+vs.length) cl.length=true) (h1:vs.all one=true)
  (t':TO P b n ops l k F e ds X h (setNth L i (bk,.cells (splice cl off vs).toArray T (0,0))))
  (hg:guardB ops e ⟨none,.store t x y,ty,pos,af,g⟩=true:=by rfl):TO P b n ops (⟨none,.store t x y,ty,pos,af,g⟩::l) k F e ds X h L:=
 K7 rfl rfl hg fun w hw=>by
  have hb:w.heap[bk]? = some (.cells cl.toArray T (0,0)):=by
   have h2:=hL
   rw [gP] at h2
   exact hw.own _ (List.mem_of_getElem? h2)
  refine ⟨_,h,_,?_,hw.write hL _,t'⟩
  have hsize:(e.ev y).cells.size=m:=by rw [lC,hv];simpa using hm
  have hlist:(e.ev y).cells.toList=vs:=by rw [lC,hv]
  have:=lj (P:=P) off vs 0 cl w hb (by simpa using Nat.le_of_ble_eq_true hle) (by simpa using h1)
  simp only [Nat.add_zero] at this
  simp [execOp,Instr.storeAt,hx,Instr.sureAddr,storeVar,iy hT,hsize,hlist,this]
def fldOf (P:Program) (s:TypeId) (i:Nat):Option Nat:=
 match P.underlying s with
 | some (.struct fs)=>match fs[i]? with
  | some f=>match P.info? f.type with
   | some ti=>bif Nat.beq ti.size 0 then none else some f.offset
   | none=>none
  | none=>none
 | _=>none
theorem fX {s:TypeId} {x:Operand} {i off:Nat} {q:Addr} (hf:fldOf P s i=some off) (hx:e.ev x=.pointer (some q)) (t':TO P b n ops l k F (upd e d (.pointer (some (q.add off)))) ds X h L)
  (hd:Nat.blt d n=true:=by rfl) (hg:guardB ops e ⟨some d,.fieldAddr s x i,ty,pos,af,g⟩=true:=by rfl):TO P b n ops (⟨some d,.fieldAddr s x i,ty,pos,af,g⟩::l) k F e ds X h L:=
 qP _ rfl (fun w _=>by
  unfold fldOf at hf
  split at hf
  ·rename_i fs hu
   split at hf
   ·rename_i f hfi
    split at hf
    ·rename_i ti hti
     cases hz:Nat.beq ti.size 0 with
     | true=>simp [hz] at hf
     | false=>
      simp only [hz,cond_false,Option.some.injEq] at hf
      have hne:ti.size≠0:=fun e0=>by rw [e0] at hz;cases hz
      subst hf
      simp [execOp,Instr.fieldAt,run_underlying hu,hfi,hx,Instr.sureAddr,fieldPlace,sizeOf,typeInfo,hti,hne]
    ·cases hf
   ·cases hf
  ·cases hf) hd hg t'
def intV (k:IntKind) (a b:Int):BinOp→Option Value
 | .add=>some (.int k (k.wrap (a+b)))
 | .sub=>some (.int k (k.wrap (a - b)))
 | .mul=>some (.int k (k.wrap (a * b)))
 | .eql=>some (.bool (a==b))
 | .neq=>some (.bool (a != b))
 | .lss=>some (.bool (decide (a < b)))
 | .leq=>some (.bool (decide (a≤b)))
 | .gtr=>some (.bool (decide (b < a)))
 | .geq=>some (.bool (decide (b≤a)))
 | _=>none
def strV (a b:ByteArray):BinOp→Option Value
 | .eql=>some (.bool (a.toList==b.toList))
 | .neq=>some (.bool !(a.toList==b.toList))
 | _=>none
def binV (op:BinOp):Value→Value→Option Value
 | .int k a,.int k' b=>if k=k' then intV k a b op else none
 | .string a,.string b=>strV a b op
 | _,_=>none
theorem AG {op:BinOp} {t:TypeId} {x y:Operand} {a b v:Value} (hv:binV op a b=some v) (w:World):
  (do eqGuard op t x y a b;binOp op t a b:Sem Value).run P w=.ok v w:=by
 unfold binV at hv
 split at hv
 ·rename_i k a k' b
  split at hv
  ·rename_i hk
   subst hk
   cases op <;> simp [intV] at hv <;> subst hv <;> simp [eqGuard,binOp,Op.intArith,Op.intCmp]
  ·cases hv
 ·cases op <;> simp [strV] at hv <;> subst hv <;> simp [eqGuard,binOp,Op.stringOp]
 ·cases hv
theorem Bg {op:BinOp} {t u:TypeId} {x y:Operand} {v:Value} (hv:binV op (e.ev x) (e.ev y)=some v) (t':TO P b n ops l k F (upd e d v) ds X h L)
  (hd:Nat.blt d n=true:=by rfl) (hg:guardB ops e ⟨some d,.binOp op t x y u,ty,pos,af,g⟩=true:=by rfl):TO P b n ops (⟨some d,.binOp op t x y u,ty,pos,af,g⟩::l) k F e ds X h L:=
 qP _ rfl (fun w _=>by
  have:=AG (P:=P) (t:=t) (x:=x) (y:=y) hv w
  simp only [execOp,Sem.run_bind] at this ⊢
  simp [this]) hd hg t'
theorem aw {op:BinOp} {t u:TypeId} {x y:Operand} {v v':Value} (hv:binV op (e.ev x) (e.ev y)=some v) (hvv:v=v') (t':TO P b n ops l k F (upd e d v') ds X h L)
  (hd:Nat.blt d n=true:=by rfl) (hg:guardB ops e ⟨some d,.binOp op t x y u,ty,pos,af,g⟩=true:=by rfl):TO P b n ops (⟨some d,.binOp op t x y u,ty,pos,af,g⟩::l) k F e ds X h L:=
 Bg (hv.trans (by rw [hvv])) t' hd hg
theorem jV {z:Int} (h:-9223372036854775808≤z∧z≤9223372036854775807):Value.int .i64 (IntKind.i64.wrap z)=.int .i64 z:=by
 have:IntKind.i64.wrap z=z:=by
  simp only [IntKind.wrap,IntKind.signed,IntKind.bits]
  simp
  omega
 rw [this]
theorem rJ (d:Nat) {s:Bool} (hs:e d=.bool s) (h1:s=true→TO P b n ops l k F (upd e d (.bool true)) ds X h L) (h0:s=false→TO P b n ops l k F (upd e d (.bool false)) ds X h L):
  TO P b n ops l k F e ds X h L:=by
 cases s with
 | true=>have:=h1 rfl;rw [← hs,tC] at this;exact this
 | false=>have:=h0 rfl;rw [← hs,tC] at this;exact this
theorem nZ {c:Code} (sl:List (Nat×Value)) (hk:∀ e',TT P b n k F (upds e' sl) ds X h L)
  (t':(∀ e',ju e' sl→TT P b n k F e' ds X h L)→TT P b n (.code c::k) F e ds X h L):TT P b n (.code c::k) F e ds X h L:=
 t' fun e' hr=>by have:=hk e';rw [hr.upds] at this;exact this
theorem kz {t:TypeId} {x:Operand} {s:Bool} (hx:e.ev x=.bool s) (t':TO P b n ops l k F (upd e d (.bool !s)) ds X h L)
  (hd:Nat.blt d n=true:=by rfl) (hg:guardB ops e ⟨some d,.unOp .not t x,ty,pos,af,g⟩=true:=by rfl):TO P b n ops (⟨some d,.unOp .not t x,ty,pos,af,g⟩::l) k F e ds X h L:=
 qP _ rfl (fun w _=>by simp [execOp,hx,Op.unary]) hd hg t'
theorem fM {x:Operand} {i:Nat} {vs:List Value} {v:Value} (hx:e.ev x=.tuple vs.toArray) (hv:nth vs i=some v) (t':TO P b n ops l k F (upd e d v) ds X h L)
  (hd:Nat.blt d n=true:=by rfl) (hg:guardB ops e ⟨some d,.extract x i,ty,pos,af,g⟩=true:=by rfl):TO P b n ops (⟨some d,.extract x i,ty,pos,af,g⟩::l) k F e ds X h L:=
 qP _ rfl (fun w _=>by rw [gP] at hv;simp [execOp,hx,Instr.extract,hv]) hd hg t'
theorem Bf {x:Operand} {t E:TypeId} {base:Option Addr} {m c:Nat} (hT:P.underlying t=some (.slice E)) (hx:e.ev x=.slice base m c)
  (t':TO P b n ops l k F (upd e d (.int .i64 (m:Nat))) ds X h L)
  (hd:Nat.blt d n=true:=by rfl) (hg:guardB ops e ⟨some d,.call ⟨.builtin .len,#[x],#[t]⟩,ty,pos,af,g⟩=true:=by rfl):TO P b n ops (⟨some d,.call ⟨.builtin .len,#[x],#[t]⟩,ty,pos,af,g⟩::l) k F e ds X h L:=
 qP _ rfl (fun w _=>by simp [execOp,resolve,invoke,builtin,Builtin.len_,hx,run_underlying hT,goInt]) hd hg t'
theorem Mv {f:FuncId} {as:Array Operand} {ats:Array TypeId} {vs:List Value} {A Fr:LH} {R:Ending→HF→LH→Prop}
  (hc:∀ args w,(callFunc f args).run P w=.ok (.enter f args) w) (hvs:as.toList.map e.ev=vs) (hs:mP P f vs.toArray h A R) (hL:L=A++Fr)
  (t':∀ v h' B,h.le h'→R (.returned v) h' B→TO P b n ops l k F (upd e d v) ds X h' (B++Fr))
  (tp:∀ ch h' B,h.le h'→R (.panicked ch) h' B→TP P b n ch F e ds X h' (B++Fr))
  (hd:Nat.blt d n=true:=by rfl) (hg:guardB ops e ⟨some d,.call ⟨.value (.func f),as,ats⟩,ty,pos,af,g⟩=true:=by rfl):
  TO P b n ops (⟨some d,.call ⟨.value (.func f),as,ats⟩,ty,pos,af,g⟩::l) k F e ds X h L:=
 DL rfl (m6 hd) rfl hg fun w hw=>by
  subst hL
  have harr:as.map e.ev=vs.toArray:=Array.ext' (by simp [← hvs])
  refine ⟨.enter f vs.toArray,w,?_,?_⟩
  ·simp [execOp,resolve,Env.ev,Deferred.ofValue,invoke,harr,hc]
  ·refine jD (o9.mono (hs w hw.pre.left) ?_)
   rintro x w' ⟨h',B,hst,hR⟩
   cases x with
   | returned v=>exact ⟨h',_,hw.after hst,t' v h' B hst.le hR⟩
   | panicked ch=>exact ⟨h',_,hw.after hst,tp ch h' B hst.le hR⟩
   | outgrown=>trivial
theorem av {f:FuncId} {as:Array Operand} {ats:Array TypeId} {vs:List Value} {v:Value}
  (hc:∀ args w,(callFunc f args).run P w=.ok (.enter f args) w) (hs:Ret P f vs h v) (hvs:as.toList.map e.ev=vs)
  (t':TO P b n ops l k F (upd e d v) ds X h L)
  (hd:Nat.blt d n=true:=by rfl) (hg:guardB ops e ⟨some d,.call ⟨.value (.func f),as,ats⟩,ty,pos,af,g⟩=true:=by rfl):
  TO P b n ops (⟨some d,.call ⟨.value (.func f),as,ats⟩,ty,pos,af,g⟩::l) k F e ds X h L:=
 Mv (A:=[]) (Fr:=L) hc hvs hs rfl (fun v' h' B _ hR=>by obtain ⟨h1,h2,h3⟩:=hR;cases h1;subst h2 h3;exact t')
  (fun ch h' B _ hR=>by obtain ⟨h1,_,_⟩:=hR;cases h1) hd hg
end ops
end Go.Sg
namespace Go.Sg
structure Rp (α : Type) where
 sz:Nat
 rep:HF→List Value→α→Prop
def Rp.Mono {α : Type} (R:Rp α):Prop:=∀ (h h':HF) cs x,h.le h'→R.rep h cs x→R.rep h' cs x
def SlB {α : Type} (R:Rp α) (h:HF) (base:Option Addr) (xs:List α):Prop:=
 xs.length≤9223372036854775807∧∀ (i:Nat) (x:α),xs[i]? = some x→∃ p cs,base=some p∧At h (p.add (i * R.sz)) cs∧cs.length=R.sz∧R.rep h cs x
theorem SlB.mono {α : Type} {R:Rp α} {h h':HF} {base:Option Addr} {xs:List α} (a:SlB R h base xs) (hm:R.Mono) (hl:h.le h'):SlB R h' base xs:=
 ⟨a.1,fun i x hx=>let ⟨p,cs,e,q,m,r⟩:=a.2 i x hx;⟨p,cs,e,q.mono hl,m,hm _ _ _ _ hl r⟩⟩
theorem SlB.nil {α : Type} {R:Rp α} {h:HF} {base:Option Addr}:SlB R h base []:=⟨by simp,fun i x hx=>by simp at hx⟩
def SlC {α : Type} (R:Rp α) (h:HF) (base:Option Addr) (cap:Nat) (xs:List α):Prop:=SlB R h base xs∧xs.length≤cap
theorem SlC.mono {α : Type} {R:Rp α} {h h':HF} {base:Option Addr} {cap:Nat} {xs:List α} (a:SlC R h base cap xs) (hm:R.Mono) (hl:h.le h'):SlC R h' base cap xs:=⟨a.1.mono hm hl,a.2⟩
theorem SlC.nil {α : Type} {R:Rp α} {h:HF} {base:Option Addr} {cap:Nat}:SlC R h base cap []:=⟨SlB.nil,Nat.zero_le _⟩
def Rp.int:Rp Int:=⟨1,fun _ cs x=>cs=[.int .i64 x]⟩
def Rp.bool:Rp Bool:=⟨1,fun _ cs x=>cs=[.bool x]⟩
def Rp.str:Rp ByteArray:=⟨1,fun _ cs x=>cs=[.string x]⟩
theorem Rp.aY:Rp.int.Mono:=fun _ _ _ _ _ e=>e
theorem Rp.uX:Rp.bool.Mono:=fun _ _ _ _ _ e=>e
theorem Rp.gX:Rp.str.Mono:=fun _ _ _ _ _ e=>e
theorem At.Be {h:HF} {bk off T:Nat} {fz:Nat×Nat} {cl cs:List Value} (hb:h bk=some (.cells cl.toArray T fz)) (hc:∀ j v,cs[j]? = some v→cl[off+j]? = some v):At h ⟨bk,off,none⟩ cs:=
 ⟨_,T,fz,hb,rfl,fun j v hj=>by simpa using hc j v hj⟩
section ops
variable {P:Program} {b:Frame} {n:Nat} {k:List Item} {F:List Frame→(Machine→Prop)→Prop} {e:Env} {ds:List Deferred} {X:Cx} {h:HF} {L:LH}
variable {ops:Array Oper} {l:List Oper} {d:Nat} {ty:TypeId} {pos:String} {af:Array Edge} {g:Option (Nat×Bool)}
end ops
end Go.Sg
namespace Go.Sg
def nexts (ops:Array Oper) (dn:List Nat):List Nat:=
 (List.range ops.size).filter fun i=>!dn.contains i&&((ops[i]?).map (·.after.all fun e=>!Region.binds .any e||dn.contains e.on)).getD false
def sepAll (ops:Array Oper):Bool:=
 (List.range ops.size).all fun i=>match ops[i]? with
  | some oi=>(match oi.op with | .select ..=>false | .defer _=>false | _=>true)&&(List.range ops.size).all fun j=>match ops[j]? with
   | some oj=>j==i||oj.after.any (fun e=>Region.binds .any e&&e.on==i)||oi.after.any (fun e=>Region.binds .any e&&e.on==j)||oi.apart ops oj
   | none=>true
  | none=>true
def slotsIn (ops:Array Oper) (n:Nat):Bool:=ops.all fun o=>match o.dst with | some d=>Nat.blt d n | none=>true
def pute (e:Env):Option Nat→Value→Env
 | some d,v=>upd e d v
 | none,_=>e
theorem BV (a:Act) (d:Option Nat) (v:Value) (h:∀ x,d=some x→x < a.tmps.size):envOf (a.put d v)=pute (envOf a) d v:=by
 cases d with
 | none=>rfl
 | some x=>exact na a x v (h x rfl)
section
variable (P:Program) (b:Frame) (n:Nat) (ops:Array Oper) (k:List Item) (F:List Frame→(Machine→Prop)→Prop) (ds:List Deferred) (X:Cx)
def s9 (o:Oper) (e:Env) (K:Env→HF→LH→Prop):Result Next→Prop
 | .ok .skip w'=>∃ h' L',St X h' L' w'∧K (pute e o.dst undef) h' L'
 | .halt (.panic v) w'=>∃ h' L',St X h' L' w'∧(∀ e',TP P b n [{ v,recovered:=false }] F e' ds X h' L')
 | .ok nx w'=>sf P w' (fun
   | .returned v,w''=>∃ h' L',St X h' L' w''∧K (pute e o.dst v) h' L'
   | .panicked ch,w''=>∃ h' L',St X h' L' w''∧∀ e',TP P b n ch F e' ds X h' L'
   | .outgrown,_=>True) nx
 | _=>False
def Stp (o:Oper) (e:Env) (h:HF) (L:LH) (K:Env→HF→LH→Prop):Prop:=
 if guardB ops e o=true then ∀ w,St X h L w→s9 P b n F ds X o e K ((execOp e.ev o).run P w) else K (pute e o.dst undef) h L
def TA (J:HF→LH→Prop):Nat→List Nat→Env→HF→LH→Prop
 | 0,dn,e,h,L=>nexts ops dn=[]∧TT P b n k F e ds X h L
 | m+1,dn,e,h,L=>(nexts ops dn=[]→TT P b n k F e ds X h L) ∧
   ∀ i∈nexts ops dn,∀ o,ops[i]? = some o→Stp P b n ops F ds X o e h L fun e' h' L'=>J h' L'∧TA J m (i::dn) e' h' L'
end
section
variable {P:Program} {b:Frame} {n:Nat} {ops:Array Oper} {k:List Item} {F:List Frame→(Machine→Prop)→Prop} {ds:List Deferred} {X:Cx}
theorem tB {o:Oper} {e:Env} {K:Env→HF→LH→Prop} {v:Value} {w:World} (h:∃ h' L',St X h' L' w∧K (pute e o.dst v) h' L'):s9 P b n F ds X o e K (.ok (.value v) w):=h
theorem kD {o:Oper} {e:Env} {K:Env→HF→LH→Prop} {nx:Next} {w:World} (hnx:nx≠.skip) (h:sf P w (fun
   | .returned v,w''=>∃ h' L',St X h' L' w''∧K (pute e o.dst v) h' L'
   | .panicked ch,w''=>∃ h' L',St X h' L' w''∧∀ e',TP P b n ch F e' ds X h' L'
   | .outgrown,_=>True) nx):s9 P b n F ds X o e K (.ok nx w):=by
 cases nx <;> first | exact h | exact absurd rfl hnx
theorem s9.mono {o:Oper} {e e₂ : Env} {K K':Env→HF→LH→Prop} {r:Result Next}
  (hK:∀ v h L,K (pute e o.dst v) h L→K' (pute e₂ o.dst v) h L)
  (h:s9 P b n F ds X o e K r):s9 P b n F ds X o e₂ K' r:=by
 cases r with
 | halt x w=>
  cases x with
  | panic v=>exact h
  | _=>exact h
 | ok nx w=>
  have key:sf P w (fun
   | .returned v,w''=>∃ h' L',St X h' L' w''∧K (pute e o.dst v) h' L'
   | .panicked ch,w''=>∃ h' L',St X h' L' w''∧∀ e',TP P b n ch F e' ds X h' L'
   | .outgrown,_=>True) nx→sf P w (fun
   | .returned v,w''=>∃ h' L',St X h' L' w''∧K' (pute e₂ o.dst v) h' L'
   | .panicked ch,w''=>∃ h' L',St X h' L' w''∧∀ e',TP P b n ch F e' ds X h' L'
   | .outgrown,_=>True) nx:=fun hc=>hc.mono fun x w' r=>by
    cases x with
    | returned v=>obtain ⟨h',L',s,t⟩:=r;exact ⟨h',L',s,hK _ _ _ t⟩
    | panicked ch=>exact r
    | outgrown=>trivial
  cases nx with
  | skip=>obtain ⟨h',L',s,t⟩:=h;exact ⟨h',L',s,hK _ _ _ t⟩
  | _=>exact key h
theorem Mo {o:Oper} {i:Nat} (hs:slotsIn ops n=true) (ho:ops[i]? = some o):∀ x,o.dst=some x→x < n:=by
 intro x hx
 have:=Array.all_eq_true_iff_forall_mem.1 hs o (Array.mem_of_getElem? ho)
 simp only [hx] at this
 exact m6 this
theorem JF (hs:sepAll ops=true) {i j:Nat} {oi oj:Oper} (hi:ops[i]? = some oi) (hj:ops[j]? = some oj) (hne:j≠i)
  (h1:∀ e∈oj.after,Region.binds .any e=true→e.on≠i) (h2:∀ e∈oi.after,Region.binds .any e=true→e.on≠j):oi.apart ops oj=true:=by
 simp only [sepAll,List.all_eq_true,List.mem_range] at hs
 have h0:=hs i (Array.getElem?_eq_some_iff.1 hi).1
 simp only [hi,Bool.and_eq_true,List.all_eq_true,List.mem_range] at h0
 have h3:=h0.2 j (Array.getElem?_eq_some_iff.1 hj).1
 simp only [hj,Bool.or_eq_true,beq_iff_eq,hne,false_or] at h3
 rcases h3 with (h3 | h3) | h3
 ·obtain ⟨e,he,hb⟩:=Array.any_eq_true'.1 h3
  simp only [Bool.and_eq_true,beq_iff_eq] at hb
  exact absurd hb.2 (h1 e he hb.1)
 ·obtain ⟨e,he,hb⟩:=Array.any_eq_true'.1 h3
  simp only [Bool.and_eq_true,beq_iff_eq] at hb
  exact absurd hb.2 (h2 e he hb.1)
 ·exact h3
theorem Gj (hs:sepAll ops=true) {i:Nat} {oi:Oper} (hi:ops[i]? = some oi):(∀ cs b,oi.op≠.select cs b)∧noDefer oi.op=true:=by
 simp only [sepAll,List.all_eq_true,List.mem_range] at hs
 have h0:=hs i (Array.getElem?_eq_some_iff.1 hi).1
 simp only [hi,Bool.and_eq_true] at h0
 have h1:=h0.1
 refine ⟨fun cs b e=>?_,?_⟩
 ·rw [e] at h1;simp at h1
 ·cases ho:oi.op with
  | defer c=>rw [ho] at h1;simp at h1
  | _=>rfl
theorem uR {i:Nat} {dn:List Nat}:i∈nexts ops dn↔i∉dn∧∃ o,ops[i]? = some o∧∀ e∈o.after,Region.binds .any e=true→e.on∈dn:=by
 unfold nexts
 rw [List.mem_filter,List.mem_range]
 cases ho:ops[i]? with
 | none=>simp
 | some o=>
  have hlt:i < ops.size:=(Array.getElem?_eq_some_iff.1 ho).1
  simp only [hlt,true_and,Option.map_some,Option.getD_some,Bool.and_eq_true,Bool.not_eq_true',Array.all_eq_true_iff_forall_mem,
   Bool.or_eq_true,Option.some.injEq,exists_eq_left',List.contains_eq_mem,decide_eq_false_iff_not,decide_eq_true_eq]
  constructor
  ·rintro ⟨h0,h⟩
   exact ⟨h0,fun e he hb=>(h e he).resolve_left (by simp [hb])⟩
  ·rintro ⟨h0,h⟩
   refine ⟨h0,fun e he=>?_⟩
   cases hb:Region.binds .any e
   ·exact .inl rfl
   ·exact .inr (h e he hb)
theorem wg {i j:Nat} {dn:List Nat} (hj:j∈nexts ops dn) (hne:j≠i):j∈nexts ops (i::dn):=by
 rw [uR] at *
 obtain ⟨h0,o,ho,h⟩:=hj
 exact ⟨by simp [hne,h0],o,ho,fun e he hb=>List.mem_cons_of_mem _ (h e he hb)⟩
theorem Bh {dn dn':List Nat} (hp:∀ x,x∈dn↔x∈dn'):nexts ops dn=nexts ops dn':=by
 unfold nexts
 congr 1
 funext i
 have:∀ x,dn.contains x=dn'.contains x:=fun x=>by
  rw [Bool.eq_iff_iff];simp [hp]
 simp only [this]
theorem TA.perm {J:HF→LH→Prop}:∀ {m:Nat} {dn dn':List Nat} {e:Env} {h:HF} {L:LH},(∀ x,x∈dn↔x∈dn')→TA P b n ops k F ds X J m dn e h L→TA P b n ops k F ds X J m dn' e h L
 | 0,dn,dn',e,h,L,hp,t=>by
  simp only [TA] at t ⊢
  rw [← Bh hp];exact t
 | m+1,dn,dn',e,h,L,hp,t=>by
  simp only [TA] at t ⊢
  rw [← Bh hp]
  refine ⟨t.1,fun i hi o ho=>?_⟩
  have:=t.2 i hi o ho
  unfold Stp at this ⊢
  have hp':∀ x,x∈i::dn↔x∈i::dn':=fun x=>by simp [hp]
  split
  ·rename_i hg
   rw [if_pos hg] at this
   exact fun w hw=>s9.mono (fun v h L r=>⟨r.1,TA.perm hp' r.2⟩) (this w hw)
  ·rename_i hg
   rw [if_neg hg] at this
   exact ⟨this.1,TA.perm hp' this.2⟩
theorem MB {e:Env} {d:Nat} {v:Value} {x:Operand} (h:x≠.tmp d):(upd e d v).ev x=e.ev x:=by
 cases x with
 | tmp t=>exact m7 e v (fun he=>h (by rw [he]))
 | _=>rfl
theorem FQ {o:Oper} (hs:∀ cs b,o.op≠.select cs b) {e:Env} {d:Nat} {v:Value} (h:d∉o.looksAt ops):execOp (upd e d v).ev o=execOp e.ev o:=
 execOp_congr o hs fun x hx=>MB fun hxd=>h (by
  subst hxd
  exact List.mem_append_left _ (List.mem_filterMap.2 ⟨.tmp d,by simpa using hx,rfl⟩))
theorem BB {o:Oper} {e:Env} {d:Nat} {v:Value} (h:d∉o.looksAt ops):guardB ops (upd e d v) o=guardB ops e o:=by
 unfold guardB
 cases hg:o.guard with
 | none=>rfl
 | some gw=>
  obtain ⟨g,want⟩:=gw
  simp only
  cases ht:(ops[g]?).bind (·.dst) with
  | none=>rfl
  | some t=>
   have hne:t≠d:=fun e0=>h (by subst e0;simp [Oper.looksAt,hg,ht])
   simp only [m7 e v hne]
theorem IV {e:Env} {d d':Nat} {v v':Value} (h:d≠d'):upd (upd e d v) d' v'=upd (upd e d' v') d v:=by
 funext t
 by_cases h1:t=d
 ·subst h1
  rw [m7 _ _ h,wE,wE]
 ·by_cases h2:t=d'
  ·subst h2
   rw [wE,m7 _ _ h1,wE]
  ·rw [m7 _ _ h2,m7 _ _ h1,m7 _ _ h1,m7 _ _ h2]
theorem EJ (hsep:sepAll ops=true) {J:HF→LH→Prop} {i d:Nat} {oi:Oper} {v:Value} (hi:ops[i]? = some oi) (hd:oi.dst=some d):
  ∀ (m:Nat) (dn:List Nat) (e:Env) (h:HF) (L:LH),i∈nexts ops dn→J h L →
   ((guardB ops e oi=true∧∀ h' L',J h' L'→∀ w,St X h' L' w→(execOp e.ev oi).run P w=.ok (.value v) w)∨(guardB ops e oi=false∧v=undef)) →
   TA P b n ops k F ds X J m (i::dn) (upd e d v) h L→TA P b n ops k F ds X J (m+1) dn e h L:=by
 intro m
 induction m with
 | zero=>
  intro dn e h L hn hJ hy t
  simp only [TA] at t ⊢
  refine ⟨(fun h0=>by rw [h0] at hn;cases hn),fun j hj o ho=>?_⟩
  by_cases hji:j=i
  ·subst hji
   rw [hi] at ho;cases ho
   unfold Stp
   rcases hy with ⟨hg,hr⟩ | ⟨hg,rfl⟩
   ·rw [if_pos hg]
    intro w hw
    rw [hr h L hJ w hw]
    exact tB ⟨h,L,hw,hJ,by simp only [hd,pute];exact t⟩
   ·rw [if_neg (by simp [hg])]
    exact ⟨hJ,by simp only [hd,pute];exact t⟩
  ·have:=wg hj hji
   rw [t.1] at this;cases this
 | succ m ih=>
  intro dn e h L hn hJ hy t
  simp only [TA]
  refine ⟨(fun h0=>by rw [h0] at hn;cases hn),fun j hj o ho=>?_⟩
  by_cases hji:j=i
  ·subst hji
   rw [hi] at ho;cases ho
   unfold Stp
   rcases hy with ⟨hg,hr⟩ | ⟨hg,rfl⟩
   ·rw [if_pos hg]
    intro w hw
    rw [hr h L hJ w hw]
    exact tB ⟨h,L,hw,hJ,by simp only [hd,pute];exact t⟩
   ·rw [if_neg (by simp [hg])]
    exact ⟨hJ,by simp only [hd,pute];exact t⟩
  ·have hj':=wg hj hji
   simp only [TA] at t
   have hs:=t.2 j hj' o ho
   obtain ⟨hjn,oj',hoj',hjw⟩:=uR.1 hj
   rw [ho] at hoj';cases hoj'
   obtain ⟨hin,oi',hoi',hiw⟩:=uR.1 hn
   rw [hi] at hoi';cases hoi'
   have hap:=JF hsep hi ho hji (fun e0 he hb heq=>hin (heq ▸ hjw e0 he hb)) (fun e0 he hb heq=>hjn (heq ▸ hiw e0 he hb))
   obtain ⟨a1,a2,a3⟩:=Oper.apart_spec hap
   have hgj:=BB (e:=e) (v:=v) (a1 d hd)
   have hxj:=FQ (Gj hsep ho).1 (e:=e) (v:=v) (a1 d hd)
   have hin':i∈nexts ops (j::dn):=wg hn (Ne.symm hji)
   have key:∀ u h' L',J h' L'→TA P b n ops k F ds X J m (j::i::dn) (pute (upd e d v) o.dst u) h' L'→TA P b n ops k F ds X J (m+1) (j::dn) (pute e o.dst u) h' L':=by
    intro u h' L' hJ' tt
    have henv:pute (upd e d v) o.dst u=upd (pute e o.dst u) d v:=by
     cases hod:o.dst with
     | none=>rfl
     | some d'=>
      simp only [pute]
      exact IV (fun e0=>a2 d hd (by rw [hod,e0]))
    rw [henv] at tt
    refine ih (j::dn) _ h' L' hin' hJ' ?_ (TA.perm (fun x=>by simp [or_left_comm]) tt)
    cases hod:o.dst with
    | none=>simpa [pute] using hy
    | some d'=>
     simp only [pute]
     have h3:=a3 d' hod
     rw [BB h3,FQ (Gj hsep hi).1 h3]
     exact hy
   unfold Stp at hs ⊢
   rw [hgj,hxj] at hs
   split
   ·rename_i hg
    rw [if_pos hg] at hs
    exact fun w hw=>s9.mono (fun u h' L' r=>⟨r.1,key u h' L' r.1 r.2⟩) (hs w hw)
   ·rename_i hg
    rw [if_neg hg] at hs
    exact ⟨hs.1,key undef h L hs.1 hs.2⟩
theorem Mh (hsep:sepAll ops=true) (hsl:slotsIn ops n=true) {i:Nat} {o:Oper} (ho:ops[i]? = some o) {is:List Nat} {e:Env} {h:HF} {L:LH} {K:Env→HF→LH→Prop}
  (hK:∀ e' h' L',K e' h' L'→∀ w,St X h' L' w→∀ a cs Φ,a.tmps.size=n→envOf a=e'→a.defers=ds→F cs Φ→To P Φ (lone (b.atR a (.inRegion ops is::k)) cs w))
  (hs:Stp P b n ops F ds X o e h L K):
  ∀ w,St X h L w→∀ a cs Φ,a.tmps.size=n→envOf a=e→a.defers=ds→F cs Φ→To P Φ (lone (b.atR a (.inRegion ops (i::is)::k)) cs w):=by
 intro w hw a cs Φ hn he hds hF
 have hlt:=Mo hsl ho
 have hput:∀ v,envOf (a.put o.dst v)=pute e o.dst v:=fun v=>by rw [BV a o.dst v (fun x hx=>by rw [hn];exact hlt x hx),he]
 have hnd:=(Gj hsep ho).2
 unfold Stp at hs
 by_cases hg:guardB ops e o=true
 ·rw [if_pos hg] at hs
  have hwt:=(fq (ops:=ops) (o:=o) he).trans hg
  have hst:=stepGR_op (P:=P) (b:=b) (k:=k) (cs:=cs) (w:=w) (rest:=is) ho hwt
  have h1:=hs w hw
  have hret:∀ v w'',(∃ h' L',St X h' L' w''∧K (pute e o.dst v) h' L')→To P Φ (lone ((b.atR a (.inRegion ops (i::is)::k)).finish v) cs w''):=by
   rintro v w'' ⟨h',L',s,t⟩
   rw [gz a is k ho v]
   exact hK _ h' L' t w'' s (a.put o.dst v) cs Φ (by rw [mI];exact hn) (hput v) (by rw [kF];exact hds) hF
  have hpan:∀ ch w'',(∃ h' L',St X h' L' w''∧∀ e',TP P b n ch F e' ds X h' L')→To P Φ (lone ((b.atR a (.inRegion ops (i::is)::k)).raise ch) cs w''):=by
   rintro ch w'' ⟨h',L',s,t⟩
   exact t e w'' s a cs Φ _ hn he hds hF
  generalize hr:(execOp e.ev o).run P w=r at h1
  cases r with
  | halt x w'=>
   cases x with
   | panic v=>
    refine .step (step_lone_go (fr':={ b.atR a (.inRegion ops (i::is)::k) with mode:=.panicking [{ v,recovered:=false }] }) (cs':=cs) (w':=w') ?_) (hpan _ w' h1)
    rw [hst,jk _ _ hnd,jq,he,← Frame.raise_atR];simp [stepG.apply,hr]
   | _=>exact h1.elim
  | ok nx w'=>
   cases nx with
   | value v=>
    refine .step (step_lone_go (fr':=b.atR (a.put o.dst v) (.inRegion ops is::k)) (cs':=cs) (w':=w') ?_) ?_
    ·rw [hst,jk _ _ hnd,jq,he,← gz a is k ho v];simp [stepG.apply,hr]
    ·have:=hret v w' h1
     rw [gz a is k ho v] at this
     exact this
   | skip=>
    refine .step (step_lone_go (fr':=b.atR (a.put o.dst undef) (.inRegion ops is::k)) (cs':=cs) (w':=w') ?_) ?_
    ·rw [hst,jk _ _ hnd,jq,he,← gz a is k ho undef];simp [stepG.apply,hr]
    ·have:=hret undef w' h1
     rw [gz a is k ho undef] at this
     exact this
   | enter f args=>
    refine .step (step_lone_go (fr':=Frame.enter P f args .normal) (cs':=b.atR a (.inRegion ops (i::is)::k)::cs) (w':=w') ?_) ?_
    ·rw [hst,jk _ _ hnd,jq,he];simp [stepG.apply,hr,Frame.atR]
    ·exact h1 _ cs Φ (fun v w'' r=>hret v w'' r) (fun ch w'' r=>hpan ch w'' r)
   | round lp f tmps assign body=>
    refine .step (step_lone_go (fr':=Frame.round lp f tmps assign body .normal) (cs':=b.atR a (.inRegion ops (i::is)::k)::cs) (w':=w') ?_) ?_
    ·rw [hst,jk _ _ hnd,jq,he];simp [stepG.apply,hr,Frame.atR]
    ·exact h1 _ cs Φ (fun v w'' r=>hret v w'' r) (fun ch w'' r=>hpan ch w'' r)
   | _=>exact h1.elim
 ·rw [if_neg hg] at hs
  have hg':guardB ops e o=false:=by simpa using hg
  have hwt:=(fq (ops:=ops) (o:=o) he).trans hg'
  have hst:=stepR_op_skip (P:=P) (b:=b) (a:=a) (k:=k) (cs:=cs) (w:=w) (ops:=ops) (i:=i) (rest:=is) (by simp [ho,hwt])
  simp only [ho,Option.bind_some] at hst
  exact .step hst (hK _ h L hs w hw (a.put o.dst undef) cs Φ (by rw [mI];exact hn) (hput undef) (by rw [kF];exact hds) hF)
theorem E2 {listed:Array Bool} {dn:List Nat} (hl:∀ j,j < ops.size→listed.getD j true=dn.contains j) (hl':∀ j,listed.getD j false=true→j∈dn) (hdn:∀ j∈dn,listed.getD j false=true):
  Region.ready .any ops listed=nexts ops dn:=by
 unfold Region.ready nexts
 apply List.filter_congr
 intro i hi
 rw [List.mem_range] at hi
 rw [hl i hi]
 congr 1
 cases ho:ops[i]? with
 | none=>rfl
 | some o=>
  simp only [Option.map_some,Option.getD_some]
  congr 1
  funext e
  congr 1
  rw [Bool.eq_iff_iff]
  simp only [List.contains_eq_mem,decide_eq_true_eq]
  exact ⟨hl' _,hdn _⟩
theorem Jx (hsep:sepAll ops=true) (hsl:slotsIn ops n=true) {J:HF→LH→Prop}:∀ (m t:Nat) (listed:Array Bool) (dn:List Nat) (e:Env) (h:HF) (L:LH),
  listed.size=ops.size→(∀ j,j < ops.size→listed.getD j true=dn.contains j)→(∀ j∈dn,j < ops.size) →
  TA P b n ops k F ds X J m dn e h L→∀ w,St X h L w→∀ a cs Φ,a.tmps.size=n→envOf a=e→a.defers=ds→F cs Φ →
   To P Φ (lone (b.atR a (.inRegion ops (Region.linearise.go .any ops m t listed [])::k)) cs w):=by
 intro m
 induction m with
 | zero=>
  intro t listed dn e h L _ _ _ ta w hw a cs Φ hn he hds hF
  simp only [TA] at ta
  exact .step stepR_region_end (ta.2 w hw a cs Φ hn he hds hF)
 | succ m ih=>
  intro t listed dn e h L hsz hl hdn ta w hw a cs Φ hn he hds hF
  have hfalse:∀ j,listed.getD j false=true→j∈dn:=by
   intro j hj
   have hlt:j < ops.size:=by
    rcases Nat.lt_or_ge j ops.size with q | q
    ·exact q
    ·rw [← hsz] at q;simp [Array.getD_eq_getD_getElem?,Array.getElem?_eq_none q] at hj
   have h2:=hl j hlt
   have h3:listed.getD j true=listed.getD j false:=by
    simp [Array.getD_eq_getD_getElem?,Array.getElem?_eq_getElem (hsz ▸ hlt)]
   rw [h3,hj] at h2
   simpa using h2.symm
  have htrue:∀ j∈dn,listed.getD j false=true:=by
   intro j hj
   have hlt:=hdn j hj
   have h2:=hl j hlt
   have h3:listed.getD j true=listed.getD j false:=by
    simp [Array.getD_eq_getD_getElem?,Array.getElem?_eq_getElem (hsz ▸ hlt)]
   rw [← h3,h2];simpa using hj
  have hrd:=E2 (ops:=ops) hl hfalse htrue
  simp only [TA] at ta
  simp only [Region.linearise.go]
  change To P Φ (lone (b.atR a (.inRegion ops (match (Region.ready .any ops listed)[t % (Region.ready .any ops listed).length]? with
   | some i=>Region.linearise.go .any ops m (t / (Region.ready .any ops listed).length) (listed.setIfInBounds i true) [i]
   | none=>[].reverse)::k)) cs w)
  rw [hrd]
  cases hi:(nexts ops dn)[t % (nexts ops dn).length]? with
  | none=>
   have hnil:nexts ops dn=[]:=by
    cases hr:nexts ops dn with
    | nil=>rfl
    | cons x xs=>
     rw [hr] at hi
     have hlt:t % (x::xs).length < (x::xs).length:=Nat.mod_lt _ (by simp)
     simp at hi
     simp at hlt
     omega
   exact .step stepR_region_end (ta.1 hnil w hw a cs Φ hn he hds hF)
  | some i=>
   have him:=List.mem_of_getElem? hi
   obtain ⟨hin,o,ho,_⟩:=uR.1 him
   have hilt:i < ops.size:=(Array.getElem?_eq_some_iff.1 ho).1
   simp only []
   rw [linearise_go_acc,List.reverse_singleton,List.singleton_append]
   refine Mh hsep hsl ho ?_ (ta.2 i him o ho) w hw a cs Φ hn he hds hF
   intro e' h' L' hK w' hw' a' cs' Φ' hn' he' hds' hF'
   refine ih _ (listed.setIfInBounds i true) (i::dn) e' h' L' (by simpa using hsz) ?_ ?_ hK.2 w' hw' a' cs' Φ' hn' he' hds' hF'
   ·intro j hj
    by_cases e0:i=j
    ·subst e0
     have:i < listed.size:=hsz ▸ hilt
     simp [Array.getD_eq_getD_getElem?,this]
    ·have hc:(i::dn).contains j=dn.contains j:=by
      rw [Bool.eq_iff_iff];simp [Ne.symm e0]
     rw [hc,← hl j hj]
     simp [Array.getD_eq_getD_getElem?,Array.getElem?_setIfInBounds_ne e0]
   ·intro j hj
    rcases List.mem_cons.1 hj with rfl | hj
    ·exact hilt
    ·exact hdn j hj
def Jst (h1:HF) (K:LH) (h':HF) (L':LH):Prop:=h1.le h'∧∀ p∈K,p∈L'
theorem Jst.nth {h1:HF} {K:LH} {h':HF} {L':LH} (j:Jst h1 K h' L') {i:Nat} {p:Nat×Obj} (hp:nth K i=some p):p∈L':=by
 rw [gP] at hp
 exact j.2 p (List.mem_of_getElem? hp)
theorem Jst.start (h:HF) (L:LH):Jst h L h L:=⟨HF.le_refl h,fun _ hp=>hp⟩
theorem Jst.cons {h1:HF} {K:LH} {h':HF} {L':LH} (j:Jst h1 K h' L') (p:Nat×Obj):Jst h1 K h' (p::L'):=⟨j.1,fun q hq=>List.mem_cons_of_mem _ (j.2 q hq)⟩
theorem Jst.up {h1:HF} {K:LH} {h' h'':HF} {L':LH} (j:Jst h1 K h' L') (hl:h'.le h''):Jst h1 K h'' L':=⟨HF.le_trans j.1 hl,j.2⟩
theorem Jst.app {h1:HF} {K:LH} {h':HF} {L':LH} (j:Jst h1 K h' L') (B:LH):Jst h1 K h' (B++L'):=⟨j.1,fun q hq=>List.mem_append_right _ (j.2 q hq)⟩
theorem eQ (K:LH) {id:Nat} {l:List Oper} {e:Env} {h:HF} {L:LH} (hm:P.follows .mixedOrders=true) (hchk:(sepAll l.toArray&&slotsIn l.toArray n)=true) (hK:Jst h K h L)
  (t:sepAll l.toArray=true→Jst h K h L→TA P b n l.toArray k F ds X (Jst h K) l.length [] e h L):TT P b n (.code (.region id l.toArray true)::k) F e ds X h L:=by
 intro w hw a cs Φ hn he hds hF
 simp only [Bool.and_eq_true] at hchk
 refine .step stepR_region_draw ?_
 simp only [Region.schedule,hm,Bool.true_or,if_true,Region.linearise]
 refine Jx hchk.1 hchk.2 l.length _ _ [] e h L (by simp) ?_ (by simp) (t hchk.1 hK) _ (hw.drew _) a cs Φ hn he hds hF
 intro j hj
 simp at hj
 simp [Array.getD_eq_getD_getElem?,hj]
theorem dX (i:Nat) {l:List Oper} {h1:HF} {K:LH} {m d:Nat} {oi:Oper} {v:Value} {dn:List Nat} {e:Env} {h:HF} {L:LH} (hsep:sepAll l.toArray=true) (hJ:Jst h1 K h L)
  (hi:nth l i=some oi) (hd:oi.dst=some d) (hn:(nexts l.toArray dn).contains i=true) (hg:guardB l.toArray e oi=true)
  (hr:∀ h' L',Jst h1 K h' L'→∀ w,St X h' L' w→(execOp e.ev oi).run P w=.ok (.value v) w)
  (t:TA P b n l.toArray k F ds X (Jst h1 K) m (i::dn) (upd e d v) h L):TA P b n l.toArray k F ds X (Jst h1 K) (m+1) dn e h L:=
 EJ hsep (by rw [gP] at hi;simpa using hi) hd m dn e h L (by simpa using hn) hJ (.inl ⟨hg,hr⟩) t
theorem ld (i:Nat) {l:List Oper} {h1:HF} {K:LH} {m d:Nat} {oi:Oper} {dn:List Nat} {e:Env} {h:HF} {L:LH} (hsep:sepAll l.toArray=true) (hJ:Jst h1 K h L)
  (hi:nth l i=some oi) (hd:oi.dst=some d) (hn:(nexts l.toArray dn).contains i=true) (hg:guardB l.toArray e oi=false)
  (t:TA P b n l.toArray k F ds X (Jst h1 K) m (i::dn) (upd e d undef) h L):TA P b n l.toArray k F ds X (Jst h1 K) (m+1) dn e h L:=
 EJ hsep (by rw [gP] at hi;simpa using hi) hd m dn e h L (by simpa using hn) hJ (.inr ⟨hg,rfl⟩) t
theorem mF (i:Nat) {l:List Oper} {h1:HF} {K:LH} {m:Nat} {oi:Oper} {dn:List Nat} {e:Env} {h:HF} {L:LH} (hn:nexts l.toArray dn=[i]) (hi:nth l i=some oi)
  (t:Stp P b n l.toArray F ds X oi e h L fun e' h' L'=>Jst h1 K h' L'∧TA P b n l.toArray k F ds X (Jst h1 K) m (i::dn) e' h' L'):TA P b n l.toArray k F ds X (Jst h1 K) (m+1) dn e h L:=by
 rw [gP] at hi
 refine ⟨(fun h0=>by rw [hn] at h0;cases h0),fun j hj o ho=>?_⟩
 rw [hn,List.mem_singleton] at hj
 subst hj
 have:l.toArray[j]? = some oi:=by simpa using hi
 rw [this] at ho;cases ho
 exact t
theorem K9 {l:List Oper} {J:HF→LH→Prop} {m:Nat} {dn:List Nat} {e:Env} {h:HF} {L:LH} (is:List Nat) (hn:nexts l.toArray dn=is) (h0:is≠[])
  (t:∀ i∈is,∀ o,nth l i=some o→Stp P b n l.toArray F ds X o e h L fun e' h' L'=>J h' L'∧TA P b n l.toArray k F ds X J m (i::dn) e' h' L'):TA P b n l.toArray k F ds X J (m+1) dn e h L:=by
 refine ⟨fun h1=>absurd (hn ▸ h1) h0,fun j hj o ho=>?_⟩
 rw [hn] at hj
 exact t j hj o (by rw [gP];simpa using ho)
theorem aW {J:HF→LH→Prop} {l:List Oper} {dn:List Nat} {e:Env} {h:HF} {L:LH} (hn:nexts l.toArray dn=[]) (t:TT P b n k F e ds X h L):TA P b n l.toArray k F ds X J 0 dn e h L:=⟨hn,t⟩
theorem dt {J:HF→LH→Prop} {dn:List Nat} {e:Env} {h:HF} {L:LH} {m:Nat} {x:Bool} (d:Nat) (hs:e d=.bool x) (h1:x=true→TA P b n ops k F ds X J m dn (upd e d (.bool true)) h L)
  (h0:x=false→TA P b n ops k F ds X J m dn (upd e d (.bool false)) h L):TA P b n ops k F ds X J m dn e h L:=by
 cases x with
 | true=>have:=h1 rfl;rw [← hs,tC] at this;exact this
 | false=>have:=h0 rfl;rw [← hs,tC] at this;exact this
def slotOk (n:Nat):Option Nat→Bool
 | some d=>Nat.blt d n
 | none=>true
theorem aF {l:List Oper} {o:Oper} {e:Env} {h:HF} {L:LH} (s:Stp P b n ops F ds X o e h L fun e' h' L'=>TO P b n ops l k F e' ds X h' L')
  (hnd:noDefer o.op=true:=by rfl) (hso:slotOk n o.dst=true:=by rfl):TO P b n ops (o::l) k F e ds X h L:=by
 intro w hw is hi a cs Φ hn he hds hF
 have hsl:∀ d,o.dst=some d→d < n:=fun d hd=>by rw [hd] at hso;exact m6 hso
 obtain ⟨i,js,rfl,ho,hj⟩:=nw hi
 have hput:∀ v,envOf (a.put o.dst v)=pute e o.dst v:=fun v=>by rw [BV a o.dst v (fun x hx=>by rw [hn];exact hsl x hx),he]
 unfold Stp at s
 by_cases hg:guardB ops e o=true
 ·rw [if_pos hg] at s
  have hwt:=(fq (ops:=ops) (o:=o) he).trans hg
  have hst:=stepGR_op (P:=P) (b:=b) (k:=k) (cs:=cs) (w:=w) (rest:=js) ho hwt
  have h1:=s w hw
  have hret:∀ v w'',(∃ h' L',St X h' L' w''∧TO P b n ops l k F (pute e o.dst v) ds X h' L')→To P Φ (lone ((b.atR a (.inRegion ops (i::js)::k)).finish v) cs w''):=by
   rintro v w'' ⟨h',L',s,t⟩
   rw [gz a js k ho v]
   exact t w'' s js hj (a.put o.dst v) cs Φ (by rw [mI];exact hn) (hput v) (by rw [kF];exact hds) hF
  have hpan:∀ ch w'',(∃ h' L',St X h' L' w''∧∀ e',TP P b n ch F e' ds X h' L')→To P Φ (lone ((b.atR a (.inRegion ops (i::js)::k)).raise ch) cs w''):=by
   rintro ch w'' ⟨h',L',s,t⟩
   exact t e w'' s a cs Φ _ hn he hds hF
  generalize hr:(execOp e.ev o).run P w=r at h1
  cases r with
  | halt x w'=>
   cases x with
   | panic v=>
    refine .step (step_lone_go (fr':={ b.atR a (.inRegion ops (i::js)::k) with mode:=.panicking [{ v,recovered:=false }] }) (cs':=cs) (w':=w') ?_) (hpan _ w' h1)
    rw [hst,jk _ _ hnd,jq,he,← Frame.raise_atR];simp [stepG.apply,hr]
   | _=>exact h1.elim
  | ok nx w'=>
   cases nx with
   | value v=>
    refine .step (step_lone_go (fr':=b.atR (a.put o.dst v) (.inRegion ops js::k)) (cs':=cs) (w':=w') ?_) ?_
    ·rw [hst,jk _ _ hnd,jq,he,← gz a js k ho v];simp [stepG.apply,hr]
    ·have:=hret v w' h1
     rw [gz a js k ho v] at this
     exact this
   | skip=>
    refine .step (step_lone_go (fr':=b.atR (a.put o.dst undef) (.inRegion ops js::k)) (cs':=cs) (w':=w') ?_) ?_
    ·rw [hst,jk _ _ hnd,jq,he,← gz a js k ho undef];simp [stepG.apply,hr]
    ·have:=hret undef w' h1
     rw [gz a js k ho undef] at this
     exact this
   | enter f args=>
    refine .step (step_lone_go (fr':=Frame.enter P f args .normal) (cs':=b.atR a (.inRegion ops (i::js)::k)::cs) (w':=w') ?_) ?_
    ·rw [hst,jk _ _ hnd,jq,he];simp [stepG.apply,hr,Frame.atR]
    ·exact h1 _ cs Φ (fun v w'' r=>hret v w'' r) (fun ch w'' r=>hpan ch w'' r)
   | round lp f tmps assign body=>
    refine .step (step_lone_go (fr':=Frame.round lp f tmps assign body .normal) (cs':=b.atR a (.inRegion ops (i::js)::k)::cs) (w':=w') ?_) ?_
    ·rw [hst,jk _ _ hnd,jq,he];simp [stepG.apply,hr,Frame.atR]
    ·exact h1 _ cs Φ (fun v w'' r=>hret v w'' r) (fun ch w'' r=>hpan ch w'' r)
   | _=>exact h1.elim
 ·rw [if_neg hg] at s
  have hg':guardB ops e o=false:=by simpa using hg
  have hwt:=(fq (ops:=ops) (o:=o) he).trans hg'
  have hst:=stepR_op_skip (P:=P) (b:=b) (a:=a) (k:=k) (cs:=cs) (w:=w) (ops:=ops) (i:=i) (rest:=js) (by simp [ho,hwt])
  simp only [ho,Option.bind_some] at hst
  exact .step hst (s w hw js hj (a.put o.dst undef) cs Φ (by rw [mI];exact hn) (hput undef) (by rw [kF];exact hds) hF)
end
end Go.Sg
namespace Go.Sg
section runs
variable {P:Program} {e:Env} {X:Cx} {h:HF} {L:LH} {d:Option Nat} {ty:TypeId} {pos:String} {af:Array Edge} {g:Option (Nat×Bool)}
theorem jE {x:Operand}:∀ w,St X h L w→(execOp e.ev ⟨d,.move x,ty,pos,af,g⟩).run P w=.ok (.value (e.ev x)) w:=fun w _=>by simp [execOp]
theorem ua {x:Operand}:∀ w,St X h L w→(execOp e.ev ⟨d,.assign x,ty,pos,af,g⟩).run P w=.ok (.value (e.ev x)) w:=fun w _=>by simp [execOp]
theorem Gt {c x y:Operand} {s:Bool} (hc:e.ev c=.bool s):∀ w,St X h L w→(execOp e.ev ⟨d,.pick c x y,ty,pos,af,g⟩).run P w=.ok (.value (bif s then e.ev x else e.ev y)) w:=
 fun w _=>by cases s <;> simp [execOp,hc,asBool]
theorem J5 {op:BinOp} {t u:TypeId} {x y:Operand} {v:Value} (hv:binV op (e.ev x) (e.ev y)=some v):∀ w,St X h L w→(execOp e.ev ⟨d,.binOp op t x y u,ty,pos,af,g⟩).run P w=.ok (.value v) w:=
 fun w _=>by
  have:=AG (P:=P) (t:=t) (x:=x) (y:=y) hv w
  simp only [execOp,Sem.run_bind] at this ⊢
  simp [this]
theorem np {op:BinOp} {t u:TypeId} {x y:Operand} {v v':Value} (hv:binV op (e.ev x) (e.ev y)=some v) (hvv:v=v'):∀ w,St X h L w→(execOp e.ev ⟨d,.binOp op t x y u,ty,pos,af,g⟩).run P w=.ok (.value v') w:=
 hvv ▸ J5 hv
theorem uN {x:Operand} {i:Nat} {vs:List Value} {v:Value} (hx:e.ev x=.tuple vs.toArray) (hv:nth vs i=some v):∀ w,St X h L w→(execOp e.ev ⟨d,.extract x i,ty,pos,af,g⟩).run P w=.ok (.value v) w:=
 fun w _=>by rw [gP] at hv;simp [execOp,hx,Instr.extract,hv]
theorem E4 {x:Operand} {t E:TypeId} {base:Option Addr} {m c:Nat} (hT:P.underlying t=some (.slice E)) (hx:e.ev x=.slice base m c):
  ∀ w,St X h L w→(execOp e.ev ⟨d,.call ⟨.builtin .len,#[x],#[t]⟩,ty,pos,af,g⟩).run P w=.ok (.value (.int .i64 (m:Nat))) w:=
 fun w _=>by simp [execOp,resolve,invoke,builtin,Builtin.len_,hx,run_underlying hT,goInt]
theorem xV {x:Operand} {t:TypeId} {s:ByteArray} (hT:P.underlying t=some .string) (hx:e.ev x=.string s):
  ∀ w,St X h L w→(execOp e.ev ⟨d,.call ⟨.builtin .len,#[x],#[t]⟩,ty,pos,af,g⟩).run P w=.ok (.value (.int .i64 (s.size:Nat))) w:=
 fun w _=>by simp [execOp,resolve,invoke,builtin,Builtin.len_,hx,run_underlying hT,goInt]
theorem jS {s:TypeId} {x:Operand} {i off:Nat} {q:Addr} (hf:fldOf P s i=some off) (hx:e.ev x=.pointer (some q)):
  ∀ w,St X h L w→(execOp e.ev ⟨d,.fieldAddr s x i,ty,pos,af,g⟩).run P w=.ok (.value (.pointer (some (q.add off)))) w:=fun w _=>by
 unfold fldOf at hf
 split at hf
 ·rename_i fs hu
  split at hf
  ·rename_i f hfi
   split at hf
   ·rename_i ti hti
    cases hz:Nat.beq ti.size 0 with
    | true=>simp [hz] at hf
    | false=>
     simp only [hz,cond_false,Option.some.injEq] at hf
     have hne:ti.size≠0:=fun e0=>by rw [e0] at hz;cases hz
     subst hf
     simp [execOp,Instr.fieldAt,run_underlying hu,hfi,hx,Instr.sureAddr,fieldPlace,sizeOf,typeInfo,hti,hne]
   ·cases hf
  ·cases hf
 ·cases hf
theorem cellM {w:World} (s:St X h L w) {bk T:Nat} {cl:List Value} {fz:Nat×Nat} (hL:(bk,Obj.cells cl.toArray T fz)∈L) {off:Nat} {v:Value} (hv:nth cl off=some v):w.cell? ⟨bk,off,none⟩=some v:=by
 rw [gP] at hv
 have:=s.own _ hL
 simp only at this
 simp [World.cell?,this,hv]
theorem fH {t:TypeId} {x:Operand} {m bk off T:Nat} {fz:Nat×Nat} {cl:List Value} {v:Value} (hT:tySz P t=some (m,false)) (hx:e.ev x=.pointer (some ⟨bk,off,none⟩))
  (hL:(bk,Obj.cells cl.toArray T fz)∈L) (hv:nth cl off=some v):∀ w,St X h L w→(execOp e.ev ⟨d,.load t x,ty,pos,af,g⟩).run P w=.ok (.value v) w:=
 fun w hw=>by simp [execOp,Instr.loadAt,hx,Instr.sureAddr,nl hT (cellM hw hL hv)]
theorem je {t:TypeId} {x:Operand} {m bk off T:Nat} {fz:Nat×Nat} {cl cs:List Value} (hT:tySz P t=some (m,true)) (hx:e.ev x=.pointer (some ⟨bk,off,none⟩))
  (hL:(bk,Obj.cells cl.toArray T fz)∈L) (hv:cut cl off m=some cs):∀ w,St X h L w→(execOp e.ev ⟨d,.load t x,ty,pos,af,g⟩).run P w=.ok (.value (.agg cs.toArray)) w:=
 fun w hw=>by
  obtain ⟨h1,h2⟩:=xF hv
  subst h1
  have:∀ j v,cs[j]? = some v→w.cell? ((⟨bk,off,none⟩:Addr).add j)=some v:=by
   intro j v hj
   have:=cellM hw hL (h2 j v hj)
   by_cases e0:j=0
   ·subst e0;simpa [Addr.add] using this
   ·simpa [Addr.add,e0] using this
  simp [execOp,Instr.loadAt,hx,Instr.sureAddr,nk hT this]
theorem jK {t:TypeId} {x:Operand} {m:Nat} (j:Nat) {q:Addr} {cs:List Value} {v:Value} (hT:tySz P t=some (m,false)) (ha:At h q cs) (hx:e.ev x=.pointer (some (q.add j)))
  (hv:nth cs j=some v):∀ w,St X h L w→(execOp e.ev ⟨d,.load t x,ty,pos,af,g⟩).run P w=.ok (.value v) w:=
 fun w hw=>by
  rw [gP] at hv
  simp [execOp,Instr.loadAt,hx,Instr.sureAddr,nl hT (ha.cell hw hv)]
theorem eV {t:TypeId} {x:Operand} {m:Nat} {q:Addr} {cs:List Value} {v:Value} (hT:tySz P t=some (m,false)) (ha:At h q (v::cs)) (hx:e.ev x=.pointer (some q)):
  ∀ w,St X h L w→(execOp e.ev ⟨d,.load t x,ty,pos,af,g⟩).run P w=.ok (.value v) w:=
 jK 0 hT ha (by simp [Addr.add,hx]) rfl
theorem J1 {t:TypeId} {x:Operand} {m:Nat} (j:Nat) {q:Addr} {cs cs':List Value} (hT:tySz P t=some (m,true)) (ha:At h q cs) (hx:e.ev x=.pointer (some (q.add j)))
  (hv:cut cs j m=some cs'):∀ w,St X h L w→(execOp e.ev ⟨d,.load t x,ty,pos,af,g⟩).run P w=.ok (.value (.agg cs'.toArray)) w:=
 fun w hw=>by
  obtain ⟨h1,h2⟩:=xF hv
  subst h1
  have hsp:q.spot=none:=by obtain ⟨_,_,_,_,h2,_⟩:=ha;exact h2
  have:∀ i v,cs'[i]? = some v→w.cell? ((q.add j).add i)=some v:=by
   intro i v hi
   have:=h2 i v hi
   rw [gP] at this
   rw [sR q j i hsp]
   exact ha.cell hw this
  simp [execOp,Instr.loadAt,hx,Instr.sureAddr,nk hT this]
theorem j9 {t:TypeId} {x:Operand} {m:Nat} {q:Addr} {cs:List Value} (hT:tySz P t=some (m,true)) (ha:At h q cs) (hm:cs.length=m) (hx:e.ev x=.pointer (some q)):
  ∀ w,St X h L w→(execOp e.ev ⟨d,.load t x,ty,pos,af,g⟩).run P w=.ok (.value (.agg cs.toArray)) w:=
 J1 0 hT ha (by simp [Addr.add,hx]) (by subst hm;exact H4 cs)
theorem yR {t E:TypeId} {x ix:Operand} {m i sz:Nat} {a:Bool} {p:Addr} {cap:Nat} (hT:P.underlying t=some (.slice E)) (hS:tySz P E=some (sz,a)) (hx:e.ev x=.slice (some p) m cap)
  (hix:e.ev ix=.int .i64 (i:Nat)) (hi:i < m):∀ w,St X h L w→(execOp e.ev ⟨d,.indexAddr t x ix,ty,pos,af,g⟩).run P w=.ok (.value (.pointer (some (p.add (i * sz))))) w:=
 fun w _=>by
  have:(i:Int) < (m:Int):=by omega
  simp [execOp,Instr.indexAt,hix,hx,asIntOf,run_underlying hT,iy hS,hi]
end runs
section anyidx
variable {P:Program} {b:Frame} {n:Nat} {k:List Item} {F:List Frame→(Machine→Prop)→Prop} {ds:List Deferred} {X:Cx}
end anyidx
section steps
variable {P:Program} {b:Frame} {n:Nat} {ops:Array Oper} {F:List Frame→(Machine→Prop)→Prop} {e:Env} {ds:List Deferred} {X:Cx} {h:HF} {L:LH} {K:Env→HF→LH→Prop}
variable {d:Option Nat} {ty:TypeId} {pos:String} {af:Array Edge} {g:Option (Nat×Bool)}
theorem iN {op:Op} (hg:guardB ops e ⟨d,op,ty,pos,af,g⟩=true) (t:∀ w,St X h L w→∃ v w' h' L',(execOp e.ev ⟨d,op,ty,pos,af,g⟩).run P w=.ok (.value v) w'∧St X h' L' w'∧K (pute e d v) h' L'):
  Stp P b n ops F ds X ⟨d,op,ty,pos,af,g⟩ e h L K:=by
 unfold Stp
 rw [if_pos hg]
 intro w hw
 obtain ⟨v,w',h',L',hr,hs,hk⟩:=t w hw
 rw [hr]
 exact tB ⟨h',L',hs,hk⟩
theorem fg {op:Op} {v:Value} (hr:∀ w,St X h L w→(execOp e.ev ⟨d,op,ty,pos,af,g⟩).run P w=.ok (.value v) w) (t:K (pute e d v) h L) (hg:guardB ops e ⟨d,op,ty,pos,af,g⟩=true:=by rfl):
  Stp P b n ops F ds X ⟨d,op,ty,pos,af,g⟩ e h L K:=
 iN hg fun w hw=>⟨v,w,h,L,hr w hw,hw,t⟩
theorem MK {t:TypeId} {x:Operand} (t':∀ bk,K (pute e d (.pointer (some ⟨bk,0,none⟩))) h ((bk,.cells (vcells (e.ev x)).toArray t (0,0))::L))
  (hg:guardB ops e ⟨d,.box t x,ty,pos,af,g⟩=true:=by rfl):Stp P b n ops F ds X ⟨d,.box t x,ty,pos,af,g⟩ e h L K:=
 iN hg fun w hw=>⟨_,_,h,_,by simp [execOp,Instr.box,newVar,newRow,lC],hw.alloc _,t' _⟩
theorem su {t:TypeId} {zs:List Value} (hz:zeroC P t=some zs) (t':∀ bk,K (pute e d (.pointer (some ⟨bk,0,none⟩))) h ((bk,.cells zs.toArray t (0,0))::L))
  (hg:guardB ops e ⟨d,.alloc t,ty,pos,af,g⟩=true:=by rfl):Stp P b n ops F ds X ⟨d,.alloc t,ty,pos,af,g⟩ e h L K:=
 iN hg fun w hw=>by
  obtain ⟨z,h1,h2⟩:=pu hz w
  exact ⟨_,_,h,_,by simp [execOp,Instr.alloc,h1,newVar,newRow,h2],hw.alloc _,t' _⟩
theorem jX (i:Nat) {t:TypeId} {x y:Operand} {m bk off T:Nat} {a:Bool} {cl vs:List Value} (hT:tySz P t=some (m,a)) (hx:e.ev x=.pointer (some ⟨bk,off,none⟩))
  (hL:nth L i=some (bk,.cells cl.toArray T (0,0))) (hv:vcells (e.ev y)=vs) (hm:vs.length=m) (hle:Nat.ble (off+vs.length) cl.length=true) (h1:vs.all one=true)
  (t':K e h (setNth L i (bk,.cells (splice cl off vs).toArray T (0,0))))
  (hg:guardB ops e ⟨none,.store t x y,ty,pos,af,g⟩=true:=by rfl):Stp P b n ops F ds X ⟨none,.store t x y,ty,pos,af,g⟩ e h L K:=by
 unfold Stp
 rw [if_pos hg]
 intro w hw
 have hb:w.heap[bk]? = some (.cells cl.toArray T (0,0)):=by
  have h2:=hL
  rw [gP] at h2
  exact hw.own _ (List.mem_of_getElem? h2)
 have hsize:(e.ev y).cells.size=m:=by rw [lC,hv];simpa using hm
 have hlist:(e.ev y).cells.toList=vs:=by rw [lC,hv]
 have:=lj (P:=P) off vs 0 cl w hb (by simpa using Nat.le_of_ble_eq_true hle) (by simpa using h1)
 simp only [Nat.add_zero] at this
 have hr:(execOp e.ev ⟨none,.store t x y,ty,pos,af,g⟩).run P w=.ok .skip { w with heap:=w.heap.setIfInBounds bk (.cells (splice cl off vs).toArray T (0,0)) }:=by
  simp [execOp,Instr.storeAt,hx,Instr.sureAddr,storeVar,iy hT,hsize,hlist,this]
 rw [hr]
 exact ⟨h,_,hw.write hL _,t'⟩
theorem lF {f:FuncId} {as:Array Operand} {ats:Array TypeId} {vs:List Value} {A Fr:LH} {R:Ending→HF→LH→Prop}
  (hc:∀ args w,(callFunc f args).run P w=.ok (.enter f args) w) (hvs:as.toList.map e.ev=vs) (hs:mP P f vs.toArray h A R) (hL:L=A++Fr)
  (t':∀ v h' B,h.le h'→R (.returned v) h' B→K (pute e d v) h' (B++Fr))
  (tp:∀ ch h' B,h.le h'→R (.panicked ch) h' B→∀ e',TP P b n ch F e' ds X h' (B++Fr))
  (hg:guardB ops e ⟨d,.call ⟨.value (.func f),as,ats⟩,ty,pos,af,g⟩=true:=by rfl):
  Stp P b n ops F ds X ⟨d,.call ⟨.value (.func f),as,ats⟩,ty,pos,af,g⟩ e h L K:=by
 unfold Stp
 rw [if_pos hg]
 intro w hw
 subst hL
 have harr:as.map e.ev=vs.toArray:=Array.ext' (by simp [← hvs])
 have hr:(execOp e.ev ⟨d,.call ⟨.value (.func f),as,ats⟩,ty,pos,af,g⟩).run P w=.ok (.enter f vs.toArray) w:=by
  simp [execOp,resolve,Env.ev,Deferred.ofValue,invoke,harr,hc]
 rw [hr]
 refine kD (by simp) (jD (o9.mono (hs w hw.pre.left) ?_))
 rintro x w' ⟨h',B,hst,hR⟩
 cases x with
 | returned v=>exact ⟨h',_,hw.after hst,t' v h' B hst.le hR⟩
 | panicked ch=>exact ⟨h',_,hw.after hst,tp ch h' B hst.le hR⟩
 | outgrown=>trivial
theorem eP {f:FuncId} {as:Array Operand} {ats:Array TypeId} {vs:List Value} {v:Value}
  (hc:∀ args w,(callFunc f args).run P w=.ok (.enter f args) w) (hs:Ret P f vs h v) (hvs:as.toList.map e.ev=vs)
  (t':K (pute e d v) h L)
  (hg:guardB ops e ⟨d,.call ⟨.value (.func f),as,ats⟩,ty,pos,af,g⟩=true:=by rfl):
  Stp P b n ops F ds X ⟨d,.call ⟨.value (.func f),as,ats⟩,ty,pos,af,g⟩ e h L K:=
 lF (A:=[]) (Fr:=L) hc hvs hs rfl (fun v' h' B _ hR=>by obtain ⟨h1,h2,h3⟩:=hR;cases h1;subst h2 h3;exact t')
  (fun ch h' B _ hR=>by obtain ⟨h1,_,_⟩:=hR;cases h1) hg
theorem bV {t E:TypeId} {len sz:Nat} {a:Bool} {parts:Array (Nat×Operand)} {zs cells:List Value} (hT:P.underlying t=some (.slice E)) (hS:tySz P E=some (sz,a)) (hz:zeroC P E=some zs) (hpos:Nat.blt 0 (len * sz)=true)
  (hlt:Nat.ble (len * sz) 16777216=true)
  (hc:Instr.fill (fun i=>some (i * sz,sz)) ((Array.range (len * sz)).map (zs.toArray[· % zs.toArray.size]!)) (parts.toList.map fun p=>(p.1,e.ev p.2))=some cells.toArray)
  (t':∀ bk,K (pute e d (.slice (some ⟨bk,0,none⟩) len len)) h ((bk,.cells cells.toArray E (0,0))::L))
  (hg:guardB ops e ⟨d,.buildSlice t len parts,ty,pos,af,g⟩=true:=by rfl):Stp P b n ops F ds X ⟨d,.buildSlice t len parts,ty,pos,af,g⟩ e h L K:=
 iN hg fun w hw=>by
  obtain ⟨z,h1,h2⟩:=pu hz w
  have hp:=m6 hpos
  have hl:=Nat.le_of_ble_eq_true hlt
  have hparts:(parts.map fun x=>(x.1,e.ev x.2)).toList=parts.toList.map fun p=>(p.1,e.ev p.2):=by simp
  refine ⟨_,_,h,_,?_,hw.alloc _,t' _⟩
  have hne:¬ len * sz=0:=by omega
  have hnl:¬ len * sz > 2 ^ 24:=by omega
  simp only [execOp,Instr.buildSlice,Sem.run_bind,run_underlying hT,Result.andThen_ok,iy hS,hnl,hne,if_false,h1,h2,Sem.run_pure,hparts]
  rw [hc]
  simp [newRow]
theorem et {fn:Fn} {first captured:Array Operand} {fl cl:List Value} (h1:first.toList.map e.ev=fl) (h2:captured.toList.map e.ev=cl) (t':K (pute e d (.func fn fl.toArray cl.toArray)) h L)
  (hg:guardB ops e ⟨d,.makeFunc fn first captured,ty,pos,af,g⟩=true:=by rfl):Stp P b n ops F ds X ⟨d,.makeFunc fn first captured,ty,pos,af,g⟩ e h L K:=
 iN hg fun w hw=>⟨_,w,h,L,by
  have e1:first.map e.ev=fl.toArray:=Array.ext' (by simp [← h1])
  have e2:captured.map e.ev=cl.toArray:=Array.ext' (by simp [← h2])
  simp [execOp,Instr.makeFunc,e1,e2],hw,t'⟩
theorem fw {t:TypeId} {parts:Array (Nat×Operand)} {zs cells:List Value} {places:List (Nat×Nat)} {fs:Array Field} (hT:P.underlying t=some (.struct fs)) (hz:zeroC P t=some zs)
  (hp:fs.toList.map (fun f=>((P.info? f.type).map fun i=>(f.offset,i.size)))=places.map some)
  (hc:Instr.fill (fun i=>places.toArray[i]?) zs.toArray (parts.toList.map fun p=>(p.1,e.ev p.2))=some cells.toArray)
  (t':K (pute e d (.agg cells.toArray)) h L)
  (hg:guardB ops e ⟨d,.build t parts,ty,pos,af,g⟩=true:=by rfl):Stp P b n ops F ds X ⟨d,.build t parts,ty,pos,af,g⟩ e h L K:=
 iN hg fun w hw=>by
  obtain ⟨z,h1,h2⟩:=pu hz w
  have hparts:(parts.map fun x=>(x.1,e.ev x.2)).toList=parts.toList.map fun p=>(p.1,e.ev p.2):=by simp
  refine ⟨_,_,h,_,?_,hw,t'⟩
  have hm:∀ (l:List Field) (pl:List (Nat×Nat)),l.map (fun f=>((P.info? f.type).map fun i=>(f.offset,i.size)))=pl.map some →
    (l.mapM fun f=>do pure (f.offset,← sizeOf f.type):Sem (List (Nat×Nat))).run P w=.ok pl w:=by
   intro l
   induction l with
   | nil=>intro pl hpl;cases pl with
    | nil=>simp
    | cons _ _=>simp at hpl
   | cons f l ih=>
    intro pl hpl
    cases pl with
    | nil=>simp at hpl
    | cons q pl=>
     simp only [List.map_cons,List.cons.injEq] at hpl
     cases hi:P.info? f.type with
     | none=>simp [hi] at hpl
     | some ti=>
      simp only [hi,Option.map_some,Option.some.injEq] at hpl
      have hf:(do pure (f.offset,← sizeOf f.type):Sem (Nat×Nat)).run P w=.ok q w:=by
       simp [sizeOf,typeInfo,hi,hpl.1]
      rw [List.mapM_cons,Sem.run_bind,hf,Result.andThen_ok,Sem.run_bind,ih pl hpl.2]
      rfl
  have hm2:=hm fs.toList places hp
  have hm3:(fs.mapM fun f=>do pure (f.offset,← sizeOf f.type):Sem (Array (Nat×Nat))).run P w=.ok places.toArray w:=by
   have:(fs.mapM fun f=>do pure (f.offset,← sizeOf f.type):Sem (Array (Nat×Nat)))=List.toArray <$> (fs.toList.mapM fun f=>do pure (f.offset,← sizeOf f.type):Sem (List (Nat×Nat))):=by
    rw [← List.mapM_toArray]
   rw [this,Sem.run_map,hm2]
   rfl
  simp only [execOp,Instr.build,Sem.run_bind,h1,Result.andThen_ok,run_underlying hT,hm3,h2,hparts]
  rw [hc]
  simp
end steps
abbrev MZ (P:Program) (f:FuncId) (args:List Value) (h:HF) (A:LH) (v:Value):Prop:=mP P f args.toArray h A (fun x h' B=>x=.returned v∧h'=h∧B=A)
abbrev rH (P:Program) (fv:Value) (args:List Value) (h:HF) (A:LH) (v:Value):Prop:=kZ P fv args.toArray h A (fun x h' B=>x=.returned v∧h'=h∧B=A)
theorem iu {P:Program} {f:FuncId} {args cap:List Value} {h:HF} {A:LH} {v:Value} (hc:∀ args w,(callFunc f args).run P w=.ok (.enter f args) w) (hr:MZ P f (args++cap) h A v):
  rH P (.func (.func f) #[] cap.toArray) args h A v:=by
 intro w hp
 refine ⟨.enter f (args++cap).toArray,?_,jD (hr w hp)⟩
 simp [Deferred.ofValue,invoke,hc]
theorem St.same {X:Cx} {h:HF} {L A:LH} {w w':World} (s:St X h L w) (hA:A.Sublist L) (t:St ⟨w,h,A.map (·.1)⟩ h A w'):St X h L w':=by
 have hkey:∀ b,b < w.heap.size→w'.heap[b]? = w.heap[b]?:=by
  intro b hb
  by_cases hm:b∈A.map (·.1)
  ·obtain ⟨p,hp,rfl⟩:=List.mem_map.1 hm
   rw [t.own p hp,s.own p (hA.subset hp)]
  ·exact t.keep b hb hm
 have t2:St ⟨w,h,List.map (·.1) ([]:LH)⟩ h [] w':=
  ⟨t.os,t.tape,t.output,t.size,fun b hb _=>hkey b hb,fun _ _ hb=>hb,fun _ _=>rfl,t.imm,fun _ hp=>(List.not_mem_nil hp).elim,List.nodup_nil,fun _ hp=>(List.not_mem_nil hp).elim,fun _ hp=>(List.not_mem_nil hp).elim⟩
 exact St.after (A:=[]) (B:=[]) (F:=L) s t2
theorem Pre.sub {h:HF} {L A:LH} {w:World} (s:Pre h L w) (hA:A.Sublist L):Pre h A w:=
 ⟨s.imm,fun p hp=>s.own p (hA.subset hp),s.dis.sublist (hA.map _),fun p hp=>s.free p (hA.subset hp)⟩
section steps2
variable {P:Program} {b:Frame} {n:Nat} {ops:Array Oper} {F:List Frame→(Machine→Prop)→Prop} {e:Env} {ds:List Deferred} {X:Cx} {h:HF} {L:LH} {K:Env→HF→LH→Prop}
variable {d:Option Nat} {ty:TypeId} {pos:String} {af:Array Edge} {g:Option (Nat×Bool)}
theorem lK {P:Program} {w:World} {R:Ending→World→Prop} {nx:Next} (h:sf P w R nx):nx≠.skip:=by
 intro e;subst e;exact h
theorem kH (A:LH) {t:Nat} {as:Array Operand} {ats:Array TypeId} {fv:Value} {vs:List Value} {v:Value} (hA:A.Sublist L) (hs:rH P fv vs h A v) (hf:e t=fv) (hvs:as.toList.map e.ev=vs)
  (t':K (pute e d v) h L)
  (hg:guardB ops e ⟨d,.call ⟨.value (.tmp t),as,ats⟩,ty,pos,af,g⟩=true:=by rfl):
  Stp P b n ops F ds X ⟨d,.call ⟨.value (.tmp t),as,ats⟩,ty,pos,af,g⟩ e h L K:=by
 unfold Stp
 rw [if_pos hg]
 intro w hw
 have harr:as.map e.ev=vs.toArray:=Array.ext' (by simp [← hvs])
 obtain ⟨nx,hrun,hcall⟩:=hs w (hw.pre.sub hA)
 have hr:(execOp e.ev ⟨d,.call ⟨.value (.tmp t),as,ats⟩,ty,pos,af,g⟩).run P w=.ok nx w:=by
  rw [← hrun]
  simp [execOp,resolve,Env.ev,harr,hf]
 rw [hr]
 refine kD (lK hcall) (hcall.mono ?_)
 rintro x w' ⟨h',B,hst,hx,hh,hB⟩
 subst hx hh hB
 exact ⟨h',L,hw.same hA hst,t'⟩
end steps2
end Go.Sg
namespace Go.Sg
def roundFrame (l:Nat) (f:FuncId):Frame:={ fn:=f,tmps:=#[],todo:=[],defers:=[],mode:=.run,kind:=.normal,roundOf:=some l }
section rounds
variable {P:Program} {l:Nat} {f:FuncId} {n:Nat} {k:List Item} {e:Env} {X:Cx} {h:HF} {L:LH} {R:Ending→HF→LH→Prop} {fn:Func} {lp:Loop}
theorem oB {w:World} (s:St X h L w) {i:Nat} (hL:nth L i=some (l,.loop lp)):w.heap[l]? = some (.loop lp):=by
 rw [gP] at hL
 exact s.own _ (List.mem_of_getElem? hL)
theorem jh (i:Nat) {F:List Frame→(Machine→Prop)→Prop} {ds:List Deferred} (hL:nth L i=some (l,.loop lp)) (hr:lp.state=.ready)
  (t:TT P (roundFrame l f) n k F e ds X h (setNth L i (l,.loop { lp with state:=.busy }))):TT P (roundFrame l f) n (.beginRound::k) F e ds X h L:=by
 intro w hw a cs Φ hn he hds hF
 have hb:=oB hw hL
 refine .step (stepR_beginRound (l:=l) (w':={ w with heap:=w.heap.setIfInBounds l (.loop { lp with state:=.busy }) }) rfl ?_) (t _ (hw.write hL _) a cs Φ hn he hds hF)
 simp [Instr.beginRound,Instr.getLoop,getObj,setObj,Sem.run,hb,hr]
theorem sx {w:World} (hb:w.heap[l]? = some (.loop lp)) (jump:Option Code):
  (Instr.endRound l jump).run P w=.ok (.bool jump.isNone) { w with heap:=w.heap.setIfInBounds l (.loop { lp with state:=if jump.isNone then .ready else .done,pending:=jump }) }:=by
 simp [Instr.endRound,Instr.getLoop,getObj,setObj,Sem.run,hb]
theorem Hj (i:Nat) (hL:nth L i=some (l,.loop lp)) (hR:R (.returned (.bool true)) h (setNth L i (l,.loop { lp with state:=.ready,pending:=none }))):
  TT P (roundFrame l f) n [] (kG P X R) e [] X h L:=by
 intro w hw a cs Φ hn he hds hF
 obtain ⟨c,cs',rfl,h1,_⟩:=hF
 exact .step (stepR_round_end (b:=roundFrame l f) rfl rfl (sx (oB hw hL) none)) (h1 _ _ ⟨h,_,hw.write hL _,hR⟩)
theorem KW (i:Nat) (hL:nth L i=some (l,.loop lp)) (hR:R (.returned (.bool false)) h (setNth L i (l,.loop { lp with state:=.done,pending:=some .ret }))):
  TT P (roundFrame l f) n (.code .ret::k) (kG P X R) e [] X h L:=by
 intro w hw a cs Φ hn he hds hF
 obtain ⟨c,cs',rfl,h1,_⟩:=hF
 exact .step (stepR_round_ret (b:=roundFrame l f) rfl rfl (sx (oB hw hL) (some .ret))) (h1 _ _ ⟨h,_,hw.write hL _,hR⟩)
theorem Jq (i:Nat) {id:Nat} (hx:exitTo id k=none) (hL:nth L i=some (l,.loop lp)) (hR:R (.returned (.bool false)) h (setNth L i (l,.loop { lp with state:=.done,pending:=some (.exit id) }))):
  TT P (roundFrame l f) n (.code (.exit id)::k) (kG P X R) e [] X h L:=by
 intro w hw a cs Φ hn he hds hF
 obtain ⟨c,cs',rfl,h1,_⟩:=hF
 exact .step (stepR_round_exit (b:=roundFrame l f) rfl rfl hx (sx (oB hw hL) (some (.exit id)))) (h1 _ _ ⟨h,_,hw.write hL _,hR⟩)
theorem Jt {ch:List PanicEntry} (hf:P.funcs[f]? = some fn) (hR:R (.panicked ch) h L):TP P (roundFrame l f) n ch (kG P X R) e [] X h L:=by
 intro w hw a cs Φ todo hn he hds hF
 obtain ⟨c,cs',rfl,_,h3⟩:=hF
 refine .step (step_leave_panicked (P:=P) (fr:={ (roundFrame l f).atR a todo with mode:=.panicking ch }) ⟨rfl,hds,fn,hf⟩) ?_
 exact h3 ch w ⟨h,L,hw,hR⟩
end rounds
theorem tN {P:Program} {l:Nat} {lp:Loop} {i:Nat} {args:List Value} {h:HF} {A:LH} {R:Ending→HF→LH→Prop} (hl:nth A i=some (l,.loop lp)) (hsz:args.length=lp.params.size)
  (t:∀ X:Cx,X.M=A.map (·.1)→X.h0=h→(∀ b∈X.M,b < X.w0.heap.size)→TT P (roundFrame l lp.fn) lp.tmps.size [.code lp.assign,.beginRound,.code lp.body] (kG P X R)
   (envOf { tmps:=(lp.params.zip args.toArray).foldl (fun tmps p=>tmps.setIfInBounds p.1 p.2) lp.tmps,defers:=[] }) [] X h A):
  kZ P (.func (.yield l) #[] #[]) args.toArray h A R:=by
 intro w hp
 have hb:w.heap[l]? = some (.loop lp):=by
  rw [gP] at hl
  exact hp.own _ (List.mem_of_getElem? hl)
 refine ⟨.round l lp.fn ((lp.params.zip args.toArray).foldl (fun tmps p=>tmps.setIfInBounds p.1 p.2) lp.tmps) lp.assign lp.body,?_,?_⟩
 ·simp [Deferred.ofValue,invoke,Instr.yield,Instr.getLoop,getObj,Sem.run,hb,hsz]
 ·intro c cs Φ h1 h2
  have hfold:∀ (ps:List (Tmp×Value)) (ts:Array Value),(ps.foldl (fun tmps p=>tmps.setIfInBounds p.1 p.2) ts).size=ts.size:=by
   intro ps
   induction ps with
   | nil=>intro ts;rfl
   | cons p ps ih=>intro ts;simp [ih]
  have hfr:Frame.round l lp.fn ((lp.params.zip args.toArray).foldl (fun tmps p=>tmps.setIfInBounds p.1 p.2) lp.tmps) lp.assign lp.body .normal =
    (roundFrame l lp.fn).atR { tmps:=(lp.params.zip args.toArray).foldl (fun tmps p=>tmps.setIfInBounds p.1 p.2) lp.tmps,defers:=[] } [.code lp.assign,.beginRound,.code lp.body]:=by
   simp [Frame.round,Frame.atR,roundFrame]
  rw [hfr]
  refine t ⟨w,h,A.map (·.1)⟩ rfl rfl (fun b hb=>by obtain ⟨p,hp',rfl⟩:=List.mem_map.1 hb;exact gQ (hp.own p hp')) w (St.start hp) _ (c::cs) Φ ?_ rfl rfl ⟨c,cs,rfl,h1,h2⟩
  simp only
  rw [← Array.foldl_toList]
  exact hfold _ _
def YR {α : Type} (C:List α→HF→LH→Prop) (Sp:HF→LH→Prop) (Pn:List PanicEntry→HF→LH→Prop) (done:List α) (x:α) (r:Ending) (h:HF) (B:LH):Prop:=
 (r=.returned (.bool true)∧C (done++[x]) h B)∨(r=.returned (.bool false)∧Sp h B)∨∃ ch,r=.panicked ch∧Pn ch h B
def ItR {α : Type} (C:List α→HF→LH→Prop) (Sp:HF→LH→Prop) (Pn:List PanicEntry→HF→LH→Prop) (xs:List α) (r:Ending) (h:HF) (B:LH):Prop:=
 (r=.returned (.tuple #[])∧(C xs h B∨Sp h B))∨∃ ch,r=.panicked ch∧Pn ch h B
def IS {α : Type} (P:Program) (it:Value) (val:α→HF→List Value→Prop) (xs:List α) (h:HF):Prop:=
 ∀ (yf:Fn) (ya yb:Array Value) (C:List α→HF→LH→Prop) (Sp:HF→LH→Prop) (Pn:List PanicEntry→HF→LH→Prop) (h':HF) (A:LH),h.le h'→(∀ done h1 h2 B,HF.le h1 h2→C done h1 B→C done h2 B)→(∀ h1 h2 B,HF.le h1 h2→Sp h1 B→Sp h2 B)→(∀ ch h1 h2 B,HF.le h1 h2→Pn ch h1 B→Pn ch h2 B)→C [] h' A →
  (∀ done x rest vs h'' B,xs=done++x::rest→h'.le h''→C done h'' B→val x h'' vs→kZ P (.func yf ya yb) vs.toArray h'' B (YR C Sp Pn done x)) →
  kZ P it #[.func yf ya yb] h' A (ItR C Sp Pn xs)
theorem IS.mono {α : Type} {P:Program} {it:Value} {val:α→HF→List Value→Prop} {xs:List α} {h h':HF} (i:IS P it val xs h) (hl:h.le h'):IS P it val xs h':=
 fun yf ya yb C Sp Pn h'' A hl'=>i yf ya yb C Sp Pn h'' A (HF.le_trans hl hl')
theorem Lq {α : Type} {P:Program} {f:FuncId} {cap:List Value} {val:α→HF→List Value→Prop} {xs:List α} {h:HF} (hc:∀ args w,(callFunc f args).run P w=.ok (.enter f args) w)
  (hr:∀ (yf:Fn) (ya yb:Array Value) (C:List α→HF→LH→Prop) (Sp:HF→LH→Prop) (Pn:List PanicEntry→HF→LH→Prop) (h':HF) (A:LH),h.le h'→(∀ done h1 h2 B,HF.le h1 h2→C done h1 B→C done h2 B)→(∀ h1 h2 B,HF.le h1 h2→Sp h1 B→Sp h2 B)→(∀ ch h1 h2 B,HF.le h1 h2→Pn ch h1 B→Pn ch h2 B)→C [] h' A →
   (∀ done x rest vs h'' B,xs=done++x::rest→h'.le h''→C done h'' B→val x h'' vs→kZ P (.func yf ya yb) vs.toArray h'' B (YR C Sp Pn done x))→mP P f (.func yf ya yb::cap).toArray h' A (ItR C Sp Pn xs)):
  IS P (.func (.func f) #[] cap.toArray) val xs h:=by
 intro yf ya yb C Sp Pn h' A hl m1 m2 m3 hC hy w hp
 refine ⟨.enter f (.func yf ya yb::cap).toArray,?_,jD (hr yf ya yb C Sp Pn h' A hl m1 m2 m3 hC hy w hp)⟩
 simp [Deferred.ofValue,invoke,hc]
def marks (rs:List Nat):List Deferred:=rs.map fun r=>{ target:=.collected r,args:=#[] }
def markB (rs:List Nat):LH:=rs.map fun r=>(r,.deferred (some []))
section calls
variable {P:Program} {b:Frame} {n:Nat} {ops:Array Oper} {F:List Frame→(Machine→Prop)→Prop} {e:Env} {ds:List Deferred} {X:Cx} {h:HF} {L:LH} {K:Env→HF→LH→Prop}
variable {d:Option Nat} {ty:TypeId} {pos:String} {af:Array Edge} {g:Option (Nat×Bool)}
theorem wU (Fr A:LH) {t:Nat} {as:Array Operand} {ats:Array TypeId} {fv:Value} {vs:List Value} {R:Ending→HF→LH→Prop} (hL:L=Fr++A) (hs:kZ P fv vs.toArray h A R) (hf:e t=fv) (hvs:as.toList.map e.ev=vs)
  (t':∀ v h' B,h.le h'→R (.returned v) h' B→K (pute e d v) h' (Fr++B))
  (tp:∀ ch h' B,h.le h'→R (.panicked ch) h' B→∀ e',TP P b n ch F e' ds X h' (Fr++B))
  (hg:guardB ops e ⟨d,.call ⟨.value (.tmp t),as,ats⟩,ty,pos,af,g⟩=true:=by rfl):
  Stp P b n ops F ds X ⟨d,.call ⟨.value (.tmp t),as,ats⟩,ty,pos,af,g⟩ e h L K:=by
 unfold Stp
 rw [if_pos hg]
 intro w hw
 subst hL
 have hw':=hw.perm List.perm_append_comm
 have harr:as.map e.ev=vs.toArray:=Array.ext' (by simp [← hvs])
 obtain ⟨nx,hrun,hcall⟩:=hs w hw'.pre.left
 have hr:(execOp e.ev ⟨d,.call ⟨.value (.tmp t),as,ats⟩,ty,pos,af,g⟩).run P w=.ok nx w:=by
  rw [← hrun]
  simp [execOp,resolve,Env.ev,harr,hf]
 rw [hr]
 refine kD (lK hcall) (hcall.mono ?_)
 rintro x w' ⟨h',B,hst,hR⟩
 cases x with
 | returned v=>exact ⟨h',_,(hw'.after hst).perm List.perm_append_comm,t' v h' B hst.le hR⟩
 | panicked ch=>exact ⟨h',_,(hw'.after hst).perm List.perm_append_comm,tp ch h' B hst.le hR⟩
 | outgrown=>trivial
end calls
def RdR {α : Type} (l r:Nat) (lp:Loop) (I:List α→HF→LH→Prop) (J:Code→HF→LH→Prop) (Pn:List PanicEntry→HF→LH→Prop) (done:List α) (x:α) (r':Ending) (h:HF) (B:LH):Prop:=
 (r'=.returned (.bool true)∧∃ L',B=(l,.loop { lp with state:=.ready,pending:=none })::(r,.deferred (some []))::L'∧I (done++[x]) h L') ∨
 (r'=.returned (.bool false)∧∃ c L',B=(l,.loop { lp with state:=.done,pending:=some c })::(r,.deferred (some []))::L'∧J c h L') ∨
 (∃ ch,r'=.panicked ch∧∃ lp' L',B=(l,.loop lp')::(r,.deferred (some []))::L'∧Pn ch h L')
theorem DU {α : Type} {P:Program} {l r:Nat} {f:FuncId} {n:Nat} {e:Env} {X:Cx} {h:HF} {L:LH} {lp lp':Loop} {I:List α→HF→LH→Prop} {J:Code→HF→LH→Prop} {Pn:List PanicEntry→HF→LH→Prop} {done:List α} {x:α}
  (hlp:lp'={ lp with state:=.busy }) (hI:I (done++[x]) h L):
  TT P (roundFrame l f) n [] (kG P X (RdR l r lp I J Pn done x)) e [] X h ((l,.loop lp')::(r,.deferred (some []))::L):=
 Hj 0 rfl (.inl ⟨rfl,L,by rw [hlp];rfl,hI⟩)
theorem Mk {α : Type} {P:Program} {l r:Nat} {f:FuncId} {n:Nat} {k:List Item} {e:Env} {X:Cx} {h:HF} {L:LH} {lp lp':Loop} {I:List α→HF→LH→Prop} {J:Code→HF→LH→Prop} {Pn:List PanicEntry→HF→LH→Prop} {done:List α} {x:α}
  (hlp:lp'={ lp with state:=.busy }) (hJ:J .ret h L):
  TT P (roundFrame l f) n (.code .ret::k) (kG P X (RdR l r lp I J Pn done x)) e [] X h ((l,.loop lp')::(r,.deferred (some []))::L):=
 KW 0 rfl (.inr (.inl ⟨rfl,.ret,L,by rw [hlp];rfl,hJ⟩))
theorem Lg {α : Type} {P:Program} {l r:Nat} {f:FuncId} {n:Nat} {k:List Item} {id:Nat} {e:Env} {X:Cx} {h:HF} {L:LH} {lp lp':Loop} {I:List α→HF→LH→Prop} {J:Code→HF→LH→Prop} {Pn:List PanicEntry→HF→LH→Prop} {done:List α} {x:α}
  (hx:exitTo id k=none) (hlp:lp'={ lp with state:=.busy }) (hJ:J (.exit id) h L):
  TT P (roundFrame l f) n (.code (.exit id)::k) (kG P X (RdR l r lp I J Pn done x)) e [] X h ((l,.loop lp')::(r,.deferred (some []))::L):=
 Jq 0 hx rfl (.inr (.inl ⟨rfl,.exit id,L,by rw [hlp];rfl,hJ⟩))
theorem Ml {α : Type} {P:Program} {l r:Nat} {f:FuncId} {n:Nat} {ch:List PanicEntry} {e:Env} {X:Cx} {h:HF} {L:LH} {lp lp':Loop} {fn:Func} {I:List α→HF→LH→Prop} {J:Code→HF→LH→Prop} {Pn:List PanicEntry→HF→LH→Prop} {done:List α} {x:α}
  (hf:P.funcs[f]? = some fn) (hP:Pn ch h L):
  TP P (roundFrame l f) n ch (kG P X (RdR l r lp I J Pn done x)) e [] X h ((l,.loop lp')::(r,.deferred (some []))::L):=
 Jt hf (.inr (.inr ⟨ch,rfl,lp',L,rfl,hP⟩))
def setParams (e:Env):List Nat→List Value→Env
 | p::ps,v::vs=>setParams (upd e p v) ps vs
 | _,_=>e
theorem pf {n:Nat}:∀ (ps:List Nat) (vs:List Value) (ts:Array Value) (ds:List Deferred),ts.size=n→(∀ p∈ps,p < n) →
  envOf { tmps:=(ps.zip vs).foldl (fun tmps p=>tmps.setIfInBounds p.1 p.2) ts,defers:=[] }=setParams (envOf { tmps:=ts,defers:=ds }) ps vs
 | [],vs,ts,ds,_,_=>by simp [setParams];rfl
 | p::ps,[],ts,ds,_,_=>by simp [setParams];rfl
 | p::ps,v::vs,ts,ds,hn,hp=>by
  simp only [List.zip_cons_cons,List.foldl_cons,setParams]
  rw [pf ps vs (ts.setIfInBounds p v) ds (by simpa using hn) (fun q hq=>hp q (List.mem_cons_of_mem _ hq))]
  congr 1
  exact na ⟨ts,ds⟩ p v (hn ▸ hp p (List.mem_cons_self ..))
theorem Jr {α : Type} {P:Program} {f:FuncId} {n:Nat} {k:List Item} {F:List Frame→(Machine→Prop)→Prop} {e:Env} {ds:List Deferred} {X:Cx} {h:HF} {L:LH} {g:Operand} {ps:List Tmp} {assign body:Code}
  {val:α→HF→List Value→Prop} {xs:List α} (I:List α→HF→LH→Prop) (J:Code→HF→LH→Prop) (Pn:List PanicEntry→HF→LH→Prop)
  {f0:FuncId} {cap:List Value} (hgv:e.ev g=.func (.func f0) #[] cap.toArray) (hc0:∀ args w,(callFunc f0 args).run P w=.ok (.enter f0 args) w)
  (hit:IS P (.func (.func f0) #[] cap.toArray) val xs h) (hps:ps.all (fun p=>Nat.blt p n)=true) (hval:∀ x h vs,val x h vs→vs.length=ps.length) (hIm:∀ done h1 h2 B,HF.le h1 h2→I done h1 B→I done h2 B) (hJm:∀ c h1 h2 B,HF.le h1 h2→J c h1 B→J c h2 B) (hPm:∀ ch h1 h2 B,HF.le h1 h2→Pn ch h1 B→Pn ch h2 B) (h0:I [] h L)
  (round:∀ l r lp done x rest vs h' L' X',xs=done++x::rest→h.le h'→I done h' L'→val x h' vs→lp.state=.ready→X'.h0=h'→(∀ b∈X'.M,b < X'.w0.heap.size) →
   TT P (roundFrame l f) n [.code assign,.beginRound,.code body] (kG P X' (RdR l r lp I J Pn done x)) (setParams e ps vs) [] X' h' ((l,.loop lp)::(r,.deferred (some []))::L'))
  (next:∀ r h' L',h.le h'→I xs h' L'→TT P (bodyFrame f) n k F e ({ target:=.collected r,args:=#[] }::ds) X h' ((r,.deferred (some []))::L'))
  (jump:∀ r c h' L',h.le h'→J c h' L'→TT P (bodyFrame f) n (.code c::k) F e ({ target:=.collected r,args:=#[] }::ds) X h' ((r,.deferred (some []))::L'))
  (pan:∀ r ch h' L',h.le h'→Pn ch h' L'→TP P (bodyFrame f) n ch F e ({ target:=.collected r,args:=#[] }::ds) X h' ((r,.deferred (some []))::L')):
  TT P (bodyFrame f) n (.code (.rangeFunc g ps.toArray assign body)::k) F e ds X h L:=by
 intro w hw a cs Φ hn he hds hF
 let r:=w.heap.size
 let w1:World:={ w with heap:=w.heap.push (.deferred (some [])) }
 have hw1:St X h ((r,.deferred (some []))::L) w1:=hw.alloc _
 let l:=w1.heap.size
 let lp:Loop:={ state:=.ready,pending:=none,fn:=f,tmps:=a.tmps,params:=ps.toArray,assign,body,defers:=r }
 let w2:World:={ w1 with heap:=w1.heap.push (.loop lp) }
 have hw2:St X h ((l,.loop lp)::(r,.deferred (some []))::L) w2:=hw1.alloc _
 have henter:(Instr.enterLoop (bodyFrame f).fn a.tmps ps.toArray assign body (bodyFrame f).roundOf).run P w=.ok (l,[{ target:=.collected r,args:=#[] }]) w2:=by
  simp [Instr.enterLoop,bodyFrame,r,l,lp,w2,w1]
 let C:List α→HF→LH→Prop:=fun done h' B=>∃ L',B=(l,.loop lp)::(r,.deferred (some []))::L'∧I done h' L'
 let Sp:HF→LH→Prop:=fun h' B=>∃ c L',B=(l,.loop { lp with state:=.done,pending:=some c })::(r,.deferred (some []))::L'∧J c h' L'
 let Pm:List PanicEntry→HF→LH→Prop:=fun ch h' B=>∃ lp' L',B=(l,.loop lp')::(r,.deferred (some []))::L'∧Pn ch h' L'
 have hps':∀ p∈ps,p < n:=fun p hp=>m6 (List.all_eq_true.1 hps p hp)
 have hy:∀ done x rest vs h'' B,xs=done++x::rest→h.le h''→C done h'' B→val x h'' vs→kZ P (.func (.yield l) #[] #[]) vs.toArray h'' B (YR C Sp Pm done x):=by
  rintro done x rest vs h'' B hxs hle ⟨L',rfl,hI⟩ hv
  refine kZ.mono (R:=RdR l r lp I J Pn done x) (tN (i:=0) (lp:=lp) rfl (by simp [lp];exact hval x h'' vs hv) ?_) ?_
  ·intro X' _ hX' hXM'
   have henv:envOf { tmps:=(ps.toArray.zip vs.toArray).foldl (fun tmps p=>tmps.setIfInBounds p.1 p.2) a.tmps,defers:=[] }=setParams e ps vs:=by
    have:=pf ps vs a.tmps a.defers hn hps'
    rw [← he]
    rw [← Array.foldl_toList]
    simpa using this
   have:=round l r lp done x rest vs h'' L' X' hxs hle hI hv rfl hX' hXM'
   rw [← henv,← hn] at this
   exact this
  ·rintro x' h3 B' _ (⟨e1,L2,e2,h2⟩ | ⟨e1,c,L2,e2,h2⟩ | ⟨ch,e1,lp',L2,e2,h2⟩)
   ·exact .inl ⟨e1,L2,e2,h2⟩
   ·exact .inr (.inl ⟨e1,c,L2,e2,h2⟩)
   ·exact .inr (.inr ⟨ch,e1,lp',L2,e2,h2⟩)
 have hs:=hit (.yield l) #[] #[] C Sp Pm h ((l,.loop lp)::(r,.deferred (some []))::L) (HF.le_refl h) (fun _ _ _ _ hl ⟨L',e1,hi⟩=>⟨L',e1,hIm _ _ _ _ hl hi⟩) (fun _ _ _ hl ⟨c,L',e1,hi⟩=>⟨c,L',e1,hJm _ _ _ _ hl hi⟩) (fun _ _ _ _ hl ⟨lp',L',e1,hi⟩=>⟨lp',L',e1,hPm _ _ _ _ hl hi⟩) ⟨L,rfl,h0⟩ hy
 obtain ⟨nx,hrun,hcall⟩:=hs w2 hw2.pre
 have hev:a.eval g=e.ev g:=by rw [jq,he]
 have hnx:nx=.enter f0 (Value.func (.yield l) #[] #[]::cap).toArray:=by
  simp [Deferred.ofValue,invoke,hc0] at hrun
  simpa using hrun.symm
 subst hnx
 have hres:(resolve a.eval (rangeCall g l) 0).run P w2=.ok { target:=.fn (.func f0) cap.toArray,args:=#[.func (.yield l) #[] #[]] } w2:=by
  have hcst:∀ v,a.eval (.const v)=v:=fun _=>rfl
  simp [resolve,rangeCall,hev,hgv,hcst,Deferred.ofValue]
 have hinv:(invoke (.fn (.func f0) cap.toArray) #[.func (.yield l) #[] #[]]).run P w2=.ok (.enter f0 (Value.func (.yield l) #[] #[]::cap).toArray) w2:=by
  simp [invoke,hc0]
 have hback:∀ v w3,(∃ h' B,St ⟨w2,h,((l,Obj.loop lp)::(r,.deferred (some []))::L).map (·.1)⟩ h' B w3∧ItR C Sp Pm xs (.returned v) h' B) →
   To P Φ (lone (((bodyFrame f).atR { a with defers:=[{ target:=.collected r,args:=#[] }]++a.defers } (.inRangeFunc l::k)).finish v) cs w3):=by
  rintro v w3 ⟨h',B,hst,hR⟩
  rw [finish_atR_inRangeFunc]
  have hS3:St X h' B w3:=by
   have:=St.after (A:=(l,.loop lp)::(r,.deferred (some []))::L) (F:=[]) (by simpa using hw2) hst
   simpa using this
  have hle:=hst.le
  rcases hR with ⟨_,hCS⟩ | ⟨ch,hx,_⟩
  ·rcases hCS with ⟨L',rfl,hI⟩ | ⟨c,L',rfl,hJ⟩
   ·have hb:w3.heap[l]? = some (.loop lp):=hS3.own _ (List.mem_cons_self ..)
    have hend:(Instr.endLoop l).run P w3=.ok none { w3 with heap:=w3.heap.setIfInBounds l (.loop { lp with state:=.exhausted }) }:=by
     simp [Instr.endLoop,Instr.getLoop,getObj,setObj,Sem.run,hb,lp]
    refine .step (stepR_endRangeFunc hend) ?_
    have hS4:=hS3.write (i:=0) rfl (.loop { lp with state:=.exhausted })
    exact next r h' L' hle hI _ (hS4.sub (List.sublist_cons_self ..)) { a with defers:={ target:=.collected r,args:=#[] }::a.defers } cs Φ hn he (by rw [hds]) hF
   ·have hb:w3.heap[l]? = some (.loop { lp with state:=.done,pending:=some c }):=hS3.own _ (List.mem_cons_self ..)
    have hend:(Instr.endLoop l).run P w3=.ok (some c) { w3 with heap:=w3.heap.setIfInBounds l (.loop { lp with state:=.exhausted,pending:=some c }) }:=by
     simp [Instr.endLoop,Instr.getLoop,getObj,setObj,Sem.run,hb,lp]
    refine .step (stepR_endRangeFunc hend) ?_
    have hS4:=hS3.write (i:=0) rfl (.loop { lp with state:=.exhausted,pending:=some c })
    exact jump r c h' L' hle hJ _ (hS4.sub (List.sublist_cons_self ..)) { a with defers:={ target:=.collected r,args:=#[] }::a.defers } cs Φ hn he (by rw [hds]) hF
  ·cases hx
 have hraise:∀ ch w3,(∃ h' B,St ⟨w2,h,((l,Obj.loop lp)::(r,.deferred (some []))::L).map (·.1)⟩ h' B w3∧ItR C Sp Pm xs (.panicked ch) h' B) →
   To P Φ (lone (((bodyFrame f).atR { a with defers:=[{ target:=.collected r,args:=#[] }]++a.defers } (.inRangeFunc l::k)).raise ch) cs w3):=by
  rintro ch w3 ⟨h',B,hst,hR⟩
  have hS3:St X h' B w3:=by
   have:=St.after (A:=(l,.loop lp)::(r,.deferred (some []))::L) (F:=[]) (by simpa using hw2) hst
   simpa using this
  rcases hR with ⟨hx,_⟩ | ⟨ch',hx,lp',L',rfl,hP⟩
  ·cases hx
  ·cases hx
   exact pan r ch h' L' hst.le hP w3 (hS3.sub (List.sublist_cons_self ..)) { a with defers:={ target:=.collected r,args:=#[] }::a.defers } cs Φ _ hn he (by rw [hds]) hF
 refine .step (stepR_rangeFunc henter hres hinv) ?_
 exact hcall _ cs Φ hback hraise
end Go.Sg
namespace Go.Sg
theorem Aw {P:Program} {fr:Frame} {cs:List Frame} {w:World} {r:Nat} {args:Array Value} {ds:List Deferred} (hm:fr.mode≠.run) (hd:fr.defers={ target:=.collected r,args }::ds)
  (hb:w.heap[r]? = some (.deferred (some []))):step P (lone fr cs w)=.next (lone { fr with defers:=ds } cs { w with heap:=w.heap.setIfInBounds r (.deferred none) }):=by
 have ht:(Instr.takeDeferred r).run P w=.ok [] { w with heap:=w.heap.setIfInBounds r (.deferred none) }:=by
  simp [Instr.takeDeferred,getObj,setObj,Sem.run,hb]
 refine step_lone_go ?_
 have hu:stepG P true { frame:=fr,callers:=cs,status:=.running,dying:=none } w=unwind P true fr cs none w:=by
  unfold stepG
  cases hmode:fr.mode with
  | run=>exact absurd hmode hm
  | returning=>simp [hmode]
  | panicking c=>simp [hmode]
 rw [hu]
 unfold unwind
 rw [hd]
 simp [Sem.runT_eq,ht,GStep.bare_after]
theorem pb {P:Program} {X:Cx} {h:HF} {cs:List Frame} {Φ : Machine→Prop}:∀ (rs:List Nat) (L:LH) (fr:Frame) (w:World),fr.mode≠.run→fr.defers=marks rs→St X h (L++markB rs) w →
  (∀ w',St X h L w'→To P Φ (lone { fr with defers:=[] } cs w'))→To P Φ (lone fr cs w)
 | [],L,fr,w,_,hd,hw,t=>by
  have hfr:{ fr with defers:=[] }=fr:=by
   cases fr;simp only [marks,List.map_nil] at hd;simp_all
  have:=t w (by simpa [markB] using hw)
  rw [hfr] at this
  exact this
 | r::rs,L,fr,w,hm,hd,hw,t=>by
  have hb:w.heap[r]? = some (.deferred (some [])):=hw.own (r,.deferred (some [])) (List.mem_append_right _ (by simp [markB]))
  have hi:nth (L++markB (r::rs)) L.length=some (r,.deferred (some [])):=by
   rw [gP];simp [markB]
  have hw2:=hw.write hi (.deferred none)
  have hw3:St X h (L++markB rs) { w with heap:=w.heap.setIfInBounds r (.deferred none) }:=by
   refine hw2.sub ?_
   rw [kN]
   have:(L++markB (r::rs)).set L.length (r,.deferred none)=L++(r,.deferred none)::markB rs:=by
    simp [markB]
   rw [this]
   exact (List.Sublist.refl L).append (List.sublist_cons_self ..)
  refine .step (Aw (ds:=marks rs) hm (by simpa [marks] using hd) hb) ?_
  exact pb rs L { fr with defers:=marks rs } _ hm rfl hw3 t
section ending
variable {P:Program} {f:FuncId} {n:Nat} {k:List Item} {e:Env} {X:Cx} {h:HF} {L:LH} {R:Ending→HF→LH→Prop} {fn:Func}
theorem sj (rs:List Nat) {v:Value} {h2:HF} {B:LH} (hf:P.funcs[f]? = some fn) (hv:∀ a:Act,envOf a=e→∀ w,St X h L w→(results fn a.tmps).run P w=.ok v w)
  (hB:∀ w,St X h L w→St X h2 B w) (hR:R (.returned v) h2 B):TT P (bodyFrame f) n (.code .ret::k) (kG P X R) e (marks rs) X h (L++markB rs):=by
 intro w hw a cs Φ hn he hds hF
 obtain ⟨c,cs',rfl,h1,_⟩:=hF
 refine .step (stepR_ret rfl) (pb rs L _ w (by simp) hds hw fun w' hw'=>?_)
 refine .step (gY (fn:=fn) (v:=v) rfl rfl rfl hf (hv a he w' hw')) ?_
 exact h1 v w' ⟨h2,B,hB w' hw',hR⟩
theorem Hk (rs:List Nat) {v:Value} {h2:HF} {B:LH} (hf:P.funcs[f]? = some fn) (hv:∀ a:Act,envOf a=e→∀ w,St X h L w→(results fn a.tmps).run P w=.ok v w)
  (hB:∀ w,St X h L w→St X h2 B w) (hR:R (.returned v) h2 B):TT P (bodyFrame f) n [] (kG P X R) e (marks rs) X h (L++markB rs):=by
 intro w hw a cs Φ hn he hds hF
 obtain ⟨c,cs',rfl,h1,_⟩:=hF
 refine .step (stepR_end rfl) (pb rs L _ w (by simp) hds hw fun w' hw'=>?_)
 refine .step (gY (fn:=fn) (v:=v) rfl rfl rfl hf (hv a he w' hw')) ?_
 exact h1 v w' ⟨h2,B,hB w' hw',hR⟩
theorem DK (rs:List Nat) {ch:List PanicEntry} {h2:HF} {B:LH} (hf:P.funcs[f]? = some fn) (hB:∀ w,St X h L w→St X h2 B w) (hR:R (.panicked ch) h2 B):
  TP P (bodyFrame f) n ch (kG P X R) e (marks rs) X h (L++markB rs):=by
 intro w hw a cs Φ todo hn he hds hF
 obtain ⟨c,cs',rfl,_,h3⟩:=hF
 refine pb rs L _ w (by simp) hds hw fun w' hw'=>?_
 refine .step (step_leave_panicked (P:=P) (fr:={ { (bodyFrame f).atR a todo with mode:=.panicking ch } with defers:=[] }) ⟨rfl,rfl,fn,hf⟩) ?_
 exact h3 ch w' ⟨h2,B,hB w' hw',hR⟩
theorem Hl {b:Frame} {ch:List PanicEntry} {F:List Frame→(Machine→Prop)→Prop} {ds:List Deferred} {L':LH} (hs:L.Perm L') (t:TP P b n ch F e ds X h L'):TP P b n ch F e ds X h L:=
 fun w hw=>t w (hw.perm hs)
theorem vR {b:Frame} {ch:List PanicEntry} {F:List Frame→(Machine→Prop)→Prop} {ds:List Deferred} {L':LH} (hs:L'.Sublist L) (t:TP P b n ch F e ds X h L'):TP P b n ch F e ds X h L:=
 fun w hw=>t w (hw.sub hs)
end ending
theorem tK {P:Program} {b:Frame} {n:Nat} {k:List Item} {F:List Frame→(Machine→Prop)→Prop} {e:Env} {ds:List Deferred} {X:Cx} {h:HF} {L:LH} {c:Code} {ι : Type} (sl:ι→List (Nat×Value)) (dd:ι→List Deferred) (hh:ι→HF) (LL:ι→LH) (I:ι→Prop) (μ : ι→Nat) (i₀ : ι)
  (hds:ds=dd i₀) (h0:ju e (sl i₀)) (hs:∀ w,St X h L w→St X (hh i₀) (LL i₀) w) (hI:I i₀)
  (round:∀ i,I i→(∀ i' e',μ i' < μ i→I i'→ju e' (sl i')→TT P b n (.inLoop c::k) F e' (dd i') X (hh i') (LL i')) →
   ∀ e,TT P b n (.code c::.inLoop c::k) F (upds e (sl i)) (dd i) X (hh i) (LL i)):
  TT P b n (.code (.loop c)::k) F e ds X h L:=by
 have key:∀ m i e',μ i=m→I i→ju e' (sl i)→TT P b n (.code c::.inLoop c::k) F e' (dd i) X (hh i) (LL i):=by
  intro m
  induction m using Nat.strongRecOn with
  | _ m ih=>
   intro i e' hm hI hr
   have:=round i hI (fun i' e'' hlt hI' hr' w hw a cs Φ h1 h2 h3 h4=>.step stepR_inLoop (ih _ (hm ▸ hlt) i' e'' rfl hI' hr' w hw a cs Φ h1 h2 h3 h4)) e'
   rw [hr.upds] at this
   exact this
 subst hds
 intro w hw a cs Φ h1 h2 h3 h4
 exact .step stepR_loop (key _ i₀ e rfl hI h0 w (hs w hw) a cs Φ h1 h2 h3 h4)
end Go.Sg
namespace Go.Sg
structure Rp.Good {α : Type} (R:Rp α):Prop where
 mono:R.Mono
 one:∀ h cs x,R.rep h cs x→cs.all one=true
 pos:0 < R.sz
theorem Rp.kR:Rp.int.Good:=⟨Rp.aY,fun _ _ _ e=>by cases e;rfl,Nat.one_pos⟩
theorem Rp.IL:Rp.bool.Good:=⟨Rp.uX,fun _ _ _ e=>by cases e;rfl,Nat.one_pos⟩
def bu {α : Type} (R:Rp α) (h:HF):List Value→List α→Prop
 | cl,[]=>cl=[]
 | cl,x::xs=>∃ cs rest,cl=cs++rest∧cs.length=R.sz∧R.rep h cs x∧bu R h rest xs
section cells
variable {α : Type} {R:Rp α} {h h':HF}
theorem bu.len:∀ {xs:List α} {cl:List Value},bu R h cl xs→cl.length=xs.length * R.sz
 | [],cl,e=>by cases e;simp
 | x::xs,cl,⟨cs,rest,e,hl,_,hr⟩=>by subst e;simp [hl,hr.len,Nat.add_mul];omega
theorem bu.mono (hm:R.Mono) (hl:h.le h'):∀ {xs:List α} {cl:List Value},bu R h cl xs→bu R h' cl xs
 | [],cl,e=>e
 | x::xs,cl,⟨cs,rest,e,hs,r,hr⟩=>⟨cs,rest,e,hs,hm _ _ _ _ hl r,hr.mono hm hl⟩
theorem bu.app {b:List Value} {ys:List α} (hb:bu R h b ys):∀ {xs:List α} {a:List Value},bu R h a xs→bu R h (a++b) (xs++ys)
 | [],a,e=>by cases e;exact hb
 | x::xs,a,⟨cs,rest,e,hs,r,hr⟩=>⟨cs,rest++b,by rw [e,List.append_assoc],hs,r,bu.app hb hr⟩
theorem bu.H6 (hg:R.Good):∀ {xs:List α} {cl:List Value},bu R h cl xs→cl.all one=true
 | [],cl,e=>by cases e;rfl
 | x::xs,cl,⟨cs,rest,e,hs,r,hr⟩=>by subst e;rw [List.all_append,hg.one _ _ _ r,hr.H6 hg];rfl
theorem bu.get:∀ {xs:List α} {cl:List Value},bu R h cl xs→∀ i x,xs[i]? = some x→∃ cs,cs.length=R.sz∧R.rep h cs x∧∀ j v,cs[j]? = some v→cl[i * R.sz+j]? = some v
 | [],cl,_,i,x,hx=>by simp at hx
 | y::xs,cl,⟨cs,rest,e,hs,r,hr⟩,0,x,hx=>by
  simp at hx;subst hx e
  refine ⟨cs,hs,r,fun j v hj=>?_⟩
  have hlt:j < cs.length:=(List.getElem?_eq_some_iff.1 hj).1
  simp [List.getElem?_append_left hlt,hj]
 | y::xs,cl,⟨cs,rest,e,hs,r,hr⟩,i+1,x,hx=>by
  simp at hx
  subst e
  obtain ⟨ds,h1,h2,h3⟩:=hr.get i x hx
  refine ⟨ds,h1,h2,fun j v hj=>?_⟩
  have:=h3 j v hj
  have hge:cs.length≤(i+1) * R.sz+j:=by rw [hs,Nat.add_mul];omega
  rw [List.getElem?_append_right hge,hs]
  have e1:(i+1) * R.sz+j - R.sz=i * R.sz+j:=by rw [Nat.add_mul];omega
  rw [e1];exact this
theorem oK (bk n:Nat):(⟨bk,0,none⟩:Addr).add n=⟨bk,n,none⟩:=by
 by_cases e0:n=0
 ·simp [Addr.add,e0]
 ·simp [Addr.add,e0]
theorem bu.slB {bk T:Nat} {fz:Nat×Nat} {cl sp:List Value} {xs:List α} (hc:bu R h cl xs) (hb:h bk=some (.cells (cl++sp).toArray T fz)) (hle:xs.length≤9223372036854775807):SlB R h (some ⟨bk,0,none⟩) xs:=by
 refine ⟨hle,?_⟩
 intro i x hx
 obtain ⟨cs,h1,h2,h3⟩:=hc.get i x hx
 refine ⟨_,cs,rfl,?_,h1,h2⟩
 rw [oK]
 refine At.Be hb fun j v hj=>?_
 have:=h3 j v hj
 have hlt:=(List.getElem?_eq_some_iff.1 this).1
 rw [List.getElem?_append_left hlt];exact this
theorem bu.Ms {base:Option Addr}:∀ {xs:List α},SlB R h base xs→∃ cl,bu R h cl xs∧∀ a,base=some a→xs≠[]→At h a cl:=by
 intro xs hs
 cases hxs:xs with
 | nil=>exact ⟨[],rfl,fun _ _ hne=>(hne rfl).elim⟩
 | cons x0 xs0=>
  obtain ⟨p,cs0,hp,hA0,_,_⟩:=hs.2 0 x0 (by rw [hxs];rfl)
  subst hp
  have hA0':At h p cs0:=by simpa [Addr.add] using hA0
  obtain ⟨arr,T,fz,hb,hsp,_⟩:=hA0'
  have key:∀ (ys:List α) (k:Nat),(∀ i y,ys[i]? = some y→xs[k+i]? = some y)→∃ cl,bu R h cl ys∧∀ j v,cl[j]? = some v→arr[p.off+(k * R.sz+j)]? = some v:=by
   intro ys
   induction ys with
   | nil=>intro k _;exact ⟨[],rfl,fun j v hj=>by simp at hj⟩
   | cons y ys ih=>
    intro k hk
    obtain ⟨q,cs,hq,hA,hl,hr⟩:=hs.2 k y (hk 0 y rfl)
    cases hq
    obtain ⟨cl,hc,hcl⟩:=ih (k+1) (fun i z hz=>by have:=hk (i+1) z (by simpa using hz);rw [show k+1+i=k+(i+1) by omega];exact this)
    refine ⟨cs++cl,⟨cs,cl,rfl,hl,hr,hc⟩,fun j v hj=>?_⟩
    have hblk:(p.add (k * R.sz)).block=p.block:=by unfold Addr.add;split <;> simp [hsp]
    have hoff:(p.add (k * R.sz)).off=p.off+k * R.sz:=by
     unfold Addr.add;split
     ·simp_all
     ·simp [hsp]
    obtain ⟨arr',T',fz',hb',hsp',hg'⟩:=hA
    rw [hblk,hb] at hb'
    cases hb'
    rcases Nat.lt_or_ge j cs.length with hlt | hge
    ·rw [List.getElem?_append_left hlt] at hj
     have:=hg' j v hj
     rw [hoff] at this
     rw [← Nat.add_assoc];exact this
    ·rw [List.getElem?_append_right hge] at hj
     have:=hcl _ v hj
     rw [hl] at this hge
     rw [show k * R.sz+j=(k+1) * R.sz+(j - R.sz) by rw [Nat.add_mul];omega];exact this
  obtain ⟨cl,hc,hcl⟩:=key xs 0 (fun i y hy=>by simpa using hy)
  refine ⟨cl,by rw [← hxs];exact hc,fun a ha _=>?_⟩
  cases ha
  exact ⟨arr,T,fz,hb,hsp,fun j v hj=>by simpa using hcl j v hj⟩
end cells
def em {α : Type} (R:Rp α) (E:TypeId) (h:HF) (xs:List α) (base:Option Addr) (cap:Nat) (G:LH):Prop:=
 (xs=[]∧base=none∧cap=0∧G=[]) ∨
 ∃ bk cl sp,base=some ⟨bk,0,none⟩∧bu R h cl xs∧(cl++sp).length=cap * R.sz∧xs.length≤cap∧xs.length≤9223372036854775807∧G=[(bk,.cells (cl++sp).toArray E (0,0))]
theorem em.nil {α : Type} {R:Rp α} {E:TypeId} {h:HF}:em R E h [] none 0 []:=.inl ⟨rfl,rfl,rfl,rfl⟩
theorem em.mono {α : Type} {R:Rp α} {E:TypeId} {h h':HF} {xs:List α} {base:Option Addr} {cap:Nat} {G:LH} (g:em R E h xs base cap G) (hm:R.Mono) (hl:h.le h'):em R E h' xs base cap G:=by
 rcases g with g | ⟨bk,cl,sp,h1,h2,h3⟩
 ·exact .inl g
 ·exact .inr ⟨bk,cl,sp,h1,h2.mono hm hl,h3⟩
theorem em.lit {α : Type} {R:Rp α} {E:TypeId} {h:HF} {xs:List α} {bk cap:Nat} {cl:List Value} (hc:bu R h cl xs) (hl:xs.length=cap) (hb:xs.length≤9223372036854775807:=by simp):em R E h xs (some ⟨bk,0,none⟩) cap [(bk,.cells cl.toArray E (0,0))]:=
 .inr ⟨bk,cl,[],rfl,hc,by simp [hc.len,hl],by omega,hb,by simp⟩
def Src {α : Type} (R:Rp α) (h:HF) (L:LH) (x:Value) (ys:List α):Prop:=
 ∃ base c cl,x=.slice base ys.length c∧bu R h cl ys∧(ys≠[]→∃ a,base=some a)∧∀ X w,St X h L w→∀ a,base=some a→∀ j u,cl[j]? = some u→w.cell? (a.add j)=some u
theorem vS {α : Type} {R:Rp α} {h:HF} {L:LH} {base:Option Addr} {ys:List α} {c:Nat} (hs:SlB R h base ys):Src R h L (.slice base ys.length c) ys:=by
 obtain ⟨cl,hc,hA⟩:=bu.Ms hs
 refine ⟨base,c,cl,rfl,hc,fun hne=>?_,fun X w hw a ha j u hj=>?_⟩
 ·cases ys with
  | nil=>exact (hne rfl).elim
  | cons y ys=>obtain ⟨p,_,hp,_⟩:=hs.2 0 y rfl;exact ⟨p,hp⟩
 ·have hne:ys≠[]:=by
   intro e;subst e;cases hc;simp at hj
  exact (hA a ha hne).cell hw hj
theorem fI {α : Type} {R:Rp α} {h:HF} {L:LH} (i:Nat) {bk T:Nat} {fz:Nat×Nat} {cl:List Value} {ys:List α} {c:Nat} (hL:nth L i=some (bk,.cells cl.toArray T fz)) (hc:bu R h cl ys):
  Src R h L (.slice (some ⟨bk,0,none⟩) ys.length c) ys:=
 ⟨_,c,cl,rfl,hc,fun _=>⟨_,rfl⟩,fun X w hw a ha j u hj=>by
  cases ha
  rw [oK]
  exact hw.cell hL (by rw [gP];exact hj)⟩
theorem bu.slB0 {α : Type} {R:Rp α} {h:HF} {bk T:Nat} {fz:Nat×Nat} {cl:List Value} {xs:List α} (hc:bu R h cl xs) (hb:h bk=some (.cells cl.toArray T fz)) (hle:xs.length≤9223372036854775807:=by simp) {cap:Nat} (hcap:xs.length≤cap:=by simp):SlC R h (some ⟨bk,0,none⟩) cap xs:=
 ⟨bu.slB (sp:=[]) hc (by simpa using hb) hle,hcap⟩
def Rp.sl {α : Type} (R:Rp α):Rp (List α):=⟨1,fun h cs xs=>∃ b c,cs=[.slice b xs.length c]∧SlC R h b c xs⟩
theorem Rp.uK {α : Type} {R:Rp α} (hm:R.Mono):(Rp.sl R).Mono:=fun _ _ _ _ hl ⟨b,c,e,s⟩=>⟨b,c,e,s.mono hm hl⟩
theorem Rp.Lc {α : Type} {R:Rp α} (hm:R.Mono):(Rp.sl R).Good:=⟨Rp.uK hm,fun _ _ _ ⟨_,_,e,_⟩=>by cases e;rfl,Nat.one_pos⟩
theorem uM {P:Program} {α : Type} {R:Rp α} {h:HF} {L:LH} {x:Value} {ys:List α} (s:Src R h L x ys) {X:Cx} {w:World} (hw:St X h L w):
  ∃ cl base c,x=.slice base ys.length c∧bu R h cl ys∧(Builtin.firstCells R.sz ys.length x).run P w=.ok cl.toArray w:=by
 obtain ⟨base,c,cl,rfl,hc,h1,h2⟩:=s
 refine ⟨cl,base,c,rfl,hc,?_⟩
 cases base with
 | none=>
  have:ys=[]:=Classical.byContradiction fun hne=>by obtain ⟨a,ha⟩:=h1 hne;cases ha
  subst this;cases hc
  simp [Builtin.firstCells]
 | some a=>exact run_firstCells_some w _ _ a _ _ cl hc.len (h2 X w hw a rfl)
theorem Hz {α : Type} (a:List α) (x:α) (b:List α):nth (a++x::b) a.length=some x:=by rw [gP];simp
theorem AB {α : Type} (a:List α) (x y:α) (b:List α):setNth (a++x::b) a.length y=a++y::b:=by rw [kN];simp
def bytesOf (P:Program) (E:TypeId):Option Nat:=(P.info? E).map (·.bytes)
theorem uJ (vs:List Value):∀ (cl sp:List Value),vs.length≤sp.length→splice (cl++sp) cl.length vs=cl++(vs++sp.drop vs.length):=by
 induction vs with
 | nil=>intro cl sp _;simp [splice]
 | cons v vs ih=>
  intro cl sp hl
  cases sp with
  | nil=>simp at hl
  | cons s sp=>
   simp only [splice]
   have:=ih (cl++[v]) sp (by simpa using hl)
   simp only [kN,List.length_append,List.length_cons,List.length_nil,List.append_assoc,List.cons_append,List.nil_append] at this ⊢
   rw [show (cl++s::sp).set cl.length v=cl++v::sp by simp]
   simpa using this
theorem Gn {P:Program} {α : Type} {R:Rp α} (hg:R.Good) {X:Cx} {h:HF} {w:World} (A Q:LH) {t ty E:TypeId} {xs ys:List α} {base:Option Addr} {cap:Nat} {G:LH} {x:Value} {zo:Nat} {a:Bool} {zs:List Value}
  (hw:St X h (A++(G++Q)) w) (hT:P.underlying t=some (.slice E)) (hS:tySz P E=some (R.sz,a)) (hz:zeroC P E=some zs) (hzl:zs.length=R.sz) (hby:bytesOf P E=some zo) (hG:em R E h xs base cap G) (hsrc:Src R h (A++(G++Q)) x ys)
  (hb:(xs.length+ys.length) * zo≤140737488355328) (hb2:xs.length+ys.length≤9223372036854775807):
  ∃ base' cap' G' w',(Builtin.append_ #[t,t] ty #[.slice base xs.length cap,x]).run P w=.ok (.slice base' (xs++ys).length cap') w'∧em R E h (xs++ys) base' cap' G'∧St X h (A++(G'++Q)) w':=by
 obtain ⟨i,hi,hby'⟩:∃ i,P.info? E=some i∧i.bytes=zo:=by
  unfold bytesOf at hby
  cases hi:P.info? E with
  | none=>simp [hi] at hby
  | some i=>exact ⟨i,rfl,by simpa [hi] using hby⟩
 have hsz:i.size=R.sz:=by
  have:=iy hS w
  simpa [sizeOf,typeInfo,hi] using this
 obtain ⟨z,hzz,hzc⟩:∃ z,i.zero=some z∧z.cells=zs.toArray:=by
  unfold zeroC at hz
  cases hzz:i.zero with
  | none=>simp [hi,hzz] at hz
  | some z=>exact ⟨z,rfl,by simp [hi,hzz] at hz;rw [lC,hz]⟩
 have hnewlen:(xs++ys).length=xs.length+ys.length:=by simp
 obtain ⟨cl,bs,c,hx,hc,hf⟩:=uM (P:=P) hsrc hw
 by_cases hroom:xs.length+ys.length≤cap
 ·
  rcases hG with ⟨rfl,rfl,rfl,rfl⟩ | ⟨bk,cl0,sp,rfl,hc0,hlen,hle,_,rfl⟩
  ·have hy:ys=[]:=List.eq_nil_of_length_eq_zero (by simpa using hroom)
   subst hy
   cases hc
   refine ⟨none,0,[],w,?_,em.nil,by simpa using hw⟩
   subst hx
   rw [← hsz] at hf
   simp [Builtin.append_,run_underlying hT,sizeOf,typeInfo,hi,Builtin.lenOf,hf] at hf ⊢
  ·have hlcl:=hc.len
   have hl0:=hc0.len
   have hfit:cl.length≤sp.length:=by
    simp only [List.length_append] at hlen
    have:(xs.length+ys.length) * R.sz≤cap * R.sz:=Nat.mul_le_mul_right _ hroom
    rw [Nat.add_mul] at this
    omega
   have hown:w.heap[bk]? = some (.cells (cl0++sp).toArray E (0,0)):=hw.own (bk,_) (by simp)
   have hst:=lj (P:=P) (T:=E) (xs.length * R.sz) cl 0 (cl0++sp) w hown (by simp;omega) (by simpa using hc.H6 hg)
   simp only [Nat.add_zero] at hst
   have hwr:=hw.write (i:=A.length) (b:=bk) (o:=.cells (cl0++sp).toArray E (0,0)) (by simpa using Hz A _ Q) (.cells (splice (cl0++sp) (xs.length * R.sz) cl).toArray E (0,0))
   refine ⟨some ⟨bk,0,none⟩,cap,[(bk,.cells (splice (cl0++sp) (xs.length * R.sz) cl).toArray E (0,0))],{ w with heap:=w.heap.setIfInBounds bk (.cells (splice (cl0++sp) (xs.length * R.sz) cl).toArray E (0,0)) },?_,?_,?_⟩
   ·subst hx
    rw [← hsz] at hf hst ⊢
    simp [Builtin.append_,run_underlying hT,sizeOf,typeInfo,hi,Builtin.lenOf,hf,hroom,oK,hst]
   ·have hsp:=uJ cl cl0 sp hfit
    rw [hl0] at hsp
    refine .inr ⟨bk,cl0++cl,sp.drop cl.length,rfl,bu.app hc hc0,?_,by simpa using hroom,by simpa using hb2,?_⟩
    ·simp only [List.length_append,List.length_drop] at hlen ⊢;omega
    ·rw [hsp];simp
   ·have:=AB A (bk,Obj.cells (cl0++sp).toArray E (0,0)) (bk,.cells (splice (cl0++sp) (xs.length * R.sz) cl).toArray E (0,0)) Q
    simp only [List.cons_append,List.nil_append] at hwr ⊢
    rw [this] at hwr
    exact hwr
 ·
  have hcap:cap < xs.length+ys.length:=by omega
  have hwd:St X h (A++(G++Q)) w.drew:=hw.drew _
  obtain ⟨cl0,hc0,hf0⟩:∃ cl0,bu R h cl0 xs∧(Builtin.firstCells R.sz xs.length (.slice base xs.length cap)).run P w.drew=.ok cl0.toArray w.drew:=by
   rcases hG with ⟨rfl,rfl,rfl,rfl⟩ | ⟨bk,cl0,sp,rfl,hc0,hlen,hle,_,rfl⟩
   ·exact ⟨[],rfl,by simp [Builtin.firstCells]⟩
   ·refine ⟨cl0,hc0,run_firstCells_some _ _ _ _ _ _ _ hc0.len fun j v hj=>?_⟩
    have hown:w.drew.heap[bk]? = some (.cells (cl0++sp).toArray E (0,0)):=hwd.own (bk,_) (by simp)
    have hlt:=(List.getElem?_eq_some_iff.1 hj).1
    rw [oK]
    simp only [World.cell?,hown]
    simp [List.getElem?_append_left hlt,hj]
  obtain ⟨cl',_,_,hx',hc',hf'⟩:=uM (P:=P) hsrc hwd
  have hfit:Builtin.nextslicecap (xs.length+ys.length) cap * i.bytes≤281474976710656:=growslice_fits hcap (by rw [hby'];exact hb)
  have h48':¬ (281474976710656 < Builtin.nextslicecap (xs.length+ys.length) cap * i.bytes):=by omega
  have h63':¬ (9223372036854775807 < ((xs.length:Int)+(ys.length:Int))):=by omega
  have hge:=grownCap_ge w (xs.length+ys.length) cap E
  let nc:=grownCap w (xs.length+ys.length) cap E
  let rest:=(Builtin.zeroCells z.cells (nc - (xs.length+ys.length))).toList
  refine ⟨some ⟨w.heap.size,0,none⟩,nc,[(w.heap.size,.cells ((cl0++cl')++rest).toArray E (0,0))],w.drew.alloc (.cells ((cl0++cl')++rest).toArray E),?_,?_,?_⟩
  ·subst hx
   rw [← hsz] at hf0 hf'
   simp [Builtin.append_,run_underlying hT,sizeOf,typeInfo,zeroValue,hi,hzz,Builtin.lenOf,hroom,h63',h48',Question.forced,hf0,hf',newRow,grownCap,nc,rest]
   congr 2
   apply Array.ext'
   simp
  ·refine .inr ⟨w.heap.size,cl0++cl',rest,rfl,bu.app hc' hc0,?_,by rw [hnewlen];exact hge,by rw [hnewlen];exact hb2,rfl⟩
   have:rest.length=(nc - (xs.length+ys.length)) * R.sz:=by
    simp [rest,Builtin.zeroCells,hzc,hzl]
   simp only [List.length_append,this,hc0.len,hc'.len,← Nat.add_mul]
   congr 1
   omega
  ·have h1:=hwd.alloc (.cells ((cl0++cl')++rest).toArray E (0,0))
   have hsub:((w.heap.size,Obj.cells ((cl0++cl')++rest).toArray E (0,0))::(A++Q)).Sublist ((w.heap.size,Obj.cells ((cl0++cl')++rest).toArray E (0,0))::(A++(G++Q))):=
    .cons_cons _ ((List.Sublist.refl A).append (List.sublist_append_right G Q))
   have h2:=h1.sub hsub
   exact h2.perm (List.perm_middle.symm)
section step
variable {P:Program} {b:Frame} {n:Nat} {ops:Array Oper} {F:List Frame→(Machine→Prop)→Prop} {e:Env} {ds:List Deferred} {X:Cx} {h:HF} {L:LH} {K:Env→HF→LH→Prop}
variable {d:Option Nat} {ty:TypeId} {pos:String} {af:Array Edge} {g:Option (Nat×Bool)}
theorem eR {α : Type} {R:Rp α} (hg:R.Good) (A Q:LH) (LL:LH→LH) {t E:TypeId} {s y:Operand} {xs ys:List α} {base:Option Addr} {cap:Nat} {G:LH} {m zo:Nat} {a:Bool} {zs:List Value}
  (hL:L=A++(G++Q)) (hLL:∀ G',A++(Q++G')=LL G') (hT:P.underlying t=some (.slice E)) (hS:tySz P E=some (R.sz,a)) (hz:zeroC P E=some zs) (hzl:zs.length=R.sz) (hby:bytesOf P E=some zo)
  (hG:em R E h xs base cap G) (hx:e.ev s=.slice base m cap) (hm:m=xs.length) (hsrc:Src R h L (e.ev y) ys)
  (hb:(xs.length+ys.length) * zo≤140737488355328) (hb2:xs.length+ys.length≤9223372036854775807)
  (t':∀ base' cap' G',em R E h (xs++ys) base' cap' G'→K (pute e d (.slice base' (xs++ys).length cap')) h (LL G'))
  (hgd:guardB ops e ⟨d,.call ⟨.builtin .append,#[s,y],#[t,t]⟩,ty,pos,af,g⟩=true:=by rfl):Stp P b n ops F ds X ⟨d,.call ⟨.builtin .append,#[s,y],#[t,t]⟩,ty,pos,af,g⟩ e h L K:=
 iN hgd fun w hw=>by
  subst hL hm
  obtain ⟨base',cap',G',w',hr,hG',hst⟩:=Gn (P:=P) (ty:=ty) hg A Q hw hT hS hz hzl hby hG hsrc hb hb2
  refine ⟨_,w',h,_,?_,(hLL G') ▸ hst.perm (List.Perm.append_left A List.perm_append_comm),t' _ _ _ hG'⟩
  simp [execOp,resolve,invoke,builtin,hx,hr]
end step
end Go.Sg
