import Derived.Recover
import Derived.Maps.RangeRun
import Derived.Conc.LoneCalls
import Derived.Test.YtngiefchigcphaaGreatDoorW1
import Derived.Test.YtngiefchigcphaaGreatDoorW2
/- A part of the proof of the law AsofMore: where what it reads holds at most 1048576 values and letters, the call returns true and its arguments read as they did. Conditions: that bound, and that the listed table starts as the program lays it. -/
set_option linter.unusedVariables false
set_option linter.unusedSimpArgs false
namespace Go.Sg
section
variable {P:Program} {b:Frame} {n:Nat} {k:List Item} {F:List Frame→(Machine→Prop)→Prop} {e:Env} {ds:List Deferred} {X:Cx} {h:HF} {L:LH}
theorem HB {c:Code} (L':LH) (sl:List (Nat×Value)) (hk:∀ e',TT P b n k F (upds e' sl) ds X h L')
  (t':(∀ e',mH e' sl→TT P b n k F e' ds X h L')→TT P b n (.code c::k) F e ds X h L):TT P b n (.code c::k) F e ds X h L:=
 t' fun e' hr=>by have:=hk e';rw [hr.upds] at this;exact this
theorem wj {ops:Array Oper} {l:List Oper} {L':LH} (hs:L.Perm L') (t:TO P b n ops l k F e ds X h L'):TO P b n ops l k F e ds X h L:=fun w hw=>t w (hw.perm hs)
theorem iF {ops:Array Oper} {l:List Oper} {L':LH} (hs:L=L') (t:TO P b n ops l k F e ds X h L'):TO P b n ops l k F e ds X h L:=hs ▸ t
theorem rZ (A G M:LH):(A++(M++G)).Perm (A++(G++M)):=List.Perm.append_left A List.perm_append_comm
theorem pR {id:Nat} {c:Code} {ι : Type} (sl:ι→List (Nat×Value)) (dd:ι→List Deferred) (hh:ι→HF) (LL:ι→LH) (I:ι→Prop)
  (hk:∀ i,I i→∀ e',TT P b n k F (upds e' (sl i)) (dd i) X (hh i) (LL i))
  (hb:(∀ i e',I i→mH e' (sl i)→TT P b n k F e' (dd i) X (hh i) (LL i))→TT P b n (.code c::.inBlock id::k) F e ds X h L):TT P b n (.code (.block id c)::k) F e ds X h L:=
 aU (hb fun i e' hI hr=>Br (sl i) hr (hk i hI e'))
end
section runs
variable {P:Program} {e:Env} {X:Cx} {h:HF} {L:LH} {d:Option Nat} {ty:TypeId} {pos:String} {af:Array Edge} {g:Option (Nat×Bool)}
theorem Gr {t E:TypeId} {x ix:Operand} {len sz:Nat} {a:Bool} {p:Addr} {i:Int} (hT:P.underlying t=some (.array len E)) (hS:tySz P E=some (sz,a)) (hx:e.ev x=.pointer (some p)) (hix:e.ev ix=.int .i64 i) (hi:0≤i∧i < (len:Int)):
  ∀ w,St X h L w→(execOp e.ev ⟨d,.indexAddr t x ix,ty,pos,af,g⟩).run P w=.ok (.value (.pointer (some (p.add (i.toNat * sz))))) w:=
 fun w _=>by simp [execOp,Instr.indexAt,Instr.sureAddr,hix,hx,asIntOf,run_underlying hT,gV hS,hi.1,hi.2]
theorem rV {c x y:Operand} {s:Bool} {v:Value} (hc:e.ev c=.bool s) (hv:(bif s then e.ev x else e.ev y)=v):∀ w,St X h L w→(execOp e.ev ⟨d,.pick c x y,ty,pos,af,g⟩).run P w=.ok (.value v) w:=
 hv ▸ cr hc
end runs
section stepsM
variable {P:Program} {b:Frame} {n:Nat} {ops:Array Oper} {F:List Frame→(Machine→Prop)→Prop} {e:Env} {ds:List Deferred} {X:Cx} {h:HF} {L:LH} {K:Env→HF→LH→Prop}
variable {ty:TypeId} {pos:String} {af:Array Edge} {g:Option (Nat×Bool)} {κ α : Type} {enc:κ→Value} {V:HF→Value→α→Prop} [DecidableEq κ]
theorem iL (i:Nat) {t T E:TypeId} {mo ko xo:Operand} {bk:Nat} {o:Obj} {m:List (κ×α)} {k:κ} {x:α} (hT:P.underlying t=some (.map T E)) (hK:sF P T enc) (hL:nth L i=some (bk,o)) (hm:gJ enc V h o m)
  (hmo:e.ev mo=.map (some bk)) (hko:e.ev ko=enc k) (hx:V h (e.ev xo) x)
  (t':∀ o',gJ enc V h o' (mput m k x)→K e h (setNth L i (bk,o')))
  (hg:guardB ops e ⟨none,.insert t mo ko xo,ty,pos,af,g⟩=true:=by rfl):Stp P b n ops F ds X ⟨none,.insert t mo ko xo,ty,pos,af,g⟩ e h L K:=by
 unfold Stp
 rw [if_pos hg]
 intro w hw
 have hb:w.heap[bk]? = some o:=by
  have h2:=hL
  rw [gU] at h2
  exact hw.own _ (List.mem_of_getElem? h2)
 obtain ⟨o',hr,hm'⟩:=sL (k:=k) hT hK hb hm hx
 have:(execOp e.ev ⟨none,.insert t mo ko xo,ty,pos,af,g⟩).run P w=.ok .skip { w with heap:=w.heap.setIfInBounds bk o' }:=by
  simp [execOp,hmo,hko,hr]
 rw [this]
 exact ⟨h,_,hw.write hL _,t' o' hm'⟩
end stepsM
section stepsA
variable {P:Program} {b:Frame} {n:Nat} {ops:Array Oper} {F:List Frame→(Machine→Prop)→Prop} {e:Env} {ds:List Deferred} {X:Cx} {h:HF} {L:LH} {K:Env→HF→LH→Prop}
variable {d:Option Nat} {ty:TypeId} {pos:String} {af:Array Edge} {g:Option (Nat×Bool)}
theorem wS (i:Nat) {t:TypeId} {x y:Operand} {m bk T:Nat} {a:Bool} {cl vs:List Value} (hT:tySz P t=some (m,a)) (hx:e.ev x=.pointer (some ⟨bk,0,none⟩))
  (hL:nth L i=some (bk,.cells cl.toArray T (0,0))) (hv:e.ev y=.agg vs.toArray) (hm:vs.length=m) (hc:cl.length=m) (h1:vs.all one=true)
  (t':K e h (setNth L i (bk,.cells vs.toArray T (0,0))))
  (hg:guardB ops e ⟨none,.store t x y,ty,pos,af,g⟩=true:=by rfl):Stp P b n ops F ds X ⟨none,.store t x y,ty,pos,af,g⟩ e h L K:=by
 refine j7 i hT hx hL (vs:=vs) (by rw [hv];simp [vcells]) hm (by rw [Nat.zero_add,hm,hc];simp) h1 ?_ hg
 rw [wN vs cl (by rw [hm,hc])]
 exact t'
theorem Gm {t E:TypeId} {len sz:Nat} {a:Bool} {parts:Array (Nat×Operand)} {zs cells:List Value} (hT:P.underlying t=some (.array len E)) (hS:tySz P E=some (sz,a)) (hz:zeroC P t=some zs)
  (hc:Instr.fill (fun i=>some (i * sz,sz)) zs.toArray (parts.toList.map fun p=>(p.1,e.ev p.2))=some cells.toArray)
  (t':K (pute e d (.agg cells.toArray)) h L)
  (hg:guardB ops e ⟨d,.build t parts,ty,pos,af,g⟩=true:=by rfl):Stp P b n ops F ds X ⟨d,.build t parts,ty,pos,af,g⟩ e h L K:=
 iS hg fun w hw=>by
  obtain ⟨z,h1,h2⟩:=po hz w
  have hparts:(parts.map fun x=>(x.1,e.ev x.2)).toList=parts.toList.map fun p=>(p.1,e.ev p.2):=by simp
  refine ⟨_,_,h,_,?_,hw,t'⟩
  simp only [execOp,Instr.build,Sem.run_bind,h1,h2,Result.andThen_ok,run_underlying hT,gV hS,Sem.run_pure,hparts]
  rw [hc]
  simp
theorem vo {α : Type}:∀ (l:List α) (i:Nat) (x y:α),nth l i=some x→(setNth l i y).Perm (y::dropNth l i)
 | [],_,_,_,h=>by simp [nth] at h
 | z::l,0,x,y,h=>List.Perm.refl _
 | z::l,i+1,x,y,h=>(List.Perm.cons z (vo l i x y h)).trans (List.Perm.swap y z _)
theorem Gl (i:Nat) {t:Nat} {as:Array Operand} {ats:Array TypeId} {fv:Value} {vs:List Value} {bk:Nat} {o o':Obj} (hL:nth L i=some (bk,o))
  (hs:kS P fv vs.toArray h [(bk,o)] (fun x h' B=>x=.returned (.tuple #[])∧h'=h∧B=[(bk,o')])) (hf:e t=fv) (hvs:as.toList.map e.ev=vs) (t':K (pute e d (.tuple #[])) h (setNth L i (bk,o')))
  (hg:guardB ops e ⟨d,.call ⟨.value (.tmp t),as,ats⟩,ty,pos,af,g⟩=true:=by rfl):Stp P b n ops F ds X ⟨d,.call ⟨.value (.tmp t),as,ats⟩,ty,pos,af,g⟩ e h L K:=by
 unfold Stp
 rw [if_pos hg]
 intro w hw
 have hw':=hw.perm (mD L i _ hL)
 have harr:as.map e.ev=vs.toArray:=Array.ext' (by simp [← hvs])
 obtain ⟨nx,hrun,hcall⟩:=hs w (Pre.left (A:=[(bk,o)]) hw'.pre)
 have hr:(execOp e.ev ⟨d,.call ⟨.value (.tmp t),as,ats⟩,ty,pos,af,g⟩).run P w=.ok nx w:=by
  rw [← hrun]
  simp [execOp,resolve,Env.ev,harr,hf]
 rw [hr]
 refine j2 (kN hcall) (hcall.mono ?_)
 rintro x w' ⟨h',B,hst,rfl,rfl,rfl⟩
 exact ⟨h',_,(St.after (A:=[(bk,o)]) (F:=dropNth L i) hw' hst).perm (vo L i _ _ hL).symm,t'⟩
theorem Gk {t:Nat} {ass:Array Operand} {ats:Array TypeId} {fv:Value} {vs:List Value} {φ : Value→HF→Prop} (hs:Ih P fv vs h φ) (hf:e t=fv) (hvs:ass.toList.map e.ev=vs)
  (t':∀ v h',h.le h'→φ v h'→K (pute e d v) h' L)
  (hg:guardB ops e ⟨d,.call ⟨.value (.tmp t),ass,ats⟩,ty,pos,af,g⟩=true:=by rfl):
  Stp P b n ops F ds X ⟨d,.call ⟨.value (.tmp t),ass,ats⟩,ty,pos,af,g⟩ e h L K:=by
 refine tT L [] (List.append_nil L).symm hs hf hvs ?_ ?_ hg
 ·rintro v h' B hle ⟨rfl,v',hv,hφ⟩
  cases hv
  rw [List.append_nil]
  exact t' _ h' hle hφ
 ·rintro ch h' B hle ⟨_,v',hv,_⟩
  cases hv
end stepsA
theorem IN {h:HF} {q:Addr} {cs:List Value} (ha:At h q cs) {i:Int} (hi:0≤i∧i < (cs.length:Int)):At h (q.add (i.toNat * 1)) [cs.getD i.toNat .nilFunc]:=by
 obtain ⟨cl,T,fz,hb,hs,hc⟩:=ha
 have hlt:i.toNat < cs.length:=by omega
 have h1:i.toNat * 1=i.toNat:=Nat.mul_one _
 obtain ⟨g,off,sp⟩:=q
 simp only at hs
 subst hs
 have hq:(⟨g,off,none⟩:Addr).add (i.toNat * 1)=⟨g,off+i.toNat,none⟩:=by
  rw [h1]
  by_cases e0:i.toNat=0
  ·simp [Addr.add,e0]
  ·simp [Addr.add,e0]
 rw [hq]
 refine ⟨cl,T,fz,hb,rfl,fun j v hj=>?_⟩
 have hj0:j=0:=by
  cases j with
  | zero=>rfl
  | succ j=>simp at hj
 subst hj0
 simp at hj
 subst hj
 have:=hc i.toNat (cs.getD i.toNat .nilFunc) (by simp [List.getD,List.getElem?_eq_getElem hlt])
 simpa using this
theorem kE {P:Program} {f:FuncId} {args cap:List Value} {h:HF} {A:LH} {R:Ending→HF→LH→Prop} (hc:∀ args w,(callFunc f args).run P w=.ok (.enter f args) w) (hs:oq P f (args++cap).toArray h A R):
  kS P (.func (.func f) #[] cap.toArray) args.toArray h A R:=by
 intro w hp
 refine ⟨.enter f (args++cap).toArray,?_,jF (hs w hp)⟩
 simp [Deferred.ofValue,invoke,hc]
def exW {ρ : Type} (pe:Int→Value) (f:ρ→Value):Except Int ρ→Except Value Value
 | .ok r=>.ok (f r)
 | .error e=>.error (pe e)
theorem mC {ρ : Type} {pe:Int→Value} {f:ρ→Value} {x:Except Int ρ} {u:Value} (h:exW pe f x=.ok u):∃ r,x=.ok r∧f r=u:=by
 cases x with
 | ok r=>exact ⟨r,rfl,by simpa [exW] using h⟩
 | error p=>simp [exW] at h
theorem kR {ρ : Type} {pe:Int→Value} {f:ρ→Value} {x:Except Int ρ} {p:Value} (h:exW pe f x=.error p):∃ e,x=.error e∧pe e=p:=by
 cases x with
 | ok r=>simp [exW] at h
 | error q=>exact ⟨q,rfl,by simpa [exW] using h⟩
def exi {ρ σ : Type}:Except Int ρ→(ρ→Except Int σ)→Except Int σ
 | .ok r,k=>k r
 | .error p,_=>.error p
theorem mB {ρ σ : Type} {x:Except Int ρ} {k:ρ→Except Int σ} {r:ρ} (h:x=.ok r):exi x k=k r:=by subst h;rfl
theorem kQ {ρ σ : Type} {x:Except Int ρ} {k:ρ→Except Int σ} {p:Int} (h:x=.error p):exi x k=.error p:=by subst h;rfl
theorem iR {P:Program} {f:FuncId} {args:Array Value} {w:World} {R:Ending→World→Prop} (h:Calls P f args w R) (hno:∀ w',¬ R .outgrown w'):ow P f args w R:=by
 intro c cs Φ h1 h2
 obtain ⟨e,w',fr,hR,hc,hfn,hl⟩:=h (c::cs)
 cases e with
 | returned v=>
  obtain ⟨m',s',p'⟩:=h1 v w' hR
  exact ⟨m',(show Steps P _ _ from hc).trans (.head (step_leave_returned hl) s'),p'⟩
 | panicked ch=>
  obtain ⟨m',s',p'⟩:=h2 ch w' hR
  exact ⟨m',(show Steps P _ _ from hc).trans (.head (step_leave_panicked hl) s'),p'⟩
 | outgrown=>exact (hno _ hR).elim
end Go.Sg
namespace Go.Sg
def smP (p:Policy):Prop:=p.Rules.length≤2000000∧(∀ r∈p.Rules,r.Expr.dep≤1500000)∧p.Change.dep≤1500000∧p.Offices.length≤2000000∧p.Kinds.length≤2000000
def smV (l:List Version):Prop:=l.length≤2000000∧∀ v∈l,smP v.Policy
def smR (r:Register):Prop:=smV r.Versions∧r.Appoints.length≤2000000∧r.Deputies.length≤2000000∧r.Interests.length≤2000000∧r.Budgets.length≤2000000∧r.Docs.length≤2000000∧r.Approvals.length≤2000000
theorem smP.rules {p:Policy} (h:smP p):p.Rules.length≤2000000:=h.1
theorem smP.change {p:Policy} (h:smP p):p.Change.dep≤1500000:=h.2.2.1
theorem smV.len {l:List Version} (h:smV l):l.length≤2000000:=h.1
theorem smR.vers {r:Register} (h:smR r):smV r.Versions:=h.1
def okV (l:List Version):Prop:=l.length≤256∧∀ v∈l,(v.Policy.Rules.length≤16∧v.Policy.Offices.length≤32)∧∀ r∈v.Policy.Rules,0≤r.Think∧r.Think≤1099511627775
inductive OkX (n:Int):Expr→Prop
 | mk (x:Expr) (hk:1≤x.Kind∧x.Kind≤4) (hn:x.Kind≤2→0≤x.No∧x.No < n) (hl:x.Kind=4→x.L.length=2) (hs:∀ y∈x.L,OkX n y):OkX n x
theorem OkX.kind {n:Int} {x:Expr} (h:OkX n x):1≤x.Kind∧x.Kind≤4:=by cases h with | mk _ a=>exact a
theorem OkX.no {n:Int} {x:Expr} (h:OkX n x):x.Kind≤2→0≤x.No∧x.No < n:=by cases h with | mk _ _ a=>exact a
theorem OkX.two {n:Int} {x:Expr} (h:OkX n x):x.Kind=4→x.L.length=2:=by cases h with | mk _ _ _ a=>exact a
theorem OkX.sub {n:Int} {x:Expr} (h:OkX n x):∀ y∈x.L,OkX n y:=by cases h with | mk _ _ _ _ a=>exact a
def stopV (e:Int):Value:=.iface 277 (.agg (ot.cells ⟨e⟩).toArray)
def kindsC:List Value:=[.func (.func 299) #[] #[],.func (.func 300) #[] #[],.func (.func 301) #[] #[],.func (.func 302) #[] #[],.func (.func 303) #[] #[]]
def kfun (i:Int):Value:=kindsC.getD i.toNat .nilFunc
def Kinds (h:HF):Prop:=∃ T fz,h 0=some (.cells kindsC.toArray T fz)
theorem Kinds.mono {h h':HF} (k:Kinds h) (hl:h.le h'):Kinds h':=let ⟨T,fz,e⟩:=k;⟨T,fz,hl _ _ e⟩
theorem Kinds.at {h:HF} (k:Kinds h) {i:Int} (hi:0≤i∧i < 5):At h ((⟨0,0,none⟩:Addr).add (i.toNat * 1)) [kfun i]:=by
 obtain ⟨T,fz,e⟩:=k
 rw [ni]
 refine At.xr e (fun j v hj=>?_)
 have hj0:j=0:=by
  cases j with
  | zero=>rfl
  | succ j=>simp at hj
 subst hj0
 simp at hj
 subst hj
 have:i=0∨i=1∨i=2∨i=3∨i=4:=by omega
 rcases this with rfl | rfl | rfl | rfl | rfl <;> rfl
def VFn (_:HF) (v:Value) (x:Value):Prop:=v=x
theorem VFn.mono:uB VFn:=fun _ _ _ _ _ e=>e
theorem gy {κ α : Type} [DecidableEq κ]:∀ (m:List (κ×α)) (k:κ) (v:α),(mput m k v).length≤m.length+1
 | [],_,_=>by simp [mput]
 | (k',v')::r,k,v=>by
  have:=gy r k v
  simp only [mput]
  split <;> simp <;> omega
theorem HI {s:ByteArray} (h:(s.toList==(⟨#[]⟩:ByteArray).toList)=false):0 < s.size:=by
 rcases Nat.eq_zero_or_pos s.size with h0 | h0
 ·exfalso
  have:s=⟨#[]⟩:=by
   cases s with
   | mk d=>
    have:d=#[]:=Array.eq_empty_of_size_eq_zero h0
    rw [this]
  rw [this] at h;simp at h
 ·exact h0
end Go.Sg
namespace Go.Sg
def deferFrame (f:FuncId):Frame:={ fn:=f,tmps:=#[],todo:=[],defers:=[],mode:=.run,kind:=.deferred,roundOf:=none }
section
variable {P:Program} {f:FuncId} {n:Nat} {k:List Item} {e:Env} {X:Cx} {h:HF} {L:LH} {ops:Array Oper} {l:List Oper} {d:Nat} {ty:TypeId} {pos:String} {af:Array Edge} {g:Option (Nat×Bool)} {ats:Array TypeId}
theorem DB {F F':List Frame→(Machine→Prop)→Prop} {ds:List Deferred} (v:Value) (hF:∀ cs Φ,F cs Φ→∃ cs',recoverD cs=some (v,cs')∧F' cs' Φ) (t:TO P (deferFrame f) n ops l k F' (upd e d v) ds X h L)
  (hd:Nat.blt d n=true:=by rfl) (hg:guardB ops e ⟨some d,.call ⟨.builtin .recover,#[],ats⟩,ty,pos,af,g⟩=true:=by rfl):
  TO P (deferFrame f) n ops (⟨some d,.call ⟨.builtin .recover,#[],ats⟩,ty,pos,af,g⟩::l) k F e ds X h L:=by
 intro w hw is hi a cs Φ hn he hds hF0
 obtain ⟨i,js,rfl,ho,hj⟩:=mT hi
 obtain ⟨cs',hrec,hF1⟩:=hF cs Φ hF0
 have hwt:=(fG (ops:=ops) he).trans hg
 have hst:=stepGR_op (P:=P) (b:=deferFrame f) (k:=k) (cs:=cs) (w:=w) (rest:=js) ho hwt
 have hr:(execOp a.eval ⟨some d,.call ⟨.builtin .recover,#[],ats⟩,ty,pos,af,g⟩).run P w=.ok .recover w:=by
  simp [execOp,resolve,invoke,builtin]
 have htr:tryRecover ((deferFrame f).atR a (.inRegion ops (i::js)::k)) cs=some (v,cs'):=by
  rw [tryRecover_deferred (by rfl) cs,hrec]
 have hput:envOf (a.put (some d) v)=upd e d v:=by rw [mb a d v (by rw [hn];exact mQ hd),he]
 refine .step (m₁:=lone ((deferFrame f).atR (a.put (some d) v) (.inRegion ops js::k)) cs' w) ?_ (t w hw js hj (a.put (some d) v) cs' Φ (by rw [lC];exact hn) hput (by rw [j5];exact hds) hF1)
 refine step_lone_go ?_
 rw [hst,iK _ _ rfl,← gl a js k ho v]
 simp [stepG.apply,hr,htr]
 rfl
theorem Bs {F:List Frame→(Machine→Prop)→Prop} {ds:List Deferred} (hF:∀ cs Φ,F cs Φ→recoverD cs=none) (t:TO P (deferFrame f) n ops l k F (upd e d .nilIface) ds X h L)
  (hd:Nat.blt d n=true:=by rfl) (hg:guardB ops e ⟨some d,.call ⟨.builtin .recover,#[],ats⟩,ty,pos,af,g⟩=true:=by rfl):
  TO P (deferFrame f) n ops (⟨some d,.call ⟨.builtin .recover,#[],ats⟩,ty,pos,af,g⟩::l) k F e ds X h L:=by
 intro w hw is hi a cs Φ hn he hds hF0
 obtain ⟨i,js,rfl,ho,hj⟩:=mT hi
 have hrec:=hF cs Φ hF0
 have hwt:=(fG (ops:=ops) he).trans hg
 have hst:=stepGR_op (P:=P) (b:=deferFrame f) (k:=k) (cs:=cs) (w:=w) (rest:=js) ho hwt
 have hr:(execOp a.eval ⟨some d,.call ⟨.builtin .recover,#[],ats⟩,ty,pos,af,g⟩).run P w=.ok .recover w:=by
  simp [execOp,resolve,invoke,builtin]
 have htr:tryRecover ((deferFrame f).atR a (.inRegion ops (i::js)::k)) cs=none:=by
  rw [tryRecover_deferred (by rfl) cs,hrec]
 have hput:envOf (a.put (some d) .nilIface)=upd e d .nilIface:=by rw [mb a d _ (by rw [hn];exact mQ hd),he]
 refine .step (m₁:=lone ((deferFrame f).atR (a.put (some d) .nilIface) (.inRegion ops js::k)) cs w) ?_ (t w hw js hj (a.put (some d) .nilIface) cs Φ (by rw [lC];exact hn) hput (by rw [j5];exact hds) hF0)
 refine step_lone_go ?_
 rw [hst,iK _ _ rfl,← gl a js k ho .nilIface]
 simp [stepG.apply,hr,htr]
 rfl
def Fu (P:Program) (X:Cx) (u':FrameMode) (R:HF→LH→Prop) (cs:List Frame) (Φ : Machine→Prop):Prop:=
 ∃ c rest,cs=c::rest∧c.mode=u'∧∀ w',(∃ h' B,St X h' B w'∧R h' B)→To P Φ (lone { c with mode:=settle u' } rest w')
theorem F4 {fn:Func} {u':FrameMode} {R:HF→LH→Prop} (hf:P.funcs[f]? = some fn) (hr:fn.results=#[]) (hR:R h L):TT P (deferFrame f) n [] (Fu P X u' R) e [] X h L:=by
 intro w hw a cs Φ hn he hds hF
 obtain ⟨c,rest,rfl,hm,h1⟩:=hF
 refine .step (stepR_end rfl) ?_
 have hgo:Frame.going P { (deferFrame f).atR a [] with mode:=.returning } w (.returned (.tuple #[])):=⟨rfl,hds,fn,hf,kF hr a w⟩
 refine .step (step_going_returned (c:=c) (cs:=rest) rfl hgo) ?_
 rw [hm]
 exact h1 w ⟨h,L,hw,hR⟩
end
section
variable {P:Program} {b:Frame} {n:Nat} {k:List Item} {F:List Frame→(Machine→Prop)→Prop} {e:Env} {ds:List Deferred} {X:Cx} {h:HF} {L:LH} {ops:Array Oper} {l:List Oper} {ty:TypeId} {pos:String} {af:Array Edge} {g:Option (Nat×Bool)}
theorem F3 {t:Nat} {fv:Fn} {cap:Array Value} {ats:Array TypeId} (hro:b.roundOf=none) (hf:e t=.func fv #[] cap)
  (t':TO P b n ops l k F e ({ target:=.fn fv cap,args:=#[] }::ds) X h L)
  (hg:guardB ops e ⟨none,.defer ⟨.value (.tmp t),#[],ats⟩,ty,pos,af,g⟩=true:=by rfl):TO P b n ops (⟨none,.defer ⟨.value (.tmp t),#[],ats⟩,ty,pos,af,g⟩::l) k F e ds X h L:=by
 intro w hw is hi a cs Φ hn he hds hF
 obtain ⟨i,js,rfl,ho,hj⟩:=mT hi
 have hwt:=(fG (ops:=ops) he).trans hg
 have hst:=stepGR_op (P:=P) (b:=b) (k:=k) (cs:=cs) (w:=w) (rest:=js) ho hwt
 have hr:(execOp a.eval ⟨none,.defer ⟨.value (.tmp t),#[],ats⟩,ty,pos,af,g⟩).run P w=.ok (.defer { target:=.fn fv cap,args:=#[] }) w:=by
  have hev:a.eval (.tmp t)=.func fv #[] cap:=by rw [jg,he];exact hf
  simp [execOp,resolve,hev,Deferred.ofValue]
 have hs:Oper.semAt b.roundOf a.eval ⟨none,.defer ⟨.value (.tmp t),#[],ats⟩,ty,pos,af,g⟩=execOp a.eval ⟨none,.defer ⟨.value (.tmp t),#[],ats⟩,ty,pos,af,g⟩:=by rw [hro];rfl
 refine .step (m₁:=lone (b.atR { a with defers:={ target:=.fn fv cap,args:=#[] }::a.defers } (.inRegion ops js::k)) cs w) ?_ (t' w hw js hj { a with defers:={ target:=.fn fv cap,args:=#[] }::a.defers } cs Φ hn he (by rw [hds]) hF)
 refine step_lone_go ?_
 have hfin:=gl (b:=b) { a with defers:={ target:=.fn fv cap,args:=#[] }::a.defers } js k ho undef
 rw [hst,hs]
 simp only [stepG.apply,Sem.runT_eq,hr,GStep.bare_after]
 exact congrArg (fun fr=>GStep.go { frame:=fr,callers:=cs,status:=.running,dying:=none } w) hfin
end
theorem Hz {P:Program} {f g:FuncId} {n m:Nat} {k:List Item} {e:Env} {X:Cx} {h:HF} {L A Fr:LH} {cap:List Value} {c:Code} {fn gn:Func} {R:Ending→HF→LH→Prop} {R':HF→LH→Prop}
  (hf:P.funcs[f]? = some fn) (hg:P.funcs[g]? = some gn) (hb:gn.body=some c) (hm:gn.ntmps=m) (hle:Nat.ble cap.length m=true) (hc:∀ args w,(callFunc g args).run P w=.ok (.enter g args) w)
  (t:∀ X':Cx,X'.h0=h→TT P (deferFrame g) m [.code c] (Fu P X' .returning R') (envArgs cap) [] X' h A) (hL:L=A++Fr)
  (fin:∀ h' B,h.le h'→R' h' B→∀ a:Act,envOf a=e→∀ w,St X h' (B++Fr) w→∃ v h2 B2,(results fn a.tmps).run P w=.ok v w∧St X h2 B2 w∧R (.returned v) h2 B2):
  TT P (bodyFrame f) n (.code .ret::k) (mg P X R) e [{ target:=.fn (.func g) cap.toArray,args:=#[] }] X h L:=by
 intro w hw a cs Φ hn he hds hF
 obtain ⟨cc,cs',rfl,h1,_⟩:=hF
 subst hL
 refine .step (stepR_ret rfl) ?_
 have hinv:(invoke (.fn (.func g) cap.toArray) #[]).run P w=.ok (.enter g cap.toArray) w:=by simp [invoke,hc]
 refine .step (step_defer (fr:={ (bodyFrame f).atR a (.code .ret::k) with mode:=.returning }) (by simp) hds rfl hinv) ?_
 have hle':=Nat.le_of_ble_eq_true hle
 have henter:Frame.enter P g cap.toArray .deferred=(deferFrame g).atR { tmps:=cap.toArray++Array.replicate (m - cap.length) undef,defers:=[] } [.code c]:=by
  simp [Frame.enter,Frame.atR,hg,hb,hm,deferFrame]
 rw [henter]
 refine t ⟨w,h,A.map (·.1)⟩ rfl w (St.start hw.pre.left) _ _ Φ (by simp;omega) (oh _ _) rfl ⟨_,cc::cs',rfl,rfl,?_⟩
 rintro w' ⟨h',B,hst,hR'⟩
 obtain ⟨v,h2,B2,hv,hs2,hR⟩:=fin h' B hst.le hR' a he w' (hw.after hst)
 refine .step (iC (fn:=fn) (v:=v) rfl rfl rfl hf hv) ?_
 exact h1 v w' ⟨h2,B2,hs2,hR⟩
theorem HD {P:Program} {f g:FuncId} {n m:Nat} {e:Env} {X:Cx} {h:HF} {L A Fr:LH} {cap:List Value} {c:Code} {fn gn:Func} {R:Ending→HF→LH→Prop} {R':HF→LH→Prop} {pv:Value}
  (hf:P.funcs[f]? = some fn) (hg:P.funcs[g]? = some gn) (hb:gn.body=some c) (hm:gn.ntmps=m) (hle:Nat.ble cap.length m=true) (hc:∀ args w,(callFunc g args).run P w=.ok (.enter g args) w)
  (t:∀ X':Cx,X'.h0=h→TT P (deferFrame g) m [.code c] (fun cs Φ=>∃ c rest,cs=c::rest∧c.mode=.panicking [{ v:=pv,recovered:=false }]∧Fu P X' (.panicking [{ v:=pv,recovered:=true }]) R' ({ c with mode:=.panicking [{ v:=pv,recovered:=true }] }::rest) Φ) (envArgs cap) [] X' h A) (hL:L=A++Fr)
  (fin:∀ h' B,h.le h'→R' h' B→∀ a:Act,envOf a=e→∀ w,St X h' (B++Fr) w→∃ v h2 B2,(results fn a.tmps).run P w=.ok v w∧St X h2 B2 w∧R (.returned v) h2 B2):
  TP P (bodyFrame f) n [{ v:=pv,recovered:=false }] (mg P X R) e [{ target:=.fn (.func g) cap.toArray,args:=#[] }] X h L:=by
 intro w hw a cs Φ todo hn he hds hF
 obtain ⟨cc,cs',rfl,h1,_⟩:=hF
 subst hL
 have hinv:(invoke (.fn (.func g) cap.toArray) #[]).run P w=.ok (.enter g cap.toArray) w:=by simp [invoke,hc]
 refine .step (step_defer (fr:={ (bodyFrame f).atR a todo with mode:=.panicking [{ v:=pv,recovered:=false }] }) (by simp) hds rfl hinv) ?_
 have hle':=Nat.le_of_ble_eq_true hle
 have henter:Frame.enter P g cap.toArray .deferred=(deferFrame g).atR { tmps:=cap.toArray++Array.replicate (m - cap.length) undef,defers:=[] } [.code c]:=by
  simp [Frame.enter,Frame.atR,hg,hb,hm,deferFrame]
 rw [henter]
 refine t ⟨w,h,A.map (·.1)⟩ rfl w (St.start hw.pre.left) _ _ Φ (by simp;omega) (oh _ _) rfl ⟨_,cc::cs',rfl,rfl,_,cc::cs',rfl,rfl,?_⟩
 rintro w' ⟨h',B,hst,hR'⟩
 obtain ⟨v,h2,B2,hv,hs2,hR⟩:=fin h' B hst.le hR' a he w' (hw.after hst)
 refine .step (iC (fn:=fn) (v:=v) rfl rfl rfl hf hv) ?_
 exact h1 v w' ⟨h2,B2,hs2,hR⟩
end Go.Sg
namespace Go.Sg
section steps
variable {P:Program} {b:Frame} {n:Nat} {ops:Array Oper} {F:List Frame→(Machine→Prop)→Prop} {e:Env} {ds:List Deferred} {X:Cx} {h:HF} {L:LH} {K:Env→HF→LH→Prop}
variable {d:Option Nat} {ty:TypeId} {pos:String} {af:Array Edge} {g:Option (Nat×Bool)}
theorem Am {t T E:TypeId} {x:Operand} {bk:Nat} {es:Array MapEntry} {clock:Nat} (hT:P.underlying t=some (.map T E)) (hb:h bk=some (.map es clock)) (hx:e.ev x=.map (some bk))
  (t':∀ it,K (pute e d (.pointer (some ⟨it,0,none⟩))) h ((it,.mapIter (some bk) clock #[] clock)::L))
  (hg:guardB ops e ⟨d,.range t x,ty,pos,af,g⟩=true:=by rfl):Stp P b n ops F ds X ⟨d,.range t x,ty,pos,af,g⟩ e h L K:=
 iS hg fun w hw=>⟨_,_,h,_,by simp [execOp,Instr.range,hx,run_underlying hT,kY (hw.imm _ _ hb)],hw.alloc _,t' _⟩
theorem DD (i:Nat) {x:Operand} {it bk since c0:Nat} {seen:Array Nat} {es:Array MapEntry} {clock:Nat} (hL:nth L i=some (it,.mapIter (some bk) since seen c0)) (hb:h bk=some (.map es clock))
  (hold:∀ x∈es.toList,x.born < since) (hsc:since≤c0) (hx:e.ev x=.pointer (some ⟨it,0,none⟩))
  (no:(leftOf es seen).size=0→K (pute e d (.tuple #[.bool false])) h L)
  (yes:∀ en∈(leftOf es seen).toList,K (pute e d (.tuple #[.bool true,en.key,en.val])) h (setNth L i (it,.mapIter (some bk) since (seen.push en.born) clock)))
  (hg:guardB ops e ⟨d,.next x false,ty,pos,af,g⟩=true:=by rfl):Stp P b n ops F ds X ⟨d,.next x false,ty,pos,af,g⟩ e h L K:=by
 refine iS hg fun w hw=>?_
 have hit:w.heap[it]? = some (.mapIter (some bk) since seen c0):=by
  have h2:=hL
  rw [gU] at h2
  exact hw.own _ (List.mem_of_getElem? h2)
 rcases run_next_at (P:=P) w ty it bk since c0 seen es clock hit (hw.imm _ _ hb) hold hsc with ⟨h0,hr⟩ | ⟨en,hen,w1,hw1,hr⟩
 ·exact ⟨_,w,h,L,by simp [execOp,hx,hr],hw,no h0⟩
 ·have hw1':St X h L w1:=by
   rcases hw1 with rfl | rfl
   ·exact hw
   ·exact hw.drew _
  exact ⟨.tuple #[.bool true,en.key,en.val],{ w1 with heap:=w1.heap.setIfInBounds it (.mapIter (some bk) since (seen.push en.born) clock) },h,_,by simp [execOp,hx,hr];rfl,hw1'.write hL _,yes en hen⟩
theorem Av (i:Nat) {x:Operand} {it bk since:Nat} {seen:Array Nat} {es:Array MapEntry} {clock:Nat} {en:MapEntry} (hL:nth L i=some (it,.mapIter (some bk) since (seen.push en.born) clock)) (hb:h bk=some (.map es clock))
  (he:en∈es.toList) (hn:(es.toList.map (·.born)).Nodup) (hx:e.ev x=.pointer (some ⟨it,0,none⟩)):
  ∀ w,St X h L w→(execOp e.ev ⟨d,.entry x,ty,pos,af,g⟩).run P w=.ok (.value (.tuple #[en.key,en.val])) w:=fun w hw=>by
 have hit:w.heap[it]? = some (.mapIter (some bk) since (seen.push en.born) clock):=by
  have h2:=hL
  rw [gU] at h2
  exact hw.own _ (List.mem_of_getElem? h2)
 have:=run_entry_at (P:=P) w it bk since seen es clock en hit (hw.imm _ _ hb) he hn
 simp [execOp,hx,this]
end steps
def vh {α : Type} (P:Program) (it:Value) (val:α→HF→List Value→Prop) (S:List α→Prop) (h:HF):Prop:=
 ∃ (f0:FuncId) (cap:List Value),it=.func (.func f0) #[] cap.toArray∧(∀ args w,(callFunc f0 args).run P w=.ok (.enter f0 args) w) ∧
  ∀ (yf:Fn) (ya yb:Array Value) (C:List α→HF→LH→Prop) (Sp:HF→LH→Prop) (Pn:List PanicEntry→HF→LH→Prop) (h':HF) (A:LH),h.le h' →
   (∀ done h1 h2 B,HF.le h1 h2→C done h1 B→C done h2 B)→(∀ h1 h2 B,HF.le h1 h2→Sp h1 B→Sp h2 B)→(∀ ch h1 h2 B,HF.le h1 h2→Pn ch h1 B→Pn ch h2 B)→C [] h' A →
   (∀ done x vs h'' B,(∃ rest,S (done++x::rest))→h'.le h''→C done h'' B→val x h'' vs→kS P (.func yf ya yb) vs.toArray h'' B (YR C Sp Pn done x)) →
   kS P it #[.func yf ya yb] h' A (fun r h2 B=>(r=.returned (.tuple #[])∧((∃ xs,S xs∧C xs h2 B)∨Sp h2 B))∨∃ ch,r=.panicked ch∧Pn ch h2 B)
theorem zw {α : Type} {P:Program} {f:FuncId} {n:Nat} {k:List Item} {F:List Frame→(Machine→Prop)→Prop} {e:Env} {ds:List Deferred} {X:Cx} {h:HF} {L:LH} {g:Operand} {ps:List Tmp} {assign body:Code}
  {val:α→HF→List Value→Prop} {S:List α→Prop} (I:List α→HF→LH→Prop) (J:Code→HF→LH→Prop) (Pn:List PanicEntry→HF→LH→Prop)
  {it:Value} (hgv:e.ev g=it) (hit:vh P it val S h) (hps:ps.all (fun p=>Nat.blt p n)=true) (hval:∀ x h vs,val x h vs→vs.length=ps.length) (hIm:∀ done h1 h2 B,HF.le h1 h2→I done h1 B→I done h2 B) (hJm:∀ c h1 h2 B,HF.le h1 h2→J c h1 B→J c h2 B) (hPm:∀ ch h1 h2 B,HF.le h1 h2→Pn ch h1 B→Pn ch h2 B) (h0:I [] h L)
  (round:∀ l r lp done x vs h' L' X',(∃ rest,S (done++x::rest))→h.le h'→I done h' L'→val x h' vs→lp.state=.ready→X'.h0=h'→(∀ b∈X'.M,b < X'.w0.heap.size) →
   TT P (roundFrame l f) n [.code assign,.beginRound,.code body] (mg P X' (RdR l r lp I J Pn done x)) (setParams e ps vs) [] X' h' ((l,.loop lp)::(r,.deferred (some []))::L'))
  (next:∀ r xs h' L',S xs→h.le h'→I xs h' L'→TT P (bodyFrame f) n k F e ({ target:=.collected r,args:=#[] }::ds) X h' ((r,.deferred (some []))::L'))
  (jump:∀ r c h' L',h.le h'→J c h' L'→TT P (bodyFrame f) n (.code c::k) F e ({ target:=.collected r,args:=#[] }::ds) X h' ((r,.deferred (some []))::L'))
  (pan:∀ r ch h' L',h.le h'→Pn ch h' L'→TP P (bodyFrame f) n ch F e ({ target:=.collected r,args:=#[] }::ds) X h' ((r,.deferred (some []))::L')):
  TT P (bodyFrame f) n (.code (.rangeFunc g ps.toArray assign body)::k) F e ds X h L:=by
 obtain ⟨f0,cap,rfl,hc0,hit⟩:=hit
 intro w hw a cs Φ hn he hds hF
 let r:=w.heap.size
 let w1:World:={ w with heap:=w.heap.push (.deferred (some [])) }
 have hw1:St X h ((r,.deferred (some []))::L) w1:=hw.alloc _
 let l:=w1.heap.size
 let lp:Loop:={ state:=.ready,pending:=none,fn:=f,tmps:=a.tmps,params:=ps.toArray,assign,body,defers:=r }
 let w2:World:={ w1 with heap:=w1.heap.push (.loop lp) }
 have hw2:St X h ((l,.loop lp)::(r,.deferred (some []))::L) w2:=hw1.alloc _
 have henter:(Instr.enterLoop (bodyFrame f).fn a.tmps ps.toArray assign body (bodyFrame f).roundOf).run P w=.ok (l,[{ target:=.collected r,args:=#[] }]) w2:=by
  simp [Instr.enterLoop,bodyFrame,r,l,lp,w2,w1]
 let C:List α→HF→LH→Prop:=fun done h' B=>∃ L',B=(l,.loop lp)::(r,.deferred (some []))::L'∧I done h' L'
 let Sp:HF→LH→Prop:=fun h' B=>∃ c L',B=(l,.loop { lp with state:=.done,pending:=some c })::(r,.deferred (some []))::L'∧J c h' L'
 let Pm:List PanicEntry→HF→LH→Prop:=fun ch h' B=>∃ lp' L',B=(l,.loop lp')::(r,.deferred (some []))::L'∧Pn ch h' L'
 have hps':∀ p∈ps,p < n:=fun p hp=>mQ (List.all_eq_true.1 hps p hp)
 have hy:∀ done x vs h'' B,(∃ rest,S (done++x::rest))→h.le h''→C done h'' B→val x h'' vs→kS P (.func (.yield l) #[] #[]) vs.toArray h'' B (YR C Sp Pm done x):=by
  rintro done x vs h'' B hxs hle ⟨L',rfl,hI⟩ hv
  refine kS.mono (R:=RdR l r lp I J Pn done x) (vn (i:=0) (lp:=lp) rfl (by simp [lp];exact hval x h'' vs hv) ?_) ?_
  ·intro X' _ hX' hXM'
   have henv:envOf { tmps:=(ps.toArray.zip vs.toArray).foldl (fun tmps p=>tmps.setIfInBounds p.1 p.2) a.tmps,defers:=[] }=setParams e ps vs:=by
    have:=pV ps vs a.tmps a.defers hn hps'
    rw [← he]
    rw [← Array.foldl_toList]
    simpa using this
   have:=round l r lp done x vs h'' L' X' hxs hle hI hv rfl hX' hXM'
   rw [← henv,← hn] at this
   exact this
  ·rintro x' h3 B' _ (⟨e1,L2,e2,h2⟩ | ⟨e1,c,L2,e2,h2⟩ | ⟨ch,e1,lp',L2,e2,h2⟩)
   ·exact .inl ⟨e1,L2,e2,h2⟩
   ·exact .inr (.inl ⟨e1,c,L2,e2,h2⟩)
   ·exact .inr (.inr ⟨ch,e1,lp',L2,e2,h2⟩)
 have hs:=hit (.yield l) #[] #[] C Sp Pm h ((l,.loop lp)::(r,.deferred (some []))::L) (HF.le_refl h) (fun _ _ _ _ hl ⟨L',e1,hi⟩=>⟨L',e1,hIm _ _ _ _ hl hi⟩) (fun _ _ _ hl ⟨c,L',e1,hi⟩=>⟨c,L',e1,hJm _ _ _ _ hl hi⟩) (fun _ _ _ _ hl ⟨lp',L',e1,hi⟩=>⟨lp',L',e1,hPm _ _ _ _ hl hi⟩) ⟨L,rfl,h0⟩ hy
 obtain ⟨nx,hrun,hcall⟩:=hs w2 hw2.pre
 have hev:a.eval g=e.ev g:=by rw [jg,he]
 have hnx:nx=.enter f0 (Value.func (.yield l) #[] #[]::cap).toArray:=by
  simp [Deferred.ofValue,invoke,hc0] at hrun
  simpa using hrun.symm
 subst hnx
 have hres:(resolve a.eval (rangeCall g l) 0).run P w2=.ok { target:=.fn (.func f0) cap.toArray,args:=#[.func (.yield l) #[] #[]] } w2:=by
  have hcst:∀ v,a.eval (.const v)=v:=fun _=>rfl
  simp [resolve,rangeCall,hev,hgv,hcst,Deferred.ofValue]
 have hinv:(invoke (.fn (.func f0) cap.toArray) #[.func (.yield l) #[] #[]]).run P w2=.ok (.enter f0 (Value.func (.yield l) #[] #[]::cap).toArray) w2:=by
  simp [invoke,hc0]
 have hback:∀ v w3,(∃ h' B,St ⟨w2,h,((l,Obj.loop lp)::(r,.deferred (some []))::L).map (·.1)⟩ h' B w3∧(fun (r:Ending) (h2:HF) (B:LH)=>(r=.returned (.tuple #[])∧((∃ xs,S xs∧C xs h2 B)∨Sp h2 B))∨∃ ch,r=.panicked ch∧Pm ch h2 B) (.returned v) h' B) →
   To P Φ (lone (((bodyFrame f).atR { a with defers:=[{ target:=.collected r,args:=#[] }]++a.defers } (.inRangeFunc l::k)).finish v) cs w3):=by
  rintro v w3 ⟨h',B,hst,hR⟩
  rw [finish_atR_inRangeFunc]
  have hS3:St X h' B w3:=by
   have:=St.after (A:=(l,.loop lp)::(r,.deferred (some []))::L) (F:=[]) (by simpa using hw2) hst
   simpa using this
  have hle:=hst.le
  rcases hR with ⟨_,hCS⟩ | ⟨ch,hx,_⟩
  ·rcases hCS with ⟨xs,hxs,L',rfl,hI⟩ | ⟨c,L',rfl,hJ⟩
   ·have hb:w3.heap[l]? = some (.loop lp):=hS3.own _ (List.mem_cons_self ..)
    have hend:(Instr.endLoop l).run P w3=.ok none { w3 with heap:=w3.heap.setIfInBounds l (.loop { lp with state:=.exhausted }) }:=by
     simp [Instr.endLoop,Instr.getLoop,getObj,setObj,Sem.run,hb,lp]
    refine .step (stepR_endRangeFunc hend) ?_
    have hS4:=hS3.write (i:=0) rfl (.loop { lp with state:=.exhausted })
    exact next r xs h' L' hxs hle hI _ (hS4.sub (List.sublist_cons_self ..)) { a with defers:={ target:=.collected r,args:=#[] }::a.defers } cs Φ hn he (by rw [hds]) hF
   ·have hb:w3.heap[l]? = some (.loop { lp with state:=.done,pending:=some c }):=hS3.own _ (List.mem_cons_self ..)
    have hend:(Instr.endLoop l).run P w3=.ok (some c) { w3 with heap:=w3.heap.setIfInBounds l (.loop { lp with state:=.exhausted,pending:=some c }) }:=by
     simp [Instr.endLoop,Instr.getLoop,getObj,setObj,Sem.run,hb,lp]
    refine .step (stepR_endRangeFunc hend) ?_
    have hS4:=hS3.write (i:=0) rfl (.loop { lp with state:=.exhausted,pending:=some c })
    exact jump r c h' L' hle hJ _ (hS4.sub (List.sublist_cons_self ..)) { a with defers:={ target:=.collected r,args:=#[] }::a.defers } cs Φ hn he (by rw [hds]) hF
  ·cases hx
 have hraise:∀ ch w3,(∃ h' B,St ⟨w2,h,((l,Obj.loop lp)::(r,.deferred (some []))::L).map (·.1)⟩ h' B w3∧(fun (r:Ending) (h2:HF) (B:LH)=>(r=.returned (.tuple #[])∧((∃ xs,S xs∧C xs h2 B)∨Sp h2 B))∨∃ ch,r=.panicked ch∧Pm ch h2 B) (.panicked ch) h' B) →
   To P Φ (lone (((bodyFrame f).atR { a with defers:=[{ target:=.collected r,args:=#[] }]++a.defers } (.inRangeFunc l::k)).raise ch) cs w3):=by
  rintro ch w3 ⟨h',B,hst,hR⟩
  have hS3:St X h' B w3:=by
   have:=St.after (A:=(l,.loop lp)::(r,.deferred (some []))::L) (F:=[]) (by simpa using hw2) hst
   simpa using this
  rcases hR with ⟨hx,_⟩ | ⟨ch',hx,lp',L',rfl,hP⟩
  ·cases hx
  ·cases hx
   exact pan r ch h' L' hst.le hP w3 (hS3.sub (List.sublist_cons_self ..)) { a with defers:={ target:=.collected r,args:=#[] }::a.defers } cs Φ _ hn he (by rw [hds]) hF
 refine .step (stepR_rangeFunc henter hres hinv) ?_
 exact hcall _ cs Φ hback hraise
theorem ry {es:List MapEntry} (hn:(es.map (·.born)).Nodup) (is:List Nat) (hlt:∀ i∈is,i < es.length):
  ((leftOf es.toArray (is.map fun i=>(es[i]?.map (·.born)).getD 0).toArray).size=0→∀ i,i < es.length→i∈is) ∧
  ∀ en∈(leftOf es.toArray (is.map fun i=>(es[i]?.map (·.born)).getD 0).toArray).toList,∃ i,es[i]? = some en∧i∉is:=by
 have hmem:∀ en,en∈(leftOf es.toArray (is.map fun i=>(es[i]?.map (·.born)).getD 0).toArray).toList↔en∈es∧en.born∉is.map fun i=>(es[i]?.map (·.born)).getD 0:=by
  intro en
  simp [leftOf]
 constructor
 ·intro h0 i hi
  apply Classical.byContradiction
  intro hni
  have:es[i]∈(leftOf es.toArray (is.map fun i=>(es[i]?.map (·.born)).getD 0).toArray).toList:=by
   rw [hmem]
   refine ⟨List.getElem_mem hi,fun hm=>?_⟩
   obtain ⟨j,hj,hje⟩:=List.mem_map.1 hm
   have hjl:=hlt j hj
   simp only [List.getElem?_eq_getElem hjl,Option.map_some,Option.getD_some] at hje
   have:j=i:=by
    have h1:(es.map (·.born))[j]? = (es.map (·.born))[i]?:=by simp [List.getElem?_eq_getElem hjl,List.getElem?_eq_getElem hi,hje]
    exact (List.getElem?_inj (by simpa using hjl) hn).1 h1
   exact hni (this ▸ hj)
  have hl:(leftOf es.toArray (is.map fun i=>(es[i]?.map (·.born)).getD 0).toArray).toList.length=0:=by simpa using h0
  rw [List.length_eq_zero_iff] at hl
  rw [hl] at this
  exact List.not_mem_nil this
 ·intro en hen
  rw [hmem] at hen
  obtain ⟨i,hi,rfl⟩:=List.mem_iff_getElem.1 hen.1
  refine ⟨i,List.getElem?_eq_getElem hi,fun hm=>hen.2 (List.mem_map.2 ⟨i,hm,?_⟩)⟩
  simp [List.getElem?_eq_getElem hi]
end Go.Sg
namespace Go.Sg
section
variable {P:Program} {b:Frame} {n:Nat} {k:List Item} {F:List Frame→(Machine→Prop)→Prop} {e:Env} {ds:List Deferred} {X:Cx} {h:HF} {L:LH}
theorem Ai {c:Code} {ι : Type} (sl:ι→List (Nat×Value)) (LL:ι→LH) (I:ι→Prop) (hk:∀ i,I i→∀ e',TT P b n k F (upds e' (sl i)) ds X h (LL i))
  (t':(∀ i e',I i→mH e' (sl i)→TT P b n k F e' ds X h (LL i))→TT P b n (.code c::k) F e ds X h L):TT P b n (.code c::k) F e ds X h L:=
 t' fun i e' hI hr=>by have:=hk i hI e';rw [hr.upds] at this;exact this
end
theorem EZ {α ι : Type} {P:Program} {f:FuncId} {fn:Func} {n:Nat} {k:List Item} {F:List Frame→(Machine→Prop)→Prop} {e:Env} {X:Cx} {h:HF} {L:LH} {g:Operand} {ps:List Tmp} {assign body:Code}
  {val:α→HF→List Value→Prop} {xs:List α} {it:Value} (rs:List Nat) (hh:ι→HF) (LL:ι→LH) (I:List α→ι→Prop) (JR:ι→Prop) (xid:Nat) (Q:List PanicEntry→HF→LH→Prop) (i₀ : ι)
  (hf:P.funcs[f]? = some fn) (hgv:e.ev g=it) (hit:Itr P it val xs h) (hps:ps.all (fun p=>Nat.blt p n)=true) (hval:∀ x h vs,val x h vs→vs.length=ps.length) (hQm:∀ ch h1 h2 B,HF.le h1 h2→Q ch h1 B→Q ch h2 B) (hh0:hh i₀=h) (hL0:L=LL i₀) (h0:I xs i₀)
  (round:∀ (l r:Nat) (lp:Loop) (x:α) (rest:List α) (vs:List Value) (i:ι) (h':HF) (X':Cx) (FR:List Frame→(Machine→Prop)→Prop),I (x::rest) i→h.le h'→(hh i).le h'→val x h' vs→X'.h0=h'→(∀ b∈X'.M,b < X'.w0.heap.size)→lp.state=.ready →
   (∀ i' e' h2,I rest i'→(hh i').le h2→TT P (roundFrame l f) n [] FR e' [] X' h2 (rdH l r lp (LL i'++markB rs))) →
   (∀ i' e' h2 k',JR i'→(hh i').le h2→TT P (roundFrame l f) n (.code .ret::k') FR e' [] X' h2 (rdH l r lp (LL i'++markB rs))) →
   (∀ i' e' h2 k',I [] i'→(hh i').le h2→exitTo xid k'=none→TT P (roundFrame l f) n (.code (.exit xid)::k') FR e' [] X' h2 (rdH l r lp (LL i'++markB rs))) →
   (∀ ch e' h' L',Q ch h' L'→TP P (roundFrame l f) n ch FR e' [] X' h' (rdH l r lp (L'++markB rs))) →
   TT P (roundFrame l f) n [.code assign,.beginRound,.code body] FR (setParams e ps vs) [] X' h' ((l,.loop lp)::(r,.deferred (some []))::(LL i++markB rs)))
  (next:∀ r i h',I [] i→(hh i).le h'→h.le h'→TT P (bodyFrame f) n k F e (marks (r::rs)) X h' (LL i++markB (r::rs)))
  (jret:∀ r i h',JR i→(hh i).le h'→h.le h'→TT P (bodyFrame f) n (.code .ret::.inBlock xid::k) F e (marks (r::rs)) X h' (LL i++markB (r::rs)))
  (pan:∀ r ch h' L',Q ch h' L'→h.le h'→TP P (bodyFrame f) n ch F e (marks (r::rs)) X h' (L'++markB (r::rs))):
  TT P (bodyFrame f) n (.code (.rangeFunc g ps.toArray assign body)::.inBlock xid::k) F e (marks rs) X h (L++markB rs):=
 kc rs hh LL I JR (fun i=>I [] i) xid Q i₀ hf hgv hit hps hval hQm hh0 hL0 h0 round (fun r i h' a b c=>ao (next r i h' a b c)) jret
  (fun r i h' a b c=>bM (by simp [exitTo]) (next r i h' a b c)) pan
section mputs
variable {κ α : Type} [DecidableEq κ]
def mputs (v:α) (m:List (κ×α)) (ks:List κ):List (κ×α):=ks.foldl (fun m k=>mput m k v) m
theorem vA (v:α):∀ (ks:List κ) {m m':List (κ×α)},m.Perm m'→(m.map (·.1)).Nodup→(mputs v m ks).Perm (mputs v m' ks)
 | [],_,_,p,_=>p
 | k::ks,_,_,p,hn=>vA v ks (zP k v p hn) (iz k v hn)
theorem nT (v:α) {ks ks':List κ} (p:ks.Perm ks'):∀ {m:List (κ×α)},(m.map (·.1)).Nodup→(mputs v m ks).Perm (mputs v m ks'):=by
 induction p with
 | nil=>exact fun _=>List.Perm.refl _
 | cons x p ih=>exact fun hn=>ih (iz x v hn)
 | swap x y l=>exact fun hn=>vA v l (zQ v _ y x) (iz x v (iz y v hn))
 | trans p q ih1 ih2=>exact fun hn=>(ih1 hn).trans (ih2 hn)
end mputs
theorem p132 {α : Type} (a b c:α):[a,c,b].Perm [a,b,c]:=List.Perm.cons a (List.Perm.swap b c [])
theorem p213 {α : Type} (a b c:α):[b,a,c].Perm [a,b,c]:=List.Perm.swap a b [c]
theorem p231 {α : Type} (a b c:α):[b,c,a].Perm [a,b,c]:=(List.Perm.cons b (List.Perm.swap a c [])).trans (p213 a b c)
theorem p312 {α : Type} (a b c:α):[c,a,b].Perm [a,b,c]:=(List.Perm.swap a c [b]).trans (p132 a b c)
theorem p321 {α : Type} (a b c:α):[c,b,a].Perm [a,b,c]:=(List.Perm.cons c (List.Perm.swap a b [])).trans (p312 a b c)
end Go.Sg
namespace Go.Sg
section grow
variable {α : Type} {R:Rp α} {E:TypeId} {h:HF} {xs:List α} {base:Option Addr} {cap:Nat} {G:LH}
theorem ei.ve (hG:ei R E h xs base cap G) (hne:0 < xs.length):∃ bk,base=some ⟨bk,0,none⟩:=by
 rcases hG with ⟨rfl,_⟩ | ⟨bk,_,_,e,_⟩
 ·simp at hne
 ·exact ⟨bk,e⟩
theorem ei.II (hG:ei R E h xs base cap G):xs.length≤cap:=by
 rcases hG with ⟨rfl,_⟩ | ⟨bk,cl,sp,_,_,_,h4,_⟩
 ·simp
 ·exact h4
theorem bW.split:∀ {xs ys:List α} {cl:List Value},bW R h cl (xs++ys)→∃ a b,cl=a++b∧bW R h a xs∧bW R h b ys
 | [],ys,cl,hc=>⟨[],cl,rfl,rfl,hc⟩
 | x::xs,ys,cl,⟨cs,rest,e,hl,hr,hc⟩=>by
  obtain ⟨a,b,rfl,h1,h2⟩:=bW.split hc
  exact ⟨cs++a,b,by rw [e,List.append_assoc],⟨cs,a,rfl,hl,hr,h1⟩,h2⟩
theorem ei.take (hG:ei R E h xs base cap G) (k:Nat):ei R E h (xs.take k) base cap G:=by
 rcases hG with ⟨rfl,rfl,rfl,rfl⟩ | ⟨bk,cl,sp,e,hc,h3,h4,h5,rfl⟩
 ·rw [List.take_nil];exact ei.nil
 ·rw [← List.take_append_drop k xs] at hc
  obtain ⟨a,b,rfl,h1,h2⟩:=bW.split hc
  refine .inr ⟨bk,a,b++sp,e,h1,by rw [← List.append_assoc];exact h3,?_,?_,by rw [List.append_assoc]⟩
  ·rw [List.length_take];omega
  ·rw [List.length_take];omega
end grow
section runs
variable {P:Program} {e:Env} {X:Cx} {h:HF} {L:LH} {d:Option Nat} {ty:TypeId} {pos:String} {af:Array Edge} {g:Option (Nat×Bool)}
variable {α : Type} {R:Rp α} {E:TypeId} {xs:List α} {base:Option Addr} {cap bk:Nat} {G:LH}
theorem Au {t:TypeId} {x ix:Operand} {m:Nat} {a:Bool} {z:Int} (hT:P.underlying t=some (.slice E)) (hS:tySz P E=some (R.sz,a)) (hb:base=some ⟨bk,0,none⟩) (hz:0≤z∧z < (xs.length:Int))
  (hx:e.ev x=.slice base m cap) (hm:m=xs.length) (hix:e.ev ix=.int .i64 z):∀ w,St X h L w→(execOp e.ev ⟨d,.indexAddr t x ix,ty,pos,af,g⟩).run P w=.ok (.value (.pointer (some ⟨bk,z.toNat * R.sz,none⟩))) w:=by
 subst hb hm
 have hzz:z=((z.toNat:Nat):Int):=by omega
 rw [hzz] at hix
 intro w hw
 rw [Gs hT hS hx hix (by omega) w hw,ni]
theorem H9 {t:TypeId} {x:Operand} {m i off:Nat} {y:α} {v:Value} {h0:HF} (hT:tySz P t=some (m,false)) (hG:ei R E h0 xs base cap G) (hb:base=some ⟨bk,0,none⟩) (hi:xs[i]? = some y) (hv:∀ cs,R.rep h0 cs y→nth cs off=some v)
  (hx:e.ev x=.pointer (some ⟨bk,i * R.sz+off,none⟩)) (hm:∀ p∈G,p∈L):∀ w,St X h L w→(execOp e.ev ⟨d,.load t x,ty,pos,af,g⟩).run P w=.ok (.value v) w:=by
 rcases hG with ⟨rfl,_⟩ | ⟨bk',cl,sp,e1,hc,_,_,_,rfl⟩
 ·simp at hi
 ·rw [hb] at e1
  cases e1
  obtain ⟨cs,hl,hr,hcell⟩:=hc.get i y hi
  have hv':=hv cs hr
  rw [gU] at hv'
  have h9:=hcell off v hv'
  refine hY hT hx (hm _ (List.mem_singleton.2 rfl)) ?_
  rw [gU,List.getElem?_append_left (by
   rcases Nat.lt_or_ge (i * R.sz+off) cl.length with q | q
   ·exact q
   ·simp [List.getElem?_eq_none q] at h9)]
  exact h9
end runs
theorem qv {α : Type} (a b:List α) (i:Nat) (x:α) (hi:i < a.length):setNth (a++b) i x=setNth a i x++b:=by
 rw [kI,kI,List.set_append_left _ _ hi]
theorem uH {α : Type} (a b:List α) (i:Nat) (x:α):setNth (a++b) (a.length+i) x=a++setNth b i x:=by
 rw [kI,kI,List.set_append_right _ _ (Nat.le_add_right _ _)];simp
theorem bW.set {α : Type} {R:Rp α} {h:HF} {off:Nat} {v:Value} {y y':α} (ho:off < R.sz) (hrep:∀ cs,R.rep h cs y→R.rep h (setNth cs off v) y'):
  ∀ {xs:List α} {cl:List Value} (i:Nat),bW R h cl xs→xs[i]? = some y→bW R h (setNth cl (i * R.sz+off) v) (xs.set i y')
 | x::xs,cl,0,⟨cs,rest,e,hl,hr,hc⟩,hi=>by
  simp at hi
  subst hi
  rw [e,Nat.zero_mul,Nat.zero_add,qv _ _ _ _ (by omega)]
  exact ⟨setNth cs off v,rest,rfl,by rw [mS];exact hl,hrep cs hr,hc⟩
 | x::xs,cl,i+1,⟨cs,rest,e,hl,hr,hc⟩,hi=>by
  have ih:=bW.set ho hrep i hc (by simpa using hi)
  rw [e,show (i+1) * R.sz+off=cs.length+(i * R.sz+off) from by rw [hl,Nat.add_mul];omega,uH]
  exact ⟨cs,_,rfl,hl,hr,ih⟩
 | [],_,_,_,hi=>by simp at hi
section steps
variable {P:Program} {b:Frame} {n:Nat} {ops:Array Oper} {F:List Frame→(Machine→Prop)→Prop} {e:Env} {ds:List Deferred} {X:Cx} {h:HF} {L:LH} {K:Env→HF→LH→Prop}
variable {d:Option Nat} {ty:TypeId} {pos:String} {af:Array Edge} {g:Option (Nat×Bool)}
variable {α : Type} {R:Rp α} {E:TypeId} {xs:List α} {base:Option Addr} {cap bk:Nat}
theorem BE (A G Q:LH) {t:TypeId} {x y:Operand} {m i off:Nat} {a:Bool} {u u':α} {v:Value} (hT:tySz P t=some (m,a)) (hm:m=1) (hG:ei R E h xs base cap G) (hL:L=A++(G++Q)) (hb:base=some ⟨bk,0,none⟩)
  (hi:xs[i]? = some u) (ho:off < R.sz) (hrep:∀ cs,R.rep h cs u→R.rep h (setNth cs off v) u') (hx:e.ev x=.pointer (some ⟨bk,i * R.sz+off,none⟩)) (hv:vcells (e.ev y)=[v]) (h1:one v=true)
  (t':∀ G',ei R E h (xs.set i u') base cap G'→K e h (A++(G'++Q)))
  (hg:guardB ops e ⟨none,.store t x y,ty,pos,af,g⟩=true:=by rfl):Stp P b n ops F ds X ⟨none,.store t x y,ty,pos,af,g⟩ e h L K:=by
 subst hL hm
 rcases hG with ⟨rfl,_⟩ | ⟨bk',cl,sp,e1,hc,h3,h4,h5,rfl⟩
 ·simp at hi
 ·have e2:=e1
  rw [hb] at e2
  cases e2
  have hlen:=hc.len
  have hil:i < xs.length:=by
   rcases Nat.lt_or_ge i xs.length with q | q
   ·exact q
   ·simp [List.getElem?_eq_none q] at hi
  have hlt:i * R.sz+off < cl.length:=by
   rw [hlen]
   have:=Nat.mul_le_mul_right R.sz (show i+1≤xs.length from hil)
   rw [Nat.add_mul] at this;omega
  have hnth:nth (A++([(bk,Obj.cells (cl++sp).toArray E (0,0))]++Q)) A.length=some (bk,.cells (cl++sp).toArray E (0,0)):=Eu A _ Q
  refine j7 A.length hT hx hnth hv rfl (by simp;omega) (by simp [h1]) ?_ hg
  have hs:splice (cl++sp) (i * R.sz+off) [v]=setNth cl (i * R.sz+off) v++sp:=by
   simp only [splice];rw [qv _ _ _ _ hlt]
  rw [hs]
  have hset:=wQ A (bk,Obj.cells (cl++sp).toArray E (0,0)) (bk,Obj.cells (setNth cl (i * R.sz+off) v++sp).toArray E (0,0)) Q
  show K e h (setNth (A++(bk,Obj.cells (cl++sp).toArray E (0,0))::Q) A.length _)
  rw [hset]
  refine t' [(bk,.cells (setNth cl (i * R.sz+off) v++sp).toArray E (0,0))] (.inr ⟨bk,setNth cl (i * R.sz+off) v,sp,e1,bW.set ho hrep i hc hi,?_,?_,?_,rfl⟩)
  ·rw [List.length_append,mS,← List.length_append];exact h3
  ·rw [List.length_set];exact h4
  ·rw [List.length_set];exact h5
theorem BF {t:TypeId} {x hi:Operand} {a:Bool} {m:Nat} {z:Int} {G:LH} (hT:P.underlying t=some (.slice E)) (hS:tySz P E=some (R.sz,a)) (hG:ei R E h xs base cap G) (hz:0≤z∧z≤(xs.length:Int))
  (hx:e.ev x=.slice base m cap) (hm:m=xs.length) (hhi:e.ev hi=.int .i64 z)
  (t':K (pute e d (.slice base (xs.take z.toNat).length cap)) h L)
  (hg:guardB ops e ⟨d,.slice t x none (some hi) none,ty,pos,af,g⟩=true:=by rfl):Stp P b n ops F ds X ⟨d,.slice t x none (some hi) none,ty,pos,af,g⟩ e h L K:=by
 subst hm
 have hcap:=hG.II
 have hz2:0≤z∧z≤((cap:Nat):Int):=by omega
 have hl:z.toNat=(xs.take z.toNat).length:=by simp;omega
 refine gW (v:=.slice base (xs.take z.toNat).length cap) (fun w hw=>?_) t' hg
 rw [← hl]
 by_cases h0:cap=0
 ·have hz0:z=0:=by omega
  subst hz0
  simp [execOp,Instr.sliceAt,Instr.slice,Instr.sliceBounds,Instr.sliceBound,hx,hhi,asIntOf,run_underlying hT,gV hS,hz2,h0]
 ·simp [execOp,Instr.sliceAt,Instr.slice,Instr.sliceBounds,Instr.sliceBound,hx,hhi,asIntOf,run_underlying hT,gV hS,hz2,h0,Addr.add]
theorem BG (A G Q:LH) {f:FuncId} {ass:Array Operand} {ats:Array TypeId} {vs:List Value} {v:Value} (hc:∀ args w,(callFunc f args).run P w=.ok (.enter f args) w) (hm:R.Mono) (hG:ei R E h xs base cap G) (hL:L=A++(G++Q))
  (hs:∀ h1,h.le h1→SlC R h1 base cap xs→Ret P f vs h1 v) (hvs:ass.toList.map e.ev=vs) (t':K (pute e d v) h L)
  (hg:guardB ops e ⟨d,.call ⟨.value (.func f),ass,ats⟩,ty,pos,af,g⟩=true:=by rfl):
  Stp P b n ops F ds X ⟨d,.call ⟨.value (.func f),ass,ats⟩,ty,pos,af,g⟩ e h L K:=by
 unfold Stp
 rw [if_pos hg]
 intro w hw
 have harr:ass.map e.ev=vs.toArray:=Array.ext' (by simp [← hvs])
 have hr:(execOp e.ev ⟨d,.call ⟨.value (.func f),ass,ats⟩,ty,pos,af,g⟩).run P w=.ok (.enter f vs.toArray) w:=by
  simp [execOp,resolve,Env.ev,Deferred.ofValue,invoke,harr,hc]
 rw [hr]
 have back:∀ (h1:HF),h.le h1→(∀ bk o,h1 bk=some o→w.heap[bk]? = some o)→SlC R h1 base cap xs→pN P b n F ds X ⟨d,.call ⟨.value (.func f),ass,ats⟩,ty,pos,af,g⟩ e K (.ok (.enter f vs.toArray) w):=by
  intro h1 hle himm hsl
  have hp1:Pre h1 [] w:=⟨himm,fun _ hp=>(List.not_mem_nil hp).elim,List.nodup_nil,fun _ hp=>(List.not_mem_nil hp).elim⟩
  refine j2 (by simp) (jF (ow.mono (hs h1 hle hsl w hp1) ?_))
  rintro x w' ⟨h',B,hst,rfl,rfl,rfl⟩
  refine ⟨h,L,⟨hst.os.trans hw.os,hst.tape.trans hw.tape,hst.output.trans hw.output,Nat.le_trans hw.size hst.size,fun b' hb' hM=>?_,hw.le,hw.old,fun b' o hb'=>?_,fun p hp=>?_,hw.dis,hw.free,hw.new⟩,t'⟩
  ·rw [hst.keep b' (Nat.lt_of_lt_of_le hb' hw.size) (by simp)];exact hw.keep b' hb' hM
  ·rw [hst.keep b' (fE (hw.imm b' o hb')) (by simp)];exact hw.imm b' o hb'
  ·rw [hst.keep p.1 (fE (hw.own p hp)) (by simp)];exact hw.own p hp
 rcases hG with ⟨rfl,rfl,rfl,rfl⟩ | ⟨bk,cl,sp,rfl,hcl,h3,h4,h5,rfl⟩
 ·exact back h (HF.le_refl h) hw.imm SlC.nil
 ·have hmem:(bk,Obj.cells (cl++sp).toArray E (0,0))∈L:=by rw [hL];simp
  have hle:h.le (h.add bk (.cells (cl++sp).toArray E (0,0))):=HF.tl (hw.free _ hmem)
  refine back _ hle (fun k o hk=>?_) ⟨bW.slB (hcl.mono hm hle) (HF.pL _ _ _) h5,h4⟩
  unfold HF.add at hk
  by_cases e0:k=bk
  ·subst e0;simp at hk;subst hk;exact hw.own _ hmem
  ·rw [if_neg e0] at hk;exact hw.imm k o hk
theorem Gi {t E:TypeId} {dir:ChanDir} {sz:Operand} {m by_:Nat} (hT:P.underlying t=some (.chan dir E)) (hby:bytesOf P E=some by_) (hsz:e.ev sz=.int .i64 (m:Nat)) (hm:m≤1000000000) (hb:by_≤4096)
  (t':∀ bk,K (pute e d (.chan (some bk))) h ((bk,.chan m #[] false 0 0 false)::L))
  (hg:guardB ops e ⟨d,.makeChan t sz,ty,pos,af,g⟩=true:=by rfl):Stp P b n ops F ds X ⟨d,.makeChan t sz,ty,pos,af,g⟩ e h L K:=
 iS hg fun w hw=>by
  refine ⟨_,_,h,_,?_,hw.alloc (.chan m #[] false 0 0 false),t' _⟩
  have h1:¬ ((m:Int) > IntKind.i64.max):=by
   have:IntKind.i64.max=9223372036854775807:=by rfl
   omega
  have h2:∃ i,P.info? E=some i∧i.bytes=by_:=by
   unfold bytesOf at hby
   cases hi:P.info? E with
   | none=>rw [hi] at hby;cases hby
   | some i=>rw [hi] at hby;exact ⟨i,rfl,by simpa using hby⟩
  obtain ⟨i,hi,hib⟩:=h2
  have h3:¬ ((i.bytes:Int) * (m:Int) > 2 ^ 48 - 112):=by
   rw [hib]
   have:by_ * m≤4096 * 1000000000:=Nat.mul_le_mul hb hm
   have h4:((by_:Int) * (m:Int))=((by_ * m:Nat):Int):=by simp
   rw [h4];omega
  simp only [execOp,Instr.makeChan,hsz]
  simp [asInt,asIntOf,run_underlying hT,typeInfo,hi]
  intro hc
  exfalso
  have h1':¬ (9223372036854775807 < (m:Int)):=by omega
  have h3':¬ (281474976710544 < (i.bytes:Int) * (m:Int)):=by
   intro h9;exact h3 (by simpa using h9)
  rcases hc with hc | hc | hc
  ·omega
  ·exact h1' hc
  ·exact h3' hc
end steps
theorem sU {s:GStep} {g:Goroutine} {cs:Array CommCase} {bl:Bool} {sh:CommShape} {w:World} (h:s.bare=.comm g cs bl sh w):∃ es,s=.comm g cs bl sh w es:=by
 cases s <;> simp at h
 obtain ⟨rfl,rfl,rfl,rfl,rfl⟩:=h
 exact ⟨_,rfl⟩
section comm
variable {P:Program} {b:Frame} {n:Nat} {ops:Array Oper} {l:List Oper} {k:List Item} {F:List Frame→(Machine→Prop)→Prop} {e:Env} {ds:List Deferred} {X:Cx} {h:HF} {L:LH}
variable {ty:TypeId} {pos:String} {af:Array Edge} {g:Option (Nat×Bool)}
theorem IB (i:Nat) {ch x:Operand} {c cap s r:Nat} {vs:List Value} {v:Value} (hL:nth L i=some (c,.chan cap vs.toArray false s r false)) (hch:e.ev ch=.chan (some c)) (hx:e.ev x=v) (hroom:vs.length < cap)
  (t:TO P b n ops l k F e ds X h (setNth L i (c,.chan cap (vs++[v]).toArray false (s+1) r false)))
  (hg:guardB ops e ⟨none,.send ch x,ty,pos,af,g⟩=true:=by rfl):TO P b n ops (⟨none,.send ch x,ty,pos,af,g⟩::l) k F e ds X h L:=by
 intro w hw is hi a cs Φ hn he hds hF
 obtain ⟨j,js,rfl,ho,hj⟩:=mT hi
 have hwt:=(fG (ops:=ops) he).trans hg
 have hs:=stepGR_op (P:=P) (b:=b) (k:=k) (cs:=cs) (w:=w) (rest:=js) ho hwt
 rw [iK _ _ rfl,jg,he] at hs
 have hb:w.heap[c]? = some (.chan cap vs.toArray false s r false):=by
  have h2:=hL
  rw [gU] at h2
  exact hw.own _ (List.mem_of_getElem? h2)
 have hcm:∃ es,stepG P true (Go.Conc.G (b.atR a (.inRegion ops (j::js)::k)) cs) w=.comm (Go.Conc.G (b.atR a (.inRegion ops (j::js)::k)) cs) #[Go.Conc.scase c v (.tuple #[])] true .send w es:=by
  have hrun:(execOp e.ev ⟨none,.send ch x,ty,pos,af,g⟩).run P w=.ok (.comm #[Go.Conc.scase c v (.tuple #[])] true .send) w:=by
   simp [execOp,hch,hx,Go.Conc.scase]
  show ∃ es,stepG P true { frame:=b.atR a (.inRegion ops (j::js)::k),callers:=cs,status:=.running,dying:=none } w=_
  refine sU ?_
  rw [hs]
  simp [stepG.apply,hrun,Go.Conc.G]
 obtain ⟨es,hcm⟩:=hcm
 have h1:=Go.Conc.step_lone_send_room hcm hb (by simpa using hroom)
 refine .step h1 ?_
 rw [show Go.Conc.solo (Go.Conc.G ((b.atR a (.inRegion ops (j::js)::k)).finish undef) cs) (w.setChan c cap (vs.toArray.push v) false (s+1) r false)=lone ((b.atR a (.inRegion ops (j::js)::k)).finish undef) cs (w.setChan c cap (vs.toArray.push v) false (s+1) r false) from rfl,gl a js k ho undef]
 have hw2:=hw.write hL (.chan cap (vs++[v]).toArray false (s+1) r false)
 have e1:vs.toArray.push v=(vs++[v]).toArray:=by simp
 rw [e1]
 exact t _ hw2 js hj a cs Φ hn he hds hF
theorem IC (i:Nat) {t E:TypeId} {dir:ChanDir} {ch:Operand} {d c cap s r:Nat} {vs:List Value} {v z:Value} (hT:P.underlying t=some (.chan dir E)) (hz:zeroV P E=some z) (hL:nth L i=some (c,.chan cap (v::vs).toArray false s r false)) (hch:e.ev ch=.chan (some c))
  (t':TO P b n ops l k F (upd e d v) ds X h (setNth L i (c,.chan cap vs.toArray false s (r+1) false)))
  (hd:Nat.blt d n=true:=by rfl) (hg:guardB ops e ⟨some d,.recv t ch false,ty,pos,af,g⟩=true:=by rfl):TO P b n ops (⟨some d,.recv t ch false,ty,pos,af,g⟩::l) k F e ds X h L:=by
 intro w hw is hi a cs Φ hn he hds hF
 obtain ⟨j,js,rfl,ho,hj⟩:=mT hi
 have hwt:=(fG (ops:=ops) he).trans hg
 have hs:=stepGR_op (P:=P) (b:=b) (k:=k) (cs:=cs) (w:=w) (rest:=js) ho hwt
 rw [iK _ _ rfl,jg,he] at hs
 have hb:w.heap[c]? = some (.chan cap (v::vs).toArray false s r false):=by
  have h2:=hL
  rw [gU] at h2
  exact hw.own _ (List.mem_of_getElem? h2)
 have hcm:∃ es,stepG P true (Go.Conc.G (b.atR a (.inRegion ops (j::js)::k)) cs) w=.comm (Go.Conc.G (b.atR a (.inRegion ops (j::js)::k)) cs) #[Go.Conc.rcase c z] true (.recv false) w es:=by
  have hrun:(execOp e.ev ⟨some d,.recv t ch false,ty,pos,af,g⟩).run P w=.ok (.comm #[Go.Conc.rcase c z] true (.recv false)) w:=by
   simp [execOp,run_underlying hT,jr hz,hch,Go.Conc.rcase]
  show ∃ es,stepG P true { frame:=b.atR a (.inRegion ops (j::js)::k),callers:=cs,status:=.running,dying:=none } w=_
  refine sU ?_
  rw [hs]
  simp [stepG.apply,hrun,Go.Conc.G]
 obtain ⟨es,hcm⟩:=hcm
 have h1:=Go.Conc.step_lone_recv_buf false hcm hb (by simp)
 refine .step h1 ?_
 have e2:Go.Conc.got false ((v::vs).toArray.getD 0 undef) true=v:=by simp [Go.Conc.got]
 have e1:(v::vs).toArray.extract 1 (v::vs).toArray.size=vs.toArray:=by simp
 rw [e2,e1]
 rw [show Go.Conc.solo (Go.Conc.G ((b.atR a (.inRegion ops (j::js)::k)).finish v) cs) (w.setChan c cap vs.toArray false s (r+1) false)=lone ((b.atR a (.inRegion ops (j::js)::k)).finish v) cs (w.setChan c cap vs.toArray false s (r+1) false) from rfl,gl a js k ho v]
 have hw2:=hw.write hL (.chan cap vs.toArray false s (r+1) false)
 have hdn:d < n:=Nat.le_of_ble_eq_true hd
 exact t' _ hw2 js hj (a.put (some d) v) cs Φ (by rw [lC];exact hn) (by rw [mb _ _ _ (hn ▸ hdn),he]) (by rw [j5];exact hds) hF
end comm
section runs2
variable {P:Program} {e:Env} {X:Cx} {h:HF} {L:LH} {d:Option Nat} {ty:TypeId} {pos:String} {af:Array Edge} {g:Option (Nat×Bool)}
theorem It {t E:TypeId} {dir:ChanDir} {ch:Operand} {c cap s r:Nat} {vs:List Value} (hT:P.underlying t=some (.chan dir E)) (hL:(c,Obj.chan cap vs.toArray false s r false)∈L) (hch:e.ev ch=.chan (some c)):
  ∀ w,St X h L w→(execOp e.ev ⟨d,.call ⟨.builtin .len,#[ch],#[t]⟩,ty,pos,af,g⟩).run P w=.ok (.value (.int .i64 (vs.length:Nat))) w:=fun w hw=>by
 have hb:w.heap[c]? = some (.chan cap vs.toArray false s r false):=hw.own _ hL
 have hg:(getObj c).run P w=.ok (.chan cap vs.toArray false s r false) w:=by simp [getObj,Sem.run,hb]
 simp [execOp,resolve,invoke,builtin,Builtin.len_,hch,run_underlying hT,hg,goInt]
theorem E9 {t E:TypeId} {x lo:Operand} {sz bk n m cap i:Nat} {a:Bool} (hT:P.underlying t=some (.slice E)) (hS:tySz P E=some (sz,a)) (hx:e.ev x=.slice (some ⟨bk,0,none⟩) n cap) (hlo:e.ev lo=.int .i64 (i:Nat)) (hi:i < n) (hc:n≤cap) (hm:n - i=m) (h1:sz=1:=by rfl):
  ∀ w,St X h L w→(execOp e.ev ⟨d,.slice t x (some lo) none none,ty,pos,af,g⟩).run P w=.ok (.value (.slice (some ⟨bk,i,none⟩) m (cap - i))) w:=fun w hw=>by
 subst h1 hm
 have h2:¬ (cap=i):=by omega
 have h3:(⟨bk,0,none⟩:Addr).add i=⟨bk,i,none⟩:=ni bk i
 simp [execOp,Instr.sliceAt,Instr.slice,Instr.sliceBounds,Instr.sliceBound,hx,hlo,asIntOf,run_underlying hT,gV hS,h2,h3,Nat.le_of_lt hi]
end runs2
theorem BK {P:Program} {α : Type} {R:Rp α} {X:Cx} {h:HF} {w:World} {L:LH} {t ty E:TypeId} {xs ys:List α} {base:Option Addr} {cap:Nat} {x:Value} {by_:Nat} {a:Bool} {zs:List Value}
  (hw:St X h L w) (hT:P.underlying t=some (.slice E)) (hS:tySz P E=some (R.sz,a)) (hz:zeroC P E=some zs) (hzl:zs.length=R.sz) (hby:bytesOf P E=some by_) (hs1:Src R h L (.slice base xs.length cap) xs) (hsrc:Src R h L x ys)
  (hcap:cap < xs.length+ys.length) (hb:(xs.length+ys.length) * by_≤140737488355328) (hb2:xs.length+ys.length≤9223372036854775807):
  ∃ base' cap' G' w',(Builtin.append_ #[t,t] ty #[.slice base xs.length cap,x]).run P w=.ok (.slice base' (xs++ys).length cap') w'∧ei R E h (xs++ys) base' cap' G'∧St X h (G'++L) w':=by
 obtain ⟨i,hi,hby'⟩:∃ i,P.info? E=some i∧i.bytes=by_:=by
  unfold bytesOf at hby
  cases hi:P.info? E with
  | none=>simp [hi] at hby
  | some i=>exact ⟨i,rfl,by simpa [hi] using hby⟩
 have hsz:i.size=R.sz:=by
  have:=gV hS w
  simpa [sizeOf,typeInfo,hi] using this
 obtain ⟨z,hzz,hzc⟩:∃ z,i.zero=some z∧z.cells=zs.toArray:=by
  unfold zeroC at hz
  cases hzz:i.zero with
  | none=>simp [hi,hzz] at hz
  | some z=>exact ⟨z,rfl,by simp [hi,hzz] at hz;rw [lW,hz]⟩
 have hnewlen:(xs++ys).length=xs.length+ys.length:=by simp
 have hroom:¬ xs.length+ys.length≤cap:=by omega
 have hwd:St X h L w.drew:=hw.drew _
 obtain ⟨cl0,b0,c0,hx0,hc0,hf0⟩:=rU (P:=P) hs1 hwd
 obtain ⟨cl',b1,c1,hx',hc',hf'⟩:=rU (P:=P) hsrc hwd
 have hfit:Builtin.nextslicecap (xs.length+ys.length) cap * i.bytes≤281474976710656:=growslice_fits hcap (by rw [hby'];exact hb)
 have h48':¬ (281474976710656 < Builtin.nextslicecap (xs.length+ys.length) cap * i.bytes):=by omega
 have h63':¬ (9223372036854775807 < ((xs.length:Int)+(ys.length:Int))):=by omega
 have hge:=grownCap_ge w (xs.length+ys.length) cap E
 let nc:=grownCap w (xs.length+ys.length) cap E
 let rest:=(Builtin.zeroCells z.cells (nc - (xs.length+ys.length))).toList
 refine ⟨some ⟨w.heap.size,0,none⟩,nc,[(w.heap.size,.cells ((cl0++cl')++rest).toArray E (0,0))],w.drew.alloc (.cells ((cl0++cl')++rest).toArray E),?_,?_,?_⟩
 ·subst hx'
  rw [← hsz] at hf0 hf'
  simp [Builtin.append_,run_underlying hT,sizeOf,typeInfo,zeroValue,hi,hzz,Builtin.lenOf,hroom,h63',h48',Question.forced,hf0,hf',newRow,grownCap,nc,rest]
  congr 2
  apply Array.ext'
  simp
 ·refine .inr ⟨w.heap.size,cl0++cl',rest,rfl,bW.app hc' hc0,?_,by rw [hnewlen];exact hge,by rw [hnewlen];exact hb2,rfl⟩
  have:rest.length=(nc - (xs.length+ys.length)) * R.sz:=by
   simp [rest,Builtin.zeroCells,hzc,hzl]
  simp only [List.length_append,this,hc0.len,hc'.len,← Nat.add_mul]
  congr 1
  omega
 ·exact hwd.alloc (.cells ((cl0++cl')++rest).toArray E (0,0))
section steps3
variable {P:Program} {b:Frame} {n:Nat} {ops:Array Oper} {F:List Frame→(Machine→Prop)→Prop} {e:Env} {ds:List Deferred} {X:Cx} {h:HF} {L:LH} {K:Env→HF→LH→Prop}
variable {d:Option Nat} {ty:TypeId} {pos:String} {af:Array Edge} {g:Option (Nat×Bool)}
theorem zA {α : Type} {R:Rp α} {t E:TypeId} {s y:Operand} {xs ys:List α} {base:Option Addr} {cap:Nat} {m by_:Nat} {a:Bool} {zs:List Value}
  (hT:P.underlying t=some (.slice E)) (hS:tySz P E=some (R.sz,a)) (hz:zeroC P E=some zs) (hzl:zs.length=R.sz) (hby:bytesOf P E=some by_)
  (hs1:Src R h L (.slice base xs.length cap) xs) (hx:e.ev s=.slice base m cap) (hm:m=xs.length) (hsrc:Src R h L (e.ev y) ys) (hcap:cap < xs.length+ys.length)
  (hb:(xs.length+ys.length) * by_≤140737488355328) (hb2:xs.length+ys.length≤9223372036854775807)
  (t':∀ base' cap' G',ei R E h (xs++ys) base' cap' G'→K (pute e d (.slice base' (xs++ys).length cap')) h (G'++L))
  (hgd:guardB ops e ⟨d,.call ⟨.builtin .append,#[s,y],#[t,t]⟩,ty,pos,af,g⟩=true:=by rfl):Stp P b n ops F ds X ⟨d,.call ⟨.builtin .append,#[s,y],#[t,t]⟩,ty,pos,af,g⟩ e h L K:=
 iS hgd fun w hw=>by
  subst hm
  obtain ⟨base',cap',G',w',hr,hG',hst⟩:=BK (P:=P) (ty:=ty) hw hT hS hz hzl hby hs1 hsrc hcap hb hb2
  refine ⟨_,w',h,_,?_,hst,t' _ _ _ hG'⟩
  simp [execOp,resolve,invoke,builtin,hx,hr]
theorem E5 {t E:TypeId} {len sz:Nat} {a:Bool} {parts:Array (Nat×Operand)} {zs cells:List Value} (hXM:∀ b∈X.M,b < X.w0.heap.size) (hT:P.underlying t=some (.slice E)) (hS:tySz P E=some (sz,a)) (hz:zeroC P E=some zs) (hpos:Nat.blt 0 (len * sz)=true)
  (hlt:Nat.ble (len * sz) 16777216=true)
  (hc:Instr.fill (fun i=>some (i * sz,sz)) ((Array.range (len * sz)).map (zs.toArray[· % zs.toArray.size]!)) (parts.toList.map fun p=>(p.1,e.ev p.2))=some cells.toArray)
  (t':∀ bk,bk∉X.M→K (pute e d (.slice (some ⟨bk,0,none⟩) len len)) h ((bk,.cells cells.toArray E (0,0))::L))
  (hg:guardB ops e ⟨d,.buildSlice t len parts,ty,pos,af,g⟩=true:=by rfl):Stp P b n ops F ds X ⟨d,.buildSlice t len parts,ty,pos,af,g⟩ e h L K:=
 iS hg fun w hw=>by
  obtain ⟨z,h1,h2⟩:=po hz w
  have hp:=mQ hpos
  have hl:=Nat.le_of_ble_eq_true hlt
  have hparts:(parts.map fun x=>(x.1,e.ev x.2)).toList=parts.toList.map fun p=>(p.1,e.ev p.2):=by simp
  refine ⟨_,_,h,_,?_,hw.alloc _,t' _ (fun hm=>by have:=hXM _ hm;have:=hw.size;omega)⟩
  have hne:¬ len * sz=0:=by omega
  have hnl:¬ len * sz > 2 ^ 24:=by omega
  simp only [execOp,Instr.buildSlice,Sem.run_bind,run_underlying hT,Result.andThen_ok,gV hS,hnl,hne,if_false,h1,h2,Sem.run_pure,hparts]
  rw [hc]
  simp [newRow]
theorem An (A Q:LH) {t:Nat} {ass:Array Operand} {ats:Array TypeId} {fv:Value} {vs:List Value} {Φ : LH→Prop} (hL:L.Perm (A++Q))
  (hs:kS P fv vs.toArray h A (fun x h' B=>x=.returned (.tuple #[])∧h'=h∧Φ B)) (hf:e t=fv) (hvs:ass.toList.map e.ev=vs) (t':∀ B,Φ B→K (pute e d (.tuple #[])) h (B++Q))
  (hg:guardB ops e ⟨d,.call ⟨.value (.tmp t),ass,ats⟩,ty,pos,af,g⟩=true:=by rfl):Stp P b n ops F ds X ⟨d,.call ⟨.value (.tmp t),ass,ats⟩,ty,pos,af,g⟩ e h L K:=by
 unfold Stp
 rw [if_pos hg]
 intro w hw
 have hw':=hw.perm hL
 have harr:ass.map e.ev=vs.toArray:=Array.ext' (by simp [← hvs])
 obtain ⟨nx,hrun,hcall⟩:=hs w (Pre.left (A:=A) hw'.pre)
 have hr:(execOp e.ev ⟨d,.call ⟨.value (.tmp t),ass,ats⟩,ty,pos,af,g⟩).run P w=.ok nx w:=by
  rw [← hrun]
  simp [execOp,resolve,Env.ev,harr,hf]
 rw [hr]
 refine j2 (kN hcall) (hcall.mono ?_)
 rintro x w' ⟨h',B,hst,rfl,rfl,hB⟩
 exact ⟨h',_,St.after (A:=A) (F:=Q) hw' hst,t' B hB⟩
theorem Gg {o:Oper} {L':LH} (hp:L.Perm L') (t:Stp P b n ops F ds X o e h L' K) (hg:guardB ops e o=true:=by rfl):Stp P b n ops F ds X o e h L K:=by
 unfold Stp at t ⊢
 rw [if_pos hg] at t ⊢
 exact fun w hw=>t w (hw.perm hp)
end steps3
section runs3
variable {P:Program} {e:Env} {X:Cx} {h:HF} {L:LH} {d:Option Nat} {ty:TypeId} {pos:String} {af:Array Edge} {g:Option (Nat×Bool)}
theorem Iu {t E:TypeId} {x hi mx:Operand} {sz n cap:Nat} {a:Bool} {base:Option Addr} (hT:P.underlying t=some (.slice E)) (hS:tySz P E=some (sz,a)) (hx:e.ev x=.slice base n cap) (hhi:e.ev hi=.int .i64 (n:Nat)) (hmx:e.ev mx=.int .i64 (n:Nat)) (hc:n≤cap):
  ∀ w,St X h L w→(execOp e.ev ⟨d,.slice t x none (some hi) (some mx),ty,pos,af,g⟩).run P w=.ok (.value (.slice base n n)) w:=fun w hw=>by
 by_cases h0:n=0
 ·subst h0
  simp [execOp,Instr.sliceAt,Instr.slice,Instr.sliceBounds,Instr.sliceBound,hx,hhi,hmx,asIntOf,run_underlying hT,gV hS,hc]
 ·simp [execOp,Instr.sliceAt,Instr.slice,Instr.sliceBounds,Instr.sliceBound,hx,hhi,hmx,asIntOf,run_underlying hT,gV hS,hc,h0,Addr.add]
end runs3
theorem zS {κ α : Type} [DecidableEq κ] (k:κ) {m m':List (κ×α)} (hp:m.Perm m') (hn:(m.map (·.1)).Nodup):(mdel m k).Perm (mdel m' k):=by
 induction hp with
 | nil=>exact List.Perm.refl _
 | cons x p ih=>
  obtain ⟨k',v'⟩:=x
  rw [List.map_cons,List.nodup_cons] at hn
  simp only [mdel]
  split
  ·exact p
  ·exact List.Perm.cons _ (ih hn.2)
 | swap x y l=>
  obtain ⟨a,va⟩:=x
  obtain ⟨b,vb⟩:=y
  simp only [List.map_cons,List.nodup_cons,List.mem_cons,not_or] at hn
  simp only [mdel]
  by_cases h1:k=b
  ·have h2:¬ k=a:=fun e=>hn.1.1 (h1.symm.trans e)
   simp only [h1,h2,if_true,if_false]
   rw [if_neg (h1 ▸ h2)]
  ·by_cases h2:k=a
   ·simp only [h1,h2,if_true,if_false]
    rw [if_neg (h2 ▸ h1)]
   ·simp only [h1,h2,if_false]
    exact List.Perm.swap _ _ _
 | trans p q ih1 ih2=>exact (ih1 hn).trans (ih2 ((p.map _).nodup_iff.1 hn))
theorem xA {κ α : Type} [DecidableEq κ] (k:κ):∀ (m:List (κ×α)),(mdel m k).Sublist m
 | []=>List.Sublist.refl _
 | (k',v')::m=>by
  simp only [mdel]
  split
  ·exact .cons _ (List.Sublist.refl _)
  ·exact .cons_cons _ (xA k m)
theorem mR.del {κ α : Type} {enc:κ→Value} {V:HF→Value→α→Prop} {h:HF} [DecidableEq κ] {k:κ}:∀ {es:List MapEntry} {m:List (κ×α)} (j:Nat),mR enc V h es m →
  match findIn k (m.map (·.1)) es j with
  | some (i,_)=>j≤i∧i - j < es.length∧mR enc V h (es.eraseIdx (i - j)) (mdel m k)
  | none=>mR enc V h es (mdel m k)
 | [],[],_,_=>trivial
 | e::es,(k',v)::m,j,⟨a,b,c⟩=>by
  simp only [List.map_cons,findIn,mdel]
  by_cases hk:k=k'
  ·simp only [hk,if_true]
   refine ⟨Nat.le_refl _,by simp,?_⟩
   rw [Nat.sub_self];exact c
  ·simp only [hk,if_false]
   have ih:=mR.del (k:=k) (j+1) c
   cases hf:findIn k (m.map (·.1)) es (j+1) with
   | none=>rw [hf] at ih;exact ⟨a,b,ih⟩
   | some p=>
    obtain ⟨i,u⟩:=p
    rw [hf] at ih
    obtain ⟨h1,h2,h3⟩:=ih
    have e1:i - j=(i - (j+1))+1:=by omega
    refine ⟨by omega,by simp;omega,?_⟩
    rw [e1,List.eraseIdx_cons_succ];exact ⟨a,b,h3⟩
 | [],_::_,_,x=>x.elim
 | _::_,[],_,x=>x.elim
section del
variable {P:Program} {b:Frame} {n:Nat} {ops:Array Oper} {F:List Frame→(Machine→Prop)→Prop} {e:Env} {ds:List Deferred} {X:Cx} {h:HF} {L:LH} {K:Env→HF→LH→Prop}
variable {d:Option Nat} {ty:TypeId} {pos:String} {af:Array Edge} {g:Option (Nat×Bool)} {κ α : Type} {enc:κ→Value} {V:HF→Value→α→Prop} [DecidableEq κ]
theorem Gj (i:Nat) {t T E kt:TypeId} {mo ko:Operand} {bk:Nat} {o:Obj} {m:List (κ×α)} {k:κ} (hT:P.underlying t=some (.map T E)) (hK:sF P T enc) (hL:nth L i=some (bk,o)) (hm:gJ enc V h o m)
  (hmo:e.ev mo=.map (some bk)) (hko:e.ev ko=enc k)
  (t':∀ o',gJ enc V h o' (mdel m k)→K (pute e d (.tuple #[])) h (setNth L i (bk,o')))
  (hg:guardB ops e ⟨d,.call ⟨.builtin .delete,#[mo,ko],#[t,kt]⟩,ty,pos,af,g⟩=true:=by rfl):Stp P b n ops F ds X ⟨d,.call ⟨.builtin .delete,#[mo,ko],#[t,kt]⟩,ty,pos,af,g⟩ e h L K:=
 iS hg fun w hw=>by
  obtain ⟨m',hp,hn,es,c,rfl,hE,hB,hC⟩:=hm
  have hb:w.heap[bk]? = some (.map es.toArray c):=by
   have h2:=hL
   rw [gU] at h2
   exact hw.own _ (List.mem_of_getElem? h2)
  have hf:=hK.find k (m'.map (·.1)) es w hE.keys
  have hd:=hE.del (k:=k) 0
  have hnd:((mdel m' k).map (·.1)).Nodup:=hn.sublist ((xA k m').map _)
  cases hr:findIn k (m'.map (·.1)) es 0 with
  | none=>
   rw [hr] at hf hd
   refine ⟨.tuple #[],{ w with heap:=w.heap.setIfInBounds bk (.map es.toArray c) },h,_,?_,hw.write hL _,t' (.map es.toArray c) ⟨_,zS k hp hn,hnd,es,c,rfl,hd,hB,hC⟩⟩
   simp [execOp,resolve,invoke,builtin,Builtin.delete_,hmo,hko,run_underlying hT,kY hb,hK.check,hf,oD hb]
  | some p=>
   obtain ⟨j,u⟩:=p
   rw [hr] at hf hd
   obtain ⟨_,hlt,hd⟩:=hd
   rw [Nat.sub_zero] at hd hlt
   refine ⟨.tuple #[],{ w with heap:=w.heap.setIfInBounds bk (.map (es.eraseIdx j).toArray c) },h,_,?_,hw.write hL _,t' (.map (es.eraseIdx j).toArray c) ⟨_,zS k hp hn,hnd,es.eraseIdx j,c,rfl,hd,hB.sublist ((List.eraseIdx_sublist es j).map _),fun e he=>hC e ((List.eraseIdx_sublist es j).subset he)⟩⟩
   have he:es.toArray.eraseIdxIfInBounds j=(es.eraseIdx j).toArray:=by simp
   simp [execOp,resolve,invoke,builtin,Builtin.delete_,hmo,hko,run_underlying hT,kY hb,hK.check,hf,oD hb,he]
end del
theorem uP {α : Type} [DecidableEq α]:∀ {a b:List α},a.Nodup→(∀ x∈a,x∈b)→a.length≤b.length
 | [],b,_,_=>Nat.zero_le _
 | x::a,b,hn,hs=>by
  rw [List.nodup_cons] at hn
  have hx:x∈b:=hs x (List.mem_cons_self ..)
  have ih:=uP (b:=b.erase x) hn.2 (fun y hy=>by
   have hne:y≠x:=fun e=>hn.1 (e ▸ hy)
   rw [List.mem_erase_of_ne hne];exact hs y (List.mem_cons_of_mem _ hy))
  rw [List.length_erase_of_mem hx] at ih
  have:=List.length_pos_of_mem hx
  simp only [List.length_cons]
  omega
section frz
variable {P:Program} {b:Frame} {n:Nat} {k:List Item} {F:List Frame→(Machine→Prop)→Prop} {e:Env} {ds:List Deferred} {X:Cx} {h:HF} {L:LH}
theorem Dz {todo:List Item} (A G Q:LH) (hL:L=A++(G++Q)) (hM:X.M=[]) (t:∀ h2,h.le h2→(∀ p∈G,h2 p.1=some p.2)→TT P b n todo F e ds X h2 (A++Q)):TT P b n todo F e ds X h L:=by
 subst hL
 intro w hw
 obtain ⟨h1,h2,h3⟩:=hw.freezeMid hM
 exact t _ h2 h3 w h1
theorem HC {c:Code} {ι : Type} (sl:ι→List (Nat×Value)) (hh:ι→HF) (LL:ι→LH) (I:ι→Prop) (hk:∀ i,I i→∀ e',TT P b n k F (upds e' (sl i)) ds X (hh i) (LL i))
  (t':(∀ i e',I i→mH e' (sl i)→TT P b n k F e' ds X (hh i) (LL i))→TT P b n (.code c::k) F e ds X h L):TT P b n (.code c::k) F e ds X h L:=
 t' fun i e' hI hr=>by have:=hk i hI e';rw [hr.upds] at this;exact this
end frz
end Go.Sg
namespace Go.Sg
def attR:Except Int Unit→Int
 | .ok _=>0
 | .error e=>e
def idxByte (s:ByteArray) (c:Int):Int:=match (List.range s.size).find? (fun i=>s[i]! == UInt8.ofNat c.toNat) with
 | some i=>(i:Nat)
 | none=>-1
def bsI (xs:List Int) (t:Int):Int:=((xs.countP (· < t):Nat):Int)
def slices_BinarySearch_int (x:List Int) (target:Int):Int×Bool:=(bsI x target,x.contains target)
def insI (x:Int):List Int→List Int
 | []=>[x]
 | y::l=>bif decide (x≤y) then x::y::l else y::insI x l
def sortI:List Int→List Int
 | []=>[]
 | x::l=>insI x (sortI l)
theorem uU (x:Int):∀ l,(insI x l).Perm (x::l)
 | []=>List.Perm.refl _
 | y::l=>by
  simp only [insI,Bool.cond_eq_ite]
  split
  ·exact List.Perm.refl _
  ·exact (List.Perm.cons y (uU x l)).trans (List.Perm.swap x y l)
theorem j3:∀ xs,(sortI xs).Perm xs
 | []=>List.Perm.refl _
 | x::l=>(uU x _).trans (List.Perm.cons x (j3 l))
theorem iI (xs:List Int):(sortI xs).length=xs.length:=(j3 xs).length_eq
theorem vD (x:Int):∀ l:List Int,l.Pairwise (·≤·)→(insI x l).Pairwise (·≤·)
 | [],_=>by simp [insI]
 | y::l,h=>by
  rw [List.pairwise_cons] at h
  simp only [insI,Bool.cond_eq_ite,decide_eq_true_eq]
  split
  ·next hxy=>
   rw [List.pairwise_cons]
   refine ⟨fun z hz=>?_,List.pairwise_cons.2 h⟩
   rcases List.mem_cons.1 hz with rfl | hz
   ·exact hxy
   ·exact Int.le_trans hxy (h.1 z hz)
  ·next hxy=>
   rw [List.pairwise_cons]
   refine ⟨fun z hz=>?_,vD x l h.2⟩
   rcases List.mem_cons.1 ((uU x l).mem_iff.1 hz) with rfl | hz
   ·omega
   ·exact h.1 z hz
theorem ky:∀ xs,(sortI xs).Pairwise (·≤·)
 | []=>List.Pairwise.nil
 | x::l=>vD x _ (ky l)
theorem qW:∀ {a b:List Int},a.Pairwise (·≤·)→b.Pairwise (·≤·)→a.Perm b→a=b
 | [],b,_,_,p=>(List.Perm.nil_eq p)
 | x::a,[],_,_,p=>absurd p.length_eq (by simp)
 | x::a,y::b,ha,hb,p=>by
  have hx:x=y:=by
   have h1:x∈y::b:=p.mem_iff.1 (List.mem_cons_self ..)
   have h2:y∈x::a:=p.mem_iff.2 (List.mem_cons_self ..)
   rw [List.pairwise_cons] at ha hb
   rcases List.mem_cons.1 h1 with e | h1
   ·exact e
   ·rcases List.mem_cons.1 h2 with e | h2
    ·exact e.symm
    ·have:=ha.1 y h2;have:=hb.1 x h1;omega
  subst hx
  rw [List.pairwise_cons] at ha hb
  rw [qW ha.2 hb.2 (List.Perm.cons_inv p)]
theorem Bw {xs ys:List Int} (p:xs.Perm ys):sortI xs=sortI ys:=
 qW (ky _) (ky _) ((j3 xs).trans (p.trans (j3 ys).symm))
def insS (x:OSeat):List OSeat→List OSeat
 | []=>[x]
 | y::l=>bif decide (x.person≤y.person) then x::y::l else y::insS x l
def seatS:List OSeat→List OSeat
 | []=>[]
 | x::l=>insS x (seatS l)
theorem uT (x:OSeat):∀ l,(insS x l).Perm (x::l)
 | []=>List.Perm.refl _
 | y::l=>by
  simp only [insS,Bool.cond_eq_ite]
  split
  ·exact List.Perm.refl _
  ·exact (List.Perm.cons y (uT x l)).trans (List.Perm.swap x y l)
theorem pW:∀ xs,(seatS xs).Perm xs
 | []=>List.Perm.refl _
 | x::l=>(uT x _).trans (List.Perm.cons x (pW l))
theorem vC (x:OSeat):∀ l:List OSeat,l.Pairwise (fun a b=>a.person≤b.person)→(insS x l).Pairwise (fun a b=>a.person≤b.person)
 | [],_=>by simp [insS]
 | y::l,h=>by
  rw [List.pairwise_cons] at h
  simp only [insS,Bool.cond_eq_ite,decide_eq_true_eq]
  split
  ·next hxy=>
   rw [List.pairwise_cons]
   refine ⟨fun z hz=>?_,List.pairwise_cons.2 h⟩
   rcases List.mem_cons.1 hz with rfl | hz
   ·exact hxy
   ·exact Int.le_trans hxy (h.1 z hz)
  ·next hxy=>
   rw [List.pairwise_cons]
   refine ⟨fun z hz=>?_,vC x l h.2⟩
   rcases List.mem_cons.1 ((uT x l).mem_iff.1 hz) with rfl | hz
   ·omega
   ·exact h.1 z hz
theorem tS:∀ xs,(seatS xs).Pairwise (fun a b=>a.person≤b.person)
 | []=>List.Pairwise.nil
 | x::l=>vC x _ (tS l)
theorem AF (xs:List Int):(xs.mergeSort fun x y=>decide (x≤y))=sortI xs:=by
 have h:=List.pairwise_mergeSort (le:=fun x y:Int=>decide (x≤y)) (fun a b c h1 h2=>by simp at *;omega) (fun a b=>by simp;omega) xs
 exact qW (h.imp (fun h=>by simpa using h)) (ky _) ((List.mergeSort_perm _ _).trans (j3 xs).symm)
end Go.Sg
