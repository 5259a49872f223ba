import Derived.Laws.AppendOwn
import Derived.Laws.StructEq
import Derived.Laws.Cover3
import Derived.Test.YtngiefchigcphaaGreatDoorW1
/- A part of the proof of the law AsofMore: where what it reads holds at most 1048576 values and letters, the call returns true and its arguments read as they did. Conditions: that bound, and that the listed table starts as the program lays it. -/
set_option linter.unusedVariables false
set_option linter.unusedSimpArgs false
namespace Go.Sg
theorem wL {P:Program} {fr:Frame} {cs:List Frame} {w:World} {r:Nat} {args:Array Value} {ds:List Deferred} (hm:fr.mode≠.run) (hd:fr.defers={ target:=.collected r,args }::ds)
  (hb:w.heap[r]? = some (.deferred (some []))):step P (lone fr cs w)=.next (lone { fr with defers:=ds } cs { w with heap:=w.heap.setIfInBounds r (.deferred none) }):=by
 have ht:(Instr.takeDeferred r).run P w=.ok [] { w with heap:=w.heap.setIfInBounds r (.deferred none) }:=by
  simp [Instr.takeDeferred,getObj,setObj,Sem.run,hb]
 refine step_lone_go ?_
 have hu:stepG P true { frame:=fr,callers:=cs,status:=.running,dying:=none } w=unwind P true fr cs none w:=by
  unfold stepG
  cases hmode:fr.mode with
  | run=>exact absurd hmode hm
  | returning=>simp [hmode]
  | panicking c=>simp [hmode]
 rw [hu]
 unfold unwind
 rw [hd]
 simp [Sem.runT_eq,ht,GStep.bare_after]
theorem nt {P:Program} {X:Cx} {h:HF} {cs:List Frame} {Φ : Machine→Prop}:∀ (rs:List Nat) (L:LH) (fr:Frame) (w:World),fr.mode≠.run→fr.defers=marks rs→St X h (L++markB rs) w →
  (∀ w',St X h L w'→To P Φ (lone { fr with defers:=[] } cs w'))→To P Φ (lone fr cs w)
 | [],L,fr,w,_,hd,hw,t=>by
  have hfr:{ fr with defers:=[] }=fr:=by
   cases fr;simp only [marks,List.map_nil] at hd;simp_all
  have:=t w (by simpa [markB] using hw)
  rw [hfr] at this
  exact this
 | r::rs,L,fr,w,hm,hd,hw,t=>by
  have hb:w.heap[r]? = some (.deferred (some [])):=hw.own (r,.deferred (some [])) (List.mem_append_right _ (by simp [markB]))
  have hi:nth (L++markB (r::rs)) L.length=some (r,.deferred (some [])):=by
   rw [gU];simp [markB]
  have hw2:=hw.write hi (.deferred none)
  have hw3:St X h (L++markB rs) { w with heap:=w.heap.setIfInBounds r (.deferred none) }:=by
   refine hw2.sub ?_
   rw [kI]
   have:(L++markB (r::rs)).set L.length (r,.deferred none)=L++(r,.deferred none)::markB rs:=by
    simp [markB]
   rw [this]
   exact (List.Sublist.refl L).append (List.sublist_cons_self ..)
  refine .step (wL (ds:=marks rs) hm (by simpa [marks] using hd) hb) ?_
  exact nt rs L { fr with defers:=marks rs } _ hm rfl hw3 t
section ending
variable {P:Program} {f:FuncId} {n:Nat} {k:List Item} {e:Env} {X:Cx} {h:HF} {L:LH} {R:Ending→HF→LH→Prop} {fn:Func}
theorem tM (rs:List Nat) {v:Value} {h2:HF} {B:LH} (hf:P.funcs[f]? = some fn) (hv:∀ a:Act,envOf a=e→∀ w,St X h L w→(results fn a.tmps).run P w=.ok v w)
  (hB:∀ w,St X h L w→St X h2 B w) (hR:R (.returned v) h2 B):TT P (bodyFrame f) n (.code .ret::k) (mg P X R) e (marks rs) X h (L++markB rs):=by
 intro w hw a cs Φ hn he hds hF
 obtain ⟨c,cs',rfl,h1,_⟩:=hF
 refine .step (stepR_ret rfl) (nt rs L _ w (by simp) hds hw fun w' hw'=>?_)
 refine .step (iC (fn:=fn) (v:=v) rfl rfl rfl hf (hv a he w' hw')) ?_
 exact h1 v w' ⟨h2,B,hB w' hw',hR⟩
theorem Ej (rs:List Nat) {v:Value} {h2:HF} {B:LH} (hf:P.funcs[f]? = some fn) (hv:∀ a:Act,envOf a=e→∀ w,St X h L w→(results fn a.tmps).run P w=.ok v w)
  (hB:∀ w,St X h L w→St X h2 B w) (hR:R (.returned v) h2 B):TT P (bodyFrame f) n [] (mg P X R) e (marks rs) X h (L++markB rs):=by
 intro w hw a cs Φ hn he hds hF
 obtain ⟨c,cs',rfl,h1,_⟩:=hF
 refine .step (stepR_end rfl) (nt rs L _ w (by simp) hds hw fun w' hw'=>?_)
 refine .step (iC (fn:=fn) (v:=v) rfl rfl rfl hf (hv a he w' hw')) ?_
 exact h1 v w' ⟨h2,B,hB w' hw',hR⟩
theorem El (rs:List Nat) {ch:List PanicEntry} {h2:HF} {B:LH} (hf:P.funcs[f]? = some fn) (hB:∀ w,St X h L w→St X h2 B w) (hR:R (.panicked ch) h2 B):
  TP P (bodyFrame f) n ch (mg P X R) e (marks rs) X h (L++markB rs):=by
 intro w hw a cs Φ todo hn he hds hF
 obtain ⟨c,cs',rfl,_,h3⟩:=hF
 refine nt rs L _ w (by simp) hds hw fun w' hw'=>?_
 refine .step (step_leave_panicked (P:=P) (fr:={ { (bodyFrame f).atR a todo with mode:=.panicking ch } with defers:=[] }) ⟨rfl,rfl,fn,hf⟩) ?_
 exact h3 ch w' ⟨h2,B,hB w' hw',hR⟩
theorem Ek {b:Frame} {ch:List PanicEntry} {F:List Frame→(Machine→Prop)→Prop} {ds:List Deferred} {L':LH} (hs:L.Perm L') (t:TP P b n ch F e ds X h L'):TP P b n ch F e ds X h L:=
 fun w hw=>t w (hw.perm hs)
theorem sZ {b:Frame} {ch:List PanicEntry} {F:List Frame→(Machine→Prop)→Prop} {ds:List Deferred} {L':LH} (hs:L'.Sublist L) (t:TP P b n ch F e ds X h L'):TP P b n ch F e ds X h L:=
 fun w hw=>t w (hw.sub hs)
end ending
theorem tN {P:Program} {b:Frame} {n:Nat} {k:List Item} {F:List Frame→(Machine→Prop)→Prop} {e:Env} {ds:List Deferred} {X:Cx} {h:HF} {L:LH} {c:Code} {ι : Type} (sl:ι→List (Nat×Value)) (dd:ι→List Deferred) (hh:ι→HF) (LL:ι→LH) (I:ι→Prop) (μ : ι→Nat) (i₀ : ι)
  (hds:ds=dd i₀) (h0:mH e (sl i₀)) (hs:∀ w,St X h L w→St X (hh i₀) (LL i₀) w) (hI:I i₀)
  (round:∀ i,I i→(∀ i' e',μ i' < μ i→I i'→mH e' (sl i')→TT P b n (.inLoop c::k) F e' (dd i') X (hh i') (LL i')) →
   ∀ e,TT P b n (.code c::.inLoop c::k) F (upds e (sl i)) (dd i) X (hh i) (LL i)):
  TT P b n (.code (.loop c)::k) F e ds X h L:=by
 have key:∀ m i e',μ i=m→I i→mH e' (sl i)→TT P b n (.code c::.inLoop c::k) F e' (dd i) X (hh i) (LL i):=by
  intro m
  induction m using Nat.strongRecOn with
  | _ m ih=>
   intro i e' hm hI hr
   have:=round i hI (fun i' e'' hlt hI' hr' w hw a cs Φ h1 h2 h3 h4=>.step stepR_inLoop (ih _ (hm ▸ hlt) i' e'' rfl hI' hr' w hw a cs Φ h1 h2 h3 h4)) e'
   rw [hr.upds] at this
   exact this
 subst hds
 intro w hw a cs Φ h1 h2 h3 h4
 exact .step stepR_loop (key _ i₀ e rfl hI h0 w (hs w hw) a cs Φ h1 h2 h3 h4)
end Go.Sg
namespace Go.Sg
structure Rp.Good {α : Type} (R:Rp α):Prop where
 mono:R.Mono
 one:∀ h cs x,R.rep h cs x→cs.all one=true
 pos:0 < R.sz
theorem Rp.jY:Rp.int.Good:=⟨Rp.cm,fun _ _ _ e=>by cases e;rfl,Nat.one_pos⟩
theorem Rp.Ae:Rp.bool.Good:=⟨Rp.vc,fun _ _ _ e=>by cases e;rfl,Nat.one_pos⟩
def bW {α : Type} (R:Rp α) (h:HF):List Value→List α→Prop
 | cl,[]=>cl=[]
 | cl,x::xs=>∃ cs rest,cl=cs++rest∧cs.length=R.sz∧R.rep h cs x∧bW R h rest xs
section cells
variable {α : Type} {R:Rp α} {h h':HF}
theorem bW.len:∀ {xs:List α} {cl:List Value},bW R h cl xs→cl.length=xs.length * R.sz
 | [],cl,e=>by cases e;simp
 | x::xs,cl,⟨cs,rest,e,hl,_,hr⟩=>by subst e;simp [hl,hr.len,Nat.add_mul];omega
theorem bW.mono (hm:R.Mono) (hl:h.le h'):∀ {xs:List α} {cl:List Value},bW R h cl xs→bW R h' cl xs
 | [],cl,e=>e
 | x::xs,cl,⟨cs,rest,e,hs,r,hr⟩=>⟨cs,rest,e,hs,hm _ _ _ _ hl r,hr.mono hm hl⟩
theorem bW.app {b:List Value} {ys:List α} (hb:bW R h b ys):∀ {xs:List α} {a:List Value},bW R h a xs→bW R h (a++b) (xs++ys)
 | [],a,e=>by cases e;exact hb
 | x::xs,a,⟨cs,rest,e,hs,r,hr⟩=>⟨cs,rest++b,by rw [e,List.append_assoc],hs,r,bW.app hb hr⟩
theorem bW.ER (hg:R.Good):∀ {xs:List α} {cl:List Value},bW R h cl xs→cl.all one=true
 | [],cl,e=>by cases e;rfl
 | x::xs,cl,⟨cs,rest,e,hs,r,hr⟩=>by subst e;rw [List.all_append,hg.one _ _ _ r,hr.ER hg];rfl
theorem bW.get:∀ {xs:List α} {cl:List Value},bW R h cl xs→∀ i x,xs[i]? = some x→∃ cs,cs.length=R.sz∧R.rep h cs x∧∀ j v,cs[j]? = some v→cl[i * R.sz+j]? = some v
 | [],cl,_,i,x,hx=>by simp at hx
 | y::xs,cl,⟨cs,rest,e,hs,r,hr⟩,0,x,hx=>by
  simp at hx;subst hx e
  refine ⟨cs,hs,r,fun j v hj=>?_⟩
  have hlt:j < cs.length:=(List.getElem?_eq_some_iff.1 hj).1
  simp [List.getElem?_append_left hlt,hj]
 | y::xs,cl,⟨cs,rest,e,hs,r,hr⟩,i+1,x,hx=>by
  simp at hx
  subst e
  obtain ⟨ds,h1,h2,h3⟩:=hr.get i x hx
  refine ⟨ds,h1,h2,fun j v hj=>?_⟩
  have:=h3 j v hj
  have hge:cs.length≤(i+1) * R.sz+j:=by rw [hs,Nat.add_mul];omega
  rw [List.getElem?_append_right hge,hs]
  have e1:(i+1) * R.sz+j - R.sz=i * R.sz+j:=by rw [Nat.add_mul];omega
  rw [e1];exact this
theorem ni (bk n:Nat):(⟨bk,0,none⟩:Addr).add n=⟨bk,n,none⟩:=by
 by_cases e0:n=0
 ·simp [Addr.add,e0]
 ·simp [Addr.add,e0]
theorem bW.slB {bk T:Nat} {fz:Nat×Nat} {cl sp:List Value} {xs:List α} (hc:bW R h cl xs) (hb:h bk=some (.cells (cl++sp).toArray T fz)) (hle:xs.length≤9223372036854775807):SlB R h (some ⟨bk,0,none⟩) xs:=by
 refine ⟨hle,?_⟩
 intro i x hx
 obtain ⟨cs,h1,h2,h3⟩:=hc.get i x hx
 refine ⟨_,cs,rfl,?_,h1,h2⟩
 rw [ni]
 refine At.xr hb fun j v hj=>?_
 have:=h3 j v hj
 have hlt:=(List.getElem?_eq_some_iff.1 this).1
 rw [List.getElem?_append_left hlt];exact this
theorem bW.IA {base:Option Addr}:∀ {xs:List α},SlB R h base xs→∃ cl,bW R h cl xs∧∀ a,base=some a→xs≠[]→At h a cl:=by
 intro xs hs
 cases hxs:xs with
 | nil=>exact ⟨[],rfl,fun _ _ hne=>(hne rfl).elim⟩
 | cons x0 xs0=>
  obtain ⟨p,cs0,hp,hA0,_,_⟩:=hs.2 0 x0 (by rw [hxs];rfl)
  subst hp
  have hA0':At h p cs0:=by simpa [Addr.add] using hA0
  obtain ⟨arr,T,fz,hb,hsp,_⟩:=hA0'
  have key:∀ (ys:List α) (k:Nat),(∀ i y,ys[i]? = some y→xs[k+i]? = some y)→∃ cl,bW R h cl ys∧∀ j v,cl[j]? = some v→arr[p.off+(k * R.sz+j)]? = some v:=by
   intro ys
   induction ys with
   | nil=>intro k _;exact ⟨[],rfl,fun j v hj=>by simp at hj⟩
   | cons y ys ih=>
    intro k hk
    obtain ⟨q,cs,hq,hA,hl,hr⟩:=hs.2 k y (hk 0 y rfl)
    cases hq
    obtain ⟨cl,hc,hcl⟩:=ih (k+1) (fun i z hz=>by have:=hk (i+1) z (by simpa using hz);rw [show k+1+i=k+(i+1) by omega];exact this)
    refine ⟨cs++cl,⟨cs,cl,rfl,hl,hr,hc⟩,fun j v hj=>?_⟩
    have hblk:(p.add (k * R.sz)).block=p.block:=by unfold Addr.add;split <;> simp [hsp]
    have hoff:(p.add (k * R.sz)).off=p.off+k * R.sz:=by
     unfold Addr.add;split
     ·simp_all
     ·simp [hsp]
    obtain ⟨arr',T',fz',hb',hsp',hg'⟩:=hA
    rw [hblk,hb] at hb'
    cases hb'
    rcases Nat.lt_or_ge j cs.length with hlt | hge
    ·rw [List.getElem?_append_left hlt] at hj
     have:=hg' j v hj
     rw [hoff] at this
     rw [← Nat.add_assoc];exact this
    ·rw [List.getElem?_append_right hge] at hj
     have:=hcl _ v hj
     rw [hl] at this hge
     rw [show k * R.sz+j=(k+1) * R.sz+(j - R.sz) by rw [Nat.add_mul];omega];exact this
  obtain ⟨cl,hc,hcl⟩:=key xs 0 (fun i y hy=>by simpa using hy)
  refine ⟨cl,by rw [← hxs];exact hc,fun a ha _=>?_⟩
  cases ha
  exact ⟨arr,T,fz,hb,hsp,fun j v hj=>by simpa using hcl j v hj⟩
end cells
def ei {α : Type} (R:Rp α) (E:TypeId) (h:HF) (xs:List α) (base:Option Addr) (cap:Nat) (G:LH):Prop:=
 (xs=[]∧base=none∧cap=0∧G=[]) ∨
 ∃ bk cl sp,base=some ⟨bk,0,none⟩∧bW R h cl xs∧(cl++sp).length=cap * R.sz∧xs.length≤cap∧xs.length≤9223372036854775807∧G=[(bk,.cells (cl++sp).toArray E (0,0))]
theorem ei.nil {α : Type} {R:Rp α} {E:TypeId} {h:HF}:ei R E h [] none 0 []:=.inl ⟨rfl,rfl,rfl,rfl⟩
theorem ei.mono {α : Type} {R:Rp α} {E:TypeId} {h h':HF} {xs:List α} {base:Option Addr} {cap:Nat} {G:LH} (g:ei R E h xs base cap G) (hm:R.Mono) (hl:h.le h'):ei R E h' xs base cap G:=by
 rcases g with g | ⟨bk,cl,sp,h1,h2,h3⟩
 ·exact .inl g
 ·exact .inr ⟨bk,cl,sp,h1,h2.mono hm hl,h3⟩
theorem ei.lit {α : Type} {R:Rp α} {E:TypeId} {h:HF} {xs:List α} {bk cap:Nat} {cl:List Value} (hc:bW R h cl xs) (hl:xs.length=cap) (hb:xs.length≤9223372036854775807:=by simp):ei R E h xs (some ⟨bk,0,none⟩) cap [(bk,.cells cl.toArray E (0,0))]:=
 .inr ⟨bk,cl,[],rfl,hc,by simp [hc.len,hl],by omega,hb,by simp⟩
def Src {α : Type} (R:Rp α) (h:HF) (L:LH) (x:Value) (ys:List α):Prop:=
 ∃ base c cl,x=.slice base ys.length c∧bW R h cl ys∧(ys≠[]→∃ a,base=some a)∧∀ X w,St X h L w→∀ a,base=some a→∀ j u,cl[j]? = some u→w.cell? (a.add j)=some u
theorem s6 {α : Type} {R:Rp α} {h:HF} {L:LH} {base:Option Addr} {ys:List α} {c:Nat} (hs:SlB R h base ys):Src R h L (.slice base ys.length c) ys:=by
 obtain ⟨cl,hc,hA⟩:=bW.IA hs
 refine ⟨base,c,cl,rfl,hc,fun hne=>?_,fun X w hw a ha j u hj=>?_⟩
 ·cases ys with
  | nil=>exact (hne rfl).elim
  | cons y ys=>obtain ⟨p,_,hp,_⟩:=hs.2 0 y rfl;exact ⟨p,hp⟩
 ·have hne:ys≠[]:=by
   intro e;subst e;cases hc;simp at hj
  exact (hA a ha hne).cell hw hj
theorem ff {α : Type} {R:Rp α} {h:HF} {L:LH} (i:Nat) {bk T:Nat} {fz:Nat×Nat} {cl:List Value} {ys:List α} {c:Nat} (hL:nth L i=some (bk,.cells cl.toArray T fz)) (hc:bW R h cl ys):
  Src R h L (.slice (some ⟨bk,0,none⟩) ys.length c) ys:=
 ⟨_,c,cl,rfl,hc,fun _=>⟨_,rfl⟩,fun X w hw a ha j u hj=>by
  cases ha
  rw [ni]
  exact hw.cell hL (by rw [gU];exact hj)⟩
theorem bW.slB0 {α : Type} {R:Rp α} {h:HF} {bk T:Nat} {fz:Nat×Nat} {cl:List Value} {xs:List α} (hc:bW R h cl xs) (hb:h bk=some (.cells cl.toArray T fz)) (hle:xs.length≤9223372036854775807:=by simp) {cap:Nat} (hcap:xs.length≤cap:=by simp):SlC R h (some ⟨bk,0,none⟩) cap xs:=
 ⟨bW.slB (sp:=[]) hc (by simpa using hb) hle,hcap⟩
def Rp.sl {α : Type} (R:Rp α):Rp (List α):=⟨1,fun h cs xs=>∃ b c,cs=[.slice b xs.length c]∧SlC R h b c xs⟩
theorem Rp.rT {α : Type} {R:Rp α} (hm:R.Mono):(Rp.sl R).Mono:=fun _ _ _ _ hl ⟨b,c,e,s⟩=>⟨b,c,e,s.mono hm hl⟩
theorem Rp.HM {α : Type} {R:Rp α} (hm:R.Mono):(Rp.sl R).Good:=⟨Rp.rT hm,fun _ _ _ ⟨_,_,e,_⟩=>by cases e;rfl,Nat.one_pos⟩
theorem rU {P:Program} {α : Type} {R:Rp α} {h:HF} {L:LH} {x:Value} {ys:List α} (s:Src R h L x ys) {X:Cx} {w:World} (hw:St X h L w):
  ∃ cl base c,x=.slice base ys.length c∧bW R h cl ys∧(Builtin.firstCells R.sz ys.length x).run P w=.ok cl.toArray w:=by
 obtain ⟨base,c,cl,rfl,hc,h1,h2⟩:=s
 refine ⟨cl,base,c,rfl,hc,?_⟩
 cases base with
 | none=>
  have:ys=[]:=Classical.byContradiction fun hne=>by obtain ⟨a,ha⟩:=h1 hne;cases ha
  subst this;cases hc
  simp [Builtin.firstCells]
 | some a=>exact run_firstCells_some w _ _ a _ _ cl hc.len (h2 X w hw a rfl)
theorem Eu {α : Type} (a:List α) (x:α) (b:List α):nth (a++x::b) a.length=some x:=by rw [gU];simp
theorem wQ {α : Type} (a:List α) (x y:α) (b:List α):setNth (a++x::b) a.length y=a++y::b:=by rw [kI];simp
def bytesOf (P:Program) (E:TypeId):Option Nat:=(P.info? E).map (·.bytes)
theorem uG (vs:List Value):∀ (cl sp:List Value),vs.length≤sp.length→splice (cl++sp) cl.length vs=cl++(vs++sp.drop vs.length):=by
 induction vs with
 | nil=>intro cl sp _;simp [splice]
 | cons v vs ih=>
  intro cl sp hl
  cases sp with
  | nil=>simp at hl
  | cons s sp=>
   simp only [splice]
   have:=ih (cl++[v]) sp (by simpa using hl)
   simp only [kI,List.length_append,List.length_cons,List.length_nil,List.append_assoc,List.cons_append,List.nil_append] at this ⊢
   rw [show (cl++s::sp).set cl.length v=cl++v::sp by simp]
   simpa using this
theorem DH {P:Program} {α : Type} {R:Rp α} (hg:R.Good) {X:Cx} {h:HF} {w:World} (A Q:LH) {t ty E:TypeId} {xs ys:List α} {base:Option Addr} {cap:Nat} {G:LH} {x:Value} {by_:Nat} {a:Bool} {zs:List Value}
  (hw:St X h (A++(G++Q)) w) (hT:P.underlying t=some (.slice E)) (hS:tySz P E=some (R.sz,a)) (hz:zeroC P E=some zs) (hzl:zs.length=R.sz) (hby:bytesOf P E=some by_) (hG:ei R E h xs base cap G) (hsrc:Src R h (A++(G++Q)) x ys)
  (hb:(xs.length+ys.length) * by_≤140737488355328) (hb2:xs.length+ys.length≤9223372036854775807):
  ∃ base' cap' G' w',(Builtin.append_ #[t,t] ty #[.slice base xs.length cap,x]).run P w=.ok (.slice base' (xs++ys).length cap') w'∧ei R E h (xs++ys) base' cap' G'∧St X h (A++(G'++Q)) w':=by
 obtain ⟨i,hi,hby'⟩:∃ i,P.info? E=some i∧i.bytes=by_:=by
  unfold bytesOf at hby
  cases hi:P.info? E with
  | none=>simp [hi] at hby
  | some i=>exact ⟨i,rfl,by simpa [hi] using hby⟩
 have hsz:i.size=R.sz:=by
  have:=gV hS w
  simpa [sizeOf,typeInfo,hi] using this
 obtain ⟨z,hzz,hzc⟩:∃ z,i.zero=some z∧z.cells=zs.toArray:=by
  unfold zeroC at hz
  cases hzz:i.zero with
  | none=>simp [hi,hzz] at hz
  | some z=>exact ⟨z,rfl,by simp [hi,hzz] at hz;rw [lW,hz]⟩
 have hnewlen:(xs++ys).length=xs.length+ys.length:=by simp
 obtain ⟨cl,bs,c,hx,hc,hf⟩:=rU (P:=P) hsrc hw
 by_cases hroom:xs.length+ys.length≤cap
 ·
  rcases hG with ⟨rfl,rfl,rfl,rfl⟩ | ⟨bk,cl0,sp,rfl,hc0,hlen,hle,_,rfl⟩
  ·have hy:ys=[]:=List.eq_nil_of_length_eq_zero (by simpa using hroom)
   subst hy
   cases hc
   refine ⟨none,0,[],w,?_,ei.nil,by simpa using hw⟩
   subst hx
   rw [← hsz] at hf
   simp [Builtin.append_,run_underlying hT,sizeOf,typeInfo,hi,Builtin.lenOf,hf] at hf ⊢
  ·have hlcl:=hc.len
   have hl0:=hc0.len
   have hfit:cl.length≤sp.length:=by
    simp only [List.length_append] at hlen
    have:(xs.length+ys.length) * R.sz≤cap * R.sz:=Nat.mul_le_mul_right _ hroom
    rw [Nat.add_mul] at this
    omega
   have hown:w.heap[bk]? = some (.cells (cl0++sp).toArray E (0,0)):=hw.own (bk,_) (by simp)
   have hst:=kz (P:=P) (T:=E) (xs.length * R.sz) cl 0 (cl0++sp) w hown (by simp;omega) (by simpa using hc.ER hg)
   simp only [Nat.add_zero] at hst
   have hwr:=hw.write (i:=A.length) (b:=bk) (o:=.cells (cl0++sp).toArray E (0,0)) (by simpa using Eu A _ Q) (.cells (splice (cl0++sp) (xs.length * R.sz) cl).toArray E (0,0))
   refine ⟨some ⟨bk,0,none⟩,cap,[(bk,.cells (splice (cl0++sp) (xs.length * R.sz) cl).toArray E (0,0))],{ w with heap:=w.heap.setIfInBounds bk (.cells (splice (cl0++sp) (xs.length * R.sz) cl).toArray E (0,0)) },?_,?_,?_⟩
   ·subst hx
    rw [← hsz] at hf hst ⊢
    simp [Builtin.append_,run_underlying hT,sizeOf,typeInfo,hi,Builtin.lenOf,hf,hroom,ni,hst]
   ·have hsp:=uG cl cl0 sp hfit
    rw [hl0] at hsp
    refine .inr ⟨bk,cl0++cl,sp.drop cl.length,rfl,bW.app hc hc0,?_,by simpa using hroom,by simpa using hb2,?_⟩
    ·simp only [List.length_append,List.length_drop] at hlen ⊢;omega
    ·rw [hsp];simp
   ·have:=wQ A (bk,Obj.cells (cl0++sp).toArray E (0,0)) (bk,.cells (splice (cl0++sp) (xs.length * R.sz) cl).toArray E (0,0)) Q
    simp only [List.cons_append,List.nil_append] at hwr ⊢
    rw [this] at hwr
    exact hwr
 ·
  have hcap:cap < xs.length+ys.length:=by omega
  have hwd:St X h (A++(G++Q)) w.drew:=hw.drew _
  obtain ⟨cl0,hc0,hf0⟩:∃ cl0,bW R h cl0 xs∧(Builtin.firstCells R.sz xs.length (.slice base xs.length cap)).run P w.drew=.ok cl0.toArray w.drew:=by
   rcases hG with ⟨rfl,rfl,rfl,rfl⟩ | ⟨bk,cl0,sp,rfl,hc0,hlen,hle,_,rfl⟩
   ·exact ⟨[],rfl,by simp [Builtin.firstCells]⟩
   ·refine ⟨cl0,hc0,run_firstCells_some _ _ _ _ _ _ _ hc0.len fun j v hj=>?_⟩
    have hown:w.drew.heap[bk]? = some (.cells (cl0++sp).toArray E (0,0)):=hwd.own (bk,_) (by simp)
    have hlt:=(List.getElem?_eq_some_iff.1 hj).1
    rw [ni]
    simp only [World.cell?,hown]
    simp [List.getElem?_append_left hlt,hj]
  obtain ⟨cl',_,_,hx',hc',hf'⟩:=rU (P:=P) hsrc hwd
  have hfit:Builtin.nextslicecap (xs.length+ys.length) cap * i.bytes≤281474976710656:=growslice_fits hcap (by rw [hby'];exact hb)
  have h48':¬ (281474976710656 < Builtin.nextslicecap (xs.length+ys.length) cap * i.bytes):=by omega
  have h63':¬ (9223372036854775807 < ((xs.length:Int)+(ys.length:Int))):=by omega
  have hge:=grownCap_ge w (xs.length+ys.length) cap E
  let nc:=grownCap w (xs.length+ys.length) cap E
  let rest:=(Builtin.zeroCells z.cells (nc - (xs.length+ys.length))).toList
  refine ⟨some ⟨w.heap.size,0,none⟩,nc,[(w.heap.size,.cells ((cl0++cl')++rest).toArray E (0,0))],w.drew.alloc (.cells ((cl0++cl')++rest).toArray E),?_,?_,?_⟩
  ·subst hx
   rw [← hsz] at hf0 hf'
   simp [Builtin.append_,run_underlying hT,sizeOf,typeInfo,zeroValue,hi,hzz,Builtin.lenOf,hroom,h63',h48',Question.forced,hf0,hf',newRow,grownCap,nc,rest]
   congr 2
   apply Array.ext'
   simp
  ·refine .inr ⟨w.heap.size,cl0++cl',rest,rfl,bW.app hc' hc0,?_,by rw [hnewlen];exact hge,by rw [hnewlen];exact hb2,rfl⟩
   have:rest.length=(nc - (xs.length+ys.length)) * R.sz:=by
    simp [rest,Builtin.zeroCells,hzc,hzl]
   simp only [List.length_append,this,hc0.len,hc'.len,← Nat.add_mul]
   congr 1
   omega
  ·have h1:=hwd.alloc (.cells ((cl0++cl')++rest).toArray E (0,0))
   have hsub:((w.heap.size,Obj.cells ((cl0++cl')++rest).toArray E (0,0))::(A++Q)).Sublist ((w.heap.size,Obj.cells ((cl0++cl')++rest).toArray E (0,0))::(A++(G++Q))):=
    .cons_cons _ ((List.Sublist.refl A).append (List.sublist_append_right G Q))
   have h2:=h1.sub hsub
   exact h2.perm (List.perm_middle.symm)
section step
variable {P:Program} {b:Frame} {n:Nat} {ops:Array Oper} {F:List Frame→(Machine→Prop)→Prop} {e:Env} {ds:List Deferred} {X:Cx} {h:HF} {L:LH} {K:Env→HF→LH→Prop}
variable {d:Option Nat} {ty:TypeId} {pos:String} {af:Array Edge} {g:Option (Nat×Bool)}
theorem eK {α : Type} {R:Rp α} (hg:R.Good) (A Q:LH) (LL:LH→LH) {t E:TypeId} {s y:Operand} {xs ys:List α} {base:Option Addr} {cap:Nat} {G:LH} {m by_:Nat} {a:Bool} {zs:List Value}
  (hL:L=A++(G++Q)) (hLL:∀ G',A++(Q++G')=LL G') (hT:P.underlying t=some (.slice E)) (hS:tySz P E=some (R.sz,a)) (hz:zeroC P E=some zs) (hzl:zs.length=R.sz) (hby:bytesOf P E=some by_)
  (hG:ei R E h xs base cap G) (hx:e.ev s=.slice base m cap) (hm:m=xs.length) (hsrc:Src R h L (e.ev y) ys)
  (hb:(xs.length+ys.length) * by_≤140737488355328) (hb2:xs.length+ys.length≤9223372036854775807)
  (t':∀ base' cap' G',ei R E h (xs++ys) base' cap' G'→K (pute e d (.slice base' (xs++ys).length cap')) h (LL G'))
  (hgd:guardB ops e ⟨d,.call ⟨.builtin .append,#[s,y],#[t,t]⟩,ty,pos,af,g⟩=true:=by rfl):Stp P b n ops F ds X ⟨d,.call ⟨.builtin .append,#[s,y],#[t,t]⟩,ty,pos,af,g⟩ e h L K:=
 iS hgd fun w hw=>by
  subst hL hm
  obtain ⟨base',cap',G',w',hr,hG',hst⟩:=DH (P:=P) (ty:=ty) hg A Q hw hT hS hz hzl hby hG hsrc hb hb2
  refine ⟨_,w',h,_,?_,(hLL G') ▸ hst.perm (List.Perm.append_left A List.perm_append_comm),t' _ _ _ hG'⟩
  simp [execOp,resolve,invoke,builtin,hx,hr]
end step
end Go.Sg
namespace Go.Sg
def HF.addAll (h:HF):LH→HF
 | []=>h
 | (b,o)::L=>(h.add b o).addAll L
theorem St.freezeAll {X:Cx} (hM:X.M=[]) {w:World}:∀ {G Q:LH} {h:HF},St X h (G++Q) w→St X (h.addAll G) Q w∧h.le (h.addAll G)∧∀ p∈G,(h.addAll G) p.1=some p.2
 | [],Q,h,s=>⟨s,h.le_refl,fun p hp=>(List.not_mem_nil hp).elim⟩
 | (b,o)::G,Q,h,s=>by
  have hfr:=s.free (b,o) (by simp)
  obtain ⟨h1,h2,h3⟩:=St.freezeAll hM (G:=G) (Q:=Q) (s.freeze (by rw [hM];simp))
  refine ⟨h1,HF.le_trans (HF.tl hfr) h2,fun p hp=>?_⟩
  rcases List.mem_cons.1 hp with rfl | hp
  ·exact h2 _ _ (HF.pL _ _ _)
  ·exact h3 p hp
theorem ei.frozen {α : Type} {R:Rp α} (hm:R.Mono) {E:TypeId} {h h2:HF} {xs:List α} {base:Option Addr} {cap:Nat} {G:LH} (g:ei R E h xs base cap G) (hl:h.le h2) (hG:∀ p∈G,h2 p.1=some p.2):SlC R h2 base cap xs:=by
 rcases g with ⟨rfl,_⟩ | ⟨bk,cl,sp,rfl,hc,_,hcap,hb,rfl⟩
 ·exact SlC.nil
 ·exact ⟨(hc.mono hm hl).slB (hG _ (List.mem_singleton.2 rfl)) hb,hcap⟩
section freeze
variable {P:Program} {b:Frame} {n:Nat} {k:List Item} {F:List Frame→(Machine→Prop)→Prop} {e:Env} {ds:List Deferred} {X:Cx} {h:HF} {L:LH} {ops:Array Oper} {l:List Oper}
theorem St.freezeMid {w:World} (hM:X.M=[]) {A G Q:LH} (s:St X h (A++(G++Q)) w):St X (h.addAll G) (A++Q) w∧h.le (h.addAll G)∧∀ p∈G,(h.addAll G) p.1=some p.2:=
 St.freezeAll hM (s.perm (by rw [← List.append_assoc,← List.append_assoc];exact List.perm_append_comm.append_right Q))
theorem gi {todo:List Item} {α : Type} {R:Rp α} {E:TypeId} {xs:List α} {base:Option Addr} {cap:Nat} (hm:R.Mono) (A G Q:LH) (hL:L=A++(G++Q)) (hM:X.M=[]) (hG:ei R E h xs base cap G)
  (t:∀ h2,h.le h2→SlC R h2 base cap xs→TT P b n todo F e ds X h2 (A++Q)):TT P b n todo F e ds X h L:=by
 subst hL
 intro w hw
 obtain ⟨h1,h2,h3⟩:=hw.freezeMid hM
 exact t _ h2 (hG.frozen hm h2 h3) w h1
theorem lP {α : Type} {R:Rp α} {E:TypeId} {xs:List α} {base:Option Addr} {cap:Nat} (hm:R.Mono) (A G Q:LH) (hL:L=A++(G++Q)) (hM:X.M=[]) (hG:ei R E h xs base cap G)
  (t:∀ h2,h.le h2→SlC R h2 base cap xs→TO P b n ops l k F e ds X h2 (A++Q)):TO P b n ops l k F e ds X h L:=by
 subst hL
 intro w hw
 obtain ⟨h1,h2,h3⟩:=hw.freezeMid hM
 exact t _ h2 (hG.frozen hm h2 h3) w h1
def dropNth {α : Type}:List α→Nat→List α
 | [],_=>[]
 | _::l,0=>l
 | x::l,i+1=>x::dropNth l i
theorem mD {α : Type}:∀ (l:List α) (i:Nat) (x:α),nth l i=some x→l.Perm (x::dropNth l i)
 | [],_,_,h=>by simp [nth] at h
 | y::l,0,x,h=>by simp [nth] at h;subst h;exact List.Perm.refl _
 | y::l,i+1,x,h=>(List.Perm.cons y (mD l i x h)).trans (List.Perm.swap x y _)
theorem cn (i:Nat) {bk:Nat} {o:Obj} (hi:nth L i=some (bk,o)) (hM:X.M=[]) (t:∀ h2,h.le h2→h2 bk=some o→TO P b n ops l k F e ds X h2 (dropNth L i)):TO P b n ops l k F e ds X h L:=by
 intro w hw
 have h1:=hw.perm (mD L i _ hi)
 exact t _ (HF.tl (h1.free (bk,o) (by simp))) (HF.pL _ _ _) w (h1.freeze (by rw [hM];simp))
theorem fV {todo:List Item} (i:Nat) {bk:Nat} {o:Obj} (hi:nth L i=some (bk,o)) (hM:X.M=[]) (t:∀ h2,h.le h2→h2 bk=some o→TT P b n todo F e ds X h2 (dropNth L i)):TT P b n todo F e ds X h L:=by
 intro w hw
 have h1:=hw.perm (mD L i _ hi)
 exact t _ (HF.tl (h1.free (bk,o) (by simp))) (HF.pL _ _ _) w (h1.freeze (by rw [hM];simp))
end freeze
def retVal:List Value→Value
 | [v]=>v
 | vs=>.tuple vs.toArray
def sV (P:Program) (e:Env) (L:LH):List ResultVar→List Value→Prop
 | [],[]=>True
 | .tmp t::rs,v::vs=>e t=v∧sV P e L rs vs
 | .cell a ty::rs,v::vs=>(∃ i bk cl T fz,nth L i=some (bk,.cells cl.toArray T fz)∧e a=.pointer (some ⟨bk,0,none⟩)∧((tySz P ty=some (cl.length,true)∧v=.agg cl.toArray)∨∃ m,tySz P ty=some (m,false)∧cl=[v]))∧sV P e L rs vs
 | _,_=>False
theorem pY {P:Program} {e:Env} {X:Cx} {h:HF} {L:LH} {fn:Func} {rs:List ResultVar} {vs:List Value} (hr:fn.results=rs.toArray) (hv:sV P e L rs vs) (a:Act) (he:envOf a=e) (w:World) (hw:St X h L w):
  (results fn a.tmps).run P w=.ok (retVal vs) w:=by
 have key:∀ (f:ResultVar→Sem Value),(∀ t,f (.tmp t)=pure (a.tmps.getD t undef))→(∀ x t,f (.cell x t)=do loadVar t (← asAddr (a.tmps.getD x undef))) →
   ∀ (rs:List ResultVar) (vs:List Value),sV P e L rs vs→(rs.mapM f:Sem (List Value)).run P w=.ok vs w:=by
  intro f hf1 hf2 rs
  induction rs with
  | nil=>intro vs hv;cases vs with
   | nil=>simp
   | cons _ _=>exact hv.elim
  | cons r rs ih=>
   intro vs hv
   cases vs with
   | nil=>cases r <;> exact hv.elim
   | cons v vs=>
    cases r with
    | tmp t=>
     obtain ⟨h1,h2⟩:=hv
     have:a.tmps.getD t undef=v:=by rw [← h1,← he];rfl
     simp [ih vs h2,this,Sem.run_bind,hf1]
    | cell x ty=>
     obtain ⟨⟨i,bk,cl,T,fz,hL,hx,hc⟩,h2⟩:=hv
     have hax:a.tmps.getD x undef=.pointer (some ⟨bk,0,none⟩):=by rw [← hx,← he];rfl
     have hl:(loadVar ty ⟨bk,0,none⟩).run P w=.ok v w:=by
      rcases hc with ⟨hT,rfl⟩ | ⟨m,hT,rfl⟩
      ·refine mh hT fun j u hj=>?_
       rw [ni]
       exact hw.cell hL (by rw [gU];exact hj)
      ·exact mi hT (hw.cell hL rfl)
     simp [ih vs h2,hf2,hax,asAddr,hl,Sem.run_bind]
 have h2:∀ (f:ResultVar→Sem Value),(∀ t,f (.tmp t)=pure (a.tmps.getD t undef))→(∀ x t,f (.cell x t)=do loadVar t (← asAddr (a.tmps.getD x undef)))→(fn.results.mapM f:Sem (Array Value)).run P w=.ok vs.toArray w:=by
  intro f hf1 hf2
  rw [hr]
  have:(rs.toArray.mapM f:Sem (Array Value))=List.toArray <$> (rs.mapM f:Sem (List Value)):=by
   rw [← List.mapM_toArray]
  rw [this,Sem.run_map,key f hf1 hf2 rs vs hv]
  rfl
 unfold results
 rw [Sem.run_bind]
 refine (congrArg (fun r=>Result.andThen r _) (h2 _ (fun _=>rfl) (fun _ _=>rfl))).trans ?_
 simp only [Result.andThen_ok,Sem.run_pure]
 congr 1
 cases vs with
 | nil=>rfl
 | cons v vs=>cases vs with
  | nil=>rfl
  | cons u vs=>simp [retVal]
abbrev jP (P:Program) (f:FuncId) (args:List Value) (h:HF) (φ : Value→HF→Prop):Prop:=oq P f args.toArray h [] (fun x h' B=>B=[]∧∃ v,x=.returned v∧φ v h')
abbrev Ih (P:Program) (f:Value) (args:List Value) (h:HF) (φ : Value→HF→Prop):Prop:=kS P f args.toArray h [] (fun x h' B=>B=[]∧∃ v,x=.returned v∧φ v h')
section ends
variable {P:Program} {f:FuncId} {n:Nat} {k:List Item} {e:Env} {X:Cx} {h:HF} {L:LH} {fn:Func} {φ : Value→HF→Prop}
theorem dQ {rs:List ResultVar} (vs:List Value) (hf:P.funcs[f]? = some fn) (hr:fn.results=rs.toArray) (hv:sV P e L rs vs) (hφ : φ (retVal vs) h):
  TT P (bodyFrame f) n (.code .ret::k) (mg P X (fun x h' B=>B=[]∧∃ v,x=.returned v∧φ v h')) e [] X h L:=
 nj (v:=retVal vs) hf (fun a he w hw=>pY hr hv a he w hw) (fun _ hw=>hw.sub (List.nil_sublist _)) ⟨rfl,_,rfl,hφ⟩
theorem ar {rs:List ResultVar} {v:Value} {hh:HF} (vs:List Value) (hf:P.funcs[f]? = some fn) (hr:fn.results=rs.toArray) (hX:X.h0=hh) (hv:sV P e L rs vs) (hvv:retVal vs=v):
  TT P (bodyFrame f) n (.code .ret::k) (mg P X (fun x h' B=>x=.returned v∧h'=hh∧B=[])) e [] X h L:=
 nj (v:=v) hf (fun a he w hw=>hvv ▸ pY hr hv a he w hw) (fun _ hw=>hw.forget) ⟨rfl,hX,rfl⟩
end ends
section steps
variable {P:Program} {b:Frame} {n:Nat} {ops:Array Oper} {F:List Frame→(Machine→Prop)→Prop} {e:Env} {ds:List Deferred} {X:Cx} {h:HF} {L:LH} {K:Env→HF→LH→Prop}
variable {d:Option Nat} {ty:TypeId} {pos:String} {af:Array Edge} {g:Option (Nat×Bool)}
theorem dp {f:FuncId} {as:Array Operand} {ats:Array TypeId} {vs:List Value} {φ : Value→HF→Prop}
  (hc:∀ args w,(callFunc f args).run P w=.ok (.enter f args) w) (hs:jP P f vs h φ) (hvs:as.toList.map e.ev=vs)
  (t':∀ v h',h.le h'→φ v h'→K (pute e d v) h' L)
  (hg:guardB ops e ⟨d,.call ⟨.value (.func f),as,ats⟩,ty,pos,af,g⟩=true:=by rfl):
  Stp P b n ops F ds X ⟨d,.call ⟨.value (.func f),as,ats⟩,ty,pos,af,g⟩ e h L K:=
 DE (A:=[]) (Fr:=L) hc hvs hs rfl (fun v' h' B hle hR=>by
   obtain ⟨rfl,v,hv,hφ⟩:=hR
   cases hv
   exact t' _ h' hle hφ)
  (fun ch h' B _ hR=>by obtain ⟨_,v,h1,_⟩:=hR;cases h1) hg
def nthI {α : Type} [Inhabited α] (xs:List α) (z:Int):α:=xs.getD z.toNat default
theorem eN {α : Type} [Inhabited α] {xs:List α} {z:Int} (hz:0≤z∧z < (xs.length:Int)):xs[z.toNat]? = some (nthI xs z):=by
 have:z.toNat < xs.length:=by omega
 simp [nthI,List.getD_eq_getElem?_getD,this]
theorem ki {α : Type} [Inhabited α] {xs:List α} {z:Int} (hz:0≤z∧z < (xs.length:Int)):nthI xs z∈xs:=List.mem_of_getElem? (eN hz)
theorem Gz {α : Type} [Inhabited α] {xs:List α} {i:Nat} {x:α} (h:xs[i]? = some x):nthI xs (i:Int)=x:=by
 simp [nthI,List.getD_eq_getElem?_getD,h]
theorem gX {α : Type} {R:Rp α} {t E:TypeId} {x ix:Operand} {a:Bool} {base:Option Addr} {m cap:Nat} {xs:List α} {y:α} {z:Int} (hT:P.underlying t=some (.slice E)) (hS:tySz P E=some (R.sz,a))
  (hR:SlB R h base xs) (hz:0≤z∧z < (xs.length:Int)) (hj:xs[z.toNat]? = some y) (hx:e.ev x=.slice base m cap) (hm:m=xs.length) (hix:e.ev ix=.int .i64 z)
  (t':∀ q cs,At h q cs→cs.length=R.sz→R.rep h cs y→K (pute e d (.pointer (some q))) h L)
  (hg:guardB ops e ⟨d,.indexAddr t x ix,ty,pos,af,g⟩=true:=by rfl):Stp P b n ops F ds X ⟨d,.indexAddr t x ix,ty,pos,af,g⟩ e h L K:=by
 obtain ⟨p,cs,rfl,hA,hl,hr⟩:=hR.2 z.toNat y hj
 have hzz:z=((z.toNat:Nat):Int):=by omega
 rw [hzz] at hix
 exact gW (Gs hT hS hx hix (by omega)) (t' _ cs hA hl hr) hg
theorem fZ {α : Type} {R:Rp α} {enc:α→List Value} {t E:TypeId} {x ix:Operand} {a:Bool} {base:Option Addr} {m cap:Nat} {xs:List α} {y:α} {z:Int} (hR':∀ h cs x,R.rep h cs x→cs=enc x) (hT:P.underlying t=some (.slice E)) (hS:tySz P E=some (R.sz,a))
  (hR:SlB R h base xs) (hz:0≤z∧z < (xs.length:Int)) (hj:xs[z.toNat]? = some y) (hx:e.ev x=.slice base m cap) (hm:m=xs.length) (hix:e.ev ix=.int .i64 z)
  (t':∀ q,At h q (enc y)→K (pute e d (.pointer (some q))) h L)
  (hg:guardB ops e ⟨d,.indexAddr t x ix,ty,pos,af,g⟩=true:=by rfl):Stp P b n ops F ds X ⟨d,.indexAddr t x ix,ty,pos,af,g⟩ e h L K:=
 gX hT hS hR hz hj hx hm hix (fun q cs hA _ hr=>t' q (hR' _ _ _ hr ▸ hA)) hg
end steps
theorem cS {α : Type} {xs:List α} {i:Nat} (h:xs.drop i=[]):decide ((i:Int) < ((xs.length:Nat):Int))=false:=by
 have:=List.drop_eq_nil_iff.1 h
 rw [decide_eq_false_iff_not];omega
theorem aP {α : Type} {xs r:List α} {i:Nat} {x:α} (h:xs.drop i=x::r):i < xs.length:=by
 rcases Nat.lt_or_ge i xs.length with q | q
 ·exact q
 ·rw [List.drop_eq_nil_of_le q] at h;cases h
theorem dV {α : Type} {xs r:List α} {i:Nat} {x:α} (h:xs.drop i=x::r):decide ((i:Int) < ((xs.length:Nat):Int))=true:=by
 have:=aP h
 rw [decide_eq_true_iff];omega
theorem cU {α : Type} {xs r:List α} {i:Nat} {x:α} (h:xs.drop i=x::r):xs[i]? = some x:=by
 have:=congrArg List.head? h
 rw [List.head?_drop] at this
 simpa using this
theorem bF {α : Type} {xs r:List α} {i:Nat} {x:α} (h:xs.drop i=x::r):xs.drop (i+1)=r:=by
 rw [← List.drop_drop,h];rfl
theorem gm {α : Type} {xs r:List α} {i:Nat} {x:α} (h:xs.drop i=x::r):x∈xs:=
 List.mem_of_getElem? (cU h)
theorem bP {i:Nat} (hb:i < 9223372036854775807):Value.int .i64 (IntKind.i64.wrap ((i:Int)+1))=.int .i64 (((i+1:Nat)):Int):=by
 rw [iZ (by omega)]
 simp
theorem cY {t x:Bool} (h:t=true):x=(t&&x):=by rw [h];rfl
theorem cZ {t x:Bool} (h:t=false):false=(t&&x):=by rw [h];rfl
theorem eB {t x:Bool} (h:t=true):true=(t||x):=by rw [h];rfl
theorem eE {t x:Bool} (h:t=false):x=(t||x):=by rw [h];rfl
theorem bt {α : Type} {c:Bool} {x y:α} (h:c=true):(bif c then x else y)=x:=by rw [h];rfl
theorem bf {α : Type} {c:Bool} {x y:α} (h:c=false):(bif c then x else y)=y:=by rw [h];rfl
theorem nthZ {α : Type} {xs:List α} {i:Nat} {x:α} (h:xs[i]? = some x):0≤(i:Int)∧(i:Int) < (xs.length:Int):=by
 have:=(List.getElem?_eq_some_iff.1 h).1
 omega
theorem bA {α : Type} {xs:List α} {i:Nat} {x:α} (h:xs[i]? = some x):xs[(i:Int).toNat]? = some x:=by
 simpa using h
theorem bq {P:Program} {b:Frame} {n:Nat} {k:List Item} {F:List Frame→(Machine→Prop)→Prop} {e:Env} {ds:List Deferred} {X:Cx} {h:HF} {L:LH} {id:Nat} {c:Code} {ι : Type} (sl:ι→List (Nat×Value)) (hh:ι→HF) (LL:ι→LH) (I:ι→Prop)
  (hk:∀ i,I i→∀ e',TT P b n k F (upds e' (sl i)) ds X (hh i) (LL i))
  (hb:(∀ i e',I i→mH e' (sl i)→TT P b n k F e' ds X (hh i) (LL i))→TT P b n (.code c::.inBlock id::k) F e ds X h L):TT P b n (.code (.block id c)::k) F e ds X h L:=
 aU (hb fun i e' hI hr=>Br (sl i) hr (hk i hI e'))
theorem Bx {α : Type} {R:Rp α} {h:HF} {base:Option Addr} {xs:List α} (s:SlB R h base xs) (l:Nat):SlB R h (base.map (·.add (l * R.sz))) (xs.drop l):=by
 refine ⟨Nat.le_trans (by simp) s.1,fun i x hx=>?_⟩
 rw [List.getElem?_drop] at hx
 obtain ⟨p,cs,rfl,hA,h1,h2⟩:=s.2 _ x hx
 have hsp:p.spot=none:=by
  cases hxs:xs with
  | nil=>rw [hxs] at hx;simp at hx
  | cons y ys=>
   obtain ⟨p',_,hp,⟨_,_,_,_,h3,_⟩,_,_⟩:=s.2 0 y (by rw [hxs];rfl)
   cases hp
   simpa [Addr.add] using h3
 refine ⟨_,cs,rfl,?_,h1,h2⟩
 rw [qu p _ _ hsp,← Nat.add_mul]
 exact hA
theorem F9 {α : Type} {R:Rp α} {h:HF} {base:Option Addr} {xs:List α} (s:SlB R h base xs) (l:Nat):SlB R h base (xs.take l):=by
 refine ⟨Nat.le_trans (by simp;omega) s.1,fun i x hx=>?_⟩
 rw [List.getElem?_take] at hx
 split at hx
 ·exact s.2 i x hx
 ·cases hx
section slices
variable {P:Program} {b:Frame} {n:Nat} {ops:Array Oper} {F:List Frame→(Machine→Prop)→Prop} {e:Env} {ds:List Deferred} {X:Cx} {h:HF} {L:LH} {K:Env→HF→LH→Prop}
variable {d:Option Nat} {ty:TypeId} {pos:String} {af:Array Edge} {g:Option (Nat×Bool)}
theorem Ge {α : Type} {R:Rp α} {t E:TypeId} {x lo:Operand} {a:Bool} {base:Option Addr} {m cap:Nat} {xs:List α} {z:Int} (hT:P.underlying t=some (.slice E)) (hS:tySz P E=some (R.sz,a))
  (hR:SlB R h base xs) (hcap:xs.length≤cap) (hz:0≤z∧z≤(xs.length:Int)) (hx:e.ev x=.slice base m cap) (hm:m=xs.length) (hlo:e.ev lo=.int .i64 z)
  (t':∀ base' cap',SlC R h base' cap' (xs.drop z.toNat)→K (pute e d (.slice base' (xs.drop z.toNat).length cap')) h L)
  (hg:guardB ops e ⟨d,.slice t x (some lo) none none,ty,pos,af,g⟩=true:=by rfl):Stp P b n ops F ds X ⟨d,.slice t x (some lo) none none,ty,pos,af,g⟩ e h L K:=by
 subst hm
 have hz2:0≤z∧z≤((xs.length:Nat):Int):=hz
 have hs:SlB R h (if cap=z.toNat then base else base.map (·.add (z.toNat * R.sz))) (xs.drop z.toNat):=by
  split
  ·have:xs.drop z.toNat=[]:=List.drop_eq_nil_of_le (by omega)
   rw [this];exact SlB.nil
  ·exact Bx hR _
 have hl:xs.length - z.toNat=(xs.drop z.toNat).length:=by simp
 refine gW (v:=.slice (if cap=z.toNat then base else base.map (·.add (z.toNat * R.sz))) (xs.drop z.toNat).length (cap - z.toNat)) (fun w hw=>?_) (t' _ (cap - z.toNat) ⟨hs,by rw [← hl];omega⟩) hg
 simp [execOp,Instr.sliceAt,Instr.slice,Instr.sliceBounds,Instr.sliceBound,hx,hlo,asIntOf,run_underlying hT,gV hS,hz2]
theorem Gd {α : Type} {R:Rp α} {t E:TypeId} {x hi:Operand} {a:Bool} {base:Option Addr} {m cap:Nat} {xs:List α} {z:Int} (hT:P.underlying t=some (.slice E)) (hS:tySz P E=some (R.sz,a))
  (hR:SlB R h base xs) (hcap:xs.length≤cap) (hz:0≤z∧z≤(xs.length:Int)) (hx:e.ev x=.slice base m cap) (hm:m=xs.length) (hhi:e.ev hi=.int .i64 z)
  (t':∀ base' cap',SlC R h base' cap' (xs.take z.toNat)→K (pute e d (.slice base' (xs.take z.toNat).length cap')) h L)
  (hg:guardB ops e ⟨d,.slice t x none (some hi) none,ty,pos,af,g⟩=true:=by rfl):Stp P b n ops F ds X ⟨d,.slice t x none (some hi) none,ty,pos,af,g⟩ e h L K:=by
 subst hm
 have hz2:0≤z∧z≤((cap:Nat):Int):=by omega
 have hl:z.toNat=(xs.take z.toNat).length:=by simp;omega
 refine gW (v:=.slice base (xs.take z.toNat).length cap) (fun w hw=>?_) (t' _ cap ⟨F9 hR _,by rw [← hl];omega⟩) hg
 rw [← hl]
 by_cases h0:cap=0
 ·have hz0:z=0:=by omega
  subst hz0
  simp [execOp,Instr.sliceAt,Instr.slice,Instr.sliceBounds,Instr.sliceBound,hx,hhi,asIntOf,run_underlying hT,gV hS,hz2,h0]
 ·simp [execOp,Instr.sliceAt,Instr.slice,Instr.sliceBounds,Instr.sliceBound,hx,hhi,asIntOf,run_underlying hT,gV hS,hz2,h0,Addr.add]
end slices
end Go.Sg
namespace Go.Sg
theorem AJ {h:HF} {K L:LH} (hs:K.Sublist L):Jst h K h L:=⟨HF.le_refl h,fun _ hp=>hs.subset hp⟩
section
variable {P:Program} {b:Frame} {n:Nat} {ops:Array Oper} {k:List Item} {F:List Frame→(Machine→Prop)→Prop} {ds:List Deferred} {X:Cx}
theorem Stp.mono {o:Oper} {e:Env} {h:HF} {L:LH} {K K':Env→HF→LH→Prop} (hk:∀ e' h' L',K e' h' L'→K' e' h' L') (s:Stp P b n ops F ds X o e h L K):Stp P b n ops F ds X o e h L K':=by
 unfold Stp at s ⊢
 split
 ·rename_i hg
  rw [if_pos hg] at s
  intro w hw
  exact pN.mono (fun v h L=>hk _ h L) (s w hw)
 ·rename_i hg
  rw [if_neg hg] at s
  exact hk _ _ _ s
theorem zz {o:Oper} {e:Env} {h:HF} {L:LH} {K:Env→HF→LH→Prop} {α : Type} {R:Rp α} {E:TypeId} {xs:List α} {base:Option Addr} {cap:Nat} (hm:R.Mono) (A G Q:LH) (hL:L=A++(G++Q)) (hM:X.M=[]) (hG:ei R E h xs base cap G)
  (t:∀ h2,h.le h2→SlC R h2 base cap xs→Stp P b n ops F ds X o e h2 (A++Q) K) (hg:guardB ops e o=true:=by rfl):Stp P b n ops F ds X o e h L K:=by
 subst hL
 unfold Stp
 rw [if_pos hg]
 intro w hw
 obtain ⟨h1,h2,h3⟩:=hw.freezeMid hM
 have:=t _ h2 (hG.frozen hm h2 h3)
 unfold Stp at this
 rw [if_pos hg] at this
 exact this w h1
theorem vl {h1 h2:HF} {K K2:LH} (hle:h1.le h2) (hK:∀ p∈K,p∈K2):∀ {m:Nat} {dn:List Nat} {e:Env} {h:HF} {L:LH},TA P b n ops k F ds X (Jst h2 K2) m dn e h L→TA P b n ops k F ds X (Jst h1 K) m dn e h L:=by
 intro m
 induction m with
 | zero=>intro dn e h L t;exact t
 | succ m ih=>
  intro dn e h L t
  refine ⟨t.1,fun i hi o ho=>Stp.mono ?_ (t.2 i hi o ho)⟩
  rintro e' h' L' ⟨j,t'⟩
  exact ⟨⟨HF.le_trans hle j.1,fun p hp=>j.2 p (hK p hp)⟩,ih t'⟩
theorem lQ {J:HF→LH→Prop} {l:List Oper} {m:Nat} {dn:List Nat} {e:Env} {h:HF} {L:LH} (i j:Nat) {o1 o2:Oper} (hn:nexts l.toArray dn=[i,j]) (h1:nth l i=some o1) (h2:nth l j=some o2)
  (t1:Stp P b n l.toArray F ds X o1 e h L fun e' h' L'=>J h' L'∧TA P b n l.toArray k F ds X J m (i::dn) e' h' L')
  (t2:Stp P b n l.toArray F ds X o2 e h L fun e' h' L'=>J h' L'∧TA P b n l.toArray k F ds X J m (j::dn) e' h' L'):TA P b n l.toArray k F ds X J (m+1) dn e h L:=
 En [i,j] hn (by simp) (fun x hx o ho=>by
  simp only [List.mem_cons,List.not_mem_nil,or_false] at hx
  rcases hx with rfl | rfl
  ·rw [h1] at ho;cases ho;exact t1
  ·rw [h2] at ho;cases ho;exact t2)
theorem F6 {J:HF→LH→Prop} {l:List Oper} {m:Nat} {dn:List Nat} {e:Env} {h:HF} {L:LH} (i j q:Nat) {o1 o2 o3:Oper} (hn:nexts l.toArray dn=[i,j,q]) (h1:nth l i=some o1) (h2:nth l j=some o2) (h3:nth l q=some o3)
  (t1:Stp P b n l.toArray F ds X o1 e h L fun e' h' L'=>J h' L'∧TA P b n l.toArray k F ds X J m (i::dn) e' h' L')
  (t2:Stp P b n l.toArray F ds X o2 e h L fun e' h' L'=>J h' L'∧TA P b n l.toArray k F ds X J m (j::dn) e' h' L')
  (t3:Stp P b n l.toArray F ds X o3 e h L fun e' h' L'=>J h' L'∧TA P b n l.toArray k F ds X J m (q::dn) e' h' L'):TA P b n l.toArray k F ds X J (m+1) dn e h L:=
 En [i,j,q] hn (by simp) (fun x hx o ho=>by
  simp only [List.mem_cons,List.not_mem_nil,or_false] at hx
  rcases hx with rfl | rfl | rfl
  ·rw [h1] at ho;cases ho;exact t1
  ·rw [h2] at ho;cases ho;exact t2
  ·rw [h3] at ho;cases ho;exact t3)
theorem jC {α : Type} {R:Rp α} (i:Nat) {l:List Oper} {h1:HF} {K:LH} {m d:Nat} {dn:List Nat} {e:Env} {h:HF} {L:LH} {t E ty:TypeId} {pos:String} {af:Array Edge} {g:Option (Nat×Bool)} {x ix:Operand} {a:Bool}
  {base:Option Addr} {len cap:Nat} {xs:List α} {y:α} {z:Int} (hsep:sepAll l.toArray=true) (hJ:Jst h1 K h L) (hT:P.underlying t=some (.slice E)) (hS:tySz P E=some (R.sz,a))
  (hR:SlB R h base xs) (hz:0≤z∧z < (xs.length:Int)) (hj:xs[z.toNat]? = some y) (hx:e.ev x=.slice base len cap) (hm:len=xs.length) (hix:e.ev ix=.int .i64 z) (hi:nth l i=some ⟨some d,.indexAddr t x ix,ty,pos,af,g⟩) (hn:(nexts l.toArray dn).contains i=true)
  (t':∀ q cs,At h q cs→cs.length=R.sz→R.rep h cs y→TA P b n l.toArray k F ds X (Jst h1 K) m (i::dn) (upd e d (.pointer (some q))) h L)
  (hg:guardB l.toArray e ⟨some d,.indexAddr t x ix,ty,pos,af,g⟩=true:=by rfl):TA P b n l.toArray k F ds X (Jst h1 K) (m+1) dn e h L:=by
 obtain ⟨p,cs,rfl,hA,hl,hr⟩:=hR.2 z.toNat y hj
 have hzz:z=((z.toNat:Nat):Int):=by omega
 rw [hzz] at hix
 exact nL i hsep hJ hi rfl hn hg (fun h' L' _=>Gs hT hS hx hix (by omega)) (t' _ cs hA hl hr)
theorem fR {α : Type} {R:Rp α} (i:Nat) {enc:α→List Value} {l:List Oper} {h1:HF} {K:LH} {m d:Nat} {dn:List Nat} {e:Env} {h:HF} {L:LH} {t E ty:TypeId} {pos:String} {af:Array Edge} {g:Option (Nat×Bool)} {x ix:Operand} {a:Bool}
  {base:Option Addr} {len cap:Nat} {xs:List α} {y:α} {z:Int} (hsep:sepAll l.toArray=true) (hJ:Jst h1 K h L) (hR':∀ h cs x,R.rep h cs x→cs=enc x) (hT:P.underlying t=some (.slice E)) (hS:tySz P E=some (R.sz,a))
  (hR:SlB R h base xs) (hz:0≤z∧z < (xs.length:Int)) (hj:xs[z.toNat]? = some y) (hx:e.ev x=.slice base len cap) (hm:len=xs.length) (hix:e.ev ix=.int .i64 z) (hi:nth l i=some ⟨some d,.indexAddr t x ix,ty,pos,af,g⟩) (hn:(nexts l.toArray dn).contains i=true)
  (t':∀ q,At h q (enc y)→TA P b n l.toArray k F ds X (Jst h1 K) m (i::dn) (upd e d (.pointer (some q))) h L)
  (hg:guardB l.toArray e ⟨some d,.indexAddr t x ix,ty,pos,af,g⟩=true:=by rfl):TA P b n l.toArray k F ds X (Jst h1 K) (m+1) dn e h L:=
 jC i hsep hJ hT hS hR hz hj hx hm hix hi hn (fun q cs hA _ hr=>t' q (hR' _ _ _ hr ▸ hA)) hg
theorem E1 {α : Type} {R:Rp α} (i:Nat) {l:List Oper} {h1:HF} {K:LH} {m d:Nat} {dn:List Nat} {e:Env} {h:HF} {L:LH} {t E ty:TypeId} {pos:String} {af:Array Edge} {g:Option (Nat×Bool)} {x lo:Operand} {a:Bool}
  {base:Option Addr} {len cap:Nat} {xs:List α} {z:Int} (hsep:sepAll l.toArray=true) (hJ:Jst h1 K h L) (hT:P.underlying t=some (.slice E)) (hS:tySz P E=some (R.sz,a))
  (hR:SlB R h base xs) (hcap:xs.length≤cap) (hz:0≤z∧z≤(xs.length:Int)) (hx:e.ev x=.slice base len cap) (hm:len=xs.length) (hlo:e.ev lo=.int .i64 z) (hi:nth l i=some ⟨some d,.slice t x (some lo) none none,ty,pos,af,g⟩) (hn:(nexts l.toArray dn).contains i=true)
  (t':∀ base' cap',SlC R h base' cap' (xs.drop z.toNat)→TA P b n l.toArray k F ds X (Jst h1 K) m (i::dn) (upd e d (.slice base' (xs.drop z.toNat).length cap')) h L)
  (hg:guardB l.toArray e ⟨some d,.slice t x (some lo) none none,ty,pos,af,g⟩=true:=by rfl):TA P b n l.toArray k F ds X (Jst h1 K) (m+1) dn e h L:=by
 subst hm
 have hs:SlB R h (if cap=z.toNat then base else base.map (·.add (z.toNat * R.sz))) (xs.drop z.toNat):=by
  split
  ·have:xs.drop z.toNat=[]:=List.drop_eq_nil_of_le (by omega)
   rw [this];exact SlB.nil
  ·exact Bx hR _
 have hl:xs.length - z.toNat=(xs.drop z.toNat).length:=by simp
 refine nL (v:=.slice (if cap=z.toNat then base else base.map (·.add (z.toNat * R.sz))) (xs.drop z.toNat).length (cap - z.toNat)) i hsep hJ hi rfl hn hg (fun h' L' _ w hw=>?_) (t' _ (cap - z.toNat) ⟨hs,by rw [← hl];omega⟩)
 simp [execOp,Instr.sliceAt,Instr.slice,Instr.sliceBounds,Instr.sliceBound,hx,hlo,asIntOf,run_underlying hT,gV hS,hz]
end
end Go.Sg
namespace Go.Sg
theorem lM {α : Type} {l:List α} {i:Nat} {x:α} (h:nth l i=some x):x∈l:=by rw [gU] at h;exact List.mem_of_getElem? h
theorem dP {h:HF} {bk T:Nat} {fz:Nat×Nat} {cl:List Value} (hb:h bk=some (.cells cl.toArray T fz)):At h ⟨bk,0,none⟩ cl:=
 At.xr hb (fun j v hj=>by simpa using hj)
theorem St.down {X:Cx} {h h2:HF} {L:LH} {w:World} (s:St X h2 L w) (hle:h.le h2) (h0:X.h0.le h):St X h L w:=by
 refine ⟨s.os,s.tape,s.output,s.size,s.keep,h0,fun b hb=>?_,fun b o hb=>s.imm b o (hle b o hb),s.own,s.dis,fun p hp=>?_,s.new⟩
 ·have h1:=s.old b hb
  cases hb2:h b with
  | none=>
   cases hb3:X.h0 b with
   | none=>rfl
   | some o=>rw [h0 b o hb3] at hb2;cases hb2
  | some o=>rw [← h1];exact (hle b o hb2).symm
 ·cases hb:h p.1 with
  | none=>rfl
  | some o=>have:=hle _ _ hb;rw [s.free p hp] at this;cases this
theorem kJ {P:Program} {b:Frame} {n:Nat} {k:List Item} {F:List Frame→(Machine→Prop)→Prop} {e:Env} {ds:List Deferred} {X:Cx} {h h2 h00:HF} {L:LH} {ops:Array Oper} {l:List Oper}
  (hle:h.le h2) (hX:X.h0=h00) (h0:h00.le h) (t:TO P b n ops l k F e ds X h L):TO P b n ops l k F e ds X h2 L:=
 fun w hw=>t w (hw.down hle (hX ▸ h0))
section runs
variable {P:Program} {e:Env} {X:Cx} {h:HF} {L:LH} {d:Option Nat} {ty:TypeId} {pos:String} {af:Array Edge} {g:Option (Nat×Bool)}
theorem I1 {t u:TypeId} {x y:Operand} {k:IntKind} {a b:Int} (hx:e.ev x=.int k a) (hy:e.ev y=.int k b):∀ w,St X h L w→(execOp e.ev ⟨d,.call ⟨.builtin .max,#[x,y],#[t,u]⟩,ty,pos,af,g⟩).run P w=.ok (.value (.int k (max a b))) w:=
 fun w _=>by
  have:(if b > a then b else a)=max a b:=by omega
  simp [execOp,resolve,invoke,builtin,Builtin.max_,Builtin.max2,hx,hy,this]
theorem I0 {t u:TypeId} {x y:Operand} {k:IntKind} {a b:Int} (hx:e.ev x=.int k a) (hy:e.ev y=.int k b):∀ w,St X h L w→(execOp e.ev ⟨d,.call ⟨.builtin .min,#[x,y],#[t,u]⟩,ty,pos,af,g⟩).run P w=.ok (.value (.int k (min a b))) w:=
 fun w _=>by
  have:(if b < a then b else a)=min a b:=by omega
  simp [execOp,resolve,invoke,builtin,Builtin.min_,Builtin.min2,hx,hy,this]
end runs
end Go.Sg
namespace Go.Sg
theorem kY {P:Program} {w:World} {bk:Nat} {es:Array MapEntry} {c:Nat} (hb:w.heap[bk]? = some (.map es c)):(getObj bk).run P w=.ok (.map es c) w:=by simp [getObj,Sem.run,hb]
theorem oD {P:Program} {w:World} {bk:Nat} {es:Array MapEntry} {c:Nat} {o:Obj} (hb:w.heap[bk]? = some (.map es c)):(setObj bk o).run P w=.ok () { w with heap:=w.heap.setIfInBounds bk o }:=by simp [setObj,Sem.run,hb]
section pure
variable {κ α : Type} [DecidableEq κ]
def mput:List (κ×α)→κ→α→List (κ×α)
 | [],k,v=>[(k,v)]
 | (k',v')::r,k,v=>if k=k' then (k,v)::r else (k',v')::mput r k v
def mget? : List (κ×α)→κ→Option α
 | [],_=>none
 | (k',v')::r,k=>if k=k' then some v' else mget? r k
def mgetD (m:List (κ×α)) (k:κ) (z:α):α:=(mget? m k).getD z
def mhas (m:List (κ×α)) (k:κ):Bool:=(mget? m k).isSome
def mdel:List (κ×α)→κ→List (κ×α)
 | [],_=>[]
 | (k',v')::r,k=>if k=k' then r else (k',v')::mdel r k
def findIn (k:κ):List κ→List MapEntry→Nat→Option (Nat×Value)
 | k'::l,e::es,i=>if k=k' then some (i,e.val) else findIn k l es (i+1)
 | _,_,_=>none
end pure
structure sF (P:Program) (T:TypeId) {κ : Type} [DecidableEq κ] (enc:κ→Value):Prop where
 check:∀ b a w,(Instr.checkKey b 10000 T (enc a)).run P w=.ok () w
 find:∀ k (l:List κ) (es:List MapEntry) w,es.map (·.key)=l.map enc→(Instr.findKey T (enc k) es).run P w=.ok (findIn k l es 0) w
 bits:∀ a,Instr.sameBits 10000 (enc a) (enc a)=true
section rep
variable {κ α : Type} (enc:κ→Value) (V:HF→Value→α→Prop)
def mR (h:HF):List MapEntry→List (κ×α)→Prop
 | [],[]=>True
 | e::es,(k,v)::m=>e.key=enc k∧V h e.val v∧mR h es m
 | _,_=>False
def EU (h:HF) (o:Obj) (m:List (κ×α)):Prop:=
 ∃ es clock,o=.map es.toArray clock∧mR enc V h es m∧(es.map (·.born)).Pairwise (· < ·)∧∀ e∈es,e.born < clock
def gJ (h:HF) (o:Obj) (m:List (κ×α)):Prop:=∃ m',m'.Perm m∧(m'.map (·.1)).Nodup∧EU enc V h o m'
end rep
section perm
variable {κ α : Type} [DecidableEq κ]
theorem xx {k:κ} {v:α}:∀ {m:List (κ×α)},(m.map (·.1)).Nodup→(mget? m k=some v↔(k,v)∈m)
 | [],_=>by simp [mget?]
 | (k',v')::m,hn=>by
  rw [List.map_cons,List.nodup_cons] at hn
  simp only [mget?]
  by_cases e:k=k'
  ·subst e
   simp only [if_true,Option.some.injEq,List.mem_cons,Prod.mk.injEq,true_and]
   constructor
   ·exact fun h=>.inl h.symm
   ·rintro (h | h)
    ·exact h.symm
    ·exact absurd (List.mem_map_of_mem (f:=Prod.fst) h) hn.1
  ·simp only [e,if_false,List.mem_cons,Prod.mk.injEq,false_and,false_or]
   exact xx hn.2
theorem Fe {m m':List (κ×α)} (hp:m.Perm m') (hn:(m.map (·.1)).Nodup) (k:κ):mget? m k=mget? m' k:=by
 apply Option.ext
 intro v
 rw [xx hn,xx ((hp.map _).nodup_iff.1 hn)]
 exact hp.mem_iff
theorem mN (k:κ) (v:α):∀ (m:List (κ×α)) (x:κ),x∈(mput m k v).map (·.1)↔x=k∨x∈m.map (·.1)
 | [],x=>by simp [mput]
 | (k',v')::m,x=>by
  simp only [mput]
  split
  ·next e=>subst e;simp
  ·simp only [List.map_cons,List.mem_cons,mN k v m x]
   constructor
   ·rintro (h | h | h) <;> simp [h]
   ·rintro (h | h | h) <;> simp [h]
theorem iz (k:κ) (v:α):∀ {m:List (κ×α)},(m.map (·.1)).Nodup→((mput m k v).map (·.1)).Nodup
 | [],_=>by simp [mput]
 | (k',v')::m,hn=>by
  rw [List.map_cons,List.nodup_cons] at hn
  simp only [mput]
  split
  ·next e=>subst e;rw [List.map_cons,List.nodup_cons];exact hn
  ·next e=>
   rw [List.map_cons,List.nodup_cons]
   refine ⟨fun h=>?_,iz k v hn.2⟩
   rcases (mN k v m k').1 h with h | h
   ·exact e h.symm
   ·exact hn.1 h
theorem zP (k:κ) (v:α) {m m':List (κ×α)} (hp:m.Perm m') (hn:(m.map (·.1)).Nodup):(mput m k v).Perm (mput m' k v):=by
 induction hp with
 | nil=>exact List.Perm.refl _
 | cons x p ih=>
  obtain ⟨k',v'⟩:=x
  rw [List.map_cons,List.nodup_cons] at hn
  simp only [mput]
  split
  ·exact List.Perm.cons _ p
  ·exact List.Perm.cons _ (ih hn.2)
 | swap x y l=>
  obtain ⟨a,va⟩:=x
  obtain ⟨b,vb⟩:=y
  simp only [List.map_cons,List.nodup_cons,List.mem_cons,not_or] at hn
  simp only [mput]
  by_cases h1:k=b
  ·have h2:¬ k=a:=fun e=>hn.1.1 (h1.symm.trans e)
   simp only [h1,h2,if_true,if_false]
   rw [if_neg (h1 ▸ h2)]
   exact List.Perm.swap _ _ _
  ·by_cases h2:k=a
   ·simp only [h1,h2,if_true,if_false]
    rw [if_neg (h2 ▸ h1)]
    exact List.Perm.swap _ _ _
   ·simp only [h1,h2,if_false]
    exact List.Perm.swap _ _ _
 | trans p q ih1 ih2=>exact (ih1 hn).trans (ih2 ((p.map _).nodup_iff.1 hn))
theorem zQ (v:α):∀ (m:List (κ×α)) (a b:κ),(mput (mput m a v) b v).Perm (mput (mput m b v) a v)
 | [],a,b=>by
  simp only [mput]
  by_cases h:b=a
  ·subst h;simp
  ·have h':¬ a=b:=fun e=>h e.symm
   simp [h,h'];exact List.Perm.swap _ _ _
 | (k,x)::m,a,b=>by
  by_cases ha:a=k
  ·subst ha
   by_cases hb:b=a
   ·subst hb;exact List.Perm.refl _
   ·have hb':¬ a=b:=fun e=>hb e.symm
    simp [mput,hb]
  ·by_cases hb:b=k
   ·subst hb
    simp [mput,ha]
   ·simp only [mput,ha,hb,if_false]
    exact List.Perm.cons _ (zQ v m a b)
end perm
def uB {α : Type} (V:HF→Value→α→Prop):Prop:=∀ h h' v x,h.le h'→V h v x→V h' v x
section lemmas
variable {κ α : Type} {enc:κ→Value} {V:HF→Value→α→Prop} {h h':HF}
theorem mR.mono (hV:uB V) (hl:h.le h'):∀ {es:List MapEntry} {m:List (κ×α)},mR enc V h es m→mR enc V h' es m
 | [],[],_=>trivial
 | _::_,(_,_)::_,⟨a,b,c⟩=>⟨a,hV _ _ _ _ hl b,mR.mono hV hl c⟩
 | [],_::_,x=>x.elim
 | _::_,[],x=>x.elim
theorem gJ.mono {o:Obj} {m:List (κ×α)} (r:gJ enc V h o m) (hV:uB V) (hl:h.le h'):gJ enc V h' o m:=by
 obtain ⟨m',hp,hn,es,c,rfl,h1,h2,h3⟩:=r
 exact ⟨m',hp,hn,es,c,rfl,h1.mono hV hl,h2,h3⟩
theorem gJ.perm {o:Obj} {m m2:List (κ×α)} (r:gJ enc V h o m) (hp:m.Perm m2):gJ enc V h o m2:=let ⟨m',p,q⟩:=r;⟨m',p.trans hp,q⟩
theorem gJ.nodup {o:Obj} {m:List (κ×α)} (r:gJ enc V h o m):(m.map (·.1)).Nodup:=let ⟨_,p,hn,_⟩:=r;(p.map _).nodup_iff.1 hn
theorem gJ.nil:gJ enc V h (.map #[] 0) ([]:List (κ×α)):=⟨[],.refl _,List.nodup_nil,[],0,rfl,trivial,.nil,fun _ he=>(List.not_mem_nil he).elim⟩
theorem mR.keys:∀ {es:List MapEntry} {m:List (κ×α)},mR enc V h es m→es.map (·.key)=(m.map (·.1)).map enc
 | [],[],_=>rfl
 | e::es,(k,v)::m,⟨a,_,c⟩=>by simp [a,mR.keys c]
 | [],_::_,x=>x.elim
 | _::_,[],x=>x.elim
variable [DecidableEq κ]
theorem mR.found {k:κ}:∀ {es:List MapEntry} {m:List (κ×α)} (j:Nat),mR enc V h es m →
  match findIn k (m.map (·.1)) es j with
  | some (_,v)=>∃ x,mget? m k=some x∧V h v x
  | none=>mget? m k=none
 | [],[],_,_=>rfl
 | e::es,(k',v)::m,j,⟨_,b,c⟩=>by
  simp only [List.map_cons,findIn,mget?]
  by_cases hk:k=k'
  ·simp only [hk,if_true];exact ⟨v,rfl,b⟩
  ·simp only [hk,if_false];exact mR.found (j+1) c
 | [],_::_,_,x=>x.elim
 | _::_,[],_,x=>x.elim
theorem B5 {f:MapEntry→MapEntry} (e:MapEntry) (es:List MapEntry):(e::es).modify 0 f=f e::es:=by simp
theorem B6 {f:MapEntry→MapEntry} (e:MapEntry) (es:List MapEntry) (i:Nat):(e::es).modify (i+1) f=e::es.modify i f:=by simp
theorem mR.put {k:κ} {x:α} {xv:Value} (hx:V h xv x):∀ {es:List MapEntry} {m:List (κ×α)} (j:Nat),mR enc V h es m →
  match findIn k (m.map (·.1)) es j with
  | some (i,_)=>j≤i∧(es[i - j]?).map (·.key)=some (enc k)∧mR enc V h (es.modify (i - j) fun e=>{ e with key:=enc k,val:=xv }) (mput m k x)
  | none=>∀ b,mR enc V h (es++[{ key:=enc k,val:=xv,born:=b }]) (mput m k x)
 | [],[],_,_=>fun b=>⟨rfl,hx,trivial⟩
 | e::es,(k',v)::m,j,⟨a,b,c⟩=>by
  simp only [List.map_cons,findIn,mput]
  by_cases hk:k=k'
  ·simp only [hk,if_true]
   refine ⟨Nat.le_refl _,?_,?_⟩
   ·simp [a]
   ·rw [Nat.sub_self,B5];exact ⟨rfl,hx,c⟩
  ·simp only [hk,if_false]
   have ih:=mR.put (k:=k) hx (j+1) c
   cases hf:findIn k (m.map (·.1)) es (j+1) with
   | none=>rw [hf] at ih;exact fun b'=>⟨a,b,ih b'⟩
   | some p=>
    obtain ⟨i,u⟩:=p
    rw [hf] at ih
    obtain ⟨h1,h2,h3⟩:=ih
    have e1:i - j=(i - (j+1))+1:=by omega
    refine ⟨by omega,?_,?_⟩
    ·rw [e1];simpa using h2
    ·rw [e1,B6];exact ⟨a,b,h3⟩
 | [],_::_,_,x=>x.elim
 | _::_,[],_,x=>x.elim
theorem ru {k xv:Value}:∀ (es:List MapEntry) (i:Nat),(es.modify i fun e=>{ e with key:=k,val:=xv }).map (·.born)=es.map (·.born)
 | [],i=>by simp
 | e::es,0=>by simp
 | e::es,i+1=>by simp [ru es i]
theorem wV {P:Program} {t T E:TypeId} {k:κ} {x:α} {xv:Value} {m:List (κ×α)} {o:Obj} {bk:Nat} {w:World} (hT:P.underlying t=some (.map T E)) (hK:sF P T enc) (hb:w.heap[bk]? = some o)
  (hm:EU enc V h o m) (hx:V h xv x):∃ o',(Instr.mapUpdate t (.map (some bk)) (enc k) xv).run P w=.ok () { w with heap:=w.heap.setIfInBounds bk o' }∧EU enc V h o' (mput m k x):=by
 obtain ⟨es,c,rfl,h1,h2,h3⟩:=hm
 have hf:=hK.find k (m.map (·.1)) es w h1.keys
 have hp:=h1.put (k:=k) hx 0
 cases hr:findIn k (m.map (·.1)) es 0 with
 | none=>
  rw [hr] at hf hp
  refine ⟨.map (es++[({ key:=enc k,val:=xv,born:=c }:MapEntry)]).toArray (c+1),?_,_,_,rfl,hp c,?_,?_⟩
  ·simp only [Instr.mapUpdate,Sem.run_bind,run_underlying hT,Result.andThen_ok,kY hb,hK.check,hf,oD hb]
   simp
  ·rw [List.map_append,List.pairwise_append]
   refine ⟨h2,by simp,?_⟩
   intro a ha b hb'
   simp at hb' ha
   obtain ⟨e,he,rfl⟩:=ha
   subst hb';exact h3 e he
  ·intro e he
   rcases List.mem_append.1 he with he | he
   ·exact Nat.lt_succ_of_lt (h3 e he)
   ·simp at he;subst he;exact Nat.lt_succ_self _
 | some p=>
  obtain ⟨i,u⟩:=p
  rw [hr] at hf hp
  obtain ⟨_,hk,hp⟩:=hp
  rw [Nat.sub_zero] at hp hk
  refine ⟨.map (es.modify i fun e=>{ e with key:=enc k,val:=xv }).toArray c,?_,_,_,rfl,hp,?_,?_⟩
  ·have hke:((es[i]?).map (·.key)).getD (enc k)=enc k:=by rw [hk];rfl
   simp only [Instr.mapUpdate,Sem.run_bind,run_underlying hT,Result.andThen_ok,kY hb,hK.check,hf]
   simp only [List.getElem?_toArray,hke,Instr.keyThatStays,hK.bits,if_true,Sem.run_pure,Result.andThen_ok,oD hb]
   simp
  ·rw [ru];exact h2
  ·intro e he
   have:e.born∈(es.modify i fun e=>{ e with key:=enc k,val:=xv }).map (·.born):=List.mem_map_of_mem he
   rw [ru] at this
   obtain ⟨e',he',h4⟩:=List.mem_map.1 this
   rw [← h4];exact h3 e' he'
theorem BI {P:Program} {t T E:TypeId} {k:κ} {m:List (κ×α)} {o:Obj} {bk:Nat} {w:World} {z:α} {zv:Value} (ok:Bool) (hT:P.underlying t=some (.map T E)) (hK:sF P T enc) (hb:w.heap[bk]? = some o)
  (hm:EU enc V h o m) (hz:(zeroValue E).run P w=.ok zv w) (hzv:V h zv z):∃ v,(Instr.lookup t (.map (some bk)) (enc k) ok).run P w=.ok (if ok then .tuple #[v,.bool (mhas m k)] else v) w∧V h v (mgetD m k z):=by
 obtain ⟨es,c,rfl,h1,h2,h3⟩:=hm
 have hf:=hK.find k (m.map (·.1)) es w h1.keys
 have hp:=h1.found (k:=k) 0
 cases hr:findIn k (m.map (·.1)) es 0 with
 | none=>
  rw [hr] at hf hp
  refine ⟨zv,?_,by simp only [mgetD,hp];exact hzv⟩
  cases ok <;> simp [Instr.lookup,run_underlying hT,kY hb,hK.check,hf,hz,mhas,hp]
 | some p=>
  obtain ⟨i,u⟩:=p
  rw [hr] at hf hp
  obtain ⟨x,hx,hv⟩:=hp
  refine ⟨u,?_,by simp only [mgetD,hx];exact hv⟩
  cases ok <;> simp [Instr.lookup,run_underlying hT,kY hb,hK.check,hf,mhas,hx]
theorem sL {P:Program} {t T E:TypeId} {k:κ} {x:α} {xv:Value} {m:List (κ×α)} {o:Obj} {bk:Nat} {w:World} (hT:P.underlying t=some (.map T E)) (hK:sF P T enc) (hb:w.heap[bk]? = some o)
  (hm:gJ enc V h o m) (hx:V h xv x):∃ o',(Instr.mapUpdate t (.map (some bk)) (enc k) xv).run P w=.ok () { w with heap:=w.heap.setIfInBounds bk o' }∧gJ enc V h o' (mput m k x):=by
 obtain ⟨m',hp,hn,hm⟩:=hm
 obtain ⟨o',h1,h2⟩:=wV (k:=k) hT hK hb hm hx
 exact ⟨o',h1,_,zP k x hp hn,iz k x hn,h2⟩
theorem DF {P:Program} {t T E:TypeId} {k:κ} {m:List (κ×α)} {o:Obj} {bk:Nat} {w:World} {z:α} {zv:Value} (ok:Bool) (hT:P.underlying t=some (.map T E)) (hK:sF P T enc) (hb:w.heap[bk]? = some o)
  (hm:gJ enc V h o m) (hz:(zeroValue E).run P w=.ok zv w) (hzv:V h zv z):∃ v,(Instr.lookup t (.map (some bk)) (enc k) ok).run P w=.ok (if ok then .tuple #[v,.bool (mhas m k)] else v) w∧V h v (mgetD m k z):=by
 obtain ⟨m',hp,hn,hm⟩:=hm
 have:=BI (k:=k) ok hT hK hb hm hz hzv
 simpa only [mhas,mgetD,Fe hp hn k] using this
end lemmas
def zeroV (P:Program) (t:TypeId):Option Value:=(P.info? t).bind (·.zero)
theorem jr {P:Program} {t:TypeId} {z:Value} (hz:zeroV P t=some z) (w:World):(zeroValue t).run P w=.ok z w:=by
 unfold zeroV at hz
 cases hi:P.info? t with
 | none=>rw [hi] at hz;cases hz
 | some i=>
  rw [hi] at hz
  simp only [Option.bind_some] at hz
  simp [zeroValue,typeInfo,hi,hz]
theorem vK {k:Int}:∀ (l:List Int) (es:List MapEntry) (j:Nat),es.map (·.key)=l.map (Value.int .i64)→Instr.findNow (.int .i64) (.int .i64 k) es j=some (findIn k l es j)
 | [],[],_,_=>rfl
 | k'::l,e::es,j,hh=>by
  simp at hh
  simp only [Instr.findNow,Instr.sameNow,hh.1,findIn,if_true]
  by_cases hk:k=k'
  ·simp [hk]
  ·have:(k==k')=false:=by simpa using hk
   simp only [this,hk,if_false];exact vK l es (j+1) (by simpa using hh.2)
 | [],_::_,_,hh=>by simp at hh
 | _::_,[],_,hh=>by simp at hh
theorem e7 {P:Program} {T:TypeId} (hT:P.underlying T=some (.int .i64)):sF P T (Value.int .i64) where
 check:=fun b a w=>by
  rw [show (10000:Nat)=9999+1 from rfl,Instr.checkKey]
  simp [run_underlying hT]
 find:=fun k l es w hh=>by simp [Instr.findKey,run_underlying hT,vK l es 0 hh]
 bits:=fun a=>by simp [Instr.sameBits]
theorem B7 {P:Program} {T:TypeId} {κ : Type} [DecidableEq κ] {enc:κ→Value} {fs:Array Field} (hT:P.underlying T=some (.struct fs)) (hc:∀ b a w,(Instr.checkKey b 10000 T (enc a)).run P w=.ok () w)
  (he:∀ a b w,(Op.equal T (enc a) (enc b)).run P w=.ok (decide (a=b)) w) (hb:∀ a,Instr.sameBits 10000 (enc a) (enc a)=true):sF P T enc where
 check:=hc
 bits:=hb
 find:=fun k l es w hh=>by
  have ask:∀ (l:List κ) (es:List MapEntry) (j:Nat),es.map (·.key)=l.map enc→(Instr.findAsking T (enc k) es j).run P w=.ok (findIn k l es j) w:=by
   intro l
   induction l with
   | nil=>intro es j hh;cases es with
    | nil=>simp [Instr.findAsking,findIn]
    | cons _ _=>simp at hh
   | cons k' l ih=>
    intro es j hh
    cases es with
    | nil=>simp at hh
    | cons e es=>
     simp at hh
     by_cases hk:k=k'
     ·simp [Instr.findAsking,hh.1,he,findIn,hk]
     ·simp [Instr.findAsking,hh.1,he,findIn,hk,ih es (j+1) (by simpa using hh.2)]
  cases es with
  | nil=>
   cases l with
   | nil=>simp [Instr.findKey,run_underlying hT,Instr.findNow,findIn]
   | cons _ _=>simp at hh
  | cons e es=>
   have:Instr.findNow (.struct fs) (enc k) (e::es) 0=none:=by simp [Instr.findNow,Instr.sameNow]
   simp [Instr.findKey,run_underlying hT,this,ask l (e::es) 0 hh]
def zi (_:HF) (v:Value) (x:Int):Prop:=v=.int .i64 x
def ir (_:HF) (v:Value) (x:Bool):Prop:=v=.bool x
def kp {α : Type} (R:Rp α) (h:HF) (v:Value) (x:α):Prop:=∃ cs,v=.agg cs.toArray∧R.rep h cs x
def VSl {α : Type} (R:Rp α) (h:HF) (v:Value) (x:List α):Prop:=∃ b c,v=.slice b x.length c∧SlC R h b c x
theorem zi.mono:uB zi:=fun _ _ _ _ _ e=>e
theorem ir.mono:uB ir:=fun _ _ _ _ _ e=>e
theorem kp.mono {α : Type} {R:Rp α} (hm:R.Mono):uB (kp R):=fun _ _ _ _ hl ⟨cs,e,r⟩=>⟨cs,e,hm _ _ _ _ hl r⟩
theorem VSl.mono {α : Type} {R:Rp α} (hm:R.Mono):uB (VSl R):=fun _ _ _ _ hl ⟨b,c,e,r⟩=>⟨b,c,e,r.mono hm hl⟩
section steps
variable {P:Program} {b:Frame} {n:Nat} {ops:Array Oper} {F:List Frame→(Machine→Prop)→Prop} {e:Env} {ds:List Deferred} {X:Cx} {h:HF} {L:LH} {K:Env→HF→LH→Prop}
variable {d:Option Nat} {ty:TypeId} {pos:String} {af:Array Edge} {g:Option (Nat×Bool)}
variable {κ α : Type} {enc:κ→Value} {V:HF→Value→α→Prop}
theorem oC {t:TypeId} (t':∀ bk,K (pute e d (.map (some bk))) h ((bk,.map #[] 0)::L))
  (hg:guardB ops e ⟨d,.makeMap t none,ty,pos,af,g⟩=true:=by rfl):Stp P b n ops F ds X ⟨d,.makeMap t none,ty,pos,af,g⟩ e h L K:=
 iS hg fun w hw=>⟨_,_,h,_,by simp [execOp,Instr.makeMap],hw.alloc _,t' _⟩
variable [DecidableEq κ]
theorem kg (i:Nat) {t T E:TypeId} {mo ko xo:Operand} {bk:Nat} {o:Obj} {m:List (κ×α)} {k:κ} {x:α} (hT:P.underlying t=some (.map T E)) (hK:sF P T enc) (hL:nth L i=some (bk,o)) (hm:gJ enc V h o m)
  (hmo:e.ev mo=.map (some bk)) (hko:e.ev ko=enc k) (hx:V h (e.ev xo) x)
  (t':∀ o',gJ enc V h o' (mput m k x)→K e h (setNth L i (bk,o')))
  (hg:guardB ops e ⟨none,.mapUpdate t mo ko xo,ty,pos,af,g⟩=true:=by rfl):Stp P b n ops F ds X ⟨none,.mapUpdate t mo ko xo,ty,pos,af,g⟩ e h L K:=by
 unfold Stp
 rw [if_pos hg]
 intro w hw
 have hb:w.heap[bk]? = some o:=by
  have h2:=hL
  rw [gU] at h2
  exact hw.own _ (List.mem_of_getElem? h2)
 obtain ⟨o',hr,hm'⟩:=sL (k:=k) hT hK hb hm hx
 have:(execOp e.ev ⟨none,.mapUpdate t mo ko xo,ty,pos,af,g⟩).run P w=.ok .skip { w with heap:=w.heap.setIfInBounds bk o' }:=by
  simp [execOp,hmo,hko,hr]
 rw [this]
 exact ⟨h,_,hw.write hL _,t' o' hm'⟩
theorem wk {t T E:TypeId} {mo ko:Operand} {bk:Nat} {o:Obj} {m:List (κ×α)} {k:κ} {z:α} {zv:Value} (ok:Bool) (hT:P.underlying t=some (.map T E)) (hK:sF P T enc) (hb:∀ w,St X h L w→w.heap[bk]? = some o) (hm:gJ enc V h o m)
  (hz:∀ w,(zeroValue E).run P w=.ok zv w) (hzv:V h zv z) (hmo:e.ev mo=.map (some bk)) (hko:e.ev ko=enc k)
  (t':∀ v,V h v (mgetD m k z)→K (pute e d (if ok then .tuple #[v,.bool (mhas m k)] else v)) h L)
  (hg:guardB ops e ⟨d,.lookup t mo ko ok,ty,pos,af,g⟩=true):Stp P b n ops F ds X ⟨d,.lookup t mo ko ok,ty,pos,af,g⟩ e h L K:=
 iS hg fun w hw=>by
  obtain ⟨v,hr,hv⟩:=DF (k:=k) ok hT hK (hb w hw) hm (hz w) hzv
  exact ⟨_,w,h,L,by simp [execOp,hmo,hko,hr],hw,t' v hv⟩
theorem wU (i:Nat) {t T E:TypeId} {mo ko:Operand} {bk:Nat} {o:Obj} {m:List (κ×α)} {k:κ} {z:α} {zv:Value} (hT:P.underlying t=some (.map T E)) (hK:sF P T enc) (hL:nth L i=some (bk,o)) (hm:gJ enc V h o m)
  (hz:∀ w,(zeroValue E).run P w=.ok zv w) (hzv:V h zv z) (hmo:e.ev mo=.map (some bk)) (hko:e.ev ko=enc k)
  (t':∀ v,V h v (mgetD m k z)→K (pute e d v) h L)
  (hg:guardB ops e ⟨d,.lookup t mo ko false,ty,pos,af,g⟩=true:=by rfl):Stp P b n ops F ds X ⟨d,.lookup t mo ko false,ty,pos,af,g⟩ e h L K:=
 wk false hT hK (fun w hw=>by rw [gU] at hL;exact hw.own _ (List.mem_of_getElem? hL)) hm hz hzv hmo hko t' hg
theorem wT (i:Nat) {t T E:TypeId} {mo ko:Operand} {bk:Nat} {o:Obj} {m:List (κ×α)} {k:κ} {z:α} {zv:Value} (hT:P.underlying t=some (.map T E)) (hK:sF P T enc) (hL:nth L i=some (bk,o)) (hm:gJ enc V h o m)
  (hz:∀ w,(zeroValue E).run P w=.ok zv w) (hzv:V h zv z) (hmo:e.ev mo=.map (some bk)) (hko:e.ev ko=enc k)
  (t':∀ v,V h v (mgetD m k z)→K (pute e d (.tuple #[v,.bool (mhas m k)])) h L)
  (hg:guardB ops e ⟨d,.lookup t mo ko true,ty,pos,af,g⟩=true:=by rfl):Stp P b n ops F ds X ⟨d,.lookup t mo ko true,ty,pos,af,g⟩ e h L K:=
 wk true hT hK (fun w hw=>by rw [gU] at hL;exact hw.own _ (List.mem_of_getElem? hL)) hm hz hzv hmo hko t' hg
theorem pm {t T E:TypeId} {mo ko:Operand} {bk:Nat} {o:Obj} {m:List (κ×α)} {k:κ} {z:α} {zv:Value} (hT:P.underlying t=some (.map T E)) (hK:sF P T enc) (hL:h bk=some o) (hm:gJ enc V h o m)
  (hz:∀ w,(zeroValue E).run P w=.ok zv w) (hzv:V h zv z) (hmo:e.ev mo=.map (some bk)) (hko:e.ev ko=enc k)
  (t':∀ v,V h v (mgetD m k z)→K (pute e d v) h L)
  (hg:guardB ops e ⟨d,.lookup t mo ko false,ty,pos,af,g⟩=true:=by rfl):Stp P b n ops F ds X ⟨d,.lookup t mo ko false,ty,pos,af,g⟩ e h L K:=
 wk false hT hK (fun w hw=>hw.imm _ _ hL) hm hz hzv hmo hko t' hg
theorem vq {t T E:TypeId} {mo ko:Operand} {bk:Nat} {o:Obj} {m:List (κ×α)} {k:κ} {z:α} {zv:Value} (hT:P.underlying t=some (.map T E)) (hK:sF P T enc) (hL:h bk=some o) (hm:gJ enc V h o m)
  (hz:∀ w,(zeroValue E).run P w=.ok zv w) (hzv:V h zv z) (hmo:e.ev mo=.map (some bk)) (hko:e.ev ko=enc k)
  (t':∀ v,V h v (mgetD m k z)→K (pute e d (.tuple #[v,.bool (mhas m k)])) h L)
  (hg:guardB ops e ⟨d,.lookup t mo ko true,ty,pos,af,g⟩=true:=by rfl):Stp P b n ops F ds X ⟨d,.lookup t mo ko true,ty,pos,af,g⟩ e h L K:=
 wk true hT hK (fun w hw=>hw.imm _ _ hL) hm hz hzv hmo hko t' hg
end steps
end Go.Sg
namespace Go.Sg
def Itr {α : Type} (P:Program) (it:Value) (val:α→HF→List Value→Prop) (xs:List α) (h:HF):Prop:=
 ∃ (f0:FuncId) (cap:List Value),it=.func (.func f0) #[] cap.toArray∧(∀ args w,(callFunc f0 args).run P w=.ok (.enter f0 args) w)∧Ft P it val xs h
theorem Itr.mono {α : Type} {P:Program} {it:Value} {val:α→HF→List Value→Prop} {xs:List α} {h h':HF} (i:Itr P it val xs h) (hl:h.le h'):Itr P it val xs h':=
 let ⟨f0,cap,a,b,c⟩:=i;⟨f0,cap,a,b,c.mono hl⟩
theorem uR {α : Type} {P:Program} {f:FuncId} {cap:List Value} {val:α→HF→List Value→Prop} {xs:List α} {h:HF} (hc:∀ args w,(callFunc f args).run P w=.ok (.enter f args) w)
  (hr:∀ (yf:Fn) (ya yb:Array Value) (C:List α→HF→LH→Prop) (Sp:HF→LH→Prop) (Pn:List PanicEntry→HF→LH→Prop) (h':HF) (A:LH),h.le h'→(∀ done h1 h2 B,HF.le h1 h2→C done h1 B→C done h2 B)→(∀ h1 h2 B,HF.le h1 h2→Sp h1 B→Sp h2 B)→(∀ ch h1 h2 B,HF.le h1 h2→Pn ch h1 B→Pn ch h2 B)→C [] h' A →
   (∀ done x rest vs h'' B,xs=done++x::rest→h'.le h''→C done h'' B→val x h'' vs→kS P (.func yf ya yb) vs.toArray h'' B (YR C Sp Pn done x))→oq P f (.func yf ya yb::cap).toArray h' A (ItR C Sp Pn xs)):
  Itr P (.func (.func f) #[] cap.toArray) val xs h:=⟨f,cap,rfl,hc,HZ hc hr⟩
theorem rY (r:Nat) (o:Obj) (L M:LH):((r,o)::(L++M)).Perm (L++(r,o)::M):=List.perm_middle.symm
abbrev rdH (l r:Nat) (lp:Loop) (L:LH):LH:=(l,.loop { lp with state:=.busy })::(r,.deferred (some []))::L
theorem kc {α ι : Type} {P:Program} {f:FuncId} {fn:Func} {n:Nat} {k:List Item} {F:List Frame→(Machine→Prop)→Prop} {e:Env} {X:Cx} {h:HF} {L:LH} {g:Operand} {ps:List Tmp} {assign body:Code}
  {val:α→HF→List Value→Prop} {xs:List α} {it:Value} (rs:List Nat) (hh:ι→HF) (LL:ι→LH) (I:List α→ι→Prop) (JR JX:ι→Prop) (xid:Nat) (Q:List PanicEntry→HF→LH→Prop) (i₀ : ι)
  (hf:P.funcs[f]? = some fn) (hgv:e.ev g=it) (hit:Itr P it val xs h) (hps:ps.all (fun p=>Nat.blt p n)=true) (hval:∀ x h vs,val x h vs→vs.length=ps.length) (hQm:∀ ch h1 h2 B,HF.le h1 h2→Q ch h1 B→Q ch h2 B) (hh0:hh i₀=h) (hL0:L=LL i₀) (h0:I xs i₀)
  (round:∀ (l r:Nat) (lp:Loop) (x:α) (rest:List α) (vs:List Value) (i:ι) (h':HF) (X':Cx) (FR:List Frame→(Machine→Prop)→Prop),I (x::rest) i→h.le h'→(hh i).le h'→val x h' vs→X'.h0=h'→(∀ b∈X'.M,b < X'.w0.heap.size)→lp.state=.ready →
   (∀ i' e' h2,I rest i'→(hh i').le h2→TT P (roundFrame l f) n [] FR e' [] X' h2 (rdH l r lp (LL i'++markB rs))) →
   (∀ i' e' h2 k',JR i'→(hh i').le h2→TT P (roundFrame l f) n (.code .ret::k') FR e' [] X' h2 (rdH l r lp (LL i'++markB rs))) →
   (∀ i' e' h2 k',JX i'→(hh i').le h2→exitTo xid k'=none→TT P (roundFrame l f) n (.code (.exit xid)::k') FR e' [] X' h2 (rdH l r lp (LL i'++markB rs))) →
   (∀ ch e' h' L',Q ch h' L'→TP P (roundFrame l f) n ch FR e' [] X' h' (rdH l r lp (L'++markB rs))) →
   TT P (roundFrame l f) n [.code assign,.beginRound,.code body] FR (setParams e ps vs) [] X' h' ((l,.loop lp)::(r,.deferred (some []))::(LL i++markB rs)))
  (next:∀ r i h',I [] i→(hh i).le h'→h.le h'→TT P (bodyFrame f) n k F e (marks (r::rs)) X h' (LL i++markB (r::rs)))
  (jret:∀ r i h',JR i→(hh i).le h'→h.le h'→TT P (bodyFrame f) n (.code .ret::k) F e (marks (r::rs)) X h' (LL i++markB (r::rs)))
  (jexit:∀ r i h',JX i→(hh i).le h'→h.le h'→TT P (bodyFrame f) n (.code (.exit xid)::k) F e (marks (r::rs)) X h' (LL i++markB (r::rs)))
  (pan:∀ r ch h' L',Q ch h' L'→h.le h'→TP P (bodyFrame f) n ch F e (marks (r::rs)) X h' (L'++markB (r::rs))):
  TT P (bodyFrame f) n (.code (.rangeFunc g ps.toArray assign body)::k) F e (marks rs) X h (L++markB rs):=by
 obtain ⟨f0,cap,rfl,hc0,hit⟩:=hit
 refine F0 (val:=val) (xs:=xs)
  (fun done h' B=>∃ rest i,xs=done++rest∧(hh i).le h'∧B=LL i++markB rs∧I rest i)
  (fun c h' B=>∃ i,(hh i).le h'∧B=LL i++markB rs∧((c=.ret∧JR i)∨(c=.exit xid∧JX i)))
  (fun ch h' B=>∃ L',B=L'++markB rs∧Q ch h' L') hgv hc0 hit hps hval ?_ ?_ ?_ ⟨xs,i₀,rfl,hh0 ▸ HF.le_refl _,by rw [hL0],h0⟩ ?_ ?_ ?_ ?_
 ·rintro done h1 h2 B hl ⟨rest,i,a,b,c⟩;exact ⟨rest,i,a,HF.le_trans b hl,c⟩
 ·rintro c h1 h2 B hl ⟨i,a,b⟩;exact ⟨i,HF.le_trans a hl,b⟩
 ·rintro ch h1 h2 B hl ⟨L',e1,a⟩;exact ⟨L',e1,hQm _ _ _ _ hl a⟩
 ·rintro l r lp done x rest vs h' L' X' hxs hle ⟨rest',i,hxs',hhi,rfl,hI⟩ hv hlp hX' hXM
  have hrest:rest'=x::rest:=List.append_cancel_left (hxs'.symm.trans hxs)
  subst hrest
  refine round l r lp x rest vs i h' X' _ hI hle hhi hv hX' hXM hlp ?_ ?_ ?_ ?_
  ·intro i' e' h2 hI' hl
   exact Ar rfl ⟨rest,i',by rw [hxs];simp,hl,rfl,hI'⟩
  ·intro i' e' h2 k' hJ hl
   exact Ir rfl ⟨i',hl,rfl,.inl ⟨rfl,hJ⟩⟩
  ·intro i' e' h2 k' hJ hl hx
   exact HS hx rfl ⟨i',hl,rfl,.inr ⟨rfl,hJ⟩⟩
  ·intro ch e' h' L' hQ
   exact Is hf ⟨L',rfl,hQ⟩
 ·rintro r h' L' hle ⟨rest,i,hxs,hl,rfl,hI⟩
  have hrest:rest=[]:=by
   have h2:=congrArg List.length hxs
   rw [List.length_append] at h2
   exact List.length_eq_zero_iff.1 (by omega)
  subst hrest
  exact nu (rY r _ _ _) (next r i h' hI hl hle)
 ·rintro r c h' L' hle ⟨i,hl,rfl,⟨rfl,hJ⟩ | ⟨rfl,hJ⟩⟩
  ·exact nu (rY r _ _ _) (jret r i h' hJ hl hle)
  ·exact nu (rY r _ _ _) (jexit r i h' hJ hl hle)
 ·rintro r ch h' L' hle ⟨L',rfl,hQ⟩
  exact Ek (rY r _ _ _) (pan r ch h' L' hQ hle)
section yield
variable {P:Program} {b:Frame} {n:Nat} {ops:Array Oper} {F:List Frame→(Machine→Prop)→Prop} {e:Env} {ds:List Deferred} {X:Cx} {h:HF} {L:LH} {K:Env→HF→LH→Prop}
variable {d:Option Nat} {ty:TypeId} {pos:String} {af:Array Edge} {g:Option (Nat×Bool)}
theorem lL {α : Type} (Fr A:LH) {C:List α→HF→LH→Prop} {Sp:HF→LH→Prop} {Pn:List PanicEntry→HF→LH→Prop} {done:List α} {x:α} {t:Nat} {as:Array Operand} {ats:Array TypeId} {fv:Value} {vs:List Value}
  (hL:L=Fr++A) (hs:kS P fv vs.toArray h A (YR C Sp Pn done x)) (hf:e t=fv) (hvs:as.toList.map e.ev=vs)
  (yes:∀ h' B,h.le h'→C (done++[x]) h' B→K (pute e d (.bool true)) h' (Fr++B))
  (no:∀ h' B,h.le h'→Sp h' B→K (pute e d (.bool false)) h' (Fr++B))
  (pan:∀ ch h' B,h.le h'→Pn ch h' B→∀ e',TP P b n ch F e' ds X h' (Fr++B))
  (hg:guardB ops e ⟨d,.call ⟨.value (.tmp t),as,ats⟩,ty,pos,af,g⟩=true:=by rfl):
  Stp P b n ops F ds X ⟨d,.call ⟨.value (.tmp t),as,ats⟩,ty,pos,af,g⟩ e h L K:=by
 refine tT Fr A hL hs hf hvs ?_ ?_ hg
 ·rintro v h' B hle (⟨e1,hC⟩ | ⟨e1,hS⟩ | ⟨ch,e1,_⟩)
  ·cases e1;exact yes h' B hle hC
  ·cases e1;exact no h' B hle hS
  ·cases e1
 ·rintro ch h' B hle (⟨e1,_⟩ | ⟨e1,_⟩ | ⟨ch',e1,hP⟩)
  ·cases e1
  ·cases e1
  ·cases e1;exact pan ch h' B hle hP
theorem Gc {α : Type} (Fr A M:LH) {C:List α→HF→LH→Prop} {Sp:HF→LH→Prop} {Pn:List PanicEntry→HF→LH→Prop} {done:List α} {x:α} {t:Nat} {as:Array Operand} {ats:Array TypeId} {fv:Value} {vs:List Value}
  (hL:L=Fr++(A++M)) (hs:kS P fv vs.toArray h A (YR C Sp Pn done x)) (hf:e t=fv) (hvs:as.toList.map e.ev=vs)
  (yes:∀ h' B,h.le h'→C (done++[x]) h' B→K (pute e d (.bool true)) h' (Fr++(B++M)))
  (no:∀ h' B,h.le h'→Sp h' B→K (pute e d (.bool false)) h' (Fr++(B++M)))
  (pan:∀ ch h' B,h.le h'→Pn ch h' B→∀ e',TP P b n ch F e' ds X h' (Fr++(B++M)))
  (hg:guardB ops e ⟨d,.call ⟨.value (.tmp t),as,ats⟩,ty,pos,af,g⟩=true:=by rfl):
  Stp P b n ops F ds X ⟨d,.call ⟨.value (.tmp t),as,ats⟩,ty,pos,af,g⟩ e h L K:=by
 have hp:∀ B:LH,((Fr++M)++B).Perm (Fr++(B++M)):=fun B=>by
  rw [List.append_assoc];exact List.Perm.append_left Fr List.perm_append_comm
 have key:=lL (K:=fun e' h' L'=>∃ L'',L'.Perm L''∧K e' h' L'') (L:=(Fr++M)++A) (P:=P) (b:=b) (n:=n) (ops:=ops) (F:=F) (ds:=ds) (X:=X) (d:=d) (ty:=ty) (pos:=pos) (af:=af) (g:=g) (Fr++M) A rfl hs hf hvs
  (fun h' B hl hc=>⟨_,hp B,yes h' B hl hc⟩) (fun h' B hl hc=>⟨_,hp B,no h' B hl hc⟩) (fun ch h' B hl hc e'=>Ek (hp B) (pan ch h' B hl hc e')) hg
 unfold Stp at key ⊢
 rw [if_pos hg] at key ⊢
 intro w hw
 subst hL
 have h1:=key w (hw.perm (hp A).symm)
 revert h1
 have up:∀ e',∀ w'':World,(∃ h' L',St X h' L' w''∧∃ L'',L'.Perm L''∧K e' h' L'')→∃ h' L',St X h' L' w''∧K e' h' L':=by
  rintro e' w'' ⟨h',L',hst,L'',hpm,hk⟩;exact ⟨h',L'',hst.perm hpm,hk⟩
 intro h1
 cases hr:(execOp e.ev ⟨d,.call ⟨.value (.tmp t),as,ats⟩,ty,pos,af,g⟩).run P w with
 | ok nx w'=>
  rw [hr] at h1
  cases nx with
  | skip=>exact up _ _ h1
  | value v=>exact up _ _ h1
  | enter f args=>
   unfold pN at h1 ⊢
   refine pO.mono (nx:=.enter f args) h1 ?_
   intro x w'' hx
   cases x with
   | returned v=>exact up _ _ hx
   | panicked ch=>exact hx
   | outgrown=>trivial
  | round l f tmps assign body=>
   unfold pN at h1 ⊢
   refine pO.mono (nx:=.round l f tmps assign body) h1 ?_
   intro x w'' hx
   cases x with
   | returned v=>exact up _ _ hx
   | panicked ch=>exact hx
   | outgrown=>trivial
  | _=>exact h1
 | halt hlt w'=>
  rw [hr] at h1
  cases hlt <;> first | exact h1 | exact h1.elim
end yield
theorem jW {P:Program} {f:FuncId} {fn:Func} {c:Code} {n:Nat} {args:List Value} {h:HF} {A:LH} {R:Ending→HF→LH→Prop}
  (hf:P.funcs[f]? = some fn) (hb:fn.body=some c) (hn:fn.ntmps=n) (hle:Nat.ble args.length n=true)
  (t:∀ X:Cx,(∀ b∈X.M,b < X.w0.heap.size)→X.h0=h→TT P (bodyFrame f) n [.code c] (mg P X R) (envArgs args) [] X h A):oq P f args.toArray h A R:=by
 intro w p caller cs Φ h1 h2
 have hle:=Nat.le_of_ble_eq_true hle
 have henter:Frame.enter P f args.toArray .normal=(bodyFrame f).atR { tmps:=args.toArray++Array.replicate (n - args.length) undef,defers:=[] } [.code c]:=by
  simp [Frame.enter,Frame.atR,hf,hb,hn,bodyFrame]
 rw [henter]
 exact t ⟨w,h,A.map (·.1)⟩ (fun b hb=>by obtain ⟨p',hp',rfl⟩:=List.mem_map.1 hb;exact fE (p.own p' hp')) rfl w (St.start p) _ (caller::cs) Φ (by simp;omega) (oh _ _) rfl ⟨caller,cs,rfl,h1,h2⟩
theorem Gh {P:Program} {b:Frame} {n:Nat} {ops:Array Oper} {F:List Frame→(Machine→Prop)→Prop} {e:Env} {ds:List Deferred} {X:Cx} {h:HF} {L:LH} {K:Env→HF→LH→Prop}
  {d:Option Nat} {ty:TypeId} {pos:String} {af:Array Edge} {g:Option (Nat×Bool)} {t:TypeId} (hXM:∀ b∈X.M,b < X.w0.heap.size) (t':∀ bk,bk∉X.M→K (pute e d (.map (some bk))) h ((bk,.map #[] 0)::L))
  (hg:guardB ops e ⟨d,.makeMap t none,ty,pos,af,g⟩=true:=by rfl):Stp P b n ops F ds X ⟨d,.makeMap t none,ty,pos,af,g⟩ e h L K:=
 iS hg fun w hw=>⟨_,_,h,_,by simp [execOp,Instr.makeMap],hw.alloc _,t' _ (fun hm=>by have:=hXM _ hm;have:=hw.size;omega)⟩
section freezeN
variable {P:Program} {b:Frame} {n:Nat} {k:List Item} {F:List Frame→(Machine→Prop)→Prop} {e:Env} {ds:List Deferred} {X:Cx} {h:HF} {L:LH} {ops:Array Oper} {l:List Oper}
theorem wH (i:Nat) {bk:Nat} {o:Obj} (hi:nth L i=some (bk,o)) (hM:bk∉X.M) (t:∀ h2,h.le h2→h2 bk=some o→TO P b n ops l k F e ds X h2 (dropNth L i)):TO P b n ops l k F e ds X h L:=by
 intro w hw
 have h1:=hw.perm (mD L i _ hi)
 exact t _ (HF.tl (h1.free (bk,o) (by simp))) (HF.pL _ _ _) w (h1.freeze hM)
end freezeN
def ou {κ α : Type} (enc:κ→Value) (V:HF→Value→α→Prop) (h:HF) (bk:Nat) (m:List (κ×α)):Prop:=∃ o,h bk=some o∧gJ enc V h o m
theorem ou.mono {κ α : Type} {enc:κ→Value} {V:HF→Value→α→Prop} {h h':HF} {bk:Nat} {m:List (κ×α)} (c:ou enc V h bk m) (hV:uB V) (hl:h.le h'):ou enc V h' bk m:=
 let ⟨o,a,b⟩:=c;⟨o,hl _ _ a,b.mono hV hl⟩
section ends
variable {α : Type} {P:Program} {f:FuncId} {n:Nat} {k:List Item} {e:Env} {X:Cx} {h:HF} {L:LH} {fn:Func} {C:List α→HF→LH→Prop} {Sp:HF→LH→Prop} {Pn:List PanicEntry→HF→LH→Prop} {xs:List α}
theorem qg (rs:List Nat) {A:LH} (hf:P.funcs[f]? = some fn) (hr:fn.results=#[]) (hA:A.Sublist L) (hR:C xs h A∨Sp h A):TT P (bodyFrame f) n (.code .ret::k) (mg P X (ItR C Sp Pn xs)) e (marks rs) X h (L++markB rs):=
 tM rs hf (fun a _ w _=>kF hr a w) (fun w hw=>hw.sub hA) (.inl ⟨rfl,hR⟩)
theorem uS (rs:List Nat) {A:LH} (hf:P.funcs[f]? = some fn) (hr:fn.results=#[]) (hA:A.Sublist L) (hR:C xs h A∨Sp h A):TT P (bodyFrame f) n [] (mg P X (ItR C Sp Pn xs)) e (marks rs) X h (L++markB rs):=
 Ej rs hf (fun a _ w _=>kF hr a w) (fun w hw=>hw.sub hA) (.inl ⟨rfl,hR⟩)
theorem qh (rs:List Nat) {A:LH} {ch:List PanicEntry} (hf:P.funcs[f]? = some fn) (hA:A.Sublist L) (hR:Pn ch h A):TP P (bodyFrame f) n ch (mg P X (ItR C Sp Pn xs)) e (marks rs) X h (L++markB rs):=
 El rs hf (fun w hw=>hw.sub hA) (.inr ⟨ch,rfl,hR⟩)
end ends
section ends2
variable {P:Program} {f:FuncId} {n:Nat} {k:List Item} {e:Env} {X:Cx} {h:HF} {L:LH} {fn:Func} {φ : Value→HF→Prop}
theorem gv {b:Frame} {todo:List Item} {F:List Frame→(Machine→Prop)→Prop} (t:TT P b n todo F e (marks []) X h (L++markB [])):TT P b n todo F e [] X h L:=by
 have:L++markB []=L:=by simp [markB]
 rw [this] at t;exact t
theorem dW {b:Frame} {todo:List Item} {F:List Frame→(Machine→Prop)→Prop} {ds:List Deferred} {L':LH} (hL:L=L') (t:TT P b n todo F e ds X h L'):TT P b n todo F e ds X h L:=hL ▸ t
theorem pj (ms:List Nat) {rs:List ResultVar} (vs:List Value) (hf:P.funcs[f]? = some fn) (hr:fn.results=rs.toArray) (hv:sV P e L rs vs) (hφ : φ (retVal vs) h):
  TT P (bodyFrame f) n (.code .ret::k) (mg P X (fun x h' B=>B=[]∧∃ v,x=.returned v∧φ v h')) e (marks ms) X h (L++markB ms):=
 tM ms (v:=retVal vs) hf (fun a he w hw=>pY hr hv a he w hw) (fun _ hw=>hw.sub (List.nil_sublist _)) ⟨rfl,_,rfl,hφ⟩
theorem qU (ms:List Nat) {rs:List ResultVar} {v:Value} {hh:HF} (vs:List Value) (hf:P.funcs[f]? = some fn) (hr:fn.results=rs.toArray) (hX:X.h0=hh) (hv:sV P e L rs vs) (hvv:retVal vs=v):
  TT P (bodyFrame f) n (.code .ret::k) (mg P X (fun x h' B=>x=.returned v∧h'=hh∧B=[])) e (marks ms) X h (L++markB ms):=
 tM ms (v:=v) hf (fun a he w hw=>hvv ▸ pY hr hv a he w hw) (fun _ hw=>hw.forget) ⟨rfl,hX,rfl⟩
def XR (v:Except Value Value) (hh:HF) (x:Ending) (h':HF) (B:LH):Prop:=
 h'=hh∧B=[]∧match v with
  | .ok u=>x=.returned u
  | .error p=>x=.panicked [{ v:=p,recovered:=false }]
abbrev Fp (P:Program) (f:FuncId) (args:List Value) (h:HF) (v:Except Value Value):Prop:=oq P f args.toArray h [] (XR v h)
theorem tO (ms:List Nat) {rs:List ResultVar} {v:Except Value Value} {hh:HF} (vs:List Value) (hf:P.funcs[f]? = some fn) (hr:fn.results=rs.toArray) (hX:X.h0=hh) (hv:sV P e L rs vs) (hvv:v=.ok (retVal vs)):
  TT P (bodyFrame f) n [] (mg P X (XR v hh)) e (marks ms) X h (L++markB ms):=
 Ej ms (v:=retVal vs) hf (fun a he w hw=>pY hr hv a he w hw) (fun _ hw=>hw.forget) (by subst hvv;exact ⟨hX,rfl,rfl⟩)
theorem lK (ms:List Nat) {v:Except Value Value} {hh:HF} {p:Value} (hf:P.funcs[f]? = some fn) (hX:X.h0=hh) (hvv:v=.error p):
  TP P (bodyFrame f) n [{ v:=p,recovered:=false }] (mg P X (XR v hh)) e (marks ms) X h (L++markB ms):=
 El ms hf (fun _ hw=>hw.forget) (by subst hvv;exact ⟨hX,rfl,rfl⟩)
theorem jj {b:Frame} {ch:List PanicEntry} {F:List Frame→(Machine→Prop)→Prop} (t:TP P b n ch F e (marks []) X h (L++markB [])):TP P b n ch F e [] X h L:=by
 have:L++markB []=L:=by simp [markB]
 rw [this] at t;exact t
end ends2
section stepsX
variable {P:Program} {b:Frame} {n:Nat} {ops:Array Oper} {F:List Frame→(Machine→Prop)→Prop} {e:Env} {ds:List Deferred} {X:Cx} {h:HF} {L:LH} {K:Env→HF→LH→Prop}
variable {d:Option Nat} {ty:TypeId} {pos:String} {af:Array Edge} {g:Option (Nat×Bool)}
theorem kK {f:FuncId} {as:Array Operand} {ats:Array TypeId} {vs:List Value} {v:Except Value Value}
  (hc:∀ args w,(callFunc f args).run P w=.ok (.enter f args) w) (hs:Fp P f vs h v) (hvs:as.toList.map e.ev=vs)
  (t':∀ u,v=.ok u→K (pute e d u) h L) (tp:∀ p,v=.error p→∀ e',TP P b n [{ v:=p,recovered:=false }] F e' ds X h L)
  (hg:guardB ops e ⟨d,.call ⟨.value (.func f),as,ats⟩,ty,pos,af,g⟩=true:=by rfl):
  Stp P b n ops F ds X ⟨d,.call ⟨.value (.func f),as,ats⟩,ty,pos,af,g⟩ e h L K:=
 DE (A:=[]) (Fr:=L) hc hvs hs rfl (fun v' h' B _ hR=>by
   obtain ⟨rfl,rfl,hv⟩:=hR
   cases v with
   | ok u=>cases hv;exact t' _ rfl
   | error p=>cases hv)
  (fun ch h' B _ hR=>by
   obtain ⟨rfl,rfl,hv⟩:=hR
   cases v with
   | ok u=>cases hv
   | error p=>cases hv;exact tp _ rfl) hg
theorem E6 {P:Program} {t:TypeId} {v:Value} (w:World):(Instr.panic (.iface t v)).run P w=.halt (.panic (.iface t v)) w:=by simp [Instr.panic,goPanic]
theorem HV {t:TypeId} {x:Operand} {v:Value} {T:TypeDesc} (hT:P.underlying t=some T) (hi:(match T with | .interface _=>false | _=>true)=true) (hx:e.ev x=v):
  ∀ w,St X h L w→(execOp e.ev ⟨d,.makeInterface t x,ty,pos,af,g⟩).run P w=.ok (.value (.iface t v)) w:=fun w _=>by
 cases T <;> simp_all [execOp,Instr.makeInterface,run_underlying hT]
theorem HP {x:Operand} {p:Value} (hx:e.ev x=p) (hp:∀ w:World,(Instr.panic p).run P w=.halt (.panic p) w) (tp:∀ e',TP P b n [{ v:=p,recovered:=false }] F e' ds X h L)
  (hg:guardB ops e ⟨d,.panic x,ty,pos,af,g⟩=true:=by rfl):Stp P b n ops F ds X ⟨d,.panic x,ty,pos,af,g⟩ e h L K:=by
 unfold Stp
 rw [if_pos hg]
 intro w hw
 have:(execOp e.ev ⟨d,.panic x,ty,pos,af,g⟩).run P w=.halt (.panic p) w:=by
  simp [execOp,hx,hp]
 rw [this]
 exact ⟨h,L,hw,tp⟩
end stepsX
end Go.Sg
namespace Go.Sg
def eqv:Option Value→Option Value→Bool
 | some (.int _ a),some (.int _ b)=>a==b
 | some (.bool a),some (.bool b)=>a==b
 | _,_=>false
def okF (P:Program) (xs ys:List Value) (f:Field):Bool:=
 !(f.name == "_") && (match tySz P f.type with | some (1, false) => true | _ => false) && (match P.underlying f.type, nth xs f.offset, nth ys f.offset with
  | some (.int _),some (.int j _),some (.int k _)=>decide (j=k)
  | some .bool,some (.bool _),some (.bool _)=>true
  | _,_,_=>false)
theorem nH {P:Program} {t:TypeId} {xs:List Value} {off:Nat} {v:Value} (hT:tySz P t=some (1,false)) (hv:nth xs off=some v) (w:World):(part t xs.toArray off).run P w=.ok v w:=by
 rw [gU] at hv
 simp [part,wF hT,gV hT,hv]
theorem zM {P : Program} {xs ys : List Value} {f : Field} (h : okF P xs ys f = true) : f.name ≠ "_" ∧ tySz P f.type = some (1, false) ∧
  ((∃ k j a b,P.underlying f.type=some (.int k)∧nth xs f.offset=some (.int j a)∧nth ys f.offset=some (.int j b))∨∃ a b,P.underlying f.type=some .bool∧nth xs f.offset=some (.bool a)∧nth ys f.offset=some (.bool b)):=by
 unfold okF at h
 rw [Bool.and_eq_true,Bool.and_eq_true] at h
 obtain ⟨⟨hn,ht⟩,hv⟩:=h
 refine ⟨by simpa using hn,?_,?_⟩
 ·split at ht
  ·assumption
  ·cases ht
 ·split at hv
  ·rename_i h1 h2 h3
   have:=of_decide_eq_true hv
   subst this
   exact .inl ⟨_,_,_,_,h1,h2,h3⟩
  ·rename_i h1 h2 h3
   exact .inr ⟨_,_,h1,h2,h3⟩
  ·cases hv
theorem tV {P:Program} {d:Nat} {xs ys:List Value} (w:World):∀ (fs:List Field),fs.all (okF P xs ys)=true →
  (Op.eqFields (d+1) xs.toArray ys.toArray fs).run P w=.ok (fs.all fun f=>eqv (nth xs f.offset) (nth ys f.offset)) w
 | [],_=>by simp [Op.eqFields]
 | f::fs,h=>by
  rw [List.all_cons,Bool.and_eq_true] at h
  obtain ⟨h1,h2⟩:=h
  have ih:=tV (d:=d) w fs h2
  obtain ⟨hn,hT,⟨k,j,a,b,hu,hx,hy⟩ | ⟨a,b,hu,hx,hy⟩⟩:=zM h1
  ·rw [Op.eqFields,if_pos hn,List.all_cons,hx,hy]
   simp only [Sem.run_bind,nH hT hx,nH hT hy,Result.andThen_ok,run_equalIn_int w d _ _ _ _ _ hu,eqv]
   cases hab:(a==b)
   ·simp
   ·simp only [Bool.not_true,Bool.false_eq_true,if_false,Bool.true_and];exact ih
  ·rw [Op.eqFields,if_pos hn,List.all_cons,hx,hy]
   simp only [Sem.run_bind,nH hT hx,nH hT hy,Result.andThen_ok,run_equalIn_bool' w d _ _ _ hu,eqv]
   cases hab:(a==b)
   ·simp
   ·simp only [Bool.not_true,Bool.false_eq_true,if_false,Bool.true_and];exact ih
theorem wl {P:Program} {t:TypeId} {fs:List Field} {xs ys:List Value} {r:Bool} (hT:P.underlying t=some (.struct fs.toArray)) (hp:P.stoodInHeld t=false) (hok:fs.all (okF P xs ys)=true)
  (hr:(fs.all fun f=>eqv (nth xs f.offset) (nth ys f.offset))=r) (w:World):(Op.equal t (.agg xs.toArray) (.agg ys.toArray)).run P w=.ok r w:=by
 have hf:P.fieldsOf t=fs.toArray:=by simp [Program.fieldsOf,hT]
 have:=run_equalIn_struct (P:=P) w 9999 t xs.toArray ys.toArray (by rw [hf];exact hT) hp
 rw [hf] at this
 rw [Op.equal,Op.maxDepth,this,← hr]
 exact tV w fs hok
theorem wX {P:Program} {t:TypeId} {fs:List Field} {xs:List Value} (e:Bool) (hT:P.underlying t=some (.struct fs.toArray)) (hok:fs.all (okF P xs xs)=true) (w:World):
  (Instr.checkKey e 10000 t (.agg xs.toArray)).run P w=.ok () w:=by
 rw [show (10000:Nat)=9999+1 from rfl,Instr.checkKey]
 simp only [Sem.run_bind,run_underlying hT,Result.andThen_ok]
 rw [← Array.forIn_toList]
 simp only
 clear hT
 induction fs with
 | nil=>simp
 | cons f fs ih=>
  rw [List.all_cons,Bool.and_eq_true] at hok
  have ih:=ih hok.2
  obtain ⟨hn,hT,⟨k,j,a,b,hu,hx,hy⟩ | ⟨a,b,hu,hx,hy⟩⟩:=zM hok.1
  ·have hc:(Instr.checkKey e 9999 f.type (.int j a)).run P w=.ok () w:=by
    rw [show (9999:Nat)=9998+1 from rfl,Instr.checkKey]
    simp [run_underlying hu]
   simp only [List.forIn_cons,if_pos hn,Sem.run_bind,nH hT hx,Result.andThen_ok,hc,Sem.run_pure]
   simpa using ih
  ·have hc:(Instr.checkKey e 9999 f.type (.bool a)).run P w=.ok () w:=by
    rw [show (9999:Nat)=9998+1 from rfl,Instr.checkKey]
    simp [run_underlying hu]
   simp only [List.forIn_cons,if_pos hn,Sem.run_bind,nH hT hx,Result.andThen_ok,hc,Sem.run_pure]
   simpa using ih
theorem wN (vs:List Value):∀ (cl:List Value),vs.length=cl.length→splice cl 0 vs=vs:=by
 intro cl hl
 have:=uG vs [] cl (by omega)
 simp at this
 rw [this,hl]
 simp
theorem bJ {P:Program} {b:Frame} {n:Nat} {k:List Item} {F:List Frame→(Machine→Prop)→Prop} {e:Env} {ds:List Deferred} {X:Cx} {h:HF} {L:LH} {ops:Array Oper} {l:List Oper} {ty:TypeId} {pos:String} {af:Array Edge} {g:Option (Nat×Bool)}
  (i:Nat) {t:TypeId} {x y:Operand} {m bk T:Nat} {a:Bool} {cl vs:List Value} (hT:tySz P t=some (m,a)) (hx:e.ev x=.pointer (some ⟨bk,0,none⟩))
  (hL:nth L i=some (bk,.cells cl.toArray T (0,0))) (hv:e.ev y=.agg vs.toArray) (hm:vs.length=m) (hc:cl.length=m) (h1:vs.all one=true)
  (t':TO P b n ops l k F e ds X h (setNth L i (bk,.cells vs.toArray T (0,0))))
  (hg:guardB ops e ⟨none,.store t x y,ty,pos,af,g⟩=true:=by rfl):TO P b n ops (⟨none,.store t x y,ty,pos,af,g⟩::l) k F e ds X h L:=by
 refine du i hT hx hL (vs:=vs) (by rw [hv];simp [vcells]) hm (by rw [Nat.zero_add,hm,hc];simp) h1 ?_ hg
 rw [wN vs cl (by rw [hm,hc])]
 exact t'
section runs
variable {P:Program} {e:Env} {X:Cx} {h:HF} {L:LH} {d:Option Nat} {ty:TypeId} {pos:String} {af:Array Edge} {g:Option (Nat×Bool)}
theorem I2 {t u:TypeId} {x y:Operand} {xs ys:Array Value} {r:Bool} (hq:∀ w,(Op.equal t (.agg xs) (.agg ys)).run P w=.ok r w) (hm:P.eqGuardType P.depth t=false) (hx:e.ev x=.agg xs) (hy:e.ev y=.agg ys):
  ∀ w,St X h L w→(execOp e.ev ⟨d,.binOp .eql t x y u,ty,pos,af,g⟩).run P w=.ok (.value (.bool r)) w:=
 fun w _=>by
  have h1:=run_eqGuard_agg (P:=P) w .eql t x y xs ys hm
  have h2:=hq w
  simp [execOp,hx,hy,h1,binOp,h2]
theorem IZ {t u:TypeId} {x y:Operand} {xs ys:Array Value} {r:Bool} (hq:∀ w,(Op.equal t (.agg xs) (.agg ys)).run P w=.ok r w) (hm:P.eqGuardType P.depth t=false) (hx:e.ev x=.agg xs) (hy:e.ev y=.agg ys):
  ∀ w,St X h L w→(execOp e.ev ⟨d,.binOp .neq t x y u,ty,pos,af,g⟩).run P w=.ok (.value (.bool (!r))) w:=
 fun w _=>by
  have h1:=run_eqGuard_agg (P:=P) w .neq t x y xs ys hm
  have h2:=hq w
  simp [execOp,hx,hy,h1,binOp,h2]
theorem As {t:TypeId} {x ix:Operand} {s:ByteArray} {i:Int} (hT:P.underlying t=some .string) (hx:e.ev x=.string s) (hix:e.ev ix=.int .i64 i) (hi:0≤i∧i < (s.size:Int)):
  ∀ w,St X h L w→(execOp e.ev ⟨d,.index t x ix,ty,pos,af,g⟩).run P w=.ok (.value (.int .u8 ((s.data.getD i.toNat 0).toNat:Nat))) w:=
 fun w _=>by
  obtain ⟨n,rfl⟩:=Int.eq_ofNat_of_zero_le hi.1
  have hn:n < s.size:=by omega
  have hn':n < s.data.size:=hn
  simp [execOp,Instr.index,hix,hx,asIntOf,run_underlying hT,hn]
  rfl
end runs
end Go.Sg
set_option linter.unusedVariables false
namespace Go.Sg
structure Span where
 From:Int
 Until:Int
deriving DecidableEq
instance:Inhabited Span:=⟨⟨0,0⟩⟩
def Span.cells (x:Span):List Go.Value:=[.int .i64 x.From,.int .i64 x.Until]
abbrev Span.enc (x:Span):Go.Value:=.agg (Span.cells x).toArray
def Span.rp:Rp Span:=⟨2,fun _ cs x=>cs=Span.cells x⟩
theorem Span.aJ:Span.rp.Mono:=fun _ _ _ _ _ e=>e
theorem Span.eZ:Span.rp.Good:=⟨Span.aJ,fun _ _ _ e=>by cases e;rfl,by decide⟩
structure Holder where
 Person:Int
 Weight:Int
deriving DecidableEq
instance:Inhabited Holder:=⟨⟨0,0⟩⟩
def Holder.cells (x:Holder):List Go.Value:=[.int .i64 x.Person,.int .i64 x.Weight]
abbrev Holder.enc (x:Holder):Go.Value:=.agg (Holder.cells x).toArray
def Holder.rp:Rp Holder:=⟨2,fun _ cs x=>cs=Holder.cells x⟩
theorem Holder.aJ:Holder.rp.Mono:=fun _ _ _ _ _ e=>e
theorem Holder.eZ:Holder.rp.Good:=⟨Holder.aJ,fun _ _ _ e=>by cases e;rfl,by decide⟩
structure Appoint where
 No:Int
 At:Int
 Known:Int
 Office:Int
 Person:Int
 Weight:Int
 Gone:Bool
deriving DecidableEq
instance:Inhabited Appoint:=⟨⟨0,0,0,0,0,0,false⟩⟩
def Appoint.cells (x:Appoint):List Go.Value:=[.int .i64 x.No,.int .i64 x.At,.int .i64 x.Known,.int .i64 x.Office,.int .i64 x.Person,.int .i64 x.Weight,.bool x.Gone]
abbrev Appoint.enc (x:Appoint):Go.Value:=.agg (Appoint.cells x).toArray
def Appoint.rp:Rp Appoint:=⟨7,fun _ cs x=>cs=Appoint.cells x⟩
theorem Appoint.aJ:Appoint.rp.Mono:=fun _ _ _ _ _ e=>e
theorem Appoint.eZ:Appoint.rp.Good:=⟨Appoint.aJ,fun _ _ _ e=>by cases e;rfl,by decide⟩
structure Deputy where
 No:Int
 At:Int
 Known:Int
 Until:Int
 From:Int
 To:Int
 Office:Int
 Kind:Int
 Most:Int
 Gone:Bool
deriving DecidableEq
instance:Inhabited Deputy:=⟨⟨0,0,0,0,0,0,0,0,0,false⟩⟩
def Deputy.cells (x:Deputy):List Go.Value:=[.int .i64 x.No,.int .i64 x.At,.int .i64 x.Known,.int .i64 x.Until,.int .i64 x.From,.int .i64 x.To,.int .i64 x.Office,.int .i64 x.Kind,.int .i64 x.Most,.bool x.Gone]
abbrev Deputy.enc (x:Deputy):Go.Value:=.agg (Deputy.cells x).toArray
def Deputy.rp:Rp Deputy:=⟨10,fun _ cs x=>cs=Deputy.cells x⟩
theorem Deputy.aJ:Deputy.rp.Mono:=fun _ _ _ _ _ e=>e
theorem Deputy.eZ:Deputy.rp.Good:=⟨Deputy.aJ,fun _ _ _ e=>by cases e;rfl,by decide⟩
structure Interest where
 No:Int
 At:Int
 Known:Int
 Person:Int
 Party:Int
 Of:Bool
 Gone:Bool
deriving DecidableEq
instance:Inhabited Interest:=⟨⟨0,0,0,0,0,false,false⟩⟩
def Interest.cells (x:Interest):List Go.Value:=[.int .i64 x.No,.int .i64 x.At,.int .i64 x.Known,.int .i64 x.Person,.int .i64 x.Party,.bool x.Of,.bool x.Gone]
abbrev Interest.enc (x:Interest):Go.Value:=.agg (Interest.cells x).toArray
def Interest.rp:Rp Interest:=⟨7,fun _ cs x=>cs=Interest.cells x⟩
theorem Interest.aJ:Interest.rp.Mono:=fun _ _ _ _ _ e=>e
theorem Interest.eZ:Interest.rp.Good:=⟨Interest.aJ,fun _ _ _ e=>by cases e;rfl,by decide⟩
structure Budget where
 No:Int
 At:Int
 Known:Int
 Kind:Int
 Period:Int
 Count:Int
 Value:Int
 Gone:Bool
deriving DecidableEq
instance:Inhabited Budget:=⟨⟨0,0,0,0,0,0,0,false⟩⟩
def Budget.cells (x:Budget):List Go.Value:=[.int .i64 x.No,.int .i64 x.At,.int .i64 x.Known,.int .i64 x.Kind,.int .i64 x.Period,.int .i64 x.Count,.int .i64 x.Value,.bool x.Gone]
abbrev Budget.enc (x:Budget):Go.Value:=.agg (Budget.cells x).toArray
def Budget.rp:Rp Budget:=⟨8,fun _ cs x=>cs=Budget.cells x⟩
theorem Budget.aJ:Budget.rp.Mono:=fun _ _ _ _ _ e=>e
theorem Budget.eZ:Budget.rp.Good:=⟨Budget.aJ,fun _ _ _ e=>by cases e;rfl,by decide⟩
structure Approval where
 No:Int
 At:Int
 Known:Int
 Doc:Int
 By:Int
 For:Int
 Office:Int
 Gone:Bool
deriving DecidableEq
instance:Inhabited Approval:=⟨⟨0,0,0,0,0,0,0,false⟩⟩
def Approval.cells (x:Approval):List Go.Value:=[.int .i64 x.No,.int .i64 x.At,.int .i64 x.Known,.int .i64 x.Doc,.int .i64 x.By,.int .i64 x.For,.int .i64 x.Office,.bool x.Gone]
abbrev Approval.enc (x:Approval):Go.Value:=.agg (Approval.cells x).toArray
def Approval.rp:Rp Approval:=⟨8,fun _ cs x=>cs=Approval.cells x⟩
theorem Approval.aJ:Approval.rp.Mono:=fun _ _ _ _ _ e=>e
theorem Approval.eZ:Approval.rp.Good:=⟨Approval.aJ,fun _ _ _ e=>by cases e;rfl,by decide⟩
inductive Expr where
 | mk (Kind N No:Int) (Name:ByteArray) (L:List Expr)
def Expr.Kind:Expr→Int
 | .mk Kind _ _ _ _=>Kind
def Expr.N:Expr→Int
 | .mk _ N _ _ _=>N
def Expr.No:Expr→Int
 | .mk _ _ No _ _=>No
def Expr.Name:Expr→ByteArray
 | .mk _ _ _ Name _=>Name
def Expr.L:Expr→List Expr
 | .mk _ _ _ _ L=>L
instance:Inhabited Expr:=⟨.mk 0 0 0 ⟨#[]⟩ []⟩
mutual
def Expr.dep:Expr→Nat
 | .mk _ _ _ _ L=>Expr.depL L+1
def Expr.depL:List Expr→Nat
 | []=>0
 | y::ys=>Expr.dep y+Expr.depL ys
end
theorem Expr.j1 (x:Expr):0 < x.dep:=by cases x;simp [Expr.dep]
theorem Expr.Hf {y:Expr}:∀ {l:List Expr},y∈l→y.dep≤Expr.depL l
 | z::l,h=>by
  rcases List.mem_cons.1 h with rfl | h
  ·simp [Expr.depL]
  ·have:=Expr.Hf h;simp [Expr.depL];omega
theorem Expr.Ca:∀ (l:List Expr),l.length≤Expr.depL l
 | []=>Nat.le_refl _
 | z::l=>by have:=Expr.Ca l;have:=Expr.j1 z;simp [Expr.depL];omega
theorem Expr.DP (x:Expr):x.L.length < x.dep:=by
 cases x with
 | mk a b c d L=>have:=Expr.Ca L;simp [Expr.dep,Expr.L];omega
theorem Expr.iv {x y:Expr} (h:y∈x.L):y.dep < x.dep:=by
 cases x with
 | mk a b c d L=>have:=Expr.Hf (l:=L) h;simp [Expr.dep];omega
structure cM where
 iE:Option Addr
 iG:Nat
def Expr.cells (x:Expr) (r:cM):List Go.Value:=[.int .i64 x.Kind,.int .i64 x.N,.int .i64 x.No,.string x.Name,.slice r.iE x.L.length r.iG]
inductive Expr.ok (h:HF):Expr→cM→Prop
 | mk (x:Expr) (r:cM) (rs:Nat→cM) (h0:x.L.length≤9223372036854775807∧x.L.length≤r.iG) (h1:∀ (i:Nat) (y:Expr),x.L[i]? = some y→∃ p,r.iE=some p∧At h (p.add (i * 5)) (Expr.cells y (rs i))) (h2:∀ (i:Nat) (y:Expr),x.L[i]? = some y→Expr.ok h y (rs i)):Expr.ok h x r
def Expr.rp:Rp Expr:=⟨5,fun h cs x=>∃ r,cs=Expr.cells x r∧Expr.ok h x r⟩
theorem Expr.ok.mono {h h':HF} {x:Expr} {r:cM} (a:Expr.ok h x r) (hl:h.le h'):Expr.ok h' x r:=by
 induction a with
 | mk x r rs h0 h1 h2 ih=>exact .mk x r rs h0 (fun i y hy=>let ⟨p,e,q⟩:=h1 i y hy;⟨p,e,q.mono hl⟩) (fun i y hy=>ih i y hy)
theorem Expr.ok.list {h:HF} {x:Expr} {r:cM} (a:Expr.ok h x r):SlC Expr.rp h r.iE r.iG x.L:=by
 cases a with
 | mk x r rs h0 h1 h2=>exact ⟨⟨h0.1,fun i y hy=>let ⟨p,e,q⟩:=h1 i y hy;⟨p,_,e,q,rfl,_,rfl,h2 i y hy⟩⟩,h0.2⟩
theorem Expr.aJ:Expr.rp.Mono:=fun _ _ _ _ hl ⟨r,e,o⟩=>⟨r,e,o.mono hl⟩
theorem Expr.ok.of {h:HF} {x:Expr} {r:cM} (a:SlC Expr.rp h r.iE r.iG x.L):Expr.ok h x r:=by
 have h1:∀ i,∃ q:cM,∀ y,x.L[i]? = some y→∃ p,r.iE=some p∧At h (p.add (i * 5)) (Expr.cells y q)∧Expr.ok h y q:=by
  intro i
  cases hy:x.L[i]? with
  | none=>exact ⟨⟨none,0⟩,fun y e=>by cases e⟩
  | some y=>
   obtain ⟨p,cs,e,q,_,r',rfl,o⟩:=a.1.2 i y hy
   exact ⟨r',fun z ez=>by cases ez;exact ⟨p,e,q,o⟩⟩
 obtain ⟨rs,hrs⟩:=Classical.axiomOfChoice h1
 exact .mk x r rs ⟨a.1.1,a.2⟩ (fun i y hy=>let ⟨p,e,q,_⟩:=hrs i y hy;⟨p,e,q⟩) (fun i y hy=>let ⟨_,_,_,o⟩:=hrs i y hy;o)
theorem Expr.eZ:Expr.rp.Good:=⟨Expr.aJ,fun _ _ _ ⟨_,e,_⟩=>by cases e;rfl,by decide⟩
structure Rule where
 Kind:ByteArray
 KindNo:Int
 Think:Int
 Expr:Expr
instance:Inhabited Rule:=⟨⟨⟨#[]⟩,0,0,default⟩⟩
structure uC where
 Expr:cM
def Rule.cells (x:Rule) (r:uC):List Go.Value:=[.string x.Kind,.int .i64 x.KindNo,.int .i64 x.Think,.int .i64 x.Expr.Kind,.int .i64 x.Expr.N,.int .i64 x.Expr.No,.string x.Expr.Name,.slice r.Expr.iE x.Expr.L.length r.Expr.iG]
structure Rule.ok (h:HF) (x:Rule) (r:uC):Prop where
 Expr:Expr.ok h x.Expr r.Expr
theorem Rule.ok.mono {h h':HF} {x:Rule} {r:uC} (a:Rule.ok h x r) (hl:h.le h'):Rule.ok h' x r:=⟨a.Expr.mono hl⟩
def Rule.rp:Rp Rule:=⟨8,fun h cs x=>∃ r,cs=Rule.cells x r∧Rule.ok h x r⟩
theorem Rule.aJ:Rule.rp.Mono:=fun _ _ _ _ hl ⟨r,e,o⟩=>⟨r,e,o.mono hl⟩
theorem Rule.eZ:Rule.rp.Good:=⟨Rule.aJ,fun _ _ _ ⟨_,e,_⟩=>by cases e;rfl,by decide⟩
structure Policy where
 Name:ByteArray
 Kinds:List ByteArray
 Offices:List ByteArray
 Rules:List Rule
 Change:Expr
 Mode:Int
instance:Inhabited Policy:=⟨⟨⟨#[]⟩,[],[],[],default,0⟩⟩
structure fh where
 fM:Option Addr
 fL:Nat
 dB:Option Addr
 dA:Nat
 ji:Option Addr
 jh:Nat
 Change:cM
def Policy.cells (x:Policy) (r:fh):List Go.Value:=[.string x.Name,.slice r.fM x.Kinds.length r.fL,.slice r.dB x.Offices.length r.dA,.slice r.ji x.Rules.length r.jh,.int .i64 x.Change.Kind,.int .i64 x.Change.N,.int .i64 x.Change.No,.string x.Change.Name,.slice r.Change.iE x.Change.L.length r.Change.iG,.int .i64 x.Mode]
structure Policy.ok (h:HF) (x:Policy) (r:fh):Prop where
 Kinds:SlC Rp.str h r.fM r.fL x.Kinds
 Offices:SlC Rp.str h r.dB r.dA x.Offices
 Rules:SlC Rule.rp h r.ji r.jh x.Rules
 Change:Expr.ok h x.Change r.Change
theorem Policy.ok.mono {h h':HF} {x:Policy} {r:fh} (a:Policy.ok h x r) (hl:h.le h'):Policy.ok h' x r:=⟨a.Kinds.mono Rp.gx hl,a.Offices.mono Rp.gx hl,a.Rules.mono Rule.aJ hl,a.Change.mono hl⟩
def Policy.rp:Rp Policy:=⟨10,fun h cs x=>∃ r,cs=Policy.cells x r∧Policy.ok h x r⟩
theorem Policy.aJ:Policy.rp.Mono:=fun _ _ _ _ hl ⟨r,e,o⟩=>⟨r,e,o.mono hl⟩
theorem Policy.eZ:Policy.rp.Good:=⟨Policy.aJ,fun _ _ _ ⟨_,e,_⟩=>by cases e;rfl,by decide⟩
structure Version where
 No:Int
 At:Int
 Known:Int
 Policy:Policy
instance:Inhabited Version:=⟨⟨0,0,0,default⟩⟩
structure oo where
 Policy:fh
def Version.cells (x:Version) (r:oo):List Go.Value:=[.int .i64 x.No,.int .i64 x.At,.int .i64 x.Known,.string x.Policy.Name,.slice r.Policy.fM x.Policy.Kinds.length r.Policy.fL,.slice r.Policy.dB x.Policy.Offices.length r.Policy.dA,.slice r.Policy.ji x.Policy.Rules.length r.Policy.jh,.int .i64 x.Policy.Change.Kind,.int .i64 x.Policy.Change.N,.int .i64 x.Policy.Change.No,.string x.Policy.Change.Name,.slice r.Policy.Change.iE x.Policy.Change.L.length r.Policy.Change.iG,.int .i64 x.Policy.Mode]
structure Version.ok (h:HF) (x:Version) (r:oo):Prop where
 Policy:Policy.ok h x.Policy r.Policy
theorem Version.ok.mono {h h':HF} {x:Version} {r:oo} (a:Version.ok h x r) (hl:h.le h'):Version.ok h' x r:=⟨a.Policy.mono hl⟩
def Version.rp:Rp Version:=⟨13,fun h cs x=>∃ r,cs=Version.cells x r∧Version.ok h x r⟩
theorem Version.aJ:Version.rp.Mono:=fun _ _ _ _ hl ⟨r,e,o⟩=>⟨r,e,o.mono hl⟩
theorem Version.eZ:Version.rp.Good:=⟨Version.aJ,fun _ _ _ ⟨_,e,_⟩=>by cases e;rfl,by decide⟩
structure Document where
 No:Int
 At:Int
 Kind:Int
 Value:Int
 From:Int
 Until:Int
 Parties:List Int
 Revokes:List Int
 Needs:List Int
 Text:Nat→Int
instance:Inhabited Document:=⟨⟨0,0,0,0,0,0,[],[],[],fun _=>0⟩⟩
structure ii where
 jU:Option Addr
 jT:Nat
 jy:Option Addr
 jx:Nat
 kU:Option Addr
 kT:Nat
def Document.cells (x:Document) (r:ii):List Go.Value:=.int .i64 x.No::.int .i64 x.At::.int .i64 x.Kind::.int .i64 x.Value::.int .i64 x.From::.int .i64 x.Until::.slice r.jU x.Parties.length r.jT::.slice r.jy x.Revokes.length r.jx::.slice r.kU x.Needs.length r.kT::.int .u8 (x.Text 0)::.int .u8 (x.Text 1)::.int .u8 (x.Text 2)::.int .u8 (x.Text 3)::.int .u8 (x.Text 4)::.int .u8 (x.Text 5)::.int .u8 (x.Text 6)::.int .u8 (x.Text 7)::.int .u8 (x.Text 8)::.int .u8 (x.Text 9)::.int .u8 (x.Text 10)::.int .u8 (x.Text 11)::.int .u8 (x.Text 12)::.int .u8 (x.Text 13)::.int .u8 (x.Text 14)::.int .u8 (x.Text 15)::.int .u8 (x.Text 16)::.int .u8 (x.Text 17)::.int .u8 (x.Text 18)::.int .u8 (x.Text 19)::.int .u8 (x.Text 20)::.int .u8 (x.Text 21)::.int .u8 (x.Text 22)::.int .u8 (x.Text 23)::.int .u8 (x.Text 24)::.int .u8 (x.Text 25)::.int .u8 (x.Text 26)::.int .u8 (x.Text 27)::.int .u8 (x.Text 28)::.int .u8 (x.Text 29)::.int .u8 (x.Text 30)::.int .u8 (x.Text 31)::[]
structure Document.ok (h:HF) (x:Document) (r:ii):Prop where
 Parties:SlC Rp.int h r.jU r.jT x.Parties
 Revokes:SlC Rp.int h r.jy r.jx x.Revokes
 Needs:SlC Rp.int h r.kU r.kT x.Needs
theorem Document.ok.mono {h h':HF} {x:Document} {r:ii} (a:Document.ok h x r) (hl:h.le h'):Document.ok h' x r:=⟨a.Parties.mono Rp.cm hl,a.Revokes.mono Rp.cm hl,a.Needs.mono Rp.cm hl⟩
def Document.rp:Rp Document:=⟨41,fun h cs x=>∃ r,cs=Document.cells x r∧Document.ok h x r⟩
theorem Document.aJ:Document.rp.Mono:=fun _ _ _ _ hl ⟨r,e,o⟩=>⟨r,e,o.mono hl⟩
theorem Document.eZ:Document.rp.Good:=⟨Document.aJ,fun _ _ _ ⟨_,e,_⟩=>by cases e;rfl,by decide⟩
structure Register where
 Appoints:List Appoint
 Deputies:List Deputy
 Interests:List Interest
 Budgets:List Budget
 Versions:List Version
 Docs:List Document
 Approvals:List Approval
instance:Inhabited Register:=⟨⟨[],[],[],[],[],[],[]⟩⟩
structure ep where
 gQ:Option Addr
 gP:Nat
 fm:Option Addr
 fj:Nat
 gN:Option Addr
 gM:Nat
 fJ:Option Addr
 fI:Nat
 gq:Option Addr
 gp:Nat
 iB:Option Addr
 iA:Nat
 eY:Option Addr
 eX:Nat
def Register.cells (x:Register) (r:ep):List Go.Value:=[.slice r.gQ x.Appoints.length r.gP,.slice r.fm x.Deputies.length r.fj,.slice r.gN x.Interests.length r.gM,.slice r.fJ x.Budgets.length r.fI,.slice r.gq x.Versions.length r.gp,.slice r.iB x.Docs.length r.iA,.slice r.eY x.Approvals.length r.eX]
structure Register.ok (h:HF) (x:Register) (r:ep):Prop where
 Appoints:SlC Appoint.rp h r.gQ r.gP x.Appoints
 Deputies:SlC Deputy.rp h r.fm r.fj x.Deputies
 Interests:SlC Interest.rp h r.gN r.gM x.Interests
 Budgets:SlC Budget.rp h r.fJ r.fI x.Budgets
 Versions:SlC Version.rp h r.gq r.gp x.Versions
 Docs:SlC Document.rp h r.iB r.iA x.Docs
 Approvals:SlC Approval.rp h r.eY r.eX x.Approvals
theorem Register.ok.mono {h h':HF} {x:Register} {r:ep} (a:Register.ok h x r) (hl:h.le h'):Register.ok h' x r:=⟨a.Appoints.mono Appoint.aJ hl,a.Deputies.mono Deputy.aJ hl,a.Interests.mono Interest.aJ hl,a.Budgets.mono Budget.aJ hl,a.Versions.mono Version.aJ hl,a.Docs.mono Document.aJ hl,a.Approvals.mono Approval.aJ hl⟩
def Register.rp:Rp Register:=⟨7,fun h cs x=>∃ r,cs=Register.cells x r∧Register.ok h x r⟩
theorem Register.aJ:Register.rp.Mono:=fun _ _ _ _ hl ⟨r,e,o⟩=>⟨r,e,o.mono hl⟩
theorem Register.eZ:Register.rp.Good:=⟨Register.aJ,fun _ _ _ ⟨_,e,_⟩=>by cases e;rfl,by decide⟩
structure OSeat where
 office:Int
 person:Int
deriving DecidableEq
instance:Inhabited OSeat:=⟨⟨0,0⟩⟩
def OSeat.cells (x:OSeat):List Go.Value:=[.int .i64 x.office,.int .i64 x.person]
abbrev OSeat.enc (x:OSeat):Go.Value:=.agg (OSeat.cells x).toArray
def OSeat.rp:Rp OSeat:=⟨2,fun _ cs x=>cs=OSeat.cells x⟩
theorem OSeat.aJ:OSeat.rp.Mono:=fun _ _ _ _ _ e=>e
theorem OSeat.eZ:OSeat.rp.Good:=⟨OSeat.aJ,fun _ _ _ e=>by cases e;rfl,by decide⟩
structure cL where
 person:Int
 party:Int
 of:Bool
deriving DecidableEq
instance:Inhabited cL:=⟨⟨0,0,false⟩⟩
def cL.cells (x:cL):List Go.Value:=[.int .i64 x.person,.int .i64 x.party,.bool x.of]
abbrev cL.enc (x:cL):Go.Value:=.agg (cL.cells x).toArray
def cL.rp:Rp cL:=⟨3,fun _ cs x=>cs=cL.cells x⟩
theorem cL.aJ:cL.rp.Mono:=fun _ _ _ _ _ e=>e
theorem cL.eZ:cL.rp.Good:=⟨cL.aJ,fun _ _ _ e=>by cases e;rfl,by decide⟩
structure fY where
 path:List Int
 to:Int
instance:Inhabited fY:=⟨⟨[],0⟩⟩
structure EV where
 rn:Option Addr
 td:Nat
def fY.cells (x:fY) (r:EV):List Go.Value:=[.slice r.rn x.path.length r.td,.int .i64 x.to]
structure fY.ok (h:HF) (x:fY) (r:EV):Prop where
 path:SlC Rp.int h r.rn r.td x.path
theorem fY.ok.mono {h h':HF} {x:fY} {r:EV} (a:fY.ok h x r) (hl:h.le h'):fY.ok h' x r:=⟨a.path.mono Rp.cm hl⟩
def fY.rp:Rp fY:=⟨2,fun h cs x=>∃ r,cs=fY.cells x r∧fY.ok h x r⟩
theorem fY.aJ:fY.rp.Mono:=fun _ _ _ _ hl ⟨r,e,o⟩=>⟨r,e,o.mono hl⟩
theorem fY.eZ:fY.rp.Good:=⟨fY.aJ,fun _ _ _ ⟨_,e,_⟩=>by cases e;rfl,by decide⟩
structure qL where
 H8:List Int
 To:Int
instance:Inhabited qL:=⟨⟨[],0⟩⟩
structure Hr where
 Ht:Option Addr
 Hs:Nat
def qL.cells (x:qL) (r:Hr):List Go.Value:=[.slice r.Ht x.H8.length r.Hs,.int .i64 x.To]
structure qL.ok (h:HF) (x:qL) (r:Hr):Prop where
 H8:SlC Rp.int h r.Ht r.Hs x.H8
theorem qL.ok.mono {h h':HF} {x:qL} {r:Hr} (a:qL.ok h x r) (hl:h.le h'):qL.ok h' x r:=⟨a.H8.mono Rp.cm hl⟩
def qL.rp:Rp qL:=⟨2,fun h cs x=>∃ r,cs=qL.cells x r∧qL.ok h x r⟩
theorem qL.aJ:qL.rp.Mono:=fun _ _ _ _ hl ⟨r,e,o⟩=>⟨r,e,o.mono hl⟩
theorem qL.eZ:qL.rp.Good:=⟨qL.aJ,fun _ _ _ ⟨_,e,_⟩=>by cases e;rfl,by decide⟩
structure bp where
 value:Int
 holders:List (List Holder)
 who:List Int
instance:Inhabited bp:=⟨⟨0,[],[]⟩⟩
structure gD where
 gd:Option Addr
 ga:Nat
 em:Option Addr
 el:Nat
def bp.cells (x:bp) (r:gD):List Go.Value:=[.int .i64 x.value,.slice r.gd x.holders.length r.ga,.slice r.em x.who.length r.el]
structure bp.ok (h:HF) (x:bp) (r:gD):Prop where
 holders:SlC (Rp.sl Holder.rp) h r.gd r.ga x.holders
 who:SlC Rp.int h r.em r.el x.who
theorem bp.ok.mono {h h':HF} {x:bp} {r:gD} (a:bp.ok h x r) (hl:h.le h'):bp.ok h' x r:=⟨a.holders.mono (Rp.rT Holder.aJ) hl,a.who.mono Rp.cm hl⟩
def bp.rp:Rp bp:=⟨3,fun h cs x=>∃ r,cs=bp.cells x r∧bp.ok h x r⟩
theorem bp.aJ:bp.rp.Mono:=fun _ _ _ _ hl ⟨r,e,o⟩=>⟨r,e,o.mono hl⟩
theorem bp.eZ:bp.rp.Good:=⟨bp.aJ,fun _ _ _ ⟨_,e,_⟩=>by cases e;rfl,by decide⟩
structure fT where
 x:Expr
 depth:Int
instance:Inhabited fT:=⟨⟨default,0⟩⟩
structure vg where
 x:cM
def fT.cells (x:fT) (r:vg):List Go.Value:=[.int .i64 x.x.Kind,.int .i64 x.x.N,.int .i64 x.x.No,.string x.x.Name,.slice r.x.iE x.x.L.length r.x.iG,.int .i64 x.depth]
structure fT.ok (h:HF) (x:fT) (r:vg):Prop where
 x:Expr.ok h x.x r.x
theorem fT.ok.mono {h h':HF} {x:fT} {r:vg} (a:fT.ok h x r) (hl:h.le h'):fT.ok h' x r:=⟨a.x.mono hl⟩
def fT.rp:Rp fT:=⟨6,fun h cs x=>∃ r,cs=fT.cells x r∧fT.ok h x r⟩
theorem fT.aJ:fT.rp.Mono:=fun _ _ _ _ hl ⟨r,e,o⟩=>⟨r,e,o.mono hl⟩
theorem fT.eZ:fT.rp.Good:=⟨fT.aJ,fun _ _ _ ⟨_,e,_⟩=>by cases e;rfl,by decide⟩
structure ot where
 e:Int
deriving DecidableEq
instance:Inhabited ot:=⟨⟨0⟩⟩
def ot.cells (x:ot):List Go.Value:=[.int .i64 x.e]
abbrev ot.enc (x:ot):Go.Value:=.agg (ot.cells x).toArray
def ot.rp:Rp ot:=⟨1,fun _ cs x=>cs=ot.cells x⟩
theorem ot.aJ:ot.rp.Mono:=fun _ _ _ _ _ e=>e
theorem ot.eZ:ot.rp.Good:=⟨ot.aJ,fun _ _ _ e=>by cases e;rfl,by decide⟩
structure aS where
 Register:Register
 doc:Document
 known:Int
instance:Inhabited aS:=⟨⟨default,default,0⟩⟩
structure gF where
 Register:ep
 doc:ii
def aS.cells (x:aS) (r:gF):List Go.Value:=.slice r.Register.gQ x.Register.Appoints.length r.Register.gP::.slice r.Register.fm x.Register.Deputies.length r.Register.fj::.slice r.Register.gN x.Register.Interests.length r.Register.gM::.slice r.Register.fJ x.Register.Budgets.length r.Register.fI::.slice r.Register.gq x.Register.Versions.length r.Register.gp::.slice r.Register.iB x.Register.Docs.length r.Register.iA::.slice r.Register.eY x.Register.Approvals.length r.Register.eX::.int .i64 x.doc.No::.int .i64 x.doc.At::.int .i64 x.doc.Kind::.int .i64 x.doc.Value::.int .i64 x.doc.From::.int .i64 x.doc.Until::.slice r.doc.jU x.doc.Parties.length r.doc.jT::.slice r.doc.jy x.doc.Revokes.length r.doc.jx::.slice r.doc.kU x.doc.Needs.length r.doc.kT::.int .u8 (x.doc.Text 0)::.int .u8 (x.doc.Text 1)::.int .u8 (x.doc.Text 2)::.int .u8 (x.doc.Text 3)::.int .u8 (x.doc.Text 4)::.int .u8 (x.doc.Text 5)::.int .u8 (x.doc.Text 6)::.int .u8 (x.doc.Text 7)::.int .u8 (x.doc.Text 8)::.int .u8 (x.doc.Text 9)::.int .u8 (x.doc.Text 10)::.int .u8 (x.doc.Text 11)::.int .u8 (x.doc.Text 12)::.int .u8 (x.doc.Text 13)::.int .u8 (x.doc.Text 14)::.int .u8 (x.doc.Text 15)::.int .u8 (x.doc.Text 16)::.int .u8 (x.doc.Text 17)::.int .u8 (x.doc.Text 18)::.int .u8 (x.doc.Text 19)::.int .u8 (x.doc.Text 20)::.int .u8 (x.doc.Text 21)::.int .u8 (x.doc.Text 22)::.int .u8 (x.doc.Text 23)::.int .u8 (x.doc.Text 24)::.int .u8 (x.doc.Text 25)::.int .u8 (x.doc.Text 26)::.int .u8 (x.doc.Text 27)::.int .u8 (x.doc.Text 28)::.int .u8 (x.doc.Text 29)::.int .u8 (x.doc.Text 30)::.int .u8 (x.doc.Text 31)::.int .i64 x.known::[]
structure aS.ok (h:HF) (x:aS) (r:gF):Prop where
 Register:Register.ok h x.Register r.Register
 doc:Document.ok h x.doc r.doc
theorem aS.ok.mono {h h':HF} {x:aS} {r:gF} (a:aS.ok h x r) (hl:h.le h'):aS.ok h' x r:=⟨a.Register.mono hl,a.doc.mono hl⟩
def aS.rp:Rp aS:=⟨49,fun h cs x=>∃ r,cs=aS.cells x r∧aS.ok h x r⟩
theorem aS.aJ:aS.rp.Mono:=fun _ _ _ _ hl ⟨r,e,o⟩=>⟨r,e,o.mono hl⟩
theorem aS.eZ:aS.rp.Good:=⟨aS.aJ,fun _ _ _ ⟨_,e,_⟩=>by cases e;rfl,by decide⟩
structure gE where
 docs:List Document
 at_:List (Int×Int)
instance:Inhabited gE:=⟨⟨[],[]⟩⟩
structure nF where
 Hd:Option Addr
 Hc:Nat
 Ig:Nat
def gE.cells (x:gE) (r:nF):List Go.Value:=[.slice r.Hd x.docs.length r.Hc,.map (some r.Ig)]
structure gE.ok (h:HF) (x:gE) (r:nF):Prop where
 docs:SlC Document.rp h r.Hd r.Hc x.docs
 at_:ou (Value.int .i64) zi h r.Ig x.at_
theorem gE.ok.mono {h h':HF} {x:gE} {r:nF} (a:gE.ok h x r) (hl:h.le h'):gE.ok h' x r:=⟨a.docs.mono Document.aJ hl,a.at_.mono zi.mono hl⟩
def gE.rp:Rp gE:=⟨2,fun h cs x=>∃ r,cs=gE.cells x r∧gE.ok h x r⟩
theorem gE.aJ:gE.rp.Mono:=fun _ _ _ _ hl ⟨r,e,o⟩=>⟨r,e,o.mono hl⟩
theorem gE.eZ:gE.rp.Good:=⟨gE.aJ,fun _ _ _ ⟨_,e,_⟩=>by cases e;rfl,by decide⟩
end Go.Sg
