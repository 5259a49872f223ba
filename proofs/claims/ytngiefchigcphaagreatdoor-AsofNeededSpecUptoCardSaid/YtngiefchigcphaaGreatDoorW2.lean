import Derived.Laws.StructEq
import Derived.Laws.Cover3
import Derived.Recover
import Derived.Maps.RangeRun
import Derived.Test.YtngiefchigcphaaGreatDoorW1
/- A part of the proof of AsofNeededSpec. -/
set_option linter.unusedVariables false
set_option linter.unusedSimpArgs false
set_option maxRecDepth 100000
namespace Go.Sg
def HF.addAll (h:HF):LH→HF
 | []=>h
 | (b,o)::L=>(h.add b o).addAll L
theorem St.freezeAll {X:Cx} (hM:X.M=[]) {w:World}:∀ {G Q:LH} {h:HF},St X h (G++Q) w→St X (h.addAll G) Q w∧h.le (h.addAll G)∧∀ p∈G,(h.addAll G) p.1=some p.2
 | [],Q,h,s=>⟨s,h.le_refl,fun p hp=>(List.not_mem_nil hp).elim⟩
 | (b,o)::G,Q,h,s=>by
  have hfr:=s.free (b,o) (by simp)
  obtain ⟨h1,h2,h3⟩:=St.freezeAll hM (G:=G) (Q:=Q) (s.freeze (by rw [hM];simp))
  refine ⟨h1,HF.le_trans (HF.sC hfr) h2,fun p hp=>?_⟩
  rcases List.mem_cons.1 hp with rfl | hp
  ·exact h2 _ _ (HF.oX _ _ _)
  ·exact h3 p hp
theorem cM.frozen {α : Type} {R:Rp α} (hm:R.Mono) {E:TypeId} {h h2:HF} {xs:List α} {base:Option Addr} {cap:Nat} {G:LH} (g:cM R E h xs base cap G) (hl:h.le h2) (hG:∀ p∈G,h2 p.1=some p.2):SlC R h2 base cap xs:=by
 rcases g with ⟨rfl,_⟩ | ⟨bk,cl,sp,rfl,hc,_,hcap,hb,rfl⟩
 ·exact SlC.nil
 ·exact ⟨(hc.mono hm hl).slB (hG _ (List.mem_singleton.2 rfl)) hb,hcap⟩
theorem cM.bound {α : Type} {R:Rp α} {E:TypeId} {h:HF} {xs:List α} {base:Option Addr} {cap:Nat} {G:LH} (g:cM R E h xs base cap G):xs.length≤9223372036854775807:=by
 rcases g with ⟨rfl,_⟩ | ⟨bk,cl,sp,rfl,hc,_,_,h1,rfl⟩
 ·simp
 ·exact h1
section freeze
variable {P:Program} {b:Frame} {n:Nat} {k:List Item} {F:List Frame→(Machine→Prop)→Prop} {e:Env} {ds:List Deferred} {X:Cx} {h:HF} {L:LH} {ops:Array Oper} {l:List Oper}
theorem St.freezeMid {w:World} (hM:X.M=[]) {A G Q:LH} (s:St X h (A++(G++Q)) w):St X (h.addAll G) (A++Q) w∧h.le (h.addAll G)∧∀ p∈G,(h.addAll G) p.1=some p.2:=
 St.freezeAll hM (s.perm (by rw [← List.append_assoc,← List.append_assoc];exact List.perm_append_comm.append_right Q))
theorem eI {todo:List Item} {α : Type} {R:Rp α} {E:TypeId} {xs:List α} {base:Option Addr} {cap:Nat} (hm:R.Mono) (A G Q:LH) (hL:L=A++(G++Q)) (hM:X.M=[]) (hG:cM R E h xs base cap G)
  (t:∀ h2,h.le h2→SlC R h2 base cap xs→TT P b n todo F e ds X h2 (A++Q)):TT P b n todo F e ds X h L:=by
 subst hL
 intro w hw
 obtain ⟨h1,h2,h3⟩:=hw.freezeMid hM
 exact t _ h2 (hG.frozen hm h2 h3) w h1
theorem oo {α : Type} {R:Rp α} {E:TypeId} {xs:List α} {base:Option Addr} {cap:Nat} (hm:R.Mono) (A G Q:LH) (hL:L=A++(G++Q)) (hM:X.M=[]) (hG:cM R E h xs base cap G)
  (t:∀ h2,h.le h2→SlC R h2 base cap xs→TO P b n ops l k F e ds X h2 (A++Q)):TO P b n ops l k F e ds X h L:=by
 subst hL
 intro w hw
 obtain ⟨h1,h2,h3⟩:=hw.freezeMid hM
 exact t _ h2 (hG.frozen hm h2 h3) w h1
def dropNth {α : Type}:List α→Nat→List α
 | [],_=>[]
 | _::l,0=>l
 | x::l,i+1=>x::dropNth l i
theorem lK {α : Type}:∀ (l:List α) (i:Nat) (x:α),nth l i=some x→l.Perm (x::dropNth l i)
 | [],_,_,h=>by simp [nth] at h
 | y::l,0,x,h=>by simp [nth] at h;subst h;exact List.Perm.refl _
 | y::l,i+1,x,h=>(List.Perm.cons y (lK l i x h)).trans (List.Perm.swap x y _)
theorem bN (i:Nat) {bk:Nat} {o:Obj} (hi:nth L i=some (bk,o)) (hM:X.M=[]) (t:∀ h2,h.le h2→h2 bk=some o→TO P b n ops l k F e ds X h2 (dropNth L i)):TO P b n ops l k F e ds X h L:=by
 intro w hw
 have h1:=hw.perm (lK L i _ hi)
 exact t _ (HF.sC (h1.free (bk,o) (by simp))) (HF.oX _ _ _) w (h1.freeze (by rw [hM];simp))
theorem eM {todo:List Item} (i:Nat) {bk:Nat} {o:Obj} (hi:nth L i=some (bk,o)) (hM:X.M=[]) (t:∀ h2,h.le h2→h2 bk=some o→TT P b n todo F e ds X h2 (dropNth L i)):TT P b n todo F e ds X h L:=by
 intro w hw
 have h1:=hw.perm (lK L i _ hi)
 exact t _ (HF.sC (h1.free (bk,o) (by simp))) (HF.oX _ _ _) w (h1.freeze (by rw [hM];simp))
end freeze
def retVal:List Value→Value
 | [v]=>v
 | vs=>.tuple vs.toArray
def rD (P:Program) (e:Env) (L:LH):List ResultVar→List Value→Prop
 | [],[]=>True
 | .tmp t::rs,v::vs=>e t=v∧rD P e L rs vs
 | .cell a ty::rs,v::vs=>(∃ i bk cl T fz,nth L i=some (bk,.cells cl.toArray T fz)∧e a=.pointer (some ⟨bk,0,none⟩)∧((tySz P ty=some (cl.length,true)∧v=.agg cl.toArray)∨∃ m,tySz P ty=some (m,false)∧cl=[v]))∧rD P e L rs vs
 | _,_=>False
theorem qG {P:Program} {e:Env} {X:Cx} {h:HF} {L:LH} {fn:Func} {rs:List ResultVar} {vs:List Value} (hr:fn.results=rs.toArray) (hv:rD P e L rs vs) (a:Act) (he:envOf a=e) (w:World) (hw:St X h L w):
  (results fn a.tmps).run P w=.ok (retVal vs) w:=by
 have key:∀ (f:ResultVar→Sem Value),(∀ t,f (.tmp t)=pure (a.tmps.getD t undef))→(∀ x t,f (.cell x t)=do loadVar t (← asAddr (a.tmps.getD x undef))) →
   ∀ (rs:List ResultVar) (vs:List Value),rD P e L rs vs→(rs.mapM f:Sem (List Value)).run P w=.ok vs w:=by
  intro f hf1 hf2 rs
  induction rs with
  | nil=>intro vs hv;cases vs with
   | nil=>simp
   | cons _ _=>exact hv.elim
  | cons r rs ih=>
   intro vs hv
   cases vs with
   | nil=>cases r <;> exact hv.elim
   | cons v vs=>
    cases r with
    | tmp t=>
     obtain ⟨h1,h2⟩:=hv
     have:a.tmps.getD t undef=v:=by rw [← h1,← he];rfl
     simp [ih vs h2,this,Sem.run_bind,hf1]
    | cell x ty=>
     obtain ⟨⟨i,bk,cl,T,fz,hL,hx,hc⟩,h2⟩:=hv
     have hax:a.tmps.getD x undef=.pointer (some ⟨bk,0,none⟩):=by rw [← hx,← he];rfl
     have hl:(loadVar ty ⟨bk,0,none⟩).run P w=.ok v w:=by
      rcases hc with ⟨hT,rfl⟩ | ⟨m,hT,rfl⟩
      ·refine mK hT fun j u hj=>?_
       rw [nH]
       exact hw.cell hL (by rw [gv];exact hj)
      ·exact mL hT (hw.cell hL rfl)
     simp [ih vs h2,hf2,hax,asAddr,hl,Sem.run_bind]
 have h2:∀ (f:ResultVar→Sem Value),(∀ t,f (.tmp t)=pure (a.tmps.getD t undef))→(∀ x t,f (.cell x t)=do loadVar t (← asAddr (a.tmps.getD x undef)))→(fn.results.mapM f:Sem (Array Value)).run P w=.ok vs.toArray w:=by
  intro f hf1 hf2
  rw [hr]
  have:(rs.toArray.mapM f:Sem (Array Value))=List.toArray <$> (rs.mapM f:Sem (List Value)):=by
   rw [← List.mapM_toArray]
  rw [this,Sem.run_map,key f hf1 hf2 rs vs hv]
  rfl
 unfold results
 rw [Sem.run_bind]
 refine (congrArg (fun r=>Result.andThen r _) (h2 _ (fun _=>rfl) (fun _ _=>rfl))).trans ?_
 simp only [Result.andThen_ok,Sem.run_pure]
 congr 1
 cases vs with
 | nil=>rfl
 | cons v vs=>cases vs with
  | nil=>rfl
  | cons u vs=>simp [retVal]
abbrev iq (P:Program) (f:FuncId) (args:List Value) (h:HF) (φ : Value→HF→Prop):Prop:=nI P f args.toArray h [] (fun x h' B=>B=[]∧∃ v,x=.returned v∧φ v h')
abbrev Ke (P:Program) (f:Value) (args:List Value) (h:HF) (φ : Value→HF→Prop):Prop:=ld P f args.toArray h [] (fun x h' B=>B=[]∧∃ v,x=.returned v∧φ v h')
section ends
variable {P:Program} {f:FuncId} {n:Nat} {k:List Item} {e:Env} {X:Cx} {h:HF} {L:LH} {fn:Func} {φ : Value→HF→Prop}
theorem fR {rs:List ResultVar} (vs:List Value) (hf:P.funcs[f]? = some fn) (hr:fn.results=rs.toArray) (hv:rD P e L rs vs) (hφ : φ (retVal vs) h):
  TT P (bodyFrame f) n (.code .ret::k) (lU P X (fun x h' B=>B=[]∧∃ v,x=.returned v∧φ v h')) e [] X h L:=
 mG (v:=retVal vs) hf (fun a he w hw=>qG hr hv a he w hw) (fun _ hw=>hw.sub (List.nil_sublist _)) ⟨rfl,_,rfl,hφ⟩
theorem Cq {rs:List ResultVar} {v:Value} {hh:HF} (vs:List Value) (hf:P.funcs[f]? = some fn) (hr:fn.results=rs.toArray) (hX:X.h0=hh) (hv:rD P e L rs vs) (hvv:retVal vs=v):
  TT P (bodyFrame f) n (.code .ret::k) (lU P X (fun x h' B=>x=.returned v∧h'=hh∧B=[])) e [] X h L:=
 mG (v:=v) hf (fun a he w hw=>hvv ▸ qG hr hv a he w hw) (fun _ hw=>hw.forget) ⟨rfl,hX,rfl⟩
end ends
section steps
variable {P:Program} {b:Frame} {n:Nat} {ops:Array Oper} {F:List Frame→(Machine→Prop)→Prop} {e:Env} {ds:List Deferred} {X:Cx} {h:HF} {L:LH} {K:Env→HF→LH→Prop}
variable {d:Option Nat} {ty:TypeId} {pos:String} {af:Array Edge} {g:Option (Nat×Bool)}
theorem cf {f:FuncId} {as:Array Operand} {ats:Array TypeId} {vs:List Value} {φ : Value→HF→Prop}
  (hc:∀ args w,(callFunc f args).run P w=.ok (.enter f args) w) (hs:iq P f vs h φ) (hvs:as.toList.map e.ev=vs)
  (t':∀ v h',h.le h'→φ v h'→K (pute e d v) h' L)
  (hg:guardB ops e ⟨d,.call ⟨.value (.func f),as,ats⟩,ty,pos,af,g⟩=true:=by rfl):
  Stp P b n ops F ds X ⟨d,.call ⟨.value (.func f),as,ats⟩,ty,pos,af,g⟩ e h L K:=
 E7 (A:=[]) (Fr:=L) hc hvs hs rfl (fun v' h' B hle hR=>by
   obtain ⟨rfl,v,hv,hφ⟩:=hR
   cases hv
   exact t' _ h' hle hφ)
  (fun ch h' B _ hR=>by obtain ⟨_,v,h1,_⟩:=hR;cases h1) hg
def nthI {α : Type} [Inhabited α] (xs:List α) (z:Int):α:=xs.getD z.toNat default
theorem bT {α : Type} [Inhabited α] {xs:List α} {z:Int} (hz:0≤z∧z < (xs.length:Int)):xs[z.toNat]? = some (nthI xs z):=by
 have:z.toNat < xs.length:=by omega
 simp [nthI,List.getD_eq_getElem?_getD,this]
theorem fw {α : Type} [Inhabited α] {xs:List α} {z:Int} (hz:0≤z∧z < (xs.length:Int)):nthI xs z∈xs:=List.mem_of_getElem? (bT hz)
theorem iE {α : Type} [Inhabited α] {xs:List α} {i:Nat} {x:α} (h:xs[i]? = some x):nthI xs (i:Int)=x:=by
 simp [nthI,List.getD_eq_getElem?_getD,h]
theorem vr {α : Type} {R:Rp α} {t E:TypeId} {x ix:Operand} {a:Bool} {base:Option Addr} {m cap:Nat} {xs:List α} {y:α} {z:Int} (hT:P.underlying t=some (.slice E)) (hS:tySz P E=some (R.sz,a))
  (hR:SlB R h base xs) (hz:0≤z∧z < (xs.length:Int)) (hj:xs[z.toNat]? = some y) (hx:e.ev x=.slice base m cap) (hm:m=xs.length) (hix:e.ev ix=.int .i64 z)
  (t':∀ q cs,At h q cs→cs.length=R.sz→R.rep h cs y→K (pute e d (.pointer (some q))) h L)
  (hg:guardB ops e ⟨d,.indexAddr t x ix,ty,pos,af,g⟩=true:=by rfl):Stp P b n ops F ds X ⟨d,.indexAddr t x ix,ty,pos,af,g⟩ e h L K:=by
 obtain ⟨p,cs,rfl,hA,hl,hr⟩:=hR.2 z.toNat y hj
 have hzz:z=(z.toNat:Int):=by omega
 rw [hzz] at hix
 exact fu (Ie hT hS hx hix (by omega)) (t' _ cs hA hl hr) hg
theorem ek {α : Type} {R:Rp α} {enc:α→List Value} {t E:TypeId} {x ix:Operand} {a:Bool} {base:Option Addr} {m cap:Nat} {xs:List α} {y:α} {z:Int} (hR':∀ h cs x,R.rep h cs x→cs=enc x) (hT:P.underlying t=some (.slice E)) (hS:tySz P E=some (R.sz,a))
  (hR:SlB R h base xs) (hz:0≤z∧z < (xs.length:Int)) (hj:xs[z.toNat]? = some y) (hx:e.ev x=.slice base m cap) (hm:m=xs.length) (hix:e.ev ix=.int .i64 z)
  (t':∀ q,At h q (enc y)→K (pute e d (.pointer (some q))) h L)
  (hg:guardB ops e ⟨d,.indexAddr t x ix,ty,pos,af,g⟩=true:=by rfl):Stp P b n ops F ds X ⟨d,.indexAddr t x ix,ty,pos,af,g⟩ e h L K:=
 vr hT hS hR hz hj hx hm hix (fun q cs hA _ hr=>t' q (hR' _ _ _ hr ▸ hA)) hg
end steps
theorem nN {α : Type} {xs:List α} {i:Nat} (h:xs.drop i=[]):decide ((i:Int) < (xs.length:Int))=false:=by
 have:=List.drop_eq_nil_iff.1 h
 rw [decide_eq_false_iff_not];omega
theorem iY {α : Type} {xs r:List α} {i:Nat} {x:α} (h:xs.drop i=x::r):i < xs.length:=by
 rcases Nat.lt_or_ge i xs.length with q | q
 ·exact q
 ·rw [List.drop_eq_nil_of_le q] at h;cases h
theorem uo {α : Type} {xs r:List α} {i:Nat} {x:α} (h:xs.drop i=x::r):decide ((i:Int) < (xs.length:Int))=true:=by
 have:=iY h
 rw [decide_eq_true_iff];omega
theorem u0 {α : Type} {xs r:List α} {i:Nat} {x:α} (h:xs.drop i=x::r):xs[i]? = some x:=by
 have:=congrArg List.head? h
 rw [List.head?_drop] at this
 simpa using this
theorem lL {α : Type} {xs r:List α} {i:Nat} {x:α} (h:xs.drop i=x::r):xs.drop (i+1)=r:=by
 rw [← List.drop_drop,h];rfl
theorem fq {α : Type} {xs r:List α} {i:Nat} {x:α} (h:xs.drop i=x::r):x∈xs:=
 List.mem_of_getElem? (u0 h)
theorem aL {i:Nat} (hb:i < 9223372036854775807):Value.int .i64 (IntKind.i64.wrap ((i:Int)+1))=.int .i64 (((i+1:Nat)):Int):=by
 rw [gG (by omega)]
 simp
theorem Kt {t x:Bool} (h:t=true):true=(t||x):=by rw [h];rfl
theorem Ku {t x:Bool} (h:t=false):x=(t||x):=by rw [h];rfl
theorem bt {α : Type} {c:Bool} {x y:α} (h:c=true):(bif c then x else y)=x:=by rw [h];rfl
theorem bf {α : Type} {c:Bool} {x y:α} (h:c=false):(bif c then x else y)=y:=by rw [h];rfl
theorem nthZ {α : Type} {xs:List α} {i:Nat} {x:α} (h:xs[i]? = some x):0≤(i:Int)∧(i:Int) < (xs.length:Int):=by
 have:=(List.getElem?_eq_some_iff.1 h).1
 omega
theorem au {α : Type} {xs:List α} {i:Nat} {x:α} (h:xs[i]? = some x):xs[(i:Int).toNat]? = some x:=by
 simpa using h
theorem iH {P:Program} {b:Frame} {n:Nat} {k:List Item} {F:List Frame→(Machine→Prop)→Prop} {e:Env} {ds:List Deferred} {X:Cx} {h:HF} {L:LH} {id:Nat} {c:Code} {ι : Type} (sl:ι→List (Nat×Value)) (hh:ι→HF) (LL:ι→LH) (I:ι→Prop)
  (hk:∀ i,I i→∀ e',TT P b n k F (upds e' (sl i)) ds X (hh i) (LL i))
  (hb:(∀ i e',I i→jg e' (sl i)→TT P b n k F e' ds X (hh i) (LL i))→TT P b n (.code c::.inBlock id::k) F e ds X h L):TT P b n (.code (.block id c)::k) F e ds X h L:=
 lW (hb fun i e' hI hr=>Dr (sl i) hr (hk i hI e'))
theorem Dz {α : Type} {R:Rp α} {h:HF} {base:Option Addr} {xs:List α} (s:SlB R h base xs) (l:Nat):SlB R h (base.map (·.add (l * R.sz))) (xs.drop l):=by
 refine ⟨Nat.le_trans (by simp) s.1,fun i x hx=>?_⟩
 rw [List.getElem?_drop] at hx
 obtain ⟨p,cs,rfl,hA,h1,h2⟩:=s.2 _ x hx
 have hsp:p.spot=none:=by
  cases hxs:xs with
  | nil=>rw [hxs] at hx;simp at hx
  | cons y ys=>
   obtain ⟨p',_,hp,⟨_,_,_,_,h3,_⟩,_,_⟩:=s.2 0 y (by rw [hxs];rfl)
   cases hp
   simpa [Addr.add] using h3
 refine ⟨_,cs,rfl,?_,h1,h2⟩
 rw [rk p _ _ hsp,← Nat.add_mul]
 exact hA
theorem Dy {α : Type} {R:Rp α} {h:HF} {base:Option Addr} {xs:List α} (s:SlB R h base xs) (l:Nat):SlB R h base (xs.take l):=by
 refine ⟨Nat.le_trans (by simp;omega) s.1,fun i x hx=>?_⟩
 rw [List.getElem?_take] at hx
 split at hx
 ·exact s.2 i x hx
 ·cases hx
section slices
variable {P:Program} {b:Frame} {n:Nat} {ops:Array Oper} {F:List Frame→(Machine→Prop)→Prop} {e:Env} {ds:List Deferred} {X:Cx} {h:HF} {L:LH} {K:Env→HF→LH→Prop}
variable {d:Option Nat} {ty:TypeId} {pos:String} {af:Array Edge} {g:Option (Nat×Bool)}
theorem DH {α : Type} {R:Rp α} {t E:TypeId} {x lo:Operand} {a:Bool} {base:Option Addr} {m cap:Nat} {xs:List α} {z:Int} (hT:P.underlying t=some (.slice E)) (hS:tySz P E=some (R.sz,a))
  (hR:SlB R h base xs) (hcap:xs.length≤cap) (hz:0≤z∧z≤(xs.length:Int)) (hx:e.ev x=.slice base m cap) (hm:m=xs.length) (hlo:e.ev lo=.int .i64 z)
  (t':∀ base' cap',SlC R h base' cap' (xs.drop z.toNat)→K (pute e d (.slice base' (xs.drop z.toNat).length cap')) h L)
  (hg:guardB ops e ⟨d,.slice t x (some lo) none none,ty,pos,af,g⟩=true:=by rfl):Stp P b n ops F ds X ⟨d,.slice t x (some lo) none none,ty,pos,af,g⟩ e h L K:=by
 subst hm
 have hz2:0≤z∧z≤(xs.length:Int):=hz
 have hs:SlB R h (if cap=z.toNat then base else base.map (·.add (z.toNat * R.sz))) (xs.drop z.toNat):=by
  split
  ·have:xs.drop z.toNat=[]:=List.drop_eq_nil_of_le (by omega)
   rw [this];exact SlB.nil
  ·exact Dz hR _
 have hl:xs.length - z.toNat=(xs.drop z.toNat).length:=by simp
 refine fu (v:=.slice (if cap=z.toNat then base else base.map (·.add (z.toNat * R.sz))) (xs.drop z.toNat).length (cap - z.toNat)) (fun w hw=>?_) (t' _ (cap - z.toNat) ⟨hs,by rw [← hl];omega⟩) hg
 simp [execOp,Instr.sliceAt,Instr.slice,Instr.sliceBounds,Instr.sliceBound,hx,hlo,asIntOf,run_underlying hT,fM hS,hz2]
theorem H4 {α : Type} {R:Rp α} {t E:TypeId} {x hi:Operand} {a:Bool} {base:Option Addr} {m cap:Nat} {xs:List α} {z:Int} (hT:P.underlying t=some (.slice E)) (hS:tySz P E=some (R.sz,a))
  (hR:SlB R h base xs) (hcap:xs.length≤cap) (hz:0≤z∧z≤(xs.length:Int)) (hx:e.ev x=.slice base m cap) (hm:m=xs.length) (hhi:e.ev hi=.int .i64 z)
  (t':∀ base' cap',SlC R h base' cap' (xs.take z.toNat)→K (pute e d (.slice base' (xs.take z.toNat).length cap')) h L)
  (hg:guardB ops e ⟨d,.slice t x none (some hi) none,ty,pos,af,g⟩=true:=by rfl):Stp P b n ops F ds X ⟨d,.slice t x none (some hi) none,ty,pos,af,g⟩ e h L K:=by
 subst hm
 have hz2:0≤z∧z≤(cap:Int):=by omega
 have hl:z.toNat=(xs.take z.toNat).length:=by simp;omega
 refine fu (v:=.slice base (xs.take z.toNat).length cap) (fun w hw=>?_) (t' _ cap ⟨Dy hR _,by rw [← hl];omega⟩) hg
 rw [← hl]
 by_cases h0:cap=0
 ·have hz0:z=0:=by omega
  subst hz0
  simp [execOp,Instr.sliceAt,Instr.slice,Instr.sliceBounds,Instr.sliceBound,hx,hhi,asIntOf,run_underlying hT,fM hS,hz2,h0]
 ·simp [execOp,Instr.sliceAt,Instr.slice,Instr.sliceBounds,Instr.sliceBound,hx,hhi,asIntOf,run_underlying hT,fM hS,hz2,h0,Addr.add]
end slices
end Go.Sg
namespace Go.Sg
theorem CZ {h:HF} {K L:LH} (hs:K.Sublist L):Jst h K h L:=⟨HF.le_refl h,fun _ hp=>hs.subset hp⟩
section
variable {P:Program} {b:Frame} {n:Nat} {ops:Array Oper} {k:List Item} {F:List Frame→(Machine→Prop)→Prop} {ds:List Deferred} {X:Cx}
theorem Stp.mono {o:Oper} {e:Env} {h:HF} {L:LH} {K K':Env→HF→LH→Prop} (hk:∀ e' h' L',K e' h' L'→K' e' h' L') (s:Stp P b n ops F ds X o e h L K):Stp P b n ops F ds X o e h L K':=by
 unfold Stp at s ⊢
 split
 ·rename_i hg
  rw [if_pos hg] at s
  intro w hw
  exact qo.mono (fun v h L=>hk _ h L) (s w hw)
 ·rename_i hg
  rw [if_neg hg] at s
  exact hk _ _ _ s
theorem GP {o:Oper} {e:Env} {h:HF} {L:LH} {K:Env→HF→LH→Prop} (i:Nat) {bk:Nat} {ob:Obj} (hi:nth L i=some (bk,ob)) (hM:X.M=[]) (t:∀ h2,h.le h2→h2 bk=some ob→Stp P b n ops F ds X o e h2 (dropNth L i) K)
  (hg:guardB ops e o=true:=by rfl):Stp P b n ops F ds X o e h L K:=by
 unfold Stp
 rw [if_pos hg]
 intro w hw
 have h1:=hw.perm (lK L i _ hi)
 have:=t _ (HF.sC (h1.free (bk,ob) (by simp))) (HF.oX _ _ _)
 unfold Stp at this
 rw [if_pos hg] at this
 exact this w (h1.freeze (by rw [hM];simp))
theorem jK {o:Oper} {e:Env} {h:HF} {L:LH} {K:Env→HF→LH→Prop} {α : Type} {R:Rp α} {E:TypeId} {xs:List α} {base:Option Addr} {cap:Nat} (hm:R.Mono) (A G Q:LH) (hL:L=A++(G++Q)) (hM:X.M=[]) (hG:cM R E h xs base cap G)
  (t:∀ h2,h.le h2→SlC R h2 base cap xs→Stp P b n ops F ds X o e h2 (A++Q) K) (hg:guardB ops e o=true:=by rfl):Stp P b n ops F ds X o e h L K:=by
 subst hL
 unfold Stp
 rw [if_pos hg]
 intro w hw
 obtain ⟨h1,h2,h3⟩:=hw.freezeMid hM
 have:=t _ h2 (hG.frozen hm h2 h3)
 unfold Stp at this
 rw [if_pos hg] at this
 exact this w h1
theorem kM {h1 h2:HF} {K K2:LH} (hle:h1.le h2) (hK:∀ p∈K,p∈K2):∀ {m:Nat} {dn:List Nat} {e:Env} {h:HF} {L:LH},TA P b n ops k F ds X (Jst h2 K2) m dn e h L→TA P b n ops k F ds X (Jst h1 K) m dn e h L:=by
 intro m
 induction m with
 | zero=>intro dn e h L t;exact t
 | succ m ih=>
  intro dn e h L t
  refine ⟨t.1,fun i hi o ho=>Stp.mono ?_ (t.2 i hi o ho)⟩
  rintro e' h' L' ⟨j,t'⟩
  exact ⟨⟨HF.le_trans hle j.1,fun p hp=>j.2 p (hK p hp)⟩,ih t'⟩
theorem jq {J:HF→LH→Prop} {l:List Oper} {m:Nat} {dn:List Nat} {e:Env} {h:HF} {L:LH} (i j:Nat) {o1 o2:Oper} (hn:nexts l.toArray dn=[i,j]) (h1:nth l i=some o1) (h2:nth l j=some o2)
  (t1:Stp P b n l.toArray F ds X o1 e h L fun e' h' L'=>J h' L'∧TA P b n l.toArray k F ds X J m (i::dn) e' h' L')
  (t2:Stp P b n l.toArray F ds X o2 e h L fun e' h' L'=>J h' L'∧TA P b n l.toArray k F ds X J m (j::dn) e' h' L'):TA P b n l.toArray k F ds X J (m+1) dn e h L:=
 F1 [i,j] hn (by simp) (fun x hx o ho=>by
  simp only [List.mem_cons,List.not_mem_nil,or_false] at hx
  rcases hx with rfl | rfl
  ·rw [h1] at ho;cases ho;exact t1
  ·rw [h2] at ho;cases ho;exact t2)
theorem Dt {J:HF→LH→Prop} {l:List Oper} {m:Nat} {dn:List Nat} {e:Env} {h:HF} {L:LH} (i j q:Nat) {o1 o2 o3:Oper} (hn:nexts l.toArray dn=[i,j,q]) (h1:nth l i=some o1) (h2:nth l j=some o2) (h3:nth l q=some o3)
  (t1:Stp P b n l.toArray F ds X o1 e h L fun e' h' L'=>J h' L'∧TA P b n l.toArray k F ds X J m (i::dn) e' h' L')
  (t2:Stp P b n l.toArray F ds X o2 e h L fun e' h' L'=>J h' L'∧TA P b n l.toArray k F ds X J m (j::dn) e' h' L')
  (t3:Stp P b n l.toArray F ds X o3 e h L fun e' h' L'=>J h' L'∧TA P b n l.toArray k F ds X J m (q::dn) e' h' L'):TA P b n l.toArray k F ds X J (m+1) dn e h L:=
 F1 [i,j,q] hn (by simp) (fun x hx o ho=>by
  simp only [List.mem_cons,List.not_mem_nil,or_false] at hx
  rcases hx with rfl | rfl | rfl
  ·rw [h1] at ho;cases ho;exact t1
  ·rw [h2] at ho;cases ho;exact t2
  ·rw [h3] at ho;cases ho;exact t3)
theorem gC {α : Type} {R:Rp α} (i:Nat) {l:List Oper} {h1:HF} {K:LH} {m d:Nat} {dn:List Nat} {e:Env} {h:HF} {L:LH} {t E ty:TypeId} {pos:String} {af:Array Edge} {g:Option (Nat×Bool)} {x ix:Operand} {a:Bool}
  {base:Option Addr} {len cap:Nat} {xs:List α} {y:α} {z:Int} (hsep:sepAll l.toArray=true) (hJ:Jst h1 K h L) (hT:P.underlying t=some (.slice E)) (hS:tySz P E=some (R.sz,a))
  (hR:SlB R h base xs) (hz:0≤z∧z < (xs.length:Int)) (hj:xs[z.toNat]? = some y) (hx:e.ev x=.slice base len cap) (hm:len=xs.length) (hix:e.ev ix=.int .i64 z) (hi:nth l i=some ⟨some d,.indexAddr t x ix,ty,pos,af,g⟩) (hn:(nexts l.toArray dn).contains i=true)
  (t':∀ q cs,At h q cs→cs.length=R.sz→R.rep h cs y→TA P b n l.toArray k F ds X (Jst h1 K) m (i::dn) (upd e d (.pointer (some q))) h L)
  (hg:guardB l.toArray e ⟨some d,.indexAddr t x ix,ty,pos,af,g⟩=true:=by rfl):TA P b n l.toArray k F ds X (Jst h1 K) (m+1) dn e h L:=by
 obtain ⟨p,cs,rfl,hA,hl,hr⟩:=hR.2 z.toNat y hj
 have hzz:z=(z.toNat:Int):=by omega
 rw [hzz] at hix
 exact lG i hsep hJ hi rfl hn hg (fun h' L' _=>Ie hT hS hx hix (by omega)) (t' _ cs hA hl hr)
theorem cD {α : Type} {R:Rp α} (i:Nat) {enc:α→List Value} {l:List Oper} {h1:HF} {K:LH} {m d:Nat} {dn:List Nat} {e:Env} {h:HF} {L:LH} {t E ty:TypeId} {pos:String} {af:Array Edge} {g:Option (Nat×Bool)} {x ix:Operand} {a:Bool}
  {base:Option Addr} {len cap:Nat} {xs:List α} {y:α} {z:Int} (hsep:sepAll l.toArray=true) (hJ:Jst h1 K h L) (hR':∀ h cs x,R.rep h cs x→cs=enc x) (hT:P.underlying t=some (.slice E)) (hS:tySz P E=some (R.sz,a))
  (hR:SlB R h base xs) (hz:0≤z∧z < (xs.length:Int)) (hj:xs[z.toNat]? = some y) (hx:e.ev x=.slice base len cap) (hm:len=xs.length) (hix:e.ev ix=.int .i64 z) (hi:nth l i=some ⟨some d,.indexAddr t x ix,ty,pos,af,g⟩) (hn:(nexts l.toArray dn).contains i=true)
  (t':∀ q,At h q (enc y)→TA P b n l.toArray k F ds X (Jst h1 K) m (i::dn) (upd e d (.pointer (some q))) h L)
  (hg:guardB l.toArray e ⟨some d,.indexAddr t x ix,ty,pos,af,g⟩=true:=by rfl):TA P b n l.toArray k F ds X (Jst h1 K) (m+1) dn e h L:=
 gC i hsep hJ hT hS hR hz hj hx hm hix hi hn (fun q cs hA _ hr=>t' q (hR' _ _ _ hr ▸ hA)) hg
theorem Bx {α : Type} {R:Rp α} (i:Nat) {l:List Oper} {h1:HF} {K:LH} {m d:Nat} {dn:List Nat} {e:Env} {h:HF} {L:LH} {t E ty:TypeId} {pos:String} {af:Array Edge} {g:Option (Nat×Bool)} {x lo:Operand} {a:Bool}
  {base:Option Addr} {len cap:Nat} {xs:List α} {z:Int} (hsep:sepAll l.toArray=true) (hJ:Jst h1 K h L) (hT:P.underlying t=some (.slice E)) (hS:tySz P E=some (R.sz,a))
  (hR:SlB R h base xs) (hcap:xs.length≤cap) (hz:0≤z∧z≤(xs.length:Int)) (hx:e.ev x=.slice base len cap) (hm:len=xs.length) (hlo:e.ev lo=.int .i64 z) (hi:nth l i=some ⟨some d,.slice t x (some lo) none none,ty,pos,af,g⟩) (hn:(nexts l.toArray dn).contains i=true)
  (t':∀ base' cap',SlC R h base' cap' (xs.drop z.toNat)→TA P b n l.toArray k F ds X (Jst h1 K) m (i::dn) (upd e d (.slice base' (xs.drop z.toNat).length cap')) h L)
  (hg:guardB l.toArray e ⟨some d,.slice t x (some lo) none none,ty,pos,af,g⟩=true:=by rfl):TA P b n l.toArray k F ds X (Jst h1 K) (m+1) dn e h L:=by
 subst hm
 have hs:SlB R h (if cap=z.toNat then base else base.map (·.add (z.toNat * R.sz))) (xs.drop z.toNat):=by
  split
  ·have:xs.drop z.toNat=[]:=List.drop_eq_nil_of_le (by omega)
   rw [this];exact SlB.nil
  ·exact Dz hR _
 have hl:xs.length - z.toNat=(xs.drop z.toNat).length:=by simp
 refine lG (v:=.slice (if cap=z.toNat then base else base.map (·.add (z.toNat * R.sz))) (xs.drop z.toNat).length (cap - z.toNat)) i hsep hJ hi rfl hn hg (fun h' L' _ w hw=>?_) (t' _ (cap - z.toNat) ⟨hs,by rw [← hl];omega⟩)
 simp [execOp,Instr.sliceAt,Instr.slice,Instr.sliceBounds,Instr.sliceBound,hx,hlo,asIntOf,run_underlying hT,fM hS,hz]
theorem Bw {α : Type} {R:Rp α} (i:Nat) {l:List Oper} {h1:HF} {K:LH} {m d:Nat} {dn:List Nat} {e:Env} {h:HF} {L:LH} {t E ty:TypeId} {pos:String} {af:Array Edge} {g:Option (Nat×Bool)} {x hi':Operand} {a:Bool}
  {base:Option Addr} {len cap:Nat} {xs:List α} {z:Int} (hsep:sepAll l.toArray=true) (hJ:Jst h1 K h L) (hT:P.underlying t=some (.slice E)) (hS:tySz P E=some (R.sz,a))
  (hR:SlB R h base xs) (hcap:xs.length≤cap) (hz:0≤z∧z≤(xs.length:Int)) (hx:e.ev x=.slice base len cap) (hm:len=xs.length) (hhi:e.ev hi'=.int .i64 z) (hi:nth l i=some ⟨some d,.slice t x none (some hi') none,ty,pos,af,g⟩) (hn:(nexts l.toArray dn).contains i=true)
  (t':∀ base' cap',SlC R h base' cap' (xs.take z.toNat)→TA P b n l.toArray k F ds X (Jst h1 K) m (i::dn) (upd e d (.slice base' (xs.take z.toNat).length cap')) h L)
  (hg:guardB l.toArray e ⟨some d,.slice t x none (some hi') none,ty,pos,af,g⟩=true:=by rfl):TA P b n l.toArray k F ds X (Jst h1 K) (m+1) dn e h L:=by
 subst hm
 have hz2:0≤z∧z≤(cap:Int):=by omega
 have hl:z.toNat=(xs.take z.toNat).length:=by simp;omega
 refine lG (v:=.slice base (xs.take z.toNat).length cap) i hsep hJ hi rfl hn hg (fun h' L' _ w hw=>?_) (t' _ cap ⟨Dy hR _,by rw [← hl];omega⟩)
 rw [← hl]
 by_cases h0:cap=0
 ·have hz0:z=0:=by omega
  subst hz0
  simp [execOp,Instr.sliceAt,Instr.slice,Instr.sliceBounds,Instr.sliceBound,hx,hhi,asIntOf,run_underlying hT,fM hS,hz2,h0]
 ·simp [execOp,Instr.sliceAt,Instr.slice,Instr.sliceBounds,Instr.sliceBound,hx,hhi,asIntOf,run_underlying hT,fM hS,hz2,h0,Addr.add]
end
end Go.Sg
namespace Go.Sg
theorem mf {α : Type} {l:List α} {i:Nat} {x:α} (h:nth l i=some x):x∈l:=by rw [gv] at h;exact List.mem_of_getElem? h
theorem dp {h:HF} {bk T:Nat} {fz:Nat×Nat} {cl:List Value} (hb:h bk=some (.cells cl.toArray T fz)):At h ⟨bk,0,none⟩ cl:=
 At.zE hb (fun j v hj=>by simpa using hj)
theorem St.down {X:Cx} {h h2:HF} {L:LH} {w:World} (s:St X h2 L w) (hle:h.le h2) (h0:X.h0.le h):St X h L w:=by
 refine ⟨s.os,s.tape,s.output,s.size,s.keep,h0,fun b hb=>?_,fun b o hb=>s.imm b o (hle b o hb),s.own,s.dis,fun p hp=>?_,s.new⟩
 ·have h1:=s.old b hb
  cases hb2:h b with
  | none=>
   cases hb3:X.h0 b with
   | none=>rfl
   | some o=>rw [h0 b o hb3] at hb2;cases hb2
  | some o=>rw [← h1];exact (hle b o hb2).symm
 ·cases hb:h p.1 with
  | none=>rfl
  | some o=>have:=hle _ _ hb;rw [s.free p hp] at this;cases this
theorem kV {P:Program} {b:Frame} {n:Nat} {k:List Item} {F:List Frame→(Machine→Prop)→Prop} {e:Env} {ds:List Deferred} {X:Cx} {h h2 h00:HF} {L:LH} {ops:Array Oper} {l:List Oper}
  (hle:h.le h2) (hX:X.h0=h00) (h0:h00.le h) (t:TO P b n ops l k F e ds X h L):TO P b n ops l k F e ds X h2 L:=
 fun w hw=>t w (hw.down hle (hX ▸ h0))
section runs
variable {P:Program} {e:Env} {X:Cx} {h:HF} {L:LH} {d:Option Nat} {ty:TypeId} {pos:String} {af:Array Edge} {g:Option (Nat×Bool)}
theorem Ig {t u:TypeId} {x y:Operand} {a b:Bool} (hT:P.underlying t=some .bool) (hx:e.ev x=.bool a) (hy:e.ev y=.bool b):∀ w,St X h L w→(execOp e.ev ⟨d,.binOp .eql t x y u,ty,pos,af,g⟩).run P w=.ok (.value (.bool (a==b))) w:=
 fun w _=>by
  have:=run_equalIn_bool' (P:=P) w 9999 t a b hT
  simp [execOp,hx,hy,eqGuard,binOp,Op.equal,Op.maxDepth,this]
theorem KZ {t u:TypeId} {x y:Operand} {k:IntKind} {a b:Int} (hx:e.ev x=.int k a) (hy:e.ev y=.int k b):∀ w,St X h L w→(execOp e.ev ⟨d,.call ⟨.builtin .max,#[x,y],#[t,u]⟩,ty,pos,af,g⟩).run P w=.ok (.value (.int k (max a b))) w:=
 fun w _=>by
  have:(if b > a then b else a)=max a b:=by omega
  simp [execOp,resolve,invoke,builtin,Builtin.max_,Builtin.max2,hx,hy,this]
theorem KY {t u:TypeId} {x y:Operand} {k:IntKind} {a b:Int} (hx:e.ev x=.int k a) (hy:e.ev y=.int k b):∀ w,St X h L w→(execOp e.ev ⟨d,.call ⟨.builtin .min,#[x,y],#[t,u]⟩,ty,pos,af,g⟩).run P w=.ok (.value (.int k (min a b))) w:=
 fun w _=>by
  have:(if b < a then b else a)=min a b:=by omega
  simp [execOp,resolve,invoke,builtin,Builtin.min_,Builtin.min2,hx,hy,this]
end runs
end Go.Sg
namespace Go.Sg
theorem lk {P:Program} {w:World} {bk:Nat} {es:Array MapEntry} {c:Nat} (hb:w.heap[bk]? = some (.map es c)):(getObj bk).run P w=.ok (.map es c) w:=by simp [getObj,Sem.run,hb]
theorem pj {P:Program} {w:World} {bk:Nat} {es:Array MapEntry} {c:Nat} {o:Obj} (hb:w.heap[bk]? = some (.map es c)):(setObj bk o).run P w=.ok () { w with heap:=w.heap.setIfInBounds bk o }:=by simp [setObj,Sem.run,hb]
section pure
variable {κ α : Type} [DecidableEq κ]
def mput:List (κ×α)→κ→α→List (κ×α)
 | [],k,v=>[(k,v)]
 | (k',v')::r,k,v=>if k=k' then (k,v)::r else (k',v')::mput r k v
def mget? : List (κ×α)→κ→Option α
 | [],_=>none
 | (k',v')::r,k=>if k=k' then some v' else mget? r k
def mgetD (m:List (κ×α)) (k:κ) (z:α):α:=(mget? m k).getD z
def mhas (m:List (κ×α)) (k:κ):Bool:=(mget? m k).isSome
def mdel:List (κ×α)→κ→List (κ×α)
 | [],_=>[]
 | (k',v')::r,k=>if k=k' then r else (k',v')::mdel r k
def findIn (k:κ):List κ→List MapEntry→Nat→Option (Nat×Value)
 | k'::l,e::es,i=>if k=k' then some (i,e.val) else findIn k l es (i+1)
 | _,_,_=>none
end pure
structure tW (P:Program) (T:TypeId) {κ : Type} [DecidableEq κ] (enc:κ→Value):Prop where
 check:∀ b a w,(Instr.checkKey b 10000 T (enc a)).run P w=.ok () w
 find:∀ k (l:List κ) (es:List MapEntry) w,es.map (·.key)=l.map enc→(Instr.findKey T (enc k) es).run P w=.ok (findIn k l es 0) w
 bits:∀ a,Instr.sameBits 10000 (enc a) (enc a)=true
section rep
variable {κ α : Type} (enc:κ→Value) (V:HF→Value→α→Prop)
def nf (h:HF):List MapEntry→List (κ×α)→Prop
 | [],[]=>True
 | e::es,(k,v)::m=>e.key=enc k∧V h e.val v∧nf h es m
 | _,_=>False
def GF (h:HF) (o:Obj) (m:List (κ×α)):Prop:=
 ∃ es clock,o=.map es.toArray clock∧nf enc V h es m∧(es.map (·.born)).Pairwise (· < ·)∧∀ e∈es,e.born < clock
def hO (h:HF) (o:Obj) (m:List (κ×α)):Prop:=∃ m',m'.Perm m∧(m'.map (·.1)).Nodup∧GF enc V h o m'
end rep
section perm
variable {κ α : Type} [DecidableEq κ]
theorem zJ {k:κ} {v:α}:∀ {m:List (κ×α)},(m.map (·.1)).Nodup→(mget? m k=some v↔(k,v)∈m)
 | [],_=>by simp [mget?]
 | (k',v')::m,hn=>by
  rw [List.map_cons,List.nodup_cons] at hn
  simp only [mget?]
  by_cases e:k=k'
  ·subst e
   simp only [if_true,Option.some.injEq,List.mem_cons,Prod.mk.injEq,true_and]
   constructor
   ·exact fun h=>.inl h.symm
   ·rintro (h | h)
    ·exact h.symm
    ·exact absurd (List.mem_map_of_mem (f:=Prod.fst) h) hn.1
  ·simp only [e,if_false,List.mem_cons,Prod.mk.injEq,false_and,false_or]
   exact zJ hn.2
theorem G0 {m m':List (κ×α)} (hp:m.Perm m') (hn:(m.map (·.1)).Nodup) (k:κ):mget? m k=mget? m' k:=by
 apply Option.ext
 intro v
 rw [zJ hn,zJ ((hp.map _).nodup_iff.1 hn)]
 exact hp.mem_iff
theorem lJ (k:κ) (v:α):∀ (m:List (κ×α)) (x:κ),x∈(mput m k v).map (·.1)↔x=k∨x∈m.map (·.1)
 | [],x=>by simp [mput]
 | (k',v')::m,x=>by
  simp only [mput]
  split
  ·next e=>subst e;simp
  ·simp only [List.map_cons,List.mem_cons,lJ k v m x]
   constructor
   ·rintro (h | h | h) <;> simp [h]
   ·rintro (h | h | h) <;> simp [h]
theorem jt (k:κ) (v:α):∀ {m:List (κ×α)},(m.map (·.1)).Nodup→((mput m k v).map (·.1)).Nodup
 | [],_=>by simp [mput]
 | (k',v')::m,hn=>by
  rw [List.map_cons,List.nodup_cons] at hn
  simp only [mput]
  split
  ·next e=>subst e;rw [List.map_cons,List.nodup_cons];exact hn
  ·next e=>
   rw [List.map_cons,List.nodup_cons]
   refine ⟨fun h=>?_,jt k v hn.2⟩
   rcases (lJ k v m k').1 h with h | h
   ·exact e h.symm
   ·exact hn.1 h
theorem BU (k:κ) (v:α) {m m':List (κ×α)} (hp:m.Perm m') (hn:(m.map (·.1)).Nodup):(mput m k v).Perm (mput m' k v):=by
 induction hp with
 | nil=>exact List.Perm.refl _
 | cons x p ih=>
  obtain ⟨k',v'⟩:=x
  rw [List.map_cons,List.nodup_cons] at hn
  simp only [mput]
  split
  ·exact List.Perm.cons _ p
  ·exact List.Perm.cons _ (ih hn.2)
 | swap x y l=>
  obtain ⟨a,va⟩:=x
  obtain ⟨b,vb⟩:=y
  simp only [List.map_cons,List.nodup_cons,List.mem_cons,not_or] at hn
  simp only [mput]
  by_cases h1:k=b
  ·have h2:¬ k=a:=fun e=>hn.1.1 (h1.symm.trans e)
   simp only [h1,h2,if_true,if_false]
   rw [if_neg (h1 ▸ h2)]
   exact List.Perm.swap _ _ _
  ·by_cases h2:k=a
   ·simp only [h1,h2,if_true,if_false]
    rw [if_neg (h2 ▸ h1)]
    exact List.Perm.swap _ _ _
   ·simp only [h1,h2,if_false]
    exact List.Perm.swap _ _ _
 | trans p q ih1 ih2=>exact (ih1 hn).trans (ih2 ((p.map _).nodup_iff.1 hn))
theorem BV (v:α):∀ (m:List (κ×α)) (a b:κ),(mput (mput m a v) b v).Perm (mput (mput m b v) a v)
 | [],a,b=>by
  simp only [mput]
  by_cases h:b=a
  ·subst h;simp
  ·have h':¬ a=b:=fun e=>h e.symm
   simp [h,h'];exact List.Perm.swap _ _ _
 | (k,x)::m,a,b=>by
  by_cases ha:a=k
  ·subst ha
   by_cases hb:b=a
   ·subst hb;exact List.Perm.refl _
   ·have hb':¬ a=b:=fun e=>hb e.symm
    simp [mput,hb]
  ·by_cases hb:b=k
   ·subst hb
    simp [mput,ha]
   ·simp only [mput,ha,hb,if_false]
    exact List.Perm.cons _ (BV v m a b)
end perm
def wl {α : Type} (V:HF→Value→α→Prop):Prop:=∀ h h' v x,h.le h'→V h v x→V h' v x
section lemmas
variable {κ α : Type} {enc:κ→Value} {V:HF→Value→α→Prop} {h h':HF}
theorem nf.mono (hV:wl V) (hl:h.le h'):∀ {es:List MapEntry} {m:List (κ×α)},nf enc V h es m→nf enc V h' es m
 | [],[],_=>trivial
 | _::_,(_,_)::_,⟨a,b,c⟩=>⟨a,hV _ _ _ _ hl b,nf.mono hV hl c⟩
 | [],_::_,x=>x.elim
 | _::_,[],x=>x.elim
theorem hO.mono {o:Obj} {m:List (κ×α)} (r:hO enc V h o m) (hV:wl V) (hl:h.le h'):hO enc V h' o m:=by
 obtain ⟨m',hp,hn,es,c,rfl,h1,h2,h3⟩:=r
 exact ⟨m',hp,hn,es,c,rfl,h1.mono hV hl,h2,h3⟩
theorem hO.perm {o:Obj} {m m2:List (κ×α)} (r:hO enc V h o m) (hp:m.Perm m2):hO enc V h o m2:=let ⟨m',p,q⟩:=r;⟨m',p.trans hp,q⟩
theorem hO.nodup {o:Obj} {m:List (κ×α)} (r:hO enc V h o m):(m.map (·.1)).Nodup:=let ⟨_,p,hn,_⟩:=r;(p.map _).nodup_iff.1 hn
theorem hO.nil:hO enc V h (.map #[] 0) ([]:List (κ×α)):=⟨[],.refl _,List.nodup_nil,[],0,rfl,trivial,.nil,fun _ he=>(List.not_mem_nil he).elim⟩
theorem nf.keys:∀ {es:List MapEntry} {m:List (κ×α)},nf enc V h es m→es.map (·.key)=(m.map (·.1)).map enc
 | [],[],_=>rfl
 | e::es,(k,v)::m,⟨a,_,c⟩=>by simp [a,nf.keys c]
 | [],_::_,x=>x.elim
 | _::_,[],x=>x.elim
variable [DecidableEq κ]
theorem nf.found {k:κ}:∀ {es:List MapEntry} {m:List (κ×α)} (j:Nat),nf enc V h es m →
  match findIn k (m.map (·.1)) es j with
  | some (_,v)=>∃ x,mget? m k=some x∧V h v x
  | none=>mget? m k=none
 | [],[],_,_=>rfl
 | e::es,(k',v)::m,j,⟨_,b,c⟩=>by
  simp only [List.map_cons,findIn,mget?]
  by_cases hk:k=k'
  ·simp only [hk,if_true];exact ⟨v,rfl,b⟩
  ·simp only [hk,if_false];exact nf.found (j+1) c
 | [],_::_,_,x=>x.elim
 | _::_,[],_,x=>x.elim
theorem D8 {f:MapEntry→MapEntry} (e:MapEntry) (es:List MapEntry):(e::es).modify 0 f=f e::es:=by simp
theorem D9 {f:MapEntry→MapEntry} (e:MapEntry) (es:List MapEntry) (i:Nat):(e::es).modify (i+1) f=e::es.modify i f:=by simp
theorem nf.put {k:κ} {x:α} {xv:Value} (hx:V h xv x):∀ {es:List MapEntry} {m:List (κ×α)} (j:Nat),nf enc V h es m →
  match findIn k (m.map (·.1)) es j with
  | some (i,_)=>j≤i∧(es[i - j]?).map (·.key)=some (enc k)∧nf enc V h (es.modify (i - j) fun e=>{ e with key:=enc k,val:=xv }) (mput m k x)
  | none=>∀ b,nf enc V h (es++[{ key:=enc k,val:=xv,born:=b }]) (mput m k x)
 | [],[],_,_=>fun b=>⟨rfl,hx,trivial⟩
 | e::es,(k',v)::m,j,⟨a,b,c⟩=>by
  simp only [List.map_cons,findIn,mput]
  by_cases hk:k=k'
  ·simp only [hk,if_true]
   refine ⟨Nat.le_refl _,?_,?_⟩
   ·simp [a]
   ·rw [Nat.sub_self,D8];exact ⟨rfl,hx,c⟩
  ·simp only [hk,if_false]
   have ih:=nf.put (k:=k) hx (j+1) c
   cases hf:findIn k (m.map (·.1)) es (j+1) with
   | none=>rw [hf] at ih;exact fun b'=>⟨a,b,ih b'⟩
   | some p=>
    obtain ⟨i,u⟩:=p
    rw [hf] at ih
    obtain ⟨h1,h2,h3⟩:=ih
    have e1:i - j=(i - (j+1))+1:=by omega
    refine ⟨by omega,?_,?_⟩
    ·rw [e1];simpa using h2
    ·rw [e1,D9];exact ⟨a,b,h3⟩
 | [],_::_,_,x=>x.elim
 | _::_,[],_,x=>x.elim
theorem sx {k xv:Value}:∀ (es:List MapEntry) (i:Nat),(es.modify i fun e=>{ e with key:=k,val:=xv }).map (·.born)=es.map (·.born)
 | [],i=>by simp
 | e::es,0=>by simp
 | e::es,i+1=>by simp [sx es i]
theorem yY {P:Program} {t T E:TypeId} {k:κ} {x:α} {xv:Value} {m:List (κ×α)} {o:Obj} {bk:Nat} {w:World} (hT:P.underlying t=some (.map T E)) (hK:tW P T enc) (hb:w.heap[bk]? = some o)
  (hm:GF enc V h o m) (hx:V h xv x):∃ o',(Instr.mapUpdate t (.map (some bk)) (enc k) xv).run P w=.ok () { w with heap:=w.heap.setIfInBounds bk o' }∧GF enc V h o' (mput m k x):=by
 obtain ⟨es,c,rfl,h1,h2,h3⟩:=hm
 have hf:=hK.find k (m.map (·.1)) es w h1.keys
 have hp:=h1.put (k:=k) hx 0
 cases hr:findIn k (m.map (·.1)) es 0 with
 | none=>
  rw [hr] at hf hp
  refine ⟨.map (es++[({ key:=enc k,val:=xv,born:=c }:MapEntry)]).toArray (c+1),?_,_,_,rfl,hp c,?_,?_⟩
  ·simp only [Instr.mapUpdate,Sem.run_bind,run_underlying hT,Result.andThen_ok,lk hb,hK.check,hf,pj hb]
   simp
  ·rw [List.map_append,List.pairwise_append]
   refine ⟨h2,by simp,?_⟩
   intro a ha b hb'
   simp at hb' ha
   obtain ⟨e,he,rfl⟩:=ha
   subst hb';exact h3 e he
  ·intro e he
   rcases List.mem_append.1 he with he | he
   ·exact Nat.lt_succ_of_lt (h3 e he)
   ·simp at he;subst he;exact Nat.lt_succ_self _
 | some p=>
  obtain ⟨i,u⟩:=p
  rw [hr] at hf hp
  obtain ⟨_,hk,hp⟩:=hp
  rw [Nat.sub_zero] at hp hk
  refine ⟨.map (es.modify i fun e=>{ e with key:=enc k,val:=xv }).toArray c,?_,_,_,rfl,hp,?_,?_⟩
  ·have hke:((es[i]?).map (·.key)).getD (enc k)=enc k:=by rw [hk];rfl
   simp only [Instr.mapUpdate,Sem.run_bind,run_underlying hT,Result.andThen_ok,lk hb,hK.check,hf]
   simp only [List.getElem?_toArray,hke,Instr.keyThatStays,hK.bits,if_true,Sem.run_pure,Result.andThen_ok,pj hb]
   simp
  ·rw [sx];exact h2
  ·intro e he
   have:e.born∈(es.modify i fun e=>{ e with key:=enc k,val:=xv }).map (·.born):=List.mem_map_of_mem he
   rw [sx] at this
   obtain ⟨e',he',h4⟩:=List.mem_map.1 this
   rw [← h4];exact h3 e' he'
theorem DL {P:Program} {t T E:TypeId} {k:κ} {m:List (κ×α)} {o:Obj} {bk:Nat} {w:World} {z:α} {zv:Value} (ok:Bool) (hT:P.underlying t=some (.map T E)) (hK:tW P T enc) (hb:w.heap[bk]? = some o)
  (hm:GF enc V h o m) (hz:(zeroValue E).run P w=.ok zv w) (hzv:V h zv z):∃ v,(Instr.lookup t (.map (some bk)) (enc k) ok).run P w=.ok (if ok then .tuple #[v,.bool (mhas m k)] else v) w∧V h v (mgetD m k z):=by
 obtain ⟨es,c,rfl,h1,h2,h3⟩:=hm
 have hf:=hK.find k (m.map (·.1)) es w h1.keys
 have hp:=h1.found (k:=k) 0
 cases hr:findIn k (m.map (·.1)) es 0 with
 | none=>
  rw [hr] at hf hp
  refine ⟨zv,?_,by simp only [mgetD,hp];exact hzv⟩
  cases ok <;> simp [Instr.lookup,run_underlying hT,lk hb,hK.check,hf,hz,mhas,hp]
 | some p=>
  obtain ⟨i,u⟩:=p
  rw [hr] at hf hp
  obtain ⟨x,hx,hv⟩:=hp
  refine ⟨u,?_,by simp only [mgetD,hx];exact hv⟩
  cases ok <;> simp [Instr.lookup,run_underlying hT,lk hb,hK.check,hf,mhas,hx]
theorem ud {P:Program} {t T E:TypeId} {k:κ} {x:α} {xv:Value} {m:List (κ×α)} {o:Obj} {bk:Nat} {w:World} (hT:P.underlying t=some (.map T E)) (hK:tW P T enc) (hb:w.heap[bk]? = some o)
  (hm:hO enc V h o m) (hx:V h xv x):∃ o',(Instr.mapUpdate t (.map (some bk)) (enc k) xv).run P w=.ok () { w with heap:=w.heap.setIfInBounds bk o' }∧hO enc V h o' (mput m k x):=by
 obtain ⟨m',hp,hn,hm⟩:=hm
 obtain ⟨o',h1,h2⟩:=yY (k:=k) hT hK hb hm hx
 exact ⟨o',h1,_,BU k x hp hn,jt k x hn,h2⟩
theorem E8 {P:Program} {t T E:TypeId} {k:κ} {m:List (κ×α)} {o:Obj} {bk:Nat} {w:World} {z:α} {zv:Value} (ok:Bool) (hT:P.underlying t=some (.map T E)) (hK:tW P T enc) (hb:w.heap[bk]? = some o)
  (hm:hO enc V h o m) (hz:(zeroValue E).run P w=.ok zv w) (hzv:V h zv z):∃ v,(Instr.lookup t (.map (some bk)) (enc k) ok).run P w=.ok (if ok then .tuple #[v,.bool (mhas m k)] else v) w∧V h v (mgetD m k z):=by
 obtain ⟨m',hp,hn,hm⟩:=hm
 have:=DL (k:=k) ok hT hK hb hm hz hzv
 simpa only [mhas,mgetD,G0 hp hn k] using this
end lemmas
def zeroV (P:Program) (t:TypeId):Option Value:=(P.info? t).bind (·.zero)
theorem ji {P:Program} {t:TypeId} {z:Value} (hz:zeroV P t=some z) (w:World):(zeroValue t).run P w=.ok z w:=by
 unfold zeroV at hz
 cases hi:P.info? t with
 | none=>rw [hi] at hz;cases hz
 | some i=>
  rw [hi] at hz
  simp only [Option.bind_some] at hz
  simp [zeroValue,typeInfo,hi,hz]
theorem xN {k:Int}:∀ (l:List Int) (es:List MapEntry) (j:Nat),es.map (·.key)=l.map (Value.int .i64)→Instr.findNow (.int .i64) (.int .i64 k) es j=some (findIn k l es j)
 | [],[],_,_=>rfl
 | k'::l,e::es,j,hh=>by
  simp at hh
  simp only [Instr.findNow,Instr.sameNow,hh.1,findIn,if_true]
  by_cases hk:k=k'
  ·simp [hk]
  ·have:(k==k')=false:=by simpa using hk
   simp only [this,hk,if_false];exact xN l es (j+1) (by simpa using hh.2)
 | [],_::_,_,hh=>by simp at hh
 | _::_,[],_,hh=>by simp at hh
theorem eE {P:Program} {T:TypeId} (hT:P.underlying T=some (.int .i64)):tW P T (Value.int .i64) where
 check:=fun b a w=>by
  rw [show (10000:Nat)=9999+1 from rfl,Instr.checkKey]
  simp [run_underlying hT]
 find:=fun k l es w hh=>by simp [Instr.findKey,run_underlying hT,xN l es 0 hh]
 bits:=fun a=>by simp [Instr.sameBits]
theorem Ea {P:Program} {T:TypeId} {κ : Type} [DecidableEq κ] {enc:κ→Value} {fs:Array Field} (hT:P.underlying T=some (.struct fs)) (hc:∀ b a w,(Instr.checkKey b 10000 T (enc a)).run P w=.ok () w)
  (he:∀ a b w,(Op.equal T (enc a) (enc b)).run P w=.ok (decide (a=b)) w) (hb:∀ a,Instr.sameBits 10000 (enc a) (enc a)=true):tW P T enc where
 check:=hc
 bits:=hb
 find:=fun k l es w hh=>by
  have ask:∀ (l:List κ) (es:List MapEntry) (j:Nat),es.map (·.key)=l.map enc→(Instr.findAsking T (enc k) es j).run P w=.ok (findIn k l es j) w:=by
   intro l
   induction l with
   | nil=>intro es j hh;cases es with
    | nil=>simp [Instr.findAsking,findIn]
    | cons _ _=>simp at hh
   | cons k' l ih=>
    intro es j hh
    cases es with
    | nil=>simp at hh
    | cons e es=>
     simp at hh
     by_cases hk:k=k'
     ·simp [Instr.findAsking,hh.1,he,findIn,hk]
     ·simp [Instr.findAsking,hh.1,he,findIn,hk,ih es (j+1) (by simpa using hh.2)]
  cases es with
  | nil=>
   cases l with
   | nil=>simp [Instr.findKey,run_underlying hT,Instr.findNow,findIn]
   | cons _ _=>simp at hh
  | cons e es=>
   have:Instr.findNow (.struct fs) (enc k) (e::es) 0=none:=by simp [Instr.findNow,Instr.sameNow]
   simp [Instr.findKey,run_underlying hT,this,ask l (e::es) 0 hh]
def C9 (_:HF) (v:Value) (x:Int):Prop:=v=.int .i64 x
def iV (_:HF) (v:Value) (x:Bool):Prop:=v=.bool x
def kR {α : Type} (R:Rp α) (h:HF) (v:Value) (x:α):Prop:=∃ cs,v=.agg cs.toArray∧R.rep h cs x
def VSl {α : Type} (R:Rp α) (h:HF) (v:Value) (x:List α):Prop:=∃ b c,v=.slice b x.length c∧SlC R h b c x
theorem C9.mono:wl C9:=fun _ _ _ _ _ e=>e
theorem iV.mono:wl iV:=fun _ _ _ _ _ e=>e
theorem kR.mono {α : Type} {R:Rp α} (hm:R.Mono):wl (kR R):=fun _ _ _ _ hl ⟨cs,e,r⟩=>⟨cs,e,hm _ _ _ _ hl r⟩
theorem VSl.mono {α : Type} {R:Rp α} (hm:R.Mono):wl (VSl R):=fun _ _ _ _ hl ⟨b,c,e,r⟩=>⟨b,c,e,r.mono hm hl⟩
section steps
variable {P:Program} {b:Frame} {n:Nat} {ops:Array Oper} {F:List Frame→(Machine→Prop)→Prop} {e:Env} {ds:List Deferred} {X:Cx} {h:HF} {L:LH} {K:Env→HF→LH→Prop}
variable {d:Option Nat} {ty:TypeId} {pos:String} {af:Array Edge} {g:Option (Nat×Bool)}
variable {κ α : Type} {enc:κ→Value} {V:HF→Value→α→Prop}
theorem pi {t:TypeId} (t':∀ bk,K (pute e d (.map (some bk))) h ((bk,.map #[] 0)::L))
  (hg:guardB ops e ⟨d,.makeMap t none,ty,pos,af,g⟩=true:=by rfl):Stp P b n ops F ds X ⟨d,.makeMap t none,ty,pos,af,g⟩ e h L K:=
 gW hg fun w hw=>⟨_,_,h,_,by simp [execOp,Instr.makeMap],hw.alloc _,t' _⟩
variable [DecidableEq κ]
theorem ki (i:Nat) {t T E:TypeId} {mo ko xo:Operand} {bk:Nat} {o:Obj} {m:List (κ×α)} {k:κ} {x:α} (hT:P.underlying t=some (.map T E)) (hK:tW P T enc) (hL:nth L i=some (bk,o)) (hm:hO enc V h o m)
  (hmo:e.ev mo=.map (some bk)) (hko:e.ev ko=enc k) (hx:V h (e.ev xo) x)
  (t':∀ o',hO enc V h o' (mput m k x)→K e h (setNth L i (bk,o')))
  (hg:guardB ops e ⟨none,.mapUpdate t mo ko xo,ty,pos,af,g⟩=true:=by rfl):Stp P b n ops F ds X ⟨none,.mapUpdate t mo ko xo,ty,pos,af,g⟩ e h L K:=by
 unfold Stp
 rw [if_pos hg]
 intro w hw
 have hb:w.heap[bk]? = some o:=by
  have h2:=hL
  rw [gv] at h2
  exact hw.own _ (List.mem_of_getElem? h2)
 obtain ⟨o',hr,hm'⟩:=ud (k:=k) hT hK hb hm hx
 have:(execOp e.ev ⟨none,.mapUpdate t mo ko xo,ty,pos,af,g⟩).run P w=.ok .skip { w with heap:=w.heap.setIfInBounds bk o' }:=by
  simp [execOp,hmo,hko,hr]
 rw [this]
 exact ⟨h,_,hw.write hL _,t' o' hm'⟩
theorem yw {t T E:TypeId} {mo ko:Operand} {bk:Nat} {o:Obj} {m:List (κ×α)} {k:κ} {z:α} {zv:Value} (ok:Bool) (hT:P.underlying t=some (.map T E)) (hK:tW P T enc) (hb:∀ w,St X h L w→w.heap[bk]? = some o) (hm:hO enc V h o m)
  (hz:∀ w,(zeroValue E).run P w=.ok zv w) (hzv:V h zv z) (hmo:e.ev mo=.map (some bk)) (hko:e.ev ko=enc k)
  (t':∀ v,V h v (mgetD m k z)→K (pute e d (if ok then .tuple #[v,.bool (mhas m k)] else v)) h L)
  (hg:guardB ops e ⟨d,.lookup t mo ko ok,ty,pos,af,g⟩=true):Stp P b n ops F ds X ⟨d,.lookup t mo ko ok,ty,pos,af,g⟩ e h L K:=
 gW hg fun w hw=>by
  obtain ⟨v,hr,hv⟩:=E8 (k:=k) ok hT hK (hb w hw) hm (hz w) hzv
  exact ⟨_,w,h,L,by simp [execOp,hmo,hko,hr],hw,t' v hv⟩
theorem yX (i:Nat) {t T E:TypeId} {mo ko:Operand} {bk:Nat} {o:Obj} {m:List (κ×α)} {k:κ} {z:α} {zv:Value} (hT:P.underlying t=some (.map T E)) (hK:tW P T enc) (hL:nth L i=some (bk,o)) (hm:hO enc V h o m)
  (hz:∀ w,(zeroValue E).run P w=.ok zv w) (hzv:V h zv z) (hmo:e.ev mo=.map (some bk)) (hko:e.ev ko=enc k)
  (t':∀ v,V h v (mgetD m k z)→K (pute e d v) h L)
  (hg:guardB ops e ⟨d,.lookup t mo ko false,ty,pos,af,g⟩=true:=by rfl):Stp P b n ops F ds X ⟨d,.lookup t mo ko false,ty,pos,af,g⟩ e h L K:=
 yw false hT hK (fun w hw=>by rw [gv] at hL;exact hw.own _ (List.mem_of_getElem? hL)) hm hz hzv hmo hko t' hg
theorem yW (i:Nat) {t T E:TypeId} {mo ko:Operand} {bk:Nat} {o:Obj} {m:List (κ×α)} {k:κ} {z:α} {zv:Value} (hT:P.underlying t=some (.map T E)) (hK:tW P T enc) (hL:nth L i=some (bk,o)) (hm:hO enc V h o m)
  (hz:∀ w,(zeroValue E).run P w=.ok zv w) (hzv:V h zv z) (hmo:e.ev mo=.map (some bk)) (hko:e.ev ko=enc k)
  (t':∀ v,V h v (mgetD m k z)→K (pute e d (.tuple #[v,.bool (mhas m k)])) h L)
  (hg:guardB ops e ⟨d,.lookup t mo ko true,ty,pos,af,g⟩=true:=by rfl):Stp P b n ops F ds X ⟨d,.lookup t mo ko true,ty,pos,af,g⟩ e h L K:=
 yw true hT hK (fun w hw=>by rw [gv] at hL;exact hw.own _ (List.mem_of_getElem? hL)) hm hz hzv hmo hko t' hg
theorem pX {t T E:TypeId} {mo ko:Operand} {bk:Nat} {o:Obj} {m:List (κ×α)} {k:κ} {z:α} {zv:Value} (hT:P.underlying t=some (.map T E)) (hK:tW P T enc) (hL:h bk=some o) (hm:hO enc V h o m)
  (hz:∀ w,(zeroValue E).run P w=.ok zv w) (hzv:V h zv z) (hmo:e.ev mo=.map (some bk)) (hko:e.ev ko=enc k)
  (t':∀ v,V h v (mgetD m k z)→K (pute e d v) h L)
  (hg:guardB ops e ⟨d,.lookup t mo ko false,ty,pos,af,g⟩=true:=by rfl):Stp P b n ops F ds X ⟨d,.lookup t mo ko false,ty,pos,af,g⟩ e h L K:=
 yw false hT hK (fun w hw=>hw.imm _ _ hL) hm hz hzv hmo hko t' hg
theorem xp {t T E:TypeId} {mo ko:Operand} {bk:Nat} {o:Obj} {m:List (κ×α)} {k:κ} {z:α} {zv:Value} (hT:P.underlying t=some (.map T E)) (hK:tW P T enc) (hL:h bk=some o) (hm:hO enc V h o m)
  (hz:∀ w,(zeroValue E).run P w=.ok zv w) (hzv:V h zv z) (hmo:e.ev mo=.map (some bk)) (hko:e.ev ko=enc k)
  (t':∀ v,V h v (mgetD m k z)→K (pute e d (.tuple #[v,.bool (mhas m k)])) h L)
  (hg:guardB ops e ⟨d,.lookup t mo ko true,ty,pos,af,g⟩=true:=by rfl):Stp P b n ops F ds X ⟨d,.lookup t mo ko true,ty,pos,af,g⟩ e h L K:=
 yw true hT hK (fun w hw=>hw.imm _ _ hL) hm hz hzv hmo hko t' hg
end steps
end Go.Sg
namespace Go.Sg
def Itr {α : Type} (P:Program) (it:Value) (val:α→HF→List Value→Prop) (xs:List α) (h:HF):Prop:=
 ∃ (f0:FuncId) (cap:List Value),it=.func (.func f0) #[] cap.toArray∧(∀ args w,(callFunc f0 args).run P w=.ok (.enter f0 args) w)∧Hn P it val xs h
theorem Itr.mono {α : Type} {P:Program} {it:Value} {val:α→HF→List Value→Prop} {xs:List α} {h h':HF} (i:Itr P it val xs h) (hl:h.le h'):Itr P it val xs h':=
 let ⟨f0,cap,a,b,c⟩:=i;⟨f0,cap,a,b,c.mono hl⟩
theorem wN {α : Type} {P:Program} {f:FuncId} {cap:List Value} {val:α→HF→List Value→Prop} {xs:List α} {h:HF} (hc:∀ args w,(callFunc f args).run P w=.ok (.enter f args) w)
  (hr:∀ (yf:Fn) (ya yb:Array Value) (C:List α→HF→LH→Prop) (Sp:HF→LH→Prop) (Pn:List PanicEntry→HF→LH→Prop) (h':HF) (A:LH),h.le h'→(∀ done h1 h2 B,HF.le h1 h2→C done h1 B→C done h2 B)→(∀ h1 h2 B,HF.le h1 h2→Sp h1 B→Sp h2 B)→(∀ ch h1 h2 B,HF.le h1 h2→Pn ch h1 B→Pn ch h2 B)→C [] h' A →
   (∀ done x rest vs h'' B,xs=done++x::rest→h'.le h''→C done h'' B→val x h'' vs→ld P (.func yf ya yb) vs.toArray h'' B (YR C Sp Pn done x))→nI P f (.func yf ya yb::cap).toArray h' A (ItR C Sp Pn xs)):
  Itr P (.func (.func f) #[] cap.toArray) val xs h:=⟨f,cap,rfl,hc,JE hc hr⟩
theorem tl (r:Nat) (o:Obj) (L M:LH):((r,o)::(L++M)).Perm (L++(r,o)::M):=List.perm_middle.symm
abbrev rdH (l r:Nat) (lp:Loop) (L:LH):LH:=(l,.loop { lp with state:=.busy })::(r,.deferred (some []))::L
theorem kd {α ι : Type} {P:Program} {f:FuncId} {fn:Func} {n:Nat} {k:List Item} {F:List Frame→(Machine→Prop)→Prop} {e:Env} {X:Cx} {h:HF} {L:LH} {g:Operand} {ps:List Tmp} {assign body:Code}
  {val:α→HF→List Value→Prop} {xs:List α} {it:Value} (rs:List Nat) (hh:ι→HF) (LL:ι→LH) (I:List α→ι→Prop) (JR JX:ι→Prop) (xid:Nat) (Q:List PanicEntry→HF→LH→Prop) (i₀ : ι)
  (hf:P.funcs[f]? = some fn) (hgv:e.ev g=it) (hit:Itr P it val xs h) (hps:ps.all (fun p=>Nat.blt p n)=true) (hval:∀ x h vs,val x h vs→vs.length=ps.length) (hQm:∀ ch h1 h2 B,HF.le h1 h2→Q ch h1 B→Q ch h2 B) (hh0:hh i₀=h) (hL0:L=LL i₀) (h0:I xs i₀)
  (round:∀ (l r:Nat) (lp:Loop) (x:α) (rest:List α) (vs:List Value) (i:ι) (h':HF) (X':Cx) (FR:List Frame→(Machine→Prop)→Prop),I (x::rest) i→h.le h'→(hh i).le h'→val x h' vs→X'.h0=h'→(∀ b∈X'.M,b < X'.w0.heap.size)→lp.state=.ready →
   (∀ i' e' h2,I rest i'→(hh i').le h2→TT P (roundFrame l f) n [] FR e' [] X' h2 (rdH l r lp (LL i'++markB rs))) →
   (∀ i' e' h2 k',JR i'→(hh i').le h2→TT P (roundFrame l f) n (.code .ret::k') FR e' [] X' h2 (rdH l r lp (LL i'++markB rs))) →
   (∀ i' e' h2 k',JX i'→(hh i').le h2→exitTo xid k'=none→TT P (roundFrame l f) n (.code (.exit xid)::k') FR e' [] X' h2 (rdH l r lp (LL i'++markB rs))) →
   (∀ ch e' h' L',Q ch h' L'→TP P (roundFrame l f) n ch FR e' [] X' h' (rdH l r lp (L'++markB rs))) →
   TT P (roundFrame l f) n [.code assign,.beginRound,.code body] FR (setParams e ps vs) [] X' h' ((l,.loop lp)::(r,.deferred (some []))::(LL i++markB rs)))
  (next:∀ r i h',I [] i→(hh i).le h'→h.le h'→TT P (bodyFrame f) n k F e (marks (r::rs)) X h' (LL i++markB (r::rs)))
  (jret:∀ r i h',JR i→(hh i).le h'→h.le h'→TT P (bodyFrame f) n (.code .ret::k) F e (marks (r::rs)) X h' (LL i++markB (r::rs)))
  (jexit:∀ r i h',JX i→(hh i).le h'→h.le h'→TT P (bodyFrame f) n (.code (.exit xid)::k) F e (marks (r::rs)) X h' (LL i++markB (r::rs)))
  (pan:∀ r ch h' L',Q ch h' L'→h.le h'→TP P (bodyFrame f) n ch F e (marks (r::rs)) X h' (L'++markB (r::rs))):
  TT P (bodyFrame f) n (.code (.rangeFunc g ps.toArray assign body)::k) F e (marks rs) X h (L++markB rs):=by
 obtain ⟨f0,cap,rfl,hc0,hit⟩:=hit
 refine HR (val:=val) (xs:=xs)
  (fun done h' B=>∃ rest i,xs=done++rest∧(hh i).le h'∧B=LL i++markB rs∧I rest i)
  (fun c h' B=>∃ i,(hh i).le h'∧B=LL i++markB rs∧((c=.ret∧JR i)∨(c=.exit xid∧JX i)))
  (fun ch h' B=>∃ L',B=L'++markB rs∧Q ch h' L') hgv hc0 hit hps hval ?_ ?_ ?_ ⟨xs,i₀,rfl,hh0 ▸ HF.le_refl _,by rw [hL0],h0⟩ ?_ ?_ ?_ ?_
 ·rintro done h1 h2 B hl ⟨rest,i,a,b,c⟩;exact ⟨rest,i,a,HF.le_trans b hl,c⟩
 ·rintro c h1 h2 B hl ⟨i,a,b⟩;exact ⟨i,HF.le_trans a hl,b⟩
 ·rintro ch h1 h2 B hl ⟨L',e1,a⟩;exact ⟨L',e1,hQm _ _ _ _ hl a⟩
 ·rintro l r lp done x rest vs h' L' X' hxs hle ⟨rest',i,hxs',hhi,rfl,hI⟩ hv hlp hX' hXM
  have hrest:rest'=x::rest:=List.append_cancel_left (hxs'.symm.trans hxs)
  subst hrest
  refine round l r lp x rest vs i h' X' _ hI hle hhi hv hX' hXM hlp ?_ ?_ ?_ ?_
  ·intro i' e' h2 hI' hl
   exact CD rfl ⟨rest,i',by rw [hxs];simp,hl,rfl,hI'⟩
  ·intro i' e' h2 k' hJ hl
   exact Kn rfl ⟨i',hl,rfl,.inl ⟨rfl,hJ⟩⟩
  ·intro i' e' h2 k' hJ hl hx
   exact Jx hx rfl ⟨i',hl,rfl,.inr ⟨rfl,hJ⟩⟩
  ·intro ch e' h' L' hQ
   exact Ko hf ⟨L',rfl,hQ⟩
 ·rintro r h' L' hle ⟨rest,i,hxs,hl,rfl,hI⟩
  have hrest:rest=[]:=by
   have h2:=congrArg List.length hxs
   rw [List.length_append] at h2
   exact List.length_eq_zero_iff.1 (by omega)
  subst hrest
  exact kC (tl r _ _ _) (next r i h' hI hl hle)
 ·rintro r c h' L' hle ⟨i,hl,rfl,⟨rfl,hJ⟩ | ⟨rfl,hJ⟩⟩
  ·exact kC (tl r _ _ _) (jret r i h' hJ hl hle)
  ·exact kC (tl r _ _ _) (jexit r i h' hJ hl hle)
 ·rintro r ch h' L' hle ⟨L',rfl,hQ⟩
  exact FX (tl r _ _ _) (pan r ch h' L' hQ hle)
section yield
variable {P:Program} {b:Frame} {n:Nat} {ops:Array Oper} {F:List Frame→(Machine→Prop)→Prop} {e:Env} {ds:List Deferred} {X:Cx} {h:HF} {L:LH} {K:Env→HF→LH→Prop}
variable {d:Option Nat} {ty:TypeId} {pos:String} {af:Array Edge} {g:Option (Nat×Bool)}
theorem me {α : Type} (Fr A:LH) {C:List α→HF→LH→Prop} {Sp:HF→LH→Prop} {Pn:List PanicEntry→HF→LH→Prop} {done:List α} {x:α} {t:Nat} {as:Array Operand} {ats:Array TypeId} {fv:Value} {vs:List Value}
  (hL:L=Fr++A) (hs:ld P fv vs.toArray h A (YR C Sp Pn done x)) (hf:e t=fv) (hvs:as.toList.map e.ev=vs)
  (yes:∀ h' B,h.le h'→C (done++[x]) h' B→K (pute e d (.bool true)) h' (Fr++B))
  (no:∀ h' B,h.le h'→Sp h' B→K (pute e d (.bool false)) h' (Fr++B))
  (pan:∀ ch h' B,h.le h'→Pn ch h' B→∀ e',TP P b n ch F e' ds X h' (Fr++B))
  (hg:guardB ops e ⟨d,.call ⟨.value (.tmp t),as,ats⟩,ty,pos,af,g⟩=true:=by rfl):
  Stp P b n ops F ds X ⟨d,.call ⟨.value (.tmp t),as,ats⟩,ty,pos,af,g⟩ e h L K:=by
 refine vt Fr A hL hs hf hvs ?_ ?_ hg
 ·rintro v h' B hle (⟨e1,hC⟩ | ⟨e1,hS⟩ | ⟨ch,e1,_⟩)
  ·cases e1;exact yes h' B hle hC
  ·cases e1;exact no h' B hle hS
  ·cases e1
 ·rintro ch h' B hle (⟨e1,_⟩ | ⟨e1,_⟩ | ⟨ch',e1,hP⟩)
  ·cases e1
  ·cases e1
  ·cases e1;exact pan ch h' B hle hP
theorem H3 {α : Type} (Fr A M:LH) {C:List α→HF→LH→Prop} {Sp:HF→LH→Prop} {Pn:List PanicEntry→HF→LH→Prop} {done:List α} {x:α} {t:Nat} {as:Array Operand} {ats:Array TypeId} {fv:Value} {vs:List Value}
  (hL:L=Fr++(A++M)) (hs:ld P fv vs.toArray h A (YR C Sp Pn done x)) (hf:e t=fv) (hvs:as.toList.map e.ev=vs)
  (yes:∀ h' B,h.le h'→C (done++[x]) h' B→K (pute e d (.bool true)) h' (Fr++(B++M)))
  (no:∀ h' B,h.le h'→Sp h' B→K (pute e d (.bool false)) h' (Fr++(B++M)))
  (pan:∀ ch h' B,h.le h'→Pn ch h' B→∀ e',TP P b n ch F e' ds X h' (Fr++(B++M)))
  (hg:guardB ops e ⟨d,.call ⟨.value (.tmp t),as,ats⟩,ty,pos,af,g⟩=true:=by rfl):
  Stp P b n ops F ds X ⟨d,.call ⟨.value (.tmp t),as,ats⟩,ty,pos,af,g⟩ e h L K:=by
 have hp:∀ B:LH,((Fr++M)++B).Perm (Fr++(B++M)):=fun B=>by
  rw [List.append_assoc];exact List.Perm.append_left Fr List.perm_append_comm
 have key:=me (K:=fun e' h' L'=>∃ L'',L'.Perm L''∧K e' h' L'') (L:=(Fr++M)++A) (P:=P) (b:=b) (n:=n) (ops:=ops) (F:=F) (ds:=ds) (X:=X) (d:=d) (ty:=ty) (pos:=pos) (af:=af) (g:=g) (Fr++M) A rfl hs hf hvs
  (fun h' B hl hc=>⟨_,hp B,yes h' B hl hc⟩) (fun h' B hl hc=>⟨_,hp B,no h' B hl hc⟩) (fun ch h' B hl hc e'=>FX (hp B) (pan ch h' B hl hc e')) hg
 unfold Stp at key ⊢
 rw [if_pos hg] at key ⊢
 intro w hw
 subst hL
 have h1:=key w (hw.perm (hp A).symm)
 revert h1
 have up:∀ e',∀ w'':World,(∃ h' L',St X h' L' w''∧∃ L'',L'.Perm L''∧K e' h' L'')→∃ h' L',St X h' L' w''∧K e' h' L':=by
  rintro e' w'' ⟨h',L',hst,L'',hpm,hk⟩;exact ⟨h',L'',hst.perm hpm,hk⟩
 intro h1
 cases hr:(execOp e.ev ⟨d,.call ⟨.value (.tmp t),as,ats⟩,ty,pos,af,g⟩).run P w with
 | ok nx w'=>
  rw [hr] at h1
  cases nx with
  | skip=>exact up _ _ h1
  | value v=>exact up _ _ h1
  | enter f args=>
   unfold qo at h1 ⊢
   refine qr.mono (nx:=.enter f args) h1 ?_
   intro x w'' hx
   cases x with
   | returned v=>exact up _ _ hx
   | panicked ch=>exact hx
   | outgrown=>trivial
  | round l f tmps assign body=>
   unfold qo at h1 ⊢
   refine qr.mono (nx:=.round l f tmps assign body) h1 ?_
   intro x w'' hx
   cases x with
   | returned v=>exact up _ _ hx
   | panicked ch=>exact hx
   | outgrown=>trivial
  | _=>exact h1
 | halt hlt w'=>
  rw [hr] at h1
  cases hlt <;> first | exact h1 | exact h1.elim
end yield
theorem jQ {P:Program} {f:FuncId} {fn:Func} {c:Code} {n:Nat} {args:List Value} {h:HF} {A:LH} {R:Ending→HF→LH→Prop}
  (hf:P.funcs[f]? = some fn) (hb:fn.body=some c) (hn:fn.ntmps=n) (hle:Nat.ble args.length n=true)
  (t:∀ X:Cx,(∀ b∈X.M,b < X.w0.heap.size)→X.h0=h→TT P (bodyFrame f) n [.code c] (lU P X R) (envArgs args) [] X h A):nI P f args.toArray h A R:=by
 intro w p caller cs Φ h1 h2
 have hle:=Nat.le_of_ble_eq_true hle
 have henter:Frame.enter P f args.toArray .normal=(bodyFrame f).atR { tmps:=args.toArray++Array.replicate (n - args.length) undef,defers:=[] } [.code c]:=by
  simp [Frame.enter,Frame.atR,hf,hb,hn,bodyFrame]
 rw [henter]
 exact t ⟨w,h,A.map (·.1)⟩ (fun b hb=>by obtain ⟨p',hp',rfl⟩:=List.mem_map.1 hb;exact fe (p.own p' hp')) rfl w (St.start p) _ (caller::cs) Φ (by simp;omega) (oV _ _) rfl ⟨caller,cs,rfl,h1,h2⟩
theorem H6 {P:Program} {b:Frame} {n:Nat} {ops:Array Oper} {F:List Frame→(Machine→Prop)→Prop} {e:Env} {ds:List Deferred} {X:Cx} {h:HF} {L:LH} {K:Env→HF→LH→Prop}
  {d:Option Nat} {ty:TypeId} {pos:String} {af:Array Edge} {g:Option (Nat×Bool)} {t:TypeId} (hXM:∀ b∈X.M,b < X.w0.heap.size) (t':∀ bk,bk∉X.M→K (pute e d (.map (some bk))) h ((bk,.map #[] 0)::L))
  (hg:guardB ops e ⟨d,.makeMap t none,ty,pos,af,g⟩=true:=by rfl):Stp P b n ops F ds X ⟨d,.makeMap t none,ty,pos,af,g⟩ e h L K:=
 gW hg fun w hw=>⟨_,_,h,_,by simp [execOp,Instr.makeMap],hw.alloc _,t' _ (fun hm=>by have:=hXM _ hm;have:=hw.size;omega)⟩
section freezeN
variable {P:Program} {b:Frame} {n:Nat} {k:List Item} {F:List Frame→(Machine→Prop)→Prop} {e:Env} {ds:List Deferred} {X:Cx} {h:HF} {L:LH} {ops:Array Oper} {l:List Oper}
theorem yM (i:Nat) {bk:Nat} {o:Obj} (hi:nth L i=some (bk,o)) (hM:bk∉X.M) (t:∀ h2,h.le h2→h2 bk=some o→TO P b n ops l k F e ds X h2 (dropNth L i)):TO P b n ops l k F e ds X h L:=by
 intro w hw
 have h1:=hw.perm (lK L i _ hi)
 exact t _ (HF.sC (h1.free (bk,o) (by simp))) (HF.oX _ _ _) w (h1.freeze hM)
end freezeN
def oZ {κ α : Type} (enc:κ→Value) (V:HF→Value→α→Prop) (h:HF) (bk:Nat) (m:List (κ×α)):Prop:=∃ o,h bk=some o∧hO enc V h o m
theorem oZ.mono {κ α : Type} {enc:κ→Value} {V:HF→Value→α→Prop} {h h':HF} {bk:Nat} {m:List (κ×α)} (c:oZ enc V h bk m) (hV:wl V) (hl:h.le h'):oZ enc V h' bk m:=
 let ⟨o,a,b⟩:=c;⟨o,hl _ _ a,b.mono hV hl⟩
section ends
variable {α : Type} {P:Program} {f:FuncId} {n:Nat} {k:List Item} {e:Env} {X:Cx} {h:HF} {L:LH} {fn:Func} {C:List α→HF→LH→Prop} {Sp:HF→LH→Prop} {Pn:List PanicEntry→HF→LH→Prop} {xs:List α}
theorem qX (rs:List Nat) {A:LH} (hf:P.funcs[f]? = some fn) (hr:fn.results=#[]) (hA:A.Sublist L) (hR:C xs h A∨Sp h A):TT P (bodyFrame f) n (.code .ret::k) (lU P X (ItR C Sp Pn xs)) e (marks rs) X h (L++markB rs):=
 vm rs hf (fun a _ w _=>kO hr a w) (fun w hw=>hw.sub hA) (.inl ⟨rfl,hR⟩)
theorem wO (rs:List Nat) {A:LH} (hf:P.funcs[f]? = some fn) (hr:fn.results=#[]) (hA:A.Sublist L) (hR:C xs h A∨Sp h A):TT P (bodyFrame f) n [] (lU P X (ItR C Sp Pn xs)) e (marks rs) X h (L++markB rs):=
 FW rs hf (fun a _ w _=>kO hr a w) (fun w hw=>hw.sub hA) (.inl ⟨rfl,hR⟩)
theorem qY (rs:List Nat) {A:LH} {ch:List PanicEntry} (hf:P.funcs[f]? = some fn) (hA:A.Sublist L) (hR:Pn ch h A):TP P (bodyFrame f) n ch (lU P X (ItR C Sp Pn xs)) e (marks rs) X h (L++markB rs):=
 FY rs hf (fun w hw=>hw.sub hA) (.inr ⟨ch,rfl,hR⟩)
end ends
section ends2
variable {P:Program} {f:FuncId} {n:Nat} {k:List Item} {e:Env} {X:Cx} {h:HF} {L:LH} {fn:Func} {φ : Value→HF→Prop}
theorem gk {b:Frame} {todo:List Item} {F:List Frame→(Machine→Prop)→Prop} (t:TT P b n todo F e (marks []) X h (L++markB [])):TT P b n todo F e [] X h L:=by
 have:L++markB []=L:=by simp [markB]
 rw [this] at t;exact t
theorem cS {b:Frame} {todo:List Item} {F:List Frame→(Machine→Prop)→Prop} {ds:List Deferred} {L':LH} (hL:L=L') (t:TT P b n todo F e ds X h L'):TT P b n todo F e ds X h L:=hL ▸ t
theorem pT (ms:List Nat) {rs:List ResultVar} (vs:List Value) (hf:P.funcs[f]? = some fn) (hr:fn.results=rs.toArray) (hv:rD P e L rs vs) (hφ : φ (retVal vs) h):
  TT P (bodyFrame f) n (.code .ret::k) (lU P X (fun x h' B=>B=[]∧∃ v,x=.returned v∧φ v h')) e (marks ms) X h (L++markB ms):=
 vm ms (v:=retVal vs) hf (fun a he w hw=>qG hr hv a he w hw) (fun _ hw=>hw.sub (List.nil_sublist _)) ⟨rfl,_,rfl,hφ⟩
theorem rV (ms:List Nat) {rs:List ResultVar} {v:Value} {hh:HF} (vs:List Value) (hf:P.funcs[f]? = some fn) (hr:fn.results=rs.toArray) (hX:X.h0=hh) (hv:rD P e L rs vs) (hvv:retVal vs=v):
  TT P (bodyFrame f) n (.code .ret::k) (lU P X (fun x h' B=>x=.returned v∧h'=hh∧B=[])) e (marks ms) X h (L++markB ms):=
 vm ms (v:=v) hf (fun a he w hw=>hvv ▸ qG hr hv a he w hw) (fun _ hw=>hw.forget) ⟨rfl,hX,rfl⟩
def XR (v:Except Value Value) (hh:HF) (x:Ending) (h':HF) (B:LH):Prop:=
 h'=hh∧B=[]∧match v with
  | .ok u=>x=.returned u
  | .error p=>x=.panicked [{ v:=p,recovered:=false }]
abbrev Hm (P:Program) (f:FuncId) (args:List Value) (h:HF) (v:Except Value Value):Prop:=nI P f args.toArray h [] (XR v h)
theorem vo (ms:List Nat) {rs:List ResultVar} {v:Except Value Value} {hh:HF} (vs:List Value) (hf:P.funcs[f]? = some fn) (hr:fn.results=rs.toArray) (hX:X.h0=hh) (hv:rD P e L rs vs) (hvv:v=.ok (retVal vs)):
  TT P (bodyFrame f) n [] (lU P X (XR v hh)) e (marks ms) X h (L++markB ms):=
 FW ms (v:=retVal vs) hf (fun a he w hw=>qG hr hv a he w hw) (fun _ hw=>hw.forget) (by subst hvv;exact ⟨hX,rfl,rfl⟩)
theorem md (ms:List Nat) {v:Except Value Value} {hh:HF} {p:Value} (hf:P.funcs[f]? = some fn) (hX:X.h0=hh) (hvv:v=.error p):
  TP P (bodyFrame f) n [{ v:=p,recovered:=false }] (lU P X (XR v hh)) e (marks ms) X h (L++markB ms):=
 FY ms hf (fun _ hw=>hw.forget) (by subst hvv;exact ⟨hX,rfl,rfl⟩)
theorem ja {b:Frame} {ch:List PanicEntry} {F:List Frame→(Machine→Prop)→Prop} (t:TP P b n ch F e (marks []) X h (L++markB [])):TP P b n ch F e [] X h L:=by
 have:L++markB []=L:=by simp [markB]
 rw [this] at t;exact t
end ends2
section stepsX
variable {P:Program} {b:Frame} {n:Nat} {ops:Array Oper} {F:List Frame→(Machine→Prop)→Prop} {e:Env} {ds:List Deferred} {X:Cx} {h:HF} {L:LH} {K:Env→HF→LH→Prop}
variable {d:Option Nat} {ty:TypeId} {pos:String} {af:Array Edge} {g:Option (Nat×Bool)}
theorem kW {f:FuncId} {as:Array Operand} {ats:Array TypeId} {vs:List Value} {v:Except Value Value}
  (hc:∀ args w,(callFunc f args).run P w=.ok (.enter f args) w) (hs:Hm P f vs h v) (hvs:as.toList.map e.ev=vs)
  (t':∀ u,v=.ok u→K (pute e d u) h L) (tp:∀ p,v=.error p→∀ e',TP P b n [{ v:=p,recovered:=false }] F e' ds X h L)
  (hg:guardB ops e ⟨d,.call ⟨.value (.func f),as,ats⟩,ty,pos,af,g⟩=true:=by rfl):
  Stp P b n ops F ds X ⟨d,.call ⟨.value (.func f),as,ats⟩,ty,pos,af,g⟩ e h L K:=
 E7 (A:=[]) (Fr:=L) hc hvs hs rfl (fun v' h' B _ hR=>by
   obtain ⟨rfl,rfl,hv⟩:=hR
   cases v with
   | ok u=>cases hv;exact t' _ rfl
   | error p=>cases hv)
  (fun ch h' B _ hR=>by
   obtain ⟨rfl,rfl,hv⟩:=hR
   cases v with
   | ok u=>cases hv
   | error p=>cases hv;exact tp _ rfl) hg
theorem GR {P:Program} {t:TypeId} {v:Value} (w:World):(Instr.panic (.iface t v)).run P w=.halt (.panic (.iface t v)) w:=by simp [Instr.panic,goPanic]
theorem JA {t:TypeId} {x:Operand} {v:Value} {T:TypeDesc} (hT:P.underlying t=some T) (hi:(match T with | .interface _=>false | _=>true)=true) (hx:e.ev x=v):
  ∀ w,St X h L w→(execOp e.ev ⟨d,.makeInterface t x,ty,pos,af,g⟩).run P w=.ok (.value (.iface t v)) w:=fun w _=>by
 cases T <;> simp_all [execOp,Instr.makeInterface,run_underlying hT]
theorem Ju {x:Operand} {p:Value} (hx:e.ev x=p) (hp:∀ w:World,(Instr.panic p).run P w=.halt (.panic p) w) (tp:∀ e',TP P b n [{ v:=p,recovered:=false }] F e' ds X h L)
  (hg:guardB ops e ⟨d,.panic x,ty,pos,af,g⟩=true:=by rfl):Stp P b n ops F ds X ⟨d,.panic x,ty,pos,af,g⟩ e h L K:=by
 unfold Stp
 rw [if_pos hg]
 intro w hw
 have:(execOp e.ev ⟨d,.panic x,ty,pos,af,g⟩).run P w=.halt (.panic p) w:=by
  simp [execOp,hx,hp]
 rw [this]
 exact ⟨h,L,hw,tp⟩
end stepsX
end Go.Sg
namespace Go.Sg
def eqv:Option Value→Option Value→Bool
 | some (.int _ a),some (.int _ b)=>a==b
 | some (.bool a),some (.bool b)=>a==b
 | _,_=>false
def okF (P:Program) (xs ys:List Value) (f:Field):Bool:=
 !(f.name == "_") && (match tySz P f.type with | some (1, false) => true | _ => false) && (match P.underlying f.type, nth xs f.offset, nth ys f.offset with
  | some (.int _),some (.int j _),some (.int k _)=>decide (j=k)
  | some .bool,some (.bool _),some (.bool _)=>true
  | _,_,_=>false)
theorem oc {P:Program} {t:TypeId} {xs:List Value} {off:Nat} {v:Value} (hT:tySz P t=some (1,false)) (hv:nth xs off=some v) (w:World):(part t xs.toArray off).run P w=.ok v w:=by
 rw [gv] at hv
 simp [part,vl hT,fM hT,hv]
theorem BR {P : Program} {xs ys : List Value} {f : Field} (h : okF P xs ys f = true) : f.name ≠ "_" ∧ tySz P f.type = some (1, false) ∧
  ((∃ k j a b,P.underlying f.type=some (.int k)∧nth xs f.offset=some (.int j a)∧nth ys f.offset=some (.int j b))∨∃ a b,P.underlying f.type=some .bool∧nth xs f.offset=some (.bool a)∧nth ys f.offset=some (.bool b)):=by
 unfold okF at h
 rw [Bool.and_eq_true,Bool.and_eq_true] at h
 obtain ⟨⟨hn,ht⟩,hv⟩:=h
 refine ⟨by simpa using hn,?_,?_⟩
 ·split at ht
  ·assumption
  ·cases ht
 ·split at hv
  ·rename_i h1 h2 h3
   have:=of_decide_eq_true hv
   subst this
   exact .inl ⟨_,_,_,_,h1,h2,h3⟩
  ·rename_i h1 h2 h3
   exact .inr ⟨_,_,h1,h2,h3⟩
  ·cases hv
theorem vv {P:Program} {d:Nat} {xs ys:List Value} (w:World):∀ (fs:List Field),fs.all (okF P xs ys)=true →
  (Op.eqFields (d+1) xs.toArray ys.toArray fs).run P w=.ok (fs.all fun f=>eqv (nth xs f.offset) (nth ys f.offset)) w
 | [],_=>by simp [Op.eqFields]
 | f::fs,h=>by
  rw [List.all_cons,Bool.and_eq_true] at h
  obtain ⟨h1,h2⟩:=h
  have ih:=vv (d:=d) w fs h2
  obtain ⟨hn,hT,⟨k,j,a,b,hu,hx,hy⟩ | ⟨a,b,hu,hx,hy⟩⟩:=BR h1
  ·rw [Op.eqFields,if_pos hn,List.all_cons,hx,hy]
   simp only [Sem.run_bind,oc hT hx,oc hT hy,Result.andThen_ok,run_equalIn_int w d _ _ _ _ _ hu,eqv]
   cases hab:(a==b)
   ·simp
   ·simp only [Bool.not_true,Bool.false_eq_true,if_false,Bool.true_and];exact ih
  ·rw [Op.eqFields,if_pos hn,List.all_cons,hx,hy]
   simp only [Sem.run_bind,oc hT hx,oc hT hy,Result.andThen_ok,run_equalIn_bool' w d _ _ _ hu,eqv]
   cases hab:(a==b)
   ·simp
   ·simp only [Bool.not_true,Bool.false_eq_true,if_false,Bool.true_and];exact ih
theorem yx {P:Program} {t:TypeId} {fs:List Field} {xs ys:List Value} {r:Bool} (hT:P.underlying t=some (.struct fs.toArray)) (hp:P.stoodInHeld t=false) (hok:fs.all (okF P xs ys)=true)
  (hr:(fs.all fun f=>eqv (nth xs f.offset) (nth ys f.offset))=r) (w:World):(Op.equal t (.agg xs.toArray) (.agg ys.toArray)).run P w=.ok r w:=by
 have hf:P.fieldsOf t=fs.toArray:=by simp [Program.fieldsOf,hT]
 have:=run_equalIn_struct (P:=P) w 9999 t xs.toArray ys.toArray (by rw [hf];exact hT) hp
 rw [hf] at this
 rw [Op.equal,Op.maxDepth,this,← hr]
 exact vv w fs hok
theorem za {P:Program} {t:TypeId} {fs:List Field} {xs:List Value} (e:Bool) (hT:P.underlying t=some (.struct fs.toArray)) (hok:fs.all (okF P xs xs)=true) (w:World):
  (Instr.checkKey e 10000 t (.agg xs.toArray)).run P w=.ok () w:=by
 rw [show (10000:Nat)=9999+1 from rfl,Instr.checkKey]
 simp only [Sem.run_bind,run_underlying hT,Result.andThen_ok]
 rw [← Array.forIn_toList]
 simp only
 clear hT
 induction fs with
 | nil=>simp
 | cons f fs ih=>
  rw [List.all_cons,Bool.and_eq_true] at hok
  have ih:=ih hok.2
  obtain ⟨hn,hT,⟨k,j,a,b,hu,hx,hy⟩ | ⟨a,b,hu,hx,hy⟩⟩:=BR hok.1
  ·have hc:(Instr.checkKey e 9999 f.type (.int j a)).run P w=.ok () w:=by
    rw [show (9999:Nat)=9998+1 from rfl,Instr.checkKey]
    simp [run_underlying hu]
   simp only [List.forIn_cons,if_pos hn,Sem.run_bind,oc hT hx,Result.andThen_ok,hc,Sem.run_pure]
   simpa using ih
  ·have hc:(Instr.checkKey e 9999 f.type (.bool a)).run P w=.ok () w:=by
    rw [show (9999:Nat)=9998+1 from rfl,Instr.checkKey]
    simp [run_underlying hu]
   simp only [List.forIn_cons,if_pos hn,Sem.run_bind,oc hT hx,Result.andThen_ok,hc,Sem.run_pure]
   simpa using ih
theorem yR (vs:List Value):∀ (cl:List Value),vs.length=cl.length→splice cl 0 vs=vs:=by
 intro cl hl
 have:=wq vs [] cl (by omega)
 simp at this
 rw [this,hl]
 simp
theorem bE {P:Program} {b:Frame} {n:Nat} {k:List Item} {F:List Frame→(Machine→Prop)→Prop} {e:Env} {ds:List Deferred} {X:Cx} {h:HF} {L:LH} {ops:Array Oper} {l:List Oper} {ty:TypeId} {pos:String} {af:Array Edge} {g:Option (Nat×Bool)}
  (i:Nat) {t:TypeId} {x y:Operand} {m bk T:Nat} {a:Bool} {cl vs:List Value} (hT:tySz P t=some (m,a)) (hx:e.ev x=.pointer (some ⟨bk,0,none⟩))
  (hL:nth L i=some (bk,.cells cl.toArray T (0,0))) (hv:e.ev y=.agg vs.toArray) (hm:vs.length=m) (hc:cl.length=m) (h1:vs.all one=true)
  (t':TO P b n ops l k F e ds X h (setNth L i (bk,.cells vs.toArray T (0,0))))
  (hg:guardB ops e ⟨none,.store t x y,ty,pos,af,g⟩=true:=by rfl):TO P b n ops (⟨none,.store t x y,ty,pos,af,g⟩::l) k F e ds X h L:=by
 refine dw i hT hx hL (vs:=vs) (by rw [hv];simp [vcells]) hm (by rw [Nat.zero_add,hm,hc];simp) h1 ?_ hg
 rw [yR vs cl (by rw [hm,hc])]
 exact t'
section runs
variable {P:Program} {e:Env} {X:Cx} {h:HF} {L:LH} {d:Option Nat} {ty:TypeId} {pos:String} {af:Array Edge} {g:Option (Nat×Bool)}
theorem K0 {t u:TypeId} {x y:Operand} {xs ys:Array Value} {r:Bool} (hq:∀ w,(Op.equal t (.agg xs) (.agg ys)).run P w=.ok r w) (hm:P.eqGuardType P.depth t=false) (hx:e.ev x=.agg xs) (hy:e.ev y=.agg ys):
  ∀ w,St X h L w→(execOp e.ev ⟨d,.binOp .eql t x y u,ty,pos,af,g⟩).run P w=.ok (.value (.bool r)) w:=
 fun w _=>by
  have h1:=run_eqGuard_agg (P:=P) w .eql t x y xs ys hm
  have h2:=hq w
  simp [execOp,hx,hy,h1,binOp,h2]
theorem KX {t u:TypeId} {x y:Operand} {xs ys:Array Value} {r:Bool} (hq:∀ w,(Op.equal t (.agg xs) (.agg ys)).run P w=.ok r w) (hm:P.eqGuardType P.depth t=false) (hx:e.ev x=.agg xs) (hy:e.ev y=.agg ys):
  ∀ w,St X h L w→(execOp e.ev ⟨d,.binOp .neq t x y u,ty,pos,af,g⟩).run P w=.ok (.value (.bool (!r))) w:=
 fun w _=>by
  have h1:=run_eqGuard_agg (P:=P) w .neq t x y xs ys hm
  have h2:=hq w
  simp [execOp,hx,hy,h1,binOp,h2]
theorem CG {t:TypeId} {x ix:Operand} {s:ByteArray} {i:Int} (hT:P.underlying t=some .string) (hx:e.ev x=.string s) (hix:e.ev ix=.int .i64 i) (hi:0≤i∧i < (s.size:Int)):
  ∀ w,St X h L w→(execOp e.ev ⟨d,.index t x ix,ty,pos,af,g⟩).run P w=.ok (.value (.int .u8 ((s.data.getD i.toNat 0).toNat:Nat))) w:=
 fun w _=>by
  obtain ⟨n,rfl⟩:=Int.eq_ofNat_of_zero_le hi.1
  have hn:n < s.size:=by omega
  have hn':n < s.data.size:=hn
  simp [execOp,Instr.index,hix,hx,asIntOf,run_underlying hT,hn]
  rfl
end runs
end Go.Sg
namespace Go.Sg
structure Span where
 From:Int
 Until:Int
deriving DecidableEq
instance:Inhabited Span:=⟨⟨0,0⟩⟩
def Span.cells (x:Span):List Go.Value:=[.int .i64 x.From,.int .i64 x.Until]
abbrev Span.enc (x:Span):Go.Value:=.agg (Span.cells x).toArray
def Span.rp:Rp Span:=⟨2,fun _ cs x=>cs=Span.cells x⟩
theorem Span.ak:Span.rp.Mono:=fun _ _ _ _ _ e=>e
theorem Span.eC:Span.rp.Good:=⟨Span.ak,fun _ _ _ e=>by cases e;rfl,by decide⟩
structure Holder where
 Person:Int
 Weight:Int
deriving DecidableEq
instance:Inhabited Holder:=⟨⟨0,0⟩⟩
def Holder.cells (x:Holder):List Go.Value:=[.int .i64 x.Person,.int .i64 x.Weight]
abbrev Holder.enc (x:Holder):Go.Value:=.agg (Holder.cells x).toArray
def Holder.rp:Rp Holder:=⟨2,fun _ cs x=>cs=Holder.cells x⟩
theorem Holder.ak:Holder.rp.Mono:=fun _ _ _ _ _ e=>e
theorem Holder.eC:Holder.rp.Good:=⟨Holder.ak,fun _ _ _ e=>by cases e;rfl,by decide⟩
structure Appoint where
 No:Int
 At:Int
 Known:Int
 Office:Int
 Person:Int
 Weight:Int
 Gone:Bool
deriving DecidableEq
instance:Inhabited Appoint:=⟨⟨0,0,0,0,0,0,false⟩⟩
def Appoint.cells (x:Appoint):List Go.Value:=[.int .i64 x.No,.int .i64 x.At,.int .i64 x.Known,.int .i64 x.Office,.int .i64 x.Person,.int .i64 x.Weight,.bool x.Gone]
abbrev Appoint.enc (x:Appoint):Go.Value:=.agg (Appoint.cells x).toArray
def Appoint.rp:Rp Appoint:=⟨7,fun _ cs x=>cs=Appoint.cells x⟩
theorem Appoint.ak:Appoint.rp.Mono:=fun _ _ _ _ _ e=>e
theorem Appoint.eC:Appoint.rp.Good:=⟨Appoint.ak,fun _ _ _ e=>by cases e;rfl,by decide⟩
structure Deputy where
 No:Int
 At:Int
 Known:Int
 Until:Int
 From:Int
 To:Int
 Office:Int
 Kind:Int
 Most:Int
 Gone:Bool
deriving DecidableEq
instance:Inhabited Deputy:=⟨⟨0,0,0,0,0,0,0,0,0,false⟩⟩
def Deputy.cells (x:Deputy):List Go.Value:=[.int .i64 x.No,.int .i64 x.At,.int .i64 x.Known,.int .i64 x.Until,.int .i64 x.From,.int .i64 x.To,.int .i64 x.Office,.int .i64 x.Kind,.int .i64 x.Most,.bool x.Gone]
abbrev Deputy.enc (x:Deputy):Go.Value:=.agg (Deputy.cells x).toArray
def Deputy.rp:Rp Deputy:=⟨10,fun _ cs x=>cs=Deputy.cells x⟩
theorem Deputy.ak:Deputy.rp.Mono:=fun _ _ _ _ _ e=>e
theorem Deputy.eC:Deputy.rp.Good:=⟨Deputy.ak,fun _ _ _ e=>by cases e;rfl,by decide⟩
structure Interest where
 No:Int
 At:Int
 Known:Int
 Person:Int
 Party:Int
 Of:Bool
 Gone:Bool
deriving DecidableEq
instance:Inhabited Interest:=⟨⟨0,0,0,0,0,false,false⟩⟩
def Interest.cells (x:Interest):List Go.Value:=[.int .i64 x.No,.int .i64 x.At,.int .i64 x.Known,.int .i64 x.Person,.int .i64 x.Party,.bool x.Of,.bool x.Gone]
abbrev Interest.enc (x:Interest):Go.Value:=.agg (Interest.cells x).toArray
def Interest.rp:Rp Interest:=⟨7,fun _ cs x=>cs=Interest.cells x⟩
theorem Interest.ak:Interest.rp.Mono:=fun _ _ _ _ _ e=>e
theorem Interest.eC:Interest.rp.Good:=⟨Interest.ak,fun _ _ _ e=>by cases e;rfl,by decide⟩
structure Budget where
 No:Int
 At:Int
 Known:Int
 Kind:Int
 Period:Int
 Count:Int
 Value:Int
 Gone:Bool
deriving DecidableEq
instance:Inhabited Budget:=⟨⟨0,0,0,0,0,0,0,false⟩⟩
def Budget.cells (x:Budget):List Go.Value:=[.int .i64 x.No,.int .i64 x.At,.int .i64 x.Known,.int .i64 x.Kind,.int .i64 x.Period,.int .i64 x.Count,.int .i64 x.Value,.bool x.Gone]
abbrev Budget.enc (x:Budget):Go.Value:=.agg (Budget.cells x).toArray
def Budget.rp:Rp Budget:=⟨8,fun _ cs x=>cs=Budget.cells x⟩
theorem Budget.ak:Budget.rp.Mono:=fun _ _ _ _ _ e=>e
theorem Budget.eC:Budget.rp.Good:=⟨Budget.ak,fun _ _ _ e=>by cases e;rfl,by decide⟩
structure Approval where
 No:Int
 At:Int
 Known:Int
 Doc:Int
 By:Int
 For:Int
 Office:Int
 Gone:Bool
deriving DecidableEq
instance:Inhabited Approval:=⟨⟨0,0,0,0,0,0,0,false⟩⟩
def Approval.cells (x:Approval):List Go.Value:=[.int .i64 x.No,.int .i64 x.At,.int .i64 x.Known,.int .i64 x.Doc,.int .i64 x.By,.int .i64 x.For,.int .i64 x.Office,.bool x.Gone]
abbrev Approval.enc (x:Approval):Go.Value:=.agg (Approval.cells x).toArray
def Approval.rp:Rp Approval:=⟨8,fun _ cs x=>cs=Approval.cells x⟩
theorem Approval.ak:Approval.rp.Mono:=fun _ _ _ _ _ e=>e
theorem Approval.eC:Approval.rp.Good:=⟨Approval.ak,fun _ _ _ e=>by cases e;rfl,by decide⟩
inductive Expr where
 | mk (Kind N No:Int) (Name:ByteArray) (L:List Expr)
def Expr.Kind:Expr→Int
 | .mk Kind _ _ _ _=>Kind
def Expr.N:Expr→Int
 | .mk _ N _ _ _=>N
def Expr.No:Expr→Int
 | .mk _ _ No _ _=>No
def Expr.Name:Expr→ByteArray
 | .mk _ _ _ Name _=>Name
def Expr.L:Expr→List Expr
 | .mk _ _ _ _ L=>L
instance:Inhabited Expr:=⟨.mk 0 0 0 ⟨#[]⟩ []⟩
mutual
def Expr.dep:Expr→Nat
 | .mk _ _ _ _ L=>Expr.depL L+1
def Expr.depL:List Expr→Nat
 | []=>0
 | y::ys=>Expr.dep y+Expr.depL ys
end
theorem Expr.jH (x:Expr):0 < x.dep:=by cases x;simp [Expr.dep]
theorem Expr.I6 {y:Expr}:∀ {l:List Expr},y∈l→y.dep≤Expr.depL l
 | z::l,h=>by
  rcases List.mem_cons.1 h with rfl | h
  ·simp [Expr.depL]
  ·have:=Expr.I6 h;simp [Expr.depL];omega
theorem Expr.Ed:∀ (l:List Expr),l.length≤Expr.depL l
 | []=>Nat.le_refl _
 | z::l=>by have:=Expr.Ed l;have:=Expr.jH z;simp [Expr.depL];omega
theorem Expr.Fj (x:Expr):x.L.length < x.dep:=by
 cases x with
 | mk a b c d L=>have:=Expr.Ed L;simp [Expr.dep,Expr.L];omega
theorem Expr.gj {x y:Expr} (h:y∈x.L):y.dep < x.dep:=by
 cases x with
 | mk a b c d L=>have:=Expr.I6 (l:=L) h;simp [Expr.dep];omega
structure cm where
 iL:Option Addr
 iP:Nat
def Expr.cells (x:Expr) (r:cm):List Go.Value:=[.int .i64 x.Kind,.int .i64 x.N,.int .i64 x.No,.string x.Name,.slice r.iL x.L.length r.iP]
inductive Expr.ok (h:HF):Expr→cm→Prop
 | mk (x:Expr) (r:cm) (rs:Nat→cm) (h0:x.L.length≤9223372036854775807∧x.L.length≤r.iP) (h1:∀ (i:Nat) (y:Expr),x.L[i]? = some y→∃ p,r.iL=some p∧At h (p.add (i * 5)) (Expr.cells y (rs i))) (h2:∀ (i:Nat) (y:Expr),x.L[i]? = some y→Expr.ok h y (rs i)):Expr.ok h x r
def Expr.rp:Rp Expr:=⟨5,fun h cs x=>∃ r,cs=Expr.cells x r∧Expr.ok h x r⟩
theorem Expr.ok.mono {h h':HF} {x:Expr} {r:cm} (a:Expr.ok h x r) (hl:h.le h'):Expr.ok h' x r:=by
 induction a with
 | mk x r rs h0 h1 h2 ih=>exact .mk x r rs h0 (fun i y hy=>let ⟨p,e,q⟩:=h1 i y hy;⟨p,e,q.mono hl⟩) (fun i y hy=>ih i y hy)
theorem Expr.ok.list {h:HF} {x:Expr} {r:cm} (a:Expr.ok h x r):SlC Expr.rp h r.iL r.iP x.L:=by
 cases a with
 | mk x r rs h0 h1 h2=>exact ⟨⟨h0.1,fun i y hy=>let ⟨p,e,q⟩:=h1 i y hy;⟨p,_,e,q,rfl,_,rfl,h2 i y hy⟩⟩,h0.2⟩
theorem Expr.ak:Expr.rp.Mono:=fun _ _ _ _ hl ⟨r,e,o⟩=>⟨r,e,o.mono hl⟩
theorem Expr.ok.of {h:HF} {x:Expr} {r:cm} (a:SlC Expr.rp h r.iL r.iP x.L):Expr.ok h x r:=by
 have h1:∀ i,∃ q:cm,∀ y,x.L[i]? = some y→∃ p,r.iL=some p∧At h (p.add (i * 5)) (Expr.cells y q)∧Expr.ok h y q:=by
  intro i
  cases hy:x.L[i]? with
  | none=>exact ⟨⟨none,0⟩,fun y e=>by cases e⟩
  | some y=>
   obtain ⟨p,cs,e,q,_,r',rfl,o⟩:=a.1.2 i y hy
   exact ⟨r',fun z ez=>by cases ez;exact ⟨p,e,q,o⟩⟩
 obtain ⟨rs,hrs⟩:=Classical.axiomOfChoice h1
 exact .mk x r rs ⟨a.1.1,a.2⟩ (fun i y hy=>let ⟨p,e,q,_⟩:=hrs i y hy;⟨p,e,q⟩) (fun i y hy=>let ⟨_,_,_,o⟩:=hrs i y hy;o)
theorem Expr.eC:Expr.rp.Good:=⟨Expr.ak,fun _ _ _ ⟨_,e,_⟩=>by cases e;rfl,by decide⟩
structure Rule where
 Kind:ByteArray
 KindNo:Int
 Think:Int
 Expr:Expr
instance:Inhabited Rule:=⟨⟨⟨#[]⟩,0,0,default⟩⟩
structure wm where
 Expr:cm
def Rule.cells (x:Rule) (r:wm):List Go.Value:=[.string x.Kind,.int .i64 x.KindNo,.int .i64 x.Think,.int .i64 x.Expr.Kind,.int .i64 x.Expr.N,.int .i64 x.Expr.No,.string x.Expr.Name,.slice r.Expr.iL x.Expr.L.length r.Expr.iP]
structure Rule.ok (h:HF) (x:Rule) (r:wm):Prop where
 Expr:Expr.ok h x.Expr r.Expr
theorem Rule.ok.mono {h h':HF} {x:Rule} {r:wm} (a:Rule.ok h x r) (hl:h.le h'):Rule.ok h' x r:=⟨a.Expr.mono hl⟩
def Rule.rp:Rp Rule:=⟨8,fun h cs x=>∃ r,cs=Rule.cells x r∧Rule.ok h x r⟩
theorem Rule.ak:Rule.rp.Mono:=fun _ _ _ _ hl ⟨r,e,o⟩=>⟨r,e,o.mono hl⟩
theorem Rule.eC:Rule.rp.Good:=⟨Rule.ak,fun _ _ _ ⟨_,e,_⟩=>by cases e;rfl,by decide⟩
structure Policy where
 Name:ByteArray
 Kinds:List ByteArray
 Offices:List ByteArray
 Rules:List Rule
 Change:Expr
 Mode:Int
instance:Inhabited Policy:=⟨⟨⟨#[]⟩,[],[],[],default,0⟩⟩
structure dS where
 gI:Option Addr
 gH:Nat
 fc:Option Addr
 fb:Nat
 kc:Option Addr
 kb:Nat
 Change:cm
def Policy.cells (x:Policy) (r:dS):List Go.Value:=[.string x.Name,.slice r.gI x.Kinds.length r.gH,.slice r.fc x.Offices.length r.fb,.slice r.kc x.Rules.length r.kb,.int .i64 x.Change.Kind,.int .i64 x.Change.N,.int .i64 x.Change.No,.string x.Change.Name,.slice r.Change.iL x.Change.L.length r.Change.iP,.int .i64 x.Mode]
structure Policy.ok (h:HF) (x:Policy) (r:dS):Prop where
 Kinds:SlC Rp.str h r.gI r.gH x.Kinds
 Offices:SlC Rp.str h r.fc r.fb x.Offices
 Rules:SlC Rule.rp h r.kc r.kb x.Rules
 Change:Expr.ok h x.Change r.Change
theorem Policy.ok.mono {h h':HF} {x:Policy} {r:dS} (a:Policy.ok h x r) (hl:h.le h'):Policy.ok h' x r:=⟨a.Kinds.mono Rp.gl hl,a.Offices.mono Rp.gl hl,a.Rules.mono Rule.ak hl,a.Change.mono hl⟩
def Policy.rp:Rp Policy:=⟨10,fun h cs x=>∃ r,cs=Policy.cells x r∧Policy.ok h x r⟩
theorem Policy.ak:Policy.rp.Mono:=fun _ _ _ _ hl ⟨r,e,o⟩=>⟨r,e,o.mono hl⟩
theorem Policy.eC:Policy.rp.Good:=⟨Policy.ak,fun _ _ _ ⟨_,e,_⟩=>by cases e;rfl,by decide⟩
structure Version where
 No:Int
 At:Int
 Known:Int
 Policy:Policy
instance:Inhabited Version:=⟨⟨0,0,0,default⟩⟩
structure lB where
 Policy:dS
def Version.cells (x:Version) (r:lB):List Go.Value:=[.int .i64 x.No,.int .i64 x.At,.int .i64 x.Known,.string x.Policy.Name,.slice r.Policy.gI x.Policy.Kinds.length r.Policy.gH,.slice r.Policy.fc x.Policy.Offices.length r.Policy.fb,.slice r.Policy.kc x.Policy.Rules.length r.Policy.kb,.int .i64 x.Policy.Change.Kind,.int .i64 x.Policy.Change.N,.int .i64 x.Policy.Change.No,.string x.Policy.Change.Name,.slice r.Policy.Change.iL x.Policy.Change.L.length r.Policy.Change.iP,.int .i64 x.Policy.Mode]
structure Version.ok (h:HF) (x:Version) (r:lB):Prop where
 Policy:Policy.ok h x.Policy r.Policy
theorem Version.ok.mono {h h':HF} {x:Version} {r:lB} (a:Version.ok h x r) (hl:h.le h'):Version.ok h' x r:=⟨a.Policy.mono hl⟩
def Version.rp:Rp Version:=⟨13,fun h cs x=>∃ r,cs=Version.cells x r∧Version.ok h x r⟩
theorem Version.ak:Version.rp.Mono:=fun _ _ _ _ hl ⟨r,e,o⟩=>⟨r,e,o.mono hl⟩
theorem Version.eC:Version.rp.Good:=⟨Version.ak,fun _ _ _ ⟨_,e,_⟩=>by cases e;rfl,by decide⟩
structure Document where
 No:Int
 At:Int
 Kind:Int
 Value:Int
 From:Int
 Until:Int
 Parties:List Int
 Revokes:List Int
 Needs:List Int
 Text:Nat→Int
instance:Inhabited Document:=⟨⟨0,0,0,0,0,0,[],[],[],fun _=>0⟩⟩
structure gE where
 tG:Option Addr
 tE:Nat
 tD:Option Addr
 tC:Nat
 yI:Option Addr
 yH:Nat
def Document.cells (x:Document) (r:gE):List Go.Value:=.int .i64 x.No::.int .i64 x.At::.int .i64 x.Kind::.int .i64 x.Value::.int .i64 x.From::.int .i64 x.Until::.slice r.tG x.Parties.length r.tE::.slice r.tD x.Revokes.length r.tC::.slice r.yI x.Needs.length r.yH::.int .u8 (x.Text 0)::.int .u8 (x.Text 1)::.int .u8 (x.Text 2)::.int .u8 (x.Text 3)::.int .u8 (x.Text 4)::.int .u8 (x.Text 5)::.int .u8 (x.Text 6)::.int .u8 (x.Text 7)::.int .u8 (x.Text 8)::.int .u8 (x.Text 9)::.int .u8 (x.Text 10)::.int .u8 (x.Text 11)::.int .u8 (x.Text 12)::.int .u8 (x.Text 13)::.int .u8 (x.Text 14)::.int .u8 (x.Text 15)::.int .u8 (x.Text 16)::.int .u8 (x.Text 17)::.int .u8 (x.Text 18)::.int .u8 (x.Text 19)::.int .u8 (x.Text 20)::.int .u8 (x.Text 21)::.int .u8 (x.Text 22)::.int .u8 (x.Text 23)::.int .u8 (x.Text 24)::.int .u8 (x.Text 25)::.int .u8 (x.Text 26)::.int .u8 (x.Text 27)::.int .u8 (x.Text 28)::.int .u8 (x.Text 29)::.int .u8 (x.Text 30)::.int .u8 (x.Text 31)::[]
structure Document.ok (h:HF) (x:Document) (r:gE):Prop where
 Parties:SlC Rp.int h r.tG r.tE x.Parties
 Revokes:SlC Rp.int h r.tD r.tC x.Revokes
 Needs:SlC Rp.int h r.yI r.yH x.Needs
theorem Document.ok.mono {h h':HF} {x:Document} {r:gE} (a:Document.ok h x r) (hl:h.le h'):Document.ok h' x r:=⟨a.Parties.mono Rp.aK hl,a.Revokes.mono Rp.aK hl,a.Needs.mono Rp.aK hl⟩
def Document.rp:Rp Document:=⟨41,fun h cs x=>∃ r,cs=Document.cells x r∧Document.ok h x r⟩
theorem Document.ak:Document.rp.Mono:=fun _ _ _ _ hl ⟨r,e,o⟩=>⟨r,e,o.mono hl⟩
theorem Document.eC:Document.rp.Good:=⟨Document.ak,fun _ _ _ ⟨_,e,_⟩=>by cases e;rfl,by decide⟩
structure Register where
 Appoints:List Appoint
 Deputies:List Deputy
 Interests:List Interest
 Budgets:List Budget
 Versions:List Version
 Docs:List Document
 Approvals:List Approval
instance:Inhabited Register:=⟨⟨[],[],[],[],[],[],[]⟩⟩
structure dH where
 kK:Option Addr
 kJ:Nat
 lF:Option Addr
 lE:Nat
 lD:Option Addr
 lC:Nat
 mD:Option Addr
 mC:Nat
 kI:Option Addr
 kH:Nat
 s9:Option Addr
 s8:Nat
 kB:Option Addr
 kA:Nat
def Register.cells (x:Register) (r:dH):List Go.Value:=[.slice r.kK x.Appoints.length r.kJ,.slice r.lF x.Deputies.length r.lE,.slice r.lD x.Interests.length r.lC,.slice r.mD x.Budgets.length r.mC,.slice r.kI x.Versions.length r.kH,.slice r.s9 x.Docs.length r.s8,.slice r.kB x.Approvals.length r.kA]
structure Register.ok (h:HF) (x:Register) (r:dH):Prop where
 Appoints:SlC Appoint.rp h r.kK r.kJ x.Appoints
 Deputies:SlC Deputy.rp h r.lF r.lE x.Deputies
 Interests:SlC Interest.rp h r.lD r.lC x.Interests
 Budgets:SlC Budget.rp h r.mD r.mC x.Budgets
 Versions:SlC Version.rp h r.kI r.kH x.Versions
 Docs:SlC Document.rp h r.s9 r.s8 x.Docs
 Approvals:SlC Approval.rp h r.kB r.kA x.Approvals
theorem Register.ok.mono {h h':HF} {x:Register} {r:dH} (a:Register.ok h x r) (hl:h.le h'):Register.ok h' x r:=⟨a.Appoints.mono Appoint.ak hl,a.Deputies.mono Deputy.ak hl,a.Interests.mono Interest.ak hl,a.Budgets.mono Budget.ak hl,a.Versions.mono Version.ak hl,a.Docs.mono Document.ak hl,a.Approvals.mono Approval.ak hl⟩
def Register.rp:Rp Register:=⟨7,fun h cs x=>∃ r,cs=Register.cells x r∧Register.ok h x r⟩
theorem Register.ak:Register.rp.Mono:=fun _ _ _ _ hl ⟨r,e,o⟩=>⟨r,e,o.mono hl⟩
theorem Register.eC:Register.rp.Good:=⟨Register.ak,fun _ _ _ ⟨_,e,_⟩=>by cases e;rfl,by decide⟩
structure OSeat where
 office:Int
 person:Int
deriving DecidableEq
instance:Inhabited OSeat:=⟨⟨0,0⟩⟩
def OSeat.cells (x:OSeat):List Go.Value:=[.int .i64 x.office,.int .i64 x.person]
abbrev OSeat.enc (x:OSeat):Go.Value:=.agg (OSeat.cells x).toArray
def OSeat.rp:Rp OSeat:=⟨2,fun _ cs x=>cs=OSeat.cells x⟩
theorem OSeat.ak:OSeat.rp.Mono:=fun _ _ _ _ _ e=>e
theorem OSeat.eC:OSeat.rp.Good:=⟨OSeat.ak,fun _ _ _ e=>by cases e;rfl,by decide⟩
structure cp where
 person:Int
 party:Int
 of:Bool
deriving DecidableEq
instance:Inhabited cp:=⟨⟨0,0,false⟩⟩
def cp.cells (x:cp):List Go.Value:=[.int .i64 x.person,.int .i64 x.party,.bool x.of]
abbrev cp.enc (x:cp):Go.Value:=.agg (cp.cells x).toArray
def cp.rp:Rp cp:=⟨3,fun _ cs x=>cs=cp.cells x⟩
theorem cp.ak:cp.rp.Mono:=fun _ _ _ _ _ e=>e
theorem cp.eC:cp.rp.Good:=⟨cp.ak,fun _ _ _ e=>by cases e;rfl,by decide⟩
structure fN where
 path:List Int
 to:Int
instance:Inhabited fN:=⟨⟨[],0⟩⟩
structure GG where
 ss:Option Addr
 uF:Nat
def fN.cells (x:fN) (r:GG):List Go.Value:=[.slice r.ss x.path.length r.uF,.int .i64 x.to]
structure fN.ok (h:HF) (x:fN) (r:GG):Prop where
 path:SlC Rp.int h r.ss r.uF x.path
theorem fN.ok.mono {h h':HF} {x:fN} {r:GG} (a:fN.ok h x r) (hl:h.le h'):fN.ok h' x r:=⟨a.path.mono Rp.aK hl⟩
def fN.rp:Rp fN:=⟨2,fun h cs x=>∃ r,cs=fN.cells x r∧fN.ok h x r⟩
theorem fN.ak:fN.rp.Mono:=fun _ _ _ _ hl ⟨r,e,o⟩=>⟨r,e,o.mono hl⟩
theorem fN.eC:fN.rp.Good:=⟨fN.ak,fun _ _ _ ⟨_,e,_⟩=>by cases e;rfl,by decide⟩
structure dJ where
 gT:List Int
 To:Int
instance:Inhabited dJ:=⟨⟨[],0⟩⟩
structure lP where
 AG:Option Addr
 AF:Nat
def dJ.cells (x:dJ) (r:lP):List Go.Value:=[.slice r.AG x.gT.length r.AF,.int .i64 x.To]
structure dJ.ok (h:HF) (x:dJ) (r:lP):Prop where
 gT:SlC Rp.int h r.AG r.AF x.gT
theorem dJ.ok.mono {h h':HF} {x:dJ} {r:lP} (a:dJ.ok h x r) (hl:h.le h'):dJ.ok h' x r:=⟨a.gT.mono Rp.aK hl⟩
def dJ.rp:Rp dJ:=⟨2,fun h cs x=>∃ r,cs=dJ.cells x r∧dJ.ok h x r⟩
theorem dJ.ak:dJ.rp.Mono:=fun _ _ _ _ hl ⟨r,e,o⟩=>⟨r,e,o.mono hl⟩
theorem dJ.eC:dJ.rp.Good:=⟨dJ.ak,fun _ _ _ ⟨_,e,_⟩=>by cases e;rfl,by decide⟩
structure aR where
 value:Int
 holders:List (List Holder)
 who:List Int
instance:Inhabited aR:=⟨⟨0,[],[]⟩⟩
structure gB where
 dL:Option Addr
 dK:Nat
 dU:Option Addr
 dT:Nat
def aR.cells (x:aR) (r:gB):List Go.Value:=[.int .i64 x.value,.slice r.dL x.holders.length r.dK,.slice r.dU x.who.length r.dT]
structure aR.ok (h:HF) (x:aR) (r:gB):Prop where
 holders:SlC (Rp.sl Holder.rp) h r.dL r.dK x.holders
 who:SlC Rp.int h r.dU r.dT x.who
theorem aR.ok.mono {h h':HF} {x:aR} {r:gB} (a:aR.ok h x r) (hl:h.le h'):aR.ok h' x r:=⟨a.holders.mono (Rp.j8 Holder.ak) hl,a.who.mono Rp.aK hl⟩
def aR.rp:Rp aR:=⟨3,fun h cs x=>∃ r,cs=aR.cells x r∧aR.ok h x r⟩
theorem aR.ak:aR.rp.Mono:=fun _ _ _ _ hl ⟨r,e,o⟩=>⟨r,e,o.mono hl⟩
theorem aR.eC:aR.rp.Good:=⟨aR.ak,fun _ _ _ ⟨_,e,_⟩=>by cases e;rfl,by decide⟩
structure fx where
 x:Expr
 depth:Int
instance:Inhabited fx:=⟨⟨default,0⟩⟩
structure w6 where
 x:cm
def fx.cells (x:fx) (r:w6):List Go.Value:=[.int .i64 x.x.Kind,.int .i64 x.x.N,.int .i64 x.x.No,.string x.x.Name,.slice r.x.iL x.x.L.length r.x.iP,.int .i64 x.depth]
structure fx.ok (h:HF) (x:fx) (r:w6):Prop where
 x:Expr.ok h x.x r.x
theorem fx.ok.mono {h h':HF} {x:fx} {r:w6} (a:fx.ok h x r) (hl:h.le h'):fx.ok h' x r:=⟨a.x.mono hl⟩
def fx.rp:Rp fx:=⟨6,fun h cs x=>∃ r,cs=fx.cells x r∧fx.ok h x r⟩
theorem fx.ak:fx.rp.Mono:=fun _ _ _ _ hl ⟨r,e,o⟩=>⟨r,e,o.mono hl⟩
theorem fx.eC:fx.rp.Good:=⟨fx.ak,fun _ _ _ ⟨_,e,_⟩=>by cases e;rfl,by decide⟩
structure oY where
 e:Int
deriving DecidableEq
instance:Inhabited oY:=⟨⟨0⟩⟩
def oY.cells (x:oY):List Go.Value:=[.int .i64 x.e]
abbrev oY.enc (x:oY):Go.Value:=.agg (oY.cells x).toArray
def oY.rp:Rp oY:=⟨1,fun _ cs x=>cs=oY.cells x⟩
theorem oY.ak:oY.rp.Mono:=fun _ _ _ _ _ e=>e
theorem oY.eC:oY.rp.Good:=⟨oY.ak,fun _ _ _ e=>by cases e;rfl,by decide⟩
structure aC where
 Register:Register
 doc:Document
 known:Int
instance:Inhabited aC:=⟨⟨default,default,0⟩⟩
structure fL where
 Register:dH
 doc:gE
def aC.cells (x:aC) (r:fL):List Go.Value:=.slice r.Register.kK x.Register.Appoints.length r.Register.kJ::.slice r.Register.lF x.Register.Deputies.length r.Register.lE::.slice r.Register.lD x.Register.Interests.length r.Register.lC::.slice r.Register.mD x.Register.Budgets.length r.Register.mC::.slice r.Register.kI x.Register.Versions.length r.Register.kH::.slice r.Register.s9 x.Register.Docs.length r.Register.s8::.slice r.Register.kB x.Register.Approvals.length r.Register.kA::.int .i64 x.doc.No::.int .i64 x.doc.At::.int .i64 x.doc.Kind::.int .i64 x.doc.Value::.int .i64 x.doc.From::.int .i64 x.doc.Until::.slice r.doc.tG x.doc.Parties.length r.doc.tE::.slice r.doc.tD x.doc.Revokes.length r.doc.tC::.slice r.doc.yI x.doc.Needs.length r.doc.yH::.int .u8 (x.doc.Text 0)::.int .u8 (x.doc.Text 1)::.int .u8 (x.doc.Text 2)::.int .u8 (x.doc.Text 3)::.int .u8 (x.doc.Text 4)::.int .u8 (x.doc.Text 5)::.int .u8 (x.doc.Text 6)::.int .u8 (x.doc.Text 7)::.int .u8 (x.doc.Text 8)::.int .u8 (x.doc.Text 9)::.int .u8 (x.doc.Text 10)::.int .u8 (x.doc.Text 11)::.int .u8 (x.doc.Text 12)::.int .u8 (x.doc.Text 13)::.int .u8 (x.doc.Text 14)::.int .u8 (x.doc.Text 15)::.int .u8 (x.doc.Text 16)::.int .u8 (x.doc.Text 17)::.int .u8 (x.doc.Text 18)::.int .u8 (x.doc.Text 19)::.int .u8 (x.doc.Text 20)::.int .u8 (x.doc.Text 21)::.int .u8 (x.doc.Text 22)::.int .u8 (x.doc.Text 23)::.int .u8 (x.doc.Text 24)::.int .u8 (x.doc.Text 25)::.int .u8 (x.doc.Text 26)::.int .u8 (x.doc.Text 27)::.int .u8 (x.doc.Text 28)::.int .u8 (x.doc.Text 29)::.int .u8 (x.doc.Text 30)::.int .u8 (x.doc.Text 31)::.int .i64 x.known::[]
structure aC.ok (h:HF) (x:aC) (r:fL):Prop where
 Register:Register.ok h x.Register r.Register
 doc:Document.ok h x.doc r.doc
theorem aC.ok.mono {h h':HF} {x:aC} {r:fL} (a:aC.ok h x r) (hl:h.le h'):aC.ok h' x r:=⟨a.Register.mono hl,a.doc.mono hl⟩
def aC.rp:Rp aC:=⟨49,fun h cs x=>∃ r,cs=aC.cells x r∧aC.ok h x r⟩
theorem aC.ak:aC.rp.Mono:=fun _ _ _ _ hl ⟨r,e,o⟩=>⟨r,e,o.mono hl⟩
theorem aC.eC:aC.rp.Good:=⟨aC.ak,fun _ _ _ ⟨_,e,_⟩=>by cases e;rfl,by decide⟩
structure gu where
 docs:List Document
 at_:List (Int×Int)
instance:Inhabited gu:=⟨⟨[],[]⟩⟩
structure n8 where
 I5:Option Addr
 I4:Nat
 Kc:Nat
def gu.cells (x:gu) (r:n8):List Go.Value:=[.slice r.I5 x.docs.length r.I4,.map (some r.Kc)]
structure gu.ok (h:HF) (x:gu) (r:n8):Prop where
 docs:SlC Document.rp h r.I5 r.I4 x.docs
 at_:oZ (Value.int .i64) C9 h r.Kc x.at_
theorem gu.ok.mono {h h':HF} {x:gu} {r:n8} (a:gu.ok h x r) (hl:h.le h'):gu.ok h' x r:=⟨a.docs.mono Document.ak hl,a.at_.mono C9.mono hl⟩
def gu.rp:Rp gu:=⟨2,fun h cs x=>∃ r,cs=gu.cells x r∧gu.ok h x r⟩
theorem gu.ak:gu.rp.Mono:=fun _ _ _ _ hl ⟨r,e,o⟩=>⟨r,e,o.mono hl⟩
theorem gu.eC:gu.rp.Good:=⟨gu.ak,fun _ _ _ ⟨_,e,_⟩=>by cases e;rfl,by decide⟩
end Go.Sg
namespace Go.Sg
section
variable {P:Program} {b:Frame} {n:Nat} {k:List Item} {F:List Frame→(Machine→Prop)→Prop} {e:Env} {ds:List Deferred} {X:Cx} {h:HF} {L:LH}
theorem Jk {c:Code} (L':LH) (sl:List (Nat×Value)) (hk:∀ e',TT P b n k F (upds e' sl) ds X h L')
  (t':(∀ e',jg e' sl→TT P b n k F e' ds X h L')→TT P b n (.code c::k) F e ds X h L):TT P b n (.code c::k) F e ds X h L:=
 t' fun e' hr=>by have:=hk e';rw [hr.upds] at this;exact this
theorem yv {ops:Array Oper} {l:List Oper} {L':LH} (hs:L.Perm L') (t:TO P b n ops l k F e ds X h L'):TO P b n ops l k F e ds X h L:=fun w hw=>t w (hw.perm hs)
theorem iW {ops:Array Oper} {l:List Oper} {L':LH} (hs:L=L') (t:TO P b n ops l k F e ds X h L'):TO P b n ops l k F e ds X h L:=hs ▸ t
theorem tr (A G M:LH):(A++(M++G)).Perm (A++(G++M)):=List.Perm.append_left A List.perm_append_comm
theorem qs {id:Nat} {c:Code} {ι : Type} (sl:ι→List (Nat×Value)) (dd:ι→List Deferred) (hh:ι→HF) (LL:ι→LH) (I:ι→Prop)
  (hk:∀ i,I i→∀ e',TT P b n k F (upds e' (sl i)) (dd i) X (hh i) (LL i))
  (hb:(∀ i e',I i→jg e' (sl i)→TT P b n k F e' (dd i) X (hh i) (LL i))→TT P b n (.code c::.inBlock id::k) F e ds X h L):TT P b n (.code (.block id c)::k) F e ds X h L:=
 lW (hb fun i e' hI hr=>Dr (sl i) hr (hk i hI e'))
end
section runs
variable {P:Program} {e:Env} {X:Cx} {h:HF} {L:LH} {d:Option Nat} {ty:TypeId} {pos:String} {af:Array Edge} {g:Option (Nat×Bool)}
theorem Id {t E:TypeId} {x ix:Operand} {len sz:Nat} {a:Bool} {p:Addr} {i:Int} (hT:P.underlying t=some (.array len E)) (hS:tySz P E=some (sz,a)) (hx:e.ev x=.pointer (some p)) (hix:e.ev ix=.int .i64 i) (hi:0≤i∧i < (len:Int)):
  ∀ w,St X h L w→(execOp e.ev ⟨d,.indexAddr t x ix,ty,pos,af,g⟩).run P w=.ok (.value (.pointer (some (p.add (i.toNat * sz))))) w:=
 fun w _=>by simp [execOp,Instr.indexAt,Instr.sureAddr,hix,hx,asIntOf,run_underlying hT,fM hS,hi.1,hi.2]
theorem td {c x y:Operand} {s:Bool} {v:Value} (hc:e.ev c=.bool s) (hv:(bif s then e.ev x else e.ev y)=v):∀ w,St X h L w→(execOp e.ev ⟨d,.pick c x y,ty,pos,af,g⟩).run P w=.ok (.value v) w:=
 hv ▸ Kp hc
end runs
section stepsM
variable {P:Program} {b:Frame} {n:Nat} {ops:Array Oper} {F:List Frame→(Machine→Prop)→Prop} {e:Env} {ds:List Deferred} {X:Cx} {h:HF} {L:LH} {K:Env→HF→LH→Prop}
variable {ty:TypeId} {pos:String} {af:Array Edge} {g:Option (Nat×Bool)} {κ α : Type} {enc:κ→Value} {V:HF→Value→α→Prop} [DecidableEq κ]
theorem iv (i:Nat) {t T E:TypeId} {mo ko xo:Operand} {bk:Nat} {o:Obj} {m:List (κ×α)} {k:κ} {x:α} (hT:P.underlying t=some (.map T E)) (hK:tW P T enc) (hL:nth L i=some (bk,o)) (hm:hO enc V h o m)
  (hmo:e.ev mo=.map (some bk)) (hko:e.ev ko=enc k) (hx:V h (e.ev xo) x)
  (t':∀ o',hO enc V h o' (mput m k x)→K e h (setNth L i (bk,o')))
  (hg:guardB ops e ⟨none,.insert t mo ko xo,ty,pos,af,g⟩=true:=by rfl):Stp P b n ops F ds X ⟨none,.insert t mo ko xo,ty,pos,af,g⟩ e h L K:=by
 unfold Stp
 rw [if_pos hg]
 intro w hw
 have hb:w.heap[bk]? = some o:=by
  have h2:=hL
  rw [gv] at h2
  exact hw.own _ (List.mem_of_getElem? h2)
 obtain ⟨o',hr,hm'⟩:=ud (k:=k) hT hK hb hm hx
 have:(execOp e.ev ⟨none,.insert t mo ko xo,ty,pos,af,g⟩).run P w=.ok .skip { w with heap:=w.heap.setIfInBounds bk o' }:=by
  simp [execOp,hmo,hko,hr]
 rw [this]
 exact ⟨h,_,hw.write hL _,t' o' hm'⟩
end stepsM
section stepsA
variable {P:Program} {b:Frame} {n:Nat} {ops:Array Oper} {F:List Frame→(Machine→Prop)→Prop} {e:Env} {ds:List Deferred} {X:Cx} {h:HF} {L:LH} {K:Env→HF→LH→Prop}
variable {d:Option Nat} {ty:TypeId} {pos:String} {af:Array Edge} {g:Option (Nat×Bool)}
theorem rX (i:Nat) {t:TypeId} {x y:Operand} {m bk T:Nat} {a:Bool} {cl vs:List Value} (hT:tySz P t=some (m,a)) (hx:e.ev x=.pointer (some ⟨bk,0,none⟩))
  (hL:nth L i=some (bk,.cells cl.toArray T (0,0))) (hv:e.ev y=.agg vs.toArray) (hm:vs.length=m) (hc:cl.length=m) (h1:vs.all one=true)
  (t':K e h (setNth L i (bk,.cells vs.toArray T (0,0))))
  (hg:guardB ops e ⟨none,.store t x y,ty,pos,af,g⟩=true:=by rfl):Stp P b n ops F ds X ⟨none,.store t x y,ty,pos,af,g⟩ e h L K:=by
 refine j9 i hT hx hL (vs:=vs) (by rw [hv];simp [vcells]) hm (by rw [Nat.zero_add,hm,hc];simp) h1 ?_ hg
 rw [yR vs cl (by rw [hm,hc])]
 exact t'
theorem Ib {t E:TypeId} {len sz:Nat} {a:Bool} {parts:Array (Nat×Operand)} {zs cells:List Value} (hT:P.underlying t=some (.array len E)) (hS:tySz P E=some (sz,a)) (hz:zeroC P t=some zs)
  (hc:Instr.fill (fun i=>some (i * sz,sz)) zs.toArray (parts.toList.map fun p=>(p.1,e.ev p.2))=some cells.toArray)
  (t':K (pute e d (.agg cells.toArray)) h L)
  (hg:guardB ops e ⟨d,.build t parts,ty,pos,af,g⟩=true:=by rfl):Stp P b n ops F ds X ⟨d,.build t parts,ty,pos,af,g⟩ e h L K:=
 gW hg fun w hw=>by
  obtain ⟨z,h1,h2⟩:=oa hz w
  have hparts:(parts.map fun x=>(x.1,e.ev x.2)).toList=parts.toList.map fun p=>(p.1,e.ev p.2):=by simp
  refine ⟨_,_,h,_,?_,hw,t'⟩
  simp only [execOp,Instr.build,Sem.run_bind,h1,h2,Result.andThen_ok,run_underlying hT,fM hS,Sem.run_pure,hparts]
  rw [hc]
  simp
theorem xm {α : Type}:∀ (l:List α) (i:Nat) (x y:α),nth l i=some x→(setNth l i y).Perm (y::dropNth l i)
 | [],_,_,_,h=>by simp [nth] at h
 | z::l,0,x,y,h=>List.Perm.refl _
 | z::l,i+1,x,y,h=>(List.Perm.cons z (xm l i x y h)).trans (List.Perm.swap y z _)
theorem Ia (i:Nat) {t:Nat} {as:Array Operand} {ats:Array TypeId} {fv:Value} {vs:List Value} {bk:Nat} {o o':Obj} (hL:nth L i=some (bk,o))
  (hs:ld P fv vs.toArray h [(bk,o)] (fun x h' B=>x=.returned (.tuple #[])∧h'=h∧B=[(bk,o')])) (hf:e t=fv) (hvs:as.toList.map e.ev=vs) (t':K (pute e d (.tuple #[])) h (setNth L i (bk,o')))
  (hg:guardB ops e ⟨d,.call ⟨.value (.tmp t),as,ats⟩,ty,pos,af,g⟩=true:=by rfl):Stp P b n ops F ds X ⟨d,.call ⟨.value (.tmp t),as,ats⟩,ty,pos,af,g⟩ e h L K:=by
 unfold Stp
 rw [if_pos hg]
 intro w hw
 have hw':=hw.perm (lK L i _ hL)
 have harr:as.map e.ev=vs.toArray:=Array.ext' (by simp [← hvs])
 obtain ⟨nx,hrun,hcall⟩:=hs w (Pre.left (A:=[(bk,o)]) hw'.pre)
 have hr:(execOp e.ev ⟨d,.call ⟨.value (.tmp t),as,ats⟩,ty,pos,af,g⟩).run P w=.ok nx w:=by
  rw [← hrun]
  simp [execOp,resolve,Env.ev,harr,hf]
 rw [hr]
 refine jC (kZ hcall) (hcall.mono ?_)
 rintro x w' ⟨h',B,hst,rfl,rfl,rfl⟩
 exact ⟨h',_,(St.after (A:=[(bk,o)]) (F:=dropNth L i) hw' hst).perm (xm L i _ _ hL).symm,t'⟩
theorem H9 {t:Nat} {ass:Array Operand} {ats:Array TypeId} {fv:Value} {vs:List Value} {φ : Value→HF→Prop} (hs:Ke P fv vs h φ) (hf:e t=fv) (hvs:ass.toList.map e.ev=vs)
  (t':∀ v h',h.le h'→φ v h'→K (pute e d v) h' L)
  (hg:guardB ops e ⟨d,.call ⟨.value (.tmp t),ass,ats⟩,ty,pos,af,g⟩=true:=by rfl):
  Stp P b n ops F ds X ⟨d,.call ⟨.value (.tmp t),ass,ats⟩,ty,pos,af,g⟩ e h L K:=by
 refine vt L [] (List.append_nil L).symm hs hf hvs ?_ ?_ hg
 ·rintro v h' B hle ⟨rfl,v',hv,hφ⟩
  cases hv
  rw [List.append_nil]
  exact t' _ h' hle hφ
 ·rintro ch h' B hle ⟨_,v',hv,_⟩
  cases hv
end stepsA
theorem KN {h:HF} {q:Addr} {cs:List Value} (ha:At h q cs) {i:Int} (hi:0≤i∧i < (cs.length:Int)):At h (q.add (i.toNat * 1)) [cs.getD i.toNat .nilFunc]:=by
 obtain ⟨cl,T,fz,hb,hs,hc⟩:=ha
 have hlt:i.toNat < cs.length:=by omega
 have h1:i.toNat * 1=i.toNat:=Nat.mul_one _
 obtain ⟨g,off,sp⟩:=q
 simp only at hs
 subst hs
 have hq:(⟨g,off,none⟩:Addr).add (i.toNat * 1)=⟨g,off+i.toNat,none⟩:=by
  rw [h1]
  by_cases e0:i.toNat=0
  ·simp [Addr.add,e0]
  ·simp [Addr.add,e0]
 rw [hq]
 refine ⟨cl,T,fz,hb,rfl,fun j v hj=>?_⟩
 have hj0:j=0:=by
  cases j with
  | zero=>rfl
  | succ j=>simp at hj
 subst hj0
 simp at hj
 subst hj
 have:=hc i.toNat (cs.getD i.toNat .nilFunc) (by simp [List.getD,List.getElem?_eq_getElem hlt])
 simpa using this
theorem kN {P:Program} {f:FuncId} {args cap:List Value} {h:HF} {A:LH} {R:Ending→HF→LH→Prop} (hc:∀ args w,(callFunc f args).run P w=.ok (.enter f args) w) (hs:nI P f (args++cap).toArray h A R):
  ld P (.func (.func f) #[] cap.toArray) args.toArray h A R:=by
 intro w hp
 refine ⟨.enter f (args++cap).toArray,?_,jf (hs w hp)⟩
 simp [Deferred.ofValue,invoke,hc]
def exW {ρ : Type} (pe:Int→Value) (f:ρ→Value):Except Int ρ→Except Value Value
 | .ok r=>.ok (f r)
 | .error e=>.error (pe e)
theorem mU {ρ : Type} {pe:Int→Value} {f:ρ→Value} {x:Except Int ρ} {u:Value} (h:exW pe f x=.ok u):∃ r,x=.ok r∧f r=u:=by
 cases x with
 | ok r=>exact ⟨r,rfl,by simpa [exW] using h⟩
 | error p=>simp [exW] at h
theorem lb {ρ : Type} {pe:Int→Value} {f:ρ→Value} {x:Except Int ρ} {p:Value} (h:exW pe f x=.error p):∃ e,x=.error e∧pe e=p:=by
 cases x with
 | ok r=>simp [exW] at h
 | error q=>exact ⟨q,rfl,by simpa [exW] using h⟩
def exi {ρ σ : Type}:Except Int ρ→(ρ→Except Int σ)→Except Int σ
 | .ok r,k=>k r
 | .error p,_=>.error p
theorem mT {ρ σ : Type} {x:Except Int ρ} {k:ρ→Except Int σ} {r:ρ} (h:x=.ok r):exi x k=k r:=by subst h;rfl
theorem la {ρ σ : Type} {x:Except Int ρ} {k:ρ→Except Int σ} {p:Int} (h:x=.error p):exi x k=.error p:=by subst h;rfl
theorem iG {P:Program} {f:FuncId} {args:Array Value} {w:World} {R:Ending→World→Prop} (h:Calls P f args w R) (hno:∀ w',¬ R .outgrown w'):nS P f args w R:=by
 intro c cs Φ h1 h2
 obtain ⟨e,w',fr,hR,hc,hfn,hl⟩:=h (c::cs)
 cases e with
 | returned v=>
  obtain ⟨m',s',p'⟩:=h1 v w' hR
  exact ⟨m',(show Steps P _ _ from hc).trans (.head (step_leave_returned hl) s'),p'⟩
 | panicked ch=>
  obtain ⟨m',s',p'⟩:=h2 ch w' hR
  exact ⟨m',(show Steps P _ _ from hc).trans (.head (step_leave_panicked hl) s'),p'⟩
 | outgrown=>exact (hno _ hR).elim
end Go.Sg
namespace Go.Sg
def smP (p:Policy):Prop:=p.Rules.length≤2000000∧(∀ r∈p.Rules,r.Expr.dep≤1500000)∧p.Change.dep≤1500000∧p.Offices.length≤2000000∧p.Kinds.length≤2000000
def smV (l:List Version):Prop:=l.length≤2000000∧∀ v∈l,smP v.Policy
def smR (r:Register):Prop:=smV r.Versions∧r.Appoints.length≤2000000∧r.Deputies.length≤2000000∧r.Interests.length≤2000000∧r.Budgets.length≤2000000∧r.Docs.length≤2000000∧r.Approvals.length≤2000000
theorem smP.rules {p:Policy} (h:smP p):p.Rules.length≤2000000:=h.1
theorem smP.change {p:Policy} (h:smP p):p.Change.dep≤1500000:=h.2.2.1
theorem smV.len {l:List Version} (h:smV l):l.length≤2000000:=h.1
theorem smR.vers {r:Register} (h:smR r):smV r.Versions:=h.1
def okV (l:List Version):Prop:=l.length≤256∧∀ v∈l,(v.Policy.Rules.length≤16∧v.Policy.Offices.length≤32)∧∀ r∈v.Policy.Rules,0≤r.Think∧r.Think≤1099511627775
inductive OkX (n:Int):Expr→Prop
 | mk (x:Expr) (hk:1≤x.Kind∧x.Kind≤4) (hn:x.Kind≤2→0≤x.No∧x.No < n) (hl:x.Kind=4→x.L.length=2) (hs:∀ y∈x.L,OkX n y):OkX n x
theorem OkX.kind {n:Int} {x:Expr} (h:OkX n x):1≤x.Kind∧x.Kind≤4:=by cases h with | mk _ a=>exact a
theorem OkX.no {n:Int} {x:Expr} (h:OkX n x):x.Kind≤2→0≤x.No∧x.No < n:=by cases h with | mk _ _ a=>exact a
theorem OkX.two {n:Int} {x:Expr} (h:OkX n x):x.Kind=4→x.L.length=2:=by cases h with | mk _ _ _ a=>exact a
theorem OkX.sub {n:Int} {x:Expr} (h:OkX n x):∀ y∈x.L,OkX n y:=by cases h with | mk _ _ _ _ a=>exact a
def stopV (e:Int):Value:=.iface 277 (.agg (oY.cells ⟨e⟩).toArray)
def kindsC:List Value:=[.func (.func 299) #[] #[],.func (.func 300) #[] #[],.func (.func 301) #[] #[],.func (.func 302) #[] #[],.func (.func 303) #[] #[]]
def kfun (i:Int):Value:=kindsC.getD i.toNat .nilFunc
def Kinds (h:HF):Prop:=∃ T fz,h 0=some (.cells kindsC.toArray T fz)
theorem Kinds.mono {h h':HF} (k:Kinds h) (hl:h.le h'):Kinds h':=let ⟨T,fz,e⟩:=k;⟨T,fz,hl _ _ e⟩
theorem Kinds.at {h:HF} (k:Kinds h) {i:Int} (hi:0≤i∧i < 5):At h ((⟨0,0,none⟩:Addr).add (i.toNat * 1)) [kfun i]:=by
 obtain ⟨T,fz,e⟩:=k
 rw [nH]
 refine At.zE e (fun j v hj=>?_)
 have hj0:j=0:=by
  cases j with
  | zero=>rfl
  | succ j=>simp at hj
 subst hj0
 simp at hj
 subst hj
 have:i=0∨i=1∨i=2∨i=3∨i=4:=by omega
 rcases this with rfl | rfl | rfl | rfl | rfl <;> rfl
def VFn (_:HF) (v:Value) (x:Value):Prop:=v=x
theorem VFn.mono:wl VFn:=fun _ _ _ _ _ e=>e
theorem gq {κ α : Type} [DecidableEq κ]:∀ (m:List (κ×α)) (k:κ) (v:α),(mput m k v).length≤m.length+1
 | [],_,_=>by simp [mput]
 | (k',v')::r,k,v=>by
  have:=gq r k v
  simp only [mput]
  split <;> simp <;> omega
theorem Jp {s:ByteArray} (h:(s.toList==(⟨#[]⟩:ByteArray).toList)=false):0 < s.size:=by
 rcases Nat.eq_zero_or_pos s.size with h0 | h0
 ·exfalso
  have:s=⟨#[]⟩:=by
   cases s with
   | mk d=>
    have:d=#[]:=Array.eq_empty_of_size_eq_zero h0
    rw [this]
  rw [this] at h;simp at h
 ·exact h0
end Go.Sg
namespace Go.Sg
def deferFrame (f:FuncId):Frame:={ fn:=f,tmps:=#[],todo:=[],defers:=[],mode:=.run,kind:=.deferred,roundOf:=none }
section
variable {P:Program} {f:FuncId} {n:Nat} {k:List Item} {e:Env} {X:Cx} {h:HF} {L:LH} {ops:Array Oper} {l:List Oper} {d:Nat} {ty:TypeId} {pos:String} {af:Array Edge} {g:Option (Nat×Bool)} {ats:Array TypeId}
theorem E3 {F F':List Frame→(Machine→Prop)→Prop} {ds:List Deferred} (v:Value) (hF:∀ cs Φ,F cs Φ→∃ cs',recoverD cs=some (v,cs')∧F' cs' Φ) (t:TO P (deferFrame f) n ops l k F' (upd e d v) ds X h L)
  (hd:Nat.blt d n=true:=by rfl) (hg:guardB ops e ⟨some d,.call ⟨.builtin .recover,#[],ats⟩,ty,pos,af,g⟩=true:=by rfl):
  TO P (deferFrame f) n ops (⟨some d,.call ⟨.builtin .recover,#[],ats⟩,ty,pos,af,g⟩::l) k F e ds X h L:=by
 intro w hw is hi a cs Φ hn he hds hF0
 obtain ⟨i,js,rfl,ho,hj⟩:=nl hi
 obtain ⟨cs',hrec,hF1⟩:=hF cs Φ hF0
 have hwt:=(fh (ops:=ops) he).trans hg
 have hst:=stepGR_op (P:=P) (b:=deferFrame f) (k:=k) (cs:=cs) (w:=w) (rest:=js) ho hwt
 have hr:(execOp a.eval ⟨some d,.call ⟨.builtin .recover,#[],ats⟩,ty,pos,af,g⟩).run P w=.ok .recover w:=by
  simp [execOp,resolve,invoke,builtin]
 have htr:tryRecover ((deferFrame f).atR a (.inRegion ops (i::js)::k)) cs=some (v,cs'):=by
  rw [tryRecover_deferred (by rfl) cs,hrec]
 have hput:envOf (a.put (some d) v)=upd e d v:=by rw [mz a d v (by rw [hn];exact nd hd),he]
 refine .step (m₁:=lone ((deferFrame f).atR (a.put (some d) v) (.inRegion ops js::k)) cs' w) ?_ (t w hw js hj (a.put (some d) v) cs' Φ (by rw [lX];exact hn) hput (by rw [j3];exact hds) hF1)
 refine step_lone_go ?_
 rw [hst,iu _ _ rfl,← gi a js k ho v]
 simp [stepG.apply,hr,htr]
 rfl
theorem Ds {F:List Frame→(Machine→Prop)→Prop} {ds:List Deferred} (hF:∀ cs Φ,F cs Φ→recoverD cs=none) (t:TO P (deferFrame f) n ops l k F (upd e d .nilIface) ds X h L)
  (hd:Nat.blt d n=true:=by rfl) (hg:guardB ops e ⟨some d,.call ⟨.builtin .recover,#[],ats⟩,ty,pos,af,g⟩=true:=by rfl):
  TO P (deferFrame f) n ops (⟨some d,.call ⟨.builtin .recover,#[],ats⟩,ty,pos,af,g⟩::l) k F e ds X h L:=by
 intro w hw is hi a cs Φ hn he hds hF0
 obtain ⟨i,js,rfl,ho,hj⟩:=nl hi
 have hrec:=hF cs Φ hF0
 have hwt:=(fh (ops:=ops) he).trans hg
 have hst:=stepGR_op (P:=P) (b:=deferFrame f) (k:=k) (cs:=cs) (w:=w) (rest:=js) ho hwt
 have hr:(execOp a.eval ⟨some d,.call ⟨.builtin .recover,#[],ats⟩,ty,pos,af,g⟩).run P w=.ok .recover w:=by
  simp [execOp,resolve,invoke,builtin]
 have htr:tryRecover ((deferFrame f).atR a (.inRegion ops (i::js)::k)) cs=none:=by
  rw [tryRecover_deferred (by rfl) cs,hrec]
 have hput:envOf (a.put (some d) .nilIface)=upd e d .nilIface:=by rw [mz a d _ (by rw [hn];exact nd hd),he]
 refine .step (m₁:=lone ((deferFrame f).atR (a.put (some d) .nilIface) (.inRegion ops js::k)) cs w) ?_ (t w hw js hj (a.put (some d) .nilIface) cs Φ (by rw [lX];exact hn) hput (by rw [j3];exact hds) hF0)
 refine step_lone_go ?_
 rw [hst,iu _ _ rfl,← gi a js k ho .nilIface]
 simp [stepG.apply,hr,htr]
 rfl
def Ho (P:Program) (X:Cx) (u':FrameMode) (R:HF→LH→Prop) (cs:List Frame) (Φ : Machine→Prop):Prop:=
 ∃ c rest,cs=c::rest∧c.mode=u'∧∀ w',(∃ h' B,St X h' B w'∧R h' B)→To P Φ (lone { c with mode:=settle u' } rest w')
theorem HV {fn:Func} {u':FrameMode} {R:HF→LH→Prop} (hf:P.funcs[f]? = some fn) (hr:fn.results=#[]) (hR:R h L):TT P (deferFrame f) n [] (Ho P X u' R) e [] X h L:=by
 intro w hw a cs Φ hn he hds hF
 obtain ⟨c,rest,rfl,hm,h1⟩:=hF
 refine .step (stepR_end rfl) ?_
 have hgo:Frame.going P { (deferFrame f).atR a [] with mode:=.returning } w (.returned (.tuple #[])):=⟨rfl,hds,fn,hf,kO hr a w⟩
 refine .step (step_going_returned (c:=c) (cs:=rest) rfl hgo) ?_
 rw [hm]
 exact h1 w ⟨h,L,hw,hR⟩
end
section
variable {P:Program} {b:Frame} {n:Nat} {k:List Item} {F:List Frame→(Machine→Prop)→Prop} {e:Env} {ds:List Deferred} {X:Cx} {h:HF} {L:LH} {ops:Array Oper} {l:List Oper} {ty:TypeId} {pos:String} {af:Array Edge} {g:Option (Nat×Bool)}
theorem HU {t:Nat} {fv:Fn} {cap:Array Value} {ats:Array TypeId} (hro:b.roundOf=none) (hf:e t=.func fv #[] cap)
  (t':TO P b n ops l k F e ({ target:=.fn fv cap,args:=#[] }::ds) X h L)
  (hg:guardB ops e ⟨none,.defer ⟨.value (.tmp t),#[],ats⟩,ty,pos,af,g⟩=true:=by rfl):TO P b n ops (⟨none,.defer ⟨.value (.tmp t),#[],ats⟩,ty,pos,af,g⟩::l) k F e ds X h L:=by
 intro w hw is hi a cs Φ hn he hds hF
 obtain ⟨i,js,rfl,ho,hj⟩:=nl hi
 have hwt:=(fh (ops:=ops) he).trans hg
 have hst:=stepGR_op (P:=P) (b:=b) (k:=k) (cs:=cs) (w:=w) (rest:=js) ho hwt
 have hr:(execOp a.eval ⟨none,.defer ⟨.value (.tmp t),#[],ats⟩,ty,pos,af,g⟩).run P w=.ok (.defer { target:=.fn fv cap,args:=#[] }) w:=by
  have hev:a.eval (.tmp t)=.func fv #[] cap:=by rw [i9,he];exact hf
  simp [execOp,resolve,hev,Deferred.ofValue]
 have hs:Oper.semAt b.roundOf a.eval ⟨none,.defer ⟨.value (.tmp t),#[],ats⟩,ty,pos,af,g⟩=execOp a.eval ⟨none,.defer ⟨.value (.tmp t),#[],ats⟩,ty,pos,af,g⟩:=by rw [hro];rfl
 refine .step (m₁:=lone (b.atR { a with defers:={ target:=.fn fv cap,args:=#[] }::a.defers } (.inRegion ops js::k)) cs w) ?_ (t' w hw js hj { a with defers:={ target:=.fn fv cap,args:=#[] }::a.defers } cs Φ hn he (by rw [hds]) hF)
 refine step_lone_go ?_
 have hfin:=gi (b:=b) { a with defers:={ target:=.fn fv cap,args:=#[] }::a.defers } js k ho undef
 rw [hst,hs]
 simp only [stepG.apply,Sem.runT_eq,hr,GStep.bare_after]
 exact congrArg (fun fr=>GStep.go { frame:=fr,callers:=cs,status:=.running,dying:=none } w) hfin
end
theorem Ji {P:Program} {f g:FuncId} {n m:Nat} {k:List Item} {e:Env} {X:Cx} {h:HF} {L A Fr:LH} {cap:List Value} {c:Code} {fn gn:Func} {R:Ending→HF→LH→Prop} {R':HF→LH→Prop}
  (hf:P.funcs[f]? = some fn) (hg:P.funcs[g]? = some gn) (hb:gn.body=some c) (hm:gn.ntmps=m) (hle:Nat.ble cap.length m=true) (hc:∀ args w,(callFunc g args).run P w=.ok (.enter g args) w)
  (t:∀ X':Cx,X'.h0=h→TT P (deferFrame g) m [.code c] (Ho P X' .returning R') (envArgs cap) [] X' h A) (hL:L=A++Fr)
  (fin:∀ h' B,h.le h'→R' h' B→∀ a:Act,envOf a=e→∀ w,St X h' (B++Fr) w→∃ v h2 B2,(results fn a.tmps).run P w=.ok v w∧St X h2 B2 w∧R (.returned v) h2 B2):
  TT P (bodyFrame f) n (.code .ret::k) (lU P X R) e [{ target:=.fn (.func g) cap.toArray,args:=#[] }] X h L:=by
 intro w hw a cs Φ hn he hds hF
 obtain ⟨cc,cs',rfl,h1,_⟩:=hF
 subst hL
 refine .step (stepR_ret rfl) ?_
 have hinv:(invoke (.fn (.func g) cap.toArray) #[]).run P w=.ok (.enter g cap.toArray) w:=by simp [invoke,hc]
 refine .step (step_defer (fr:={ (bodyFrame f).atR a (.code .ret::k) with mode:=.returning }) (by simp) hds rfl hinv) ?_
 have hle':=Nat.le_of_ble_eq_true hle
 have henter:Frame.enter P g cap.toArray .deferred=(deferFrame g).atR { tmps:=cap.toArray++Array.replicate (m - cap.length) undef,defers:=[] } [.code c]:=by
  simp [Frame.enter,Frame.atR,hg,hb,hm,deferFrame]
 rw [henter]
 refine t ⟨w,h,A.map (·.1)⟩ rfl w (St.start hw.pre.left) _ _ Φ (by simp;omega) (oV _ _) rfl ⟨_,cc::cs',rfl,rfl,?_⟩
 rintro w' ⟨h',B,hst,hR'⟩
 obtain ⟨v,h2,B2,hv,hs2,hR⟩:=fin h' B hst.le hR' a he w' (hw.after hst)
 refine .step (hZ (fn:=fn) (v:=v) rfl rfl rfl hf hv) ?_
 exact h1 v w' ⟨h2,B2,hs2,hR⟩
theorem Jm {P:Program} {f g:FuncId} {n m:Nat} {e:Env} {X:Cx} {h:HF} {L A Fr:LH} {cap:List Value} {c:Code} {fn gn:Func} {R:Ending→HF→LH→Prop} {R':HF→LH→Prop} {pv:Value}
  (hf:P.funcs[f]? = some fn) (hg:P.funcs[g]? = some gn) (hb:gn.body=some c) (hm:gn.ntmps=m) (hle:Nat.ble cap.length m=true) (hc:∀ args w,(callFunc g args).run P w=.ok (.enter g args) w)
  (t:∀ X':Cx,X'.h0=h→TT P (deferFrame g) m [.code c] (fun cs Φ=>∃ c rest,cs=c::rest∧c.mode=.panicking [{ v:=pv,recovered:=false }]∧Ho P X' (.panicking [{ v:=pv,recovered:=true }]) R' ({ c with mode:=.panicking [{ v:=pv,recovered:=true }] }::rest) Φ) (envArgs cap) [] X' h A) (hL:L=A++Fr)
  (fin:∀ h' B,h.le h'→R' h' B→∀ a:Act,envOf a=e→∀ w,St X h' (B++Fr) w→∃ v h2 B2,(results fn a.tmps).run P w=.ok v w∧St X h2 B2 w∧R (.returned v) h2 B2):
  TP P (bodyFrame f) n [{ v:=pv,recovered:=false }] (lU P X R) e [{ target:=.fn (.func g) cap.toArray,args:=#[] }] X h L:=by
 intro w hw a cs Φ todo hn he hds hF
 obtain ⟨cc,cs',rfl,h1,_⟩:=hF
 subst hL
 have hinv:(invoke (.fn (.func g) cap.toArray) #[]).run P w=.ok (.enter g cap.toArray) w:=by simp [invoke,hc]
 refine .step (step_defer (fr:={ (bodyFrame f).atR a todo with mode:=.panicking [{ v:=pv,recovered:=false }] }) (by simp) hds rfl hinv) ?_
 have hle':=Nat.le_of_ble_eq_true hle
 have henter:Frame.enter P g cap.toArray .deferred=(deferFrame g).atR { tmps:=cap.toArray++Array.replicate (m - cap.length) undef,defers:=[] } [.code c]:=by
  simp [Frame.enter,Frame.atR,hg,hb,hm,deferFrame]
 rw [henter]
 refine t ⟨w,h,A.map (·.1)⟩ rfl w (St.start hw.pre.left) _ _ Φ (by simp;omega) (oV _ _) rfl ⟨_,cc::cs',rfl,rfl,_,cc::cs',rfl,rfl,?_⟩
 rintro w' ⟨h',B,hst,hR'⟩
 obtain ⟨v,h2,B2,hv,hs2,hR⟩:=fin h' B hst.le hR' a he w' (hw.after hst)
 refine .step (hZ (fn:=fn) (v:=v) rfl rfl rfl hf hv) ?_
 exact h1 v w' ⟨h2,B2,hs2,hR⟩
end Go.Sg
namespace Go.Sg
section steps
variable {P:Program} {b:Frame} {n:Nat} {ops:Array Oper} {F:List Frame→(Machine→Prop)→Prop} {e:Env} {ds:List Deferred} {X:Cx} {h:HF} {L:LH} {K:Env→HF→LH→Prop}
variable {d:Option Nat} {ty:TypeId} {pos:String} {af:Array Edge} {g:Option (Nat×Bool)}
theorem Cy {t T E:TypeId} {x:Operand} {bk:Nat} {es:Array MapEntry} {clock:Nat} (hT:P.underlying t=some (.map T E)) (hb:h bk=some (.map es clock)) (hx:e.ev x=.map (some bk))
  (t':∀ it,K (pute e d (.pointer (some ⟨it,0,none⟩))) h ((it,.mapIter (some bk) clock #[] clock)::L))
  (hg:guardB ops e ⟨d,.range t x,ty,pos,af,g⟩=true:=by rfl):Stp P b n ops F ds X ⟨d,.range t x,ty,pos,af,g⟩ e h L K:=
 gW hg fun w hw=>⟨_,_,h,_,by simp [execOp,Instr.range,hx,run_underlying hT,lk (hw.imm _ _ hb)],hw.alloc _,t' _⟩
theorem E6 (i:Nat) {x:Operand} {it bk since c0:Nat} {seen:Array Nat} {es:Array MapEntry} {clock:Nat} (hL:nth L i=some (it,.mapIter (some bk) since seen c0)) (hb:h bk=some (.map es clock))
  (hold:∀ x∈es.toList,x.born < since) (hsc:since≤c0) (hx:e.ev x=.pointer (some ⟨it,0,none⟩))
  (no:(leftOf es seen).size=0→K (pute e d (.tuple #[.bool false])) h L)
  (yes:∀ en∈(leftOf es seen).toList,K (pute e d (.tuple #[.bool true,en.key,en.val])) h (setNth L i (it,.mapIter (some bk) since (seen.push en.born) clock)))
  (hg:guardB ops e ⟨d,.next x false,ty,pos,af,g⟩=true:=by rfl):Stp P b n ops F ds X ⟨d,.next x false,ty,pos,af,g⟩ e h L K:=by
 refine gW hg fun w hw=>?_
 have hit:w.heap[it]? = some (.mapIter (some bk) since seen c0):=by
  have h2:=hL
  rw [gv] at h2
  exact hw.own _ (List.mem_of_getElem? h2)
 rcases run_next_at (P:=P) w ty it bk since c0 seen es clock hit (hw.imm _ _ hb) hold hsc with ⟨h0,hr⟩ | ⟨en,hen,w1,hw1,hr⟩
 ·exact ⟨_,w,h,L,by simp [execOp,hx,hr],hw,no h0⟩
 ·have hw1':St X h L w1:=by
   rcases hw1 with rfl | rfl
   ·exact hw
   ·exact hw.drew _
  exact ⟨.tuple #[.bool true,en.key,en.val],{ w1 with heap:=w1.heap.setIfInBounds it (.mapIter (some bk) since (seen.push en.born) clock) },h,_,by simp [execOp,hx,hr];rfl,hw1'.write hL _,yes en hen⟩
theorem CI (i:Nat) {x:Operand} {it bk since:Nat} {seen:Array Nat} {es:Array MapEntry} {clock:Nat} {en:MapEntry} (hL:nth L i=some (it,.mapIter (some bk) since (seen.push en.born) clock)) (hb:h bk=some (.map es clock))
  (he:en∈es.toList) (hn:(es.toList.map (·.born)).Nodup) (hx:e.ev x=.pointer (some ⟨it,0,none⟩)):
  ∀ w,St X h L w→(execOp e.ev ⟨d,.entry x,ty,pos,af,g⟩).run P w=.ok (.value (.tuple #[en.key,en.val])) w:=fun w hw=>by
 have hit:w.heap[it]? = some (.mapIter (some bk) since (seen.push en.born) clock):=by
  have h2:=hL
  rw [gv] at h2
  exact hw.own _ (List.mem_of_getElem? h2)
 have:=run_entry_at (P:=P) w it bk since seen es clock en hit (hw.imm _ _ hb) he hn
 simp [execOp,hx,this]
end steps
def w7 {α : Type} (P:Program) (it:Value) (val:α→HF→List Value→Prop) (S:List α→Prop) (h:HF):Prop:=
 ∃ (f0:FuncId) (cap:List Value),it=.func (.func f0) #[] cap.toArray∧(∀ args w,(callFunc f0 args).run P w=.ok (.enter f0 args) w) ∧
  ∀ (yf:Fn) (ya yb:Array Value) (C:List α→HF→LH→Prop) (Sp:HF→LH→Prop) (Pn:List PanicEntry→HF→LH→Prop) (h':HF) (A:LH),h.le h' →
   (∀ done h1 h2 B,HF.le h1 h2→C done h1 B→C done h2 B)→(∀ h1 h2 B,HF.le h1 h2→Sp h1 B→Sp h2 B)→(∀ ch h1 h2 B,HF.le h1 h2→Pn ch h1 B→Pn ch h2 B)→C [] h' A →
   (∀ done x vs h'' B,(∃ rest,S (done++x::rest))→h'.le h''→C done h'' B→val x h'' vs→ld P (.func yf ya yb) vs.toArray h'' B (YR C Sp Pn done x)) →
   ld P it #[.func yf ya yb] h' A (fun r h2 B=>(r=.returned (.tuple #[])∧((∃ xs,S xs∧C xs h2 B)∨Sp h2 B))∨∃ ch,r=.panicked ch∧Pn ch h2 B)
theorem Bu {α : Type} {P:Program} {f:FuncId} {n:Nat} {k:List Item} {F:List Frame→(Machine→Prop)→Prop} {e:Env} {ds:List Deferred} {X:Cx} {h:HF} {L:LH} {g:Operand} {ps:List Tmp} {assign body:Code}
  {val:α→HF→List Value→Prop} {S:List α→Prop} (I:List α→HF→LH→Prop) (J:Code→HF→LH→Prop) (Pn:List PanicEntry→HF→LH→Prop)
  {it:Value} (hgv:e.ev g=it) (hit:w7 P it val S h) (hps:ps.all (fun p=>Nat.blt p n)=true) (hval:∀ x h vs,val x h vs→vs.length=ps.length) (hIm:∀ done h1 h2 B,HF.le h1 h2→I done h1 B→I done h2 B) (hJm:∀ c h1 h2 B,HF.le h1 h2→J c h1 B→J c h2 B) (hPm:∀ ch h1 h2 B,HF.le h1 h2→Pn ch h1 B→Pn ch h2 B) (h0:I [] h L)
  (round:∀ l r lp done x vs h' L' X',(∃ rest,S (done++x::rest))→h.le h'→I done h' L'→val x h' vs→lp.state=.ready→X'.h0=h'→(∀ b∈X'.M,b < X'.w0.heap.size) →
   TT P (roundFrame l f) n [.code assign,.beginRound,.code body] (lU P X' (RdR l r lp I J Pn done x)) (setParams e ps vs) [] X' h' ((l,.loop lp)::(r,.deferred (some []))::L'))
  (next:∀ r xs h' L',S xs→h.le h'→I xs h' L'→TT P (bodyFrame f) n k F e ({ target:=.collected r,args:=#[] }::ds) X h' ((r,.deferred (some []))::L'))
  (jump:∀ r c h' L',h.le h'→J c h' L'→TT P (bodyFrame f) n (.code c::k) F e ({ target:=.collected r,args:=#[] }::ds) X h' ((r,.deferred (some []))::L'))
  (pan:∀ r ch h' L',h.le h'→Pn ch h' L'→TP P (bodyFrame f) n ch F e ({ target:=.collected r,args:=#[] }::ds) X h' ((r,.deferred (some []))::L')):
  TT P (bodyFrame f) n (.code (.rangeFunc g ps.toArray assign body)::k) F e ds X h L:=by
 obtain ⟨f0,cap,rfl,hc0,hit⟩:=hit
 intro w hw a cs Φ hn he hds hF
 let r:=w.heap.size
 let w1:World:={ w with heap:=w.heap.push (.deferred (some [])) }
 have hw1:St X h ((r,.deferred (some []))::L) w1:=hw.alloc _
 let l:=w1.heap.size
 let lp:Loop:={ state:=.ready,pending:=none,fn:=f,tmps:=a.tmps,params:=ps.toArray,assign,body,defers:=r }
 let w2:World:={ w1 with heap:=w1.heap.push (.loop lp) }
 have hw2:St X h ((l,.loop lp)::(r,.deferred (some []))::L) w2:=hw1.alloc _
 have henter:(Instr.enterLoop (bodyFrame f).fn a.tmps ps.toArray assign body (bodyFrame f).roundOf).run P w=.ok (l,[{ target:=.collected r,args:=#[] }]) w2:=by
  simp [Instr.enterLoop,bodyFrame,r,l,lp,w2,w1]
 let C:List α→HF→LH→Prop:=fun done h' B=>∃ L',B=(l,.loop lp)::(r,.deferred (some []))::L'∧I done h' L'
 let Sp:HF→LH→Prop:=fun h' B=>∃ c L',B=(l,.loop { lp with state:=.done,pending:=some c })::(r,.deferred (some []))::L'∧J c h' L'
 let Pm:List PanicEntry→HF→LH→Prop:=fun ch h' B=>∃ lp' L',B=(l,.loop lp')::(r,.deferred (some []))::L'∧Pn ch h' L'
 have hps':∀ p∈ps,p < n:=fun p hp=>nd (List.all_eq_true.1 hps p hp)
 have hy:∀ done x vs h'' B,(∃ rest,S (done++x::rest))→h.le h''→C done h'' B→val x h'' vs→ld P (.func (.yield l) #[] #[]) vs.toArray h'' B (YR C Sp Pm done x):=by
  rintro done x vs h'' B hxs hle ⟨L',rfl,hI⟩ hv
  refine ld.mono (R:=RdR l r lp I J Pn done x) (xl (i:=0) (lp:=lp) rfl (by simp [lp];exact hval x h'' vs hv) ?_) ?_
  ·intro X' _ hX' hXM'
   have henv:envOf { tmps:=(ps.toArray.zip vs.toArray).foldl (fun tmps p=>tmps.setIfInBounds p.1 p.2) a.tmps,defers:=[] }=setParams e ps vs:=by
    have:=qw ps vs a.tmps a.defers hn hps'
    rw [← he]
    rw [← Array.foldl_toList]
    simpa using this
   have:=round l r lp done x vs h'' L' X' hxs hle hI hv rfl hX' hXM'
   rw [← henv,← hn] at this
   exact this
  ·rintro x' h3 B' _ (⟨e1,L2,e2,h2⟩ | ⟨e1,c,L2,e2,h2⟩ | ⟨ch,e1,lp',L2,e2,h2⟩)
   ·exact .inl ⟨e1,L2,e2,h2⟩
   ·exact .inr (.inl ⟨e1,c,L2,e2,h2⟩)
   ·exact .inr (.inr ⟨ch,e1,lp',L2,e2,h2⟩)
 have hs:=hit (.yield l) #[] #[] C Sp Pm h ((l,.loop lp)::(r,.deferred (some []))::L) (HF.le_refl h) (fun _ _ _ _ hl ⟨L',e1,hi⟩=>⟨L',e1,hIm _ _ _ _ hl hi⟩) (fun _ _ _ hl ⟨c,L',e1,hi⟩=>⟨c,L',e1,hJm _ _ _ _ hl hi⟩) (fun _ _ _ _ hl ⟨lp',L',e1,hi⟩=>⟨lp',L',e1,hPm _ _ _ _ hl hi⟩) ⟨L,rfl,h0⟩ hy
 obtain ⟨nx,hrun,hcall⟩:=hs w2 hw2.pre
 have hev:a.eval g=e.ev g:=by rw [i9,he]
 have hnx:nx=.enter f0 (Value.func (.yield l) #[] #[]::cap).toArray:=by
  simp [Deferred.ofValue,invoke,hc0] at hrun
  simpa using hrun.symm
 subst hnx
 have hres:(resolve a.eval (rangeCall g l) 0).run P w2=.ok { target:=.fn (.func f0) cap.toArray,args:=#[.func (.yield l) #[] #[]] } w2:=by
  have hcst:∀ v,a.eval (.const v)=v:=fun _=>rfl
  simp [resolve,rangeCall,hev,hgv,hcst,Deferred.ofValue]
 have hinv:(invoke (.fn (.func f0) cap.toArray) #[.func (.yield l) #[] #[]]).run P w2=.ok (.enter f0 (Value.func (.yield l) #[] #[]::cap).toArray) w2:=by
  simp [invoke,hc0]
 have hback:∀ v w3,(∃ h' B,St ⟨w2,h,((l,Obj.loop lp)::(r,.deferred (some []))::L).map (·.1)⟩ h' B w3∧(fun (r:Ending) (h2:HF) (B:LH)=>(r=.returned (.tuple #[])∧((∃ xs,S xs∧C xs h2 B)∨Sp h2 B))∨∃ ch,r=.panicked ch∧Pm ch h2 B) (.returned v) h' B) →
   To P Φ (lone (((bodyFrame f).atR { a with defers:=[{ target:=.collected r,args:=#[] }]++a.defers } (.inRangeFunc l::k)).finish v) cs w3):=by
  rintro v w3 ⟨h',B,hst,hR⟩
  rw [finish_atR_inRangeFunc]
  have hS3:St X h' B w3:=by
   have:=St.after (A:=(l,.loop lp)::(r,.deferred (some []))::L) (F:=[]) (by simpa using hw2) hst
   simpa using this
  have hle:=hst.le
  rcases hR with ⟨_,hCS⟩ | ⟨ch,hx,_⟩
  ·rcases hCS with ⟨xs,hxs,L',rfl,hI⟩ | ⟨c,L',rfl,hJ⟩
   ·have hb:w3.heap[l]? = some (.loop lp):=hS3.own _ (List.mem_cons_self ..)
    have hend:(Instr.endLoop l).run P w3=.ok none { w3 with heap:=w3.heap.setIfInBounds l (.loop { lp with state:=.exhausted }) }:=by
     simp [Instr.endLoop,Instr.getLoop,getObj,setObj,Sem.run,hb,lp]
    refine .step (stepR_endRangeFunc hend) ?_
    have hS4:=hS3.write (i:=0) rfl (.loop { lp with state:=.exhausted })
    exact next r xs h' L' hxs hle hI _ (hS4.sub (List.sublist_cons_self ..)) { a with defers:={ target:=.collected r,args:=#[] }::a.defers } cs Φ hn he (by rw [hds]) hF
   ·have hb:w3.heap[l]? = some (.loop { lp with state:=.done,pending:=some c }):=hS3.own _ (List.mem_cons_self ..)
    have hend:(Instr.endLoop l).run P w3=.ok (some c) { w3 with heap:=w3.heap.setIfInBounds l (.loop { lp with state:=.exhausted,pending:=some c }) }:=by
     simp [Instr.endLoop,Instr.getLoop,getObj,setObj,Sem.run,hb,lp]
    refine .step (stepR_endRangeFunc hend) ?_
    have hS4:=hS3.write (i:=0) rfl (.loop { lp with state:=.exhausted,pending:=some c })
    exact jump r c h' L' hle hJ _ (hS4.sub (List.sublist_cons_self ..)) { a with defers:={ target:=.collected r,args:=#[] }::a.defers } cs Φ hn he (by rw [hds]) hF
  ·cases hx
 have hraise:∀ ch w3,(∃ h' B,St ⟨w2,h,((l,Obj.loop lp)::(r,.deferred (some []))::L).map (·.1)⟩ h' B w3∧(fun (r:Ending) (h2:HF) (B:LH)=>(r=.returned (.tuple #[])∧((∃ xs,S xs∧C xs h2 B)∨Sp h2 B))∨∃ ch,r=.panicked ch∧Pm ch h2 B) (.panicked ch) h' B) →
   To P Φ (lone (((bodyFrame f).atR { a with defers:=[{ target:=.collected r,args:=#[] }]++a.defers } (.inRangeFunc l::k)).raise ch) cs w3):=by
  rintro ch w3 ⟨h',B,hst,hR⟩
  have hS3:St X h' B w3:=by
   have:=St.after (A:=(l,.loop lp)::(r,.deferred (some []))::L) (F:=[]) (by simpa using hw2) hst
   simpa using this
  rcases hR with ⟨hx,_⟩ | ⟨ch',hx,lp',L',rfl,hP⟩
  ·cases hx
  ·cases hx
   exact pan r ch h' L' hst.le hP w3 (hS3.sub (List.sublist_cons_self ..)) { a with defers:={ target:=.collected r,args:=#[] }::a.defers } cs Φ _ hn he (by rw [hds]) hF
 refine .step (stepR_rangeFunc henter hres hinv) ?_
 exact hcall _ cs Φ hback hraise
theorem sB {es:List MapEntry} (hn:(es.map (·.born)).Nodup) (is:List Nat) (hlt:∀ i∈is,i < es.length):
  ((leftOf es.toArray (is.map fun i=>(es[i]?.map (·.born)).getD 0).toArray).size=0→∀ i,i < es.length→i∈is) ∧
  ∀ en∈(leftOf es.toArray (is.map fun i=>(es[i]?.map (·.born)).getD 0).toArray).toList,∃ i,es[i]? = some en∧i∉is:=by
 have hmem:∀ en,en∈(leftOf es.toArray (is.map fun i=>(es[i]?.map (·.born)).getD 0).toArray).toList↔en∈es∧en.born∉is.map fun i=>(es[i]?.map (·.born)).getD 0:=by
  intro en
  simp [leftOf]
 constructor
 ·intro h0 i hi
  apply Classical.byContradiction
  intro hni
  have:es[i]∈(leftOf es.toArray (is.map fun i=>(es[i]?.map (·.born)).getD 0).toArray).toList:=by
   rw [hmem]
   refine ⟨List.getElem_mem hi,fun hm=>?_⟩
   obtain ⟨j,hj,hje⟩:=List.mem_map.1 hm
   have hjl:=hlt j hj
   simp only [List.getElem?_eq_getElem hjl,Option.map_some,Option.getD_some] at hje
   have:j=i:=by
    have h1:(es.map (·.born))[j]? = (es.map (·.born))[i]?:=by simp [List.getElem?_eq_getElem hjl,List.getElem?_eq_getElem hi,hje]
    exact (List.getElem?_inj (by simpa using hjl) hn).1 h1
   exact hni (this ▸ hj)
  have hl:(leftOf es.toArray (is.map fun i=>(es[i]?.map (·.born)).getD 0).toArray).toList.length=0:=by simpa using h0
  rw [List.length_eq_zero_iff] at hl
  rw [hl] at this
  exact List.not_mem_nil this
 ·intro en hen
  rw [hmem] at hen
  obtain ⟨i,hi,rfl⟩:=List.mem_iff_getElem.1 hen.1
  refine ⟨i,List.getElem?_eq_getElem hi,fun hm=>hen.2 (List.mem_map.2 ⟨i,hm,?_⟩)⟩
  simp [List.getElem?_eq_getElem hi]
end Go.Sg
namespace Go.Sg
section
variable {P:Program} {b:Frame} {n:Nat} {k:List Item} {F:List Frame→(Machine→Prop)→Prop} {e:Env} {ds:List Deferred} {X:Cx} {h:HF} {L:LH}
theorem Cr {c:Code} {ι : Type} (sl:ι→List (Nat×Value)) (LL:ι→LH) (I:ι→Prop) (hk:∀ i,I i→∀ e',TT P b n k F (upds e' (sl i)) ds X h (LL i))
  (t':(∀ i e',I i→jg e' (sl i)→TT P b n k F e' ds X h (LL i))→TT P b n (.code c::k) F e ds X h L):TT P b n (.code c::k) F e ds X h L:=
 t' fun i e' hI hr=>by have:=hk i hI e';rw [hr.upds] at this;exact this
end
theorem GK {α ι : Type} {P:Program} {f:FuncId} {fn:Func} {n:Nat} {k:List Item} {F:List Frame→(Machine→Prop)→Prop} {e:Env} {X:Cx} {h:HF} {L:LH} {g:Operand} {ps:List Tmp} {assign body:Code}
  {val:α→HF→List Value→Prop} {xs:List α} {it:Value} (rs:List Nat) (hh:ι→HF) (LL:ι→LH) (I:List α→ι→Prop) (JR:ι→Prop) (xid:Nat) (Q:List PanicEntry→HF→LH→Prop) (i₀ : ι)
  (hf:P.funcs[f]? = some fn) (hgv:e.ev g=it) (hit:Itr P it val xs h) (hps:ps.all (fun p=>Nat.blt p n)=true) (hval:∀ x h vs,val x h vs→vs.length=ps.length) (hQm:∀ ch h1 h2 B,HF.le h1 h2→Q ch h1 B→Q ch h2 B) (hh0:hh i₀=h) (hL0:L=LL i₀) (h0:I xs i₀)
  (round:∀ (l r:Nat) (lp:Loop) (x:α) (rest:List α) (vs:List Value) (i:ι) (h':HF) (X':Cx) (FR:List Frame→(Machine→Prop)→Prop),I (x::rest) i→h.le h'→(hh i).le h'→val x h' vs→X'.h0=h'→(∀ b∈X'.M,b < X'.w0.heap.size)→lp.state=.ready →
   (∀ i' e' h2,I rest i'→(hh i').le h2→TT P (roundFrame l f) n [] FR e' [] X' h2 (rdH l r lp (LL i'++markB rs))) →
   (∀ i' e' h2 k',JR i'→(hh i').le h2→TT P (roundFrame l f) n (.code .ret::k') FR e' [] X' h2 (rdH l r lp (LL i'++markB rs))) →
   (∀ i' e' h2 k',I [] i'→(hh i').le h2→exitTo xid k'=none→TT P (roundFrame l f) n (.code (.exit xid)::k') FR e' [] X' h2 (rdH l r lp (LL i'++markB rs))) →
   (∀ ch e' h' L',Q ch h' L'→TP P (roundFrame l f) n ch FR e' [] X' h' (rdH l r lp (L'++markB rs))) →
   TT P (roundFrame l f) n [.code assign,.beginRound,.code body] FR (setParams e ps vs) [] X' h' ((l,.loop lp)::(r,.deferred (some []))::(LL i++markB rs)))
  (next:∀ r i h',I [] i→(hh i).le h'→h.le h'→TT P (bodyFrame f) n k F e (marks (r::rs)) X h' (LL i++markB (r::rs)))
  (jret:∀ r i h',JR i→(hh i).le h'→h.le h'→TT P (bodyFrame f) n (.code .ret::.inBlock xid::k) F e (marks (r::rs)) X h' (LL i++markB (r::rs)))
  (pan:∀ r ch h' L',Q ch h' L'→h.le h'→TP P (bodyFrame f) n ch F e (marks (r::rs)) X h' (L'++markB (r::rs))):
  TT P (bodyFrame f) n (.code (.rangeFunc g ps.toArray assign body)::.inBlock xid::k) F e (marks rs) X h (L++markB rs):=
 kd rs hh LL I JR (fun i=>I [] i) xid Q i₀ hf hgv hit hps hval hQm hh0 hL0 h0 round (fun r i h' a b c=>dY (next r i h' a b c)) jret
  (fun r i h' a b c=>j6 (by simp [exitTo]) (next r i h' a b c)) pan
section mputs
variable {κ α : Type} [DecidableEq κ]
def mputs (v:α) (m:List (κ×α)) (ks:List κ):List (κ×α):=ks.foldl (fun m k=>mput m k v) m
theorem xA (v:α):∀ (ks:List κ) {m m':List (κ×α)},m.Perm m'→(m.map (·.1)).Nodup→(mputs v m ks).Perm (mputs v m' ks)
 | [],_,_,p,_=>p
 | k::ks,_,_,p,hn=>xA v ks (BU k v p hn) (jt k v hn)
theorem oD (v:α) {ks ks':List κ} (p:ks.Perm ks'):∀ {m:List (κ×α)},(m.map (·.1)).Nodup→(mputs v m ks).Perm (mputs v m ks'):=by
 induction p with
 | nil=>exact fun _=>List.Perm.refl _
 | cons x p ih=>exact fun hn=>ih (jt x v hn)
 | swap x y l=>exact fun hn=>xA v l (BV v _ y x) (jt x v (jt y v hn))
 | trans p q ih1 ih2=>exact fun hn=>(ih1 hn).trans (ih2 hn)
end mputs
theorem p132 {α : Type} (a b c:α):[a,c,b].Perm [a,b,c]:=List.Perm.cons a (List.Perm.swap b c [])
theorem p213 {α : Type} (a b c:α):[b,a,c].Perm [a,b,c]:=List.Perm.swap a b [c]
theorem p231 {α : Type} (a b c:α):[b,c,a].Perm [a,b,c]:=(List.Perm.cons b (List.Perm.swap a c [])).trans (p213 a b c)
theorem p312 {α : Type} (a b c:α):[c,a,b].Perm [a,b,c]:=(List.Perm.swap a c [b]).trans (p132 a b c)
theorem p321 {α : Type} (a b c:α):[c,b,a].Perm [a,b,c]:=(List.Perm.cons c (List.Perm.swap a b [])).trans (p312 a b c)
end Go.Sg
