import Derived.Laws.StructEq
import Derived.Laws.Cover3
import Derived.Recover
import Derived.Maps.RangeRun
import Derived.Test.YtpplkjhgggjaoaaGreatDoorW1
/- A part of the proof of JudgeKnown. -/
set_option linter.unusedVariables false
set_option linter.unusedSimpArgs false
set_option maxRecDepth 100000
open List renaming not_mem_nil→kA,mem_cons_self→zB,mem_cons→qC,append_assoc→kD,mem_of_getElem?→vE,getElem?_eq_getElem→vF,perm_append_comm→vJ,map_cons→xK,mem_map_of_mem→kM,mem_map→jQ,nodup_cons→kR
open Bool renaming and_eq_true→xB,false_eq_true→jL
open Go.Sg.Rp renaming int→kB,aP→jH
open Go.Value renaming int→kC
open Go.Sg.HF renaming le_trans→zF,le→vM,le_refl→vQ
open Nat renaming le_refl→kF,le_of_ble_eq_true→xR,blt→jS,le_trans→kS
open Go.Deferred renaming ofValue→zK
open Go.Result renaming andThen_ok→qN
open Go.Sem renaming run_bind→zQ,run_pure→aBm,run→aCh
open Option.some renaming injEq→jR
open Go.Addr renaming add→qV
open Go.Frame renaming enter→aAk,atR→aA8
open Array renaming replicate→aAP
open Go.Sg.St renaming start→aBg,after→aBr
open Go.Instr renaming getLoop→aBq
open Prod.mk renaming injEq→aBK

namespace Go.Sg
def HF.addAll(h:HF):LH->HF
 |[]=>h
 |(b,o)::L=>(h.add b o).addAll L
theorem St.freezeAll{X:Cx}(hM:X.M=[]){w:World}:∀{G Q:LH}{h:HF},St X h (G++Q) w->St X (h.addAll G) Q w/\h.le (h.addAll G)/\∀p∈G,(h.addAll G) p.1=some p.2
 |[],Q,h,s=>⟨s,h.le_refl,λp hp=>(kA hp).elim⟩
 |(b,o)::G,Q,h,s=>by
  have hfr:=s.free (b,o) (by simp)
  obtain⟨h1,h2,h3⟩:=St.freezeAll hM (G:=G) (Q:=Q) (s.freeze (by rw[hM];simp))
  refine⟨h1,zF (HF.C2 hfr) h2,λp hp=>?_⟩
  rcases qC.1 hp with rfl|hp
  .exact h2 _ _ (HF.yO _ _ _)
  .exact h3 p hp
theorem dC.frozen{α : Type}{R:Rp α}(hm:R.Mono){E:TypeId}{h h2:HF}{xs:List α}{base:Option Addr}{cap:Nat}{G:LH}(g:dC R E h xs base cap G)(hl:h.le h2)(hG:∀p∈G,h2 p.1=some p.2):SlC R h2 base cap xs:=by
 rcases g with⟨rfl,_⟩|⟨bk,cl,sp,rfl,hc,_,hcap,hb,rfl⟩
 .exact SlC.nil
 .exact⟨(hc.mono hm hl).slB (hG _ (List.mem_singleton.2 rfl)) hb,hcap⟩
section freeze
variable {P:Program} {b:Frame} {n:Nat} {k:List Item} {F:List Frame->(Machine->Prop)->Prop} {e:Env} {ds:List Deferred} {X:Cx} {h:HF} {L:LH} {ops:Array Oper} {l:List Oper}
theorem St.freezeMid{w:World}(hM:X.M=[]){A G Q:LH}(s:St X h (A++(G++Q)) w):St X (h.addAll G) (A++Q) w/\h.le (h.addAll G)/\∀p∈G,(h.addAll G) p.1=some p.2:=
 St.freezeAll hM (s.perm (by rw[←kD,←kD];exact List.perm_append_comm.append_right Q))
theorem eK{todo:List Item}{α : Type}{R:Rp α}{E:TypeId}{xs:List α}{base:Option Addr}{cap:Nat}(hm:R.Mono)(A G Q:LH)(hL:L=A++(G++Q))(hM:X.M=[])(hG:dC R E h xs base cap G)(t:∀h2,h.le h2->SlC R h2 base cap xs->TT P b n todo F e ds X h2 (A++Q)):TT P b n todo F e ds X h L:=by
 subst hL
 intro w hw
 obtain⟨h1,h2,h3⟩:=hw.freezeMid hM
 exact t _ h2 (hG.frozen hm h2 h3) w h1
theorem oF{α : Type}{R:Rp α}{E:TypeId}{xs:List α}{base:Option Addr}{cap:Nat}(hm:R.Mono)(A G Q:LH)(hL:L=A++(G++Q))(hM:X.M=[])(hG:dC R E h xs base cap G)(t:∀h2,h.le h2->SlC R h2 base cap xs->TO P b n ops l k F e ds X h2 (A++Q)):TO P b n ops l k F e ds X h L:=by
 subst hL
 intro w hw
 obtain⟨h1,h2,h3⟩:=hw.freezeMid hM
 exact t _ h2 (hG.frozen hm h2 h3) w h1
def dropNth{α : Type}:List α->Nat->List α
 |[],_=>[]
 |_::l,0=>l
 |x::l,i+1=>x::dropNth l i
theorem pF{α : Type}:∀(l:List α)(i:Nat)(x:α),nth l i=some x->l.Perm (x::dropNth l i)
 |[],_,_,h=>by simp[nth]at h
 |y::l,0,x,h=>by simp[nth]at h;subst h;exact List.Perm.refl _
 |y::l,i+1,x,h=>(List.Perm.cons y (pF l i x h)).trans (List.Perm.swap x y _)
theorem aU(i:Nat){bk:Nat}{o:Obj}(hi:nth L i=some (bk,o))(hM:X.M=[])(t:∀h2,h.le h2->h2 bk=some o->TO P b n ops l k F e ds X h2 (dropNth L i)):TO P b n ops l k F e ds X h L:=by
 intro w hw
 have h1:=hw.perm (pF L i _ hi)
 exact t _ (HF.C2 (h1.free (bk,o) (by simp))) (HF.yO _ _ _) w (h1.freeze (by rw[hM];simp))
theorem eW{todo:List Item}(i:Nat){bk:Nat}{o:Obj}(hi:nth L i=some (bk,o))(hM:X.M=[])(t:∀h2,h.le h2->h2 bk=some o->TT P b n todo F e ds X h2 (dropNth L i)):TT P b n todo F e ds X h L:=by
 intro w hw
 have h1:=hw.perm (pF L i _ hi)
 exact t _ (HF.C2 (h1.free (bk,o) (by simp))) (HF.yO _ _ _) w (h1.freeze (by rw[hM];simp))
end freeze
def retVal:List Value->Value
 |[v]=>v
 |vs=>.tuple vs.toArray
def ud(P:Program)(e:Env)(L:LH):List ResultVar->List Value->Prop
 |[],[]=>True
 |.tmp t::rs,v::vs=>e t=v/\ud P e L rs vs
 |.cell a ty::rs,v::vs=>(∃i bk cl T fz,nth L i=some (bk,.cells cl.toArray T fz)/\e a=.pointer (some ⟨bk,0,none⟩)/\((tySz P ty=some (cl.length,true)/\v=.agg cl.toArray)\/∃m,tySz P ty=some (m,false)/\cl=[v]))/\ud P e L rs vs
 |_,_=>False
theorem mV{P:Program}{e:Env}{X:Cx}{h:HF}{L:LH}{fn:Func}{rs:List ResultVar}{vs:List Value}(hr:fn.results=rs.toArray)(hv:ud P e L rs vs)(a:Act)(he:envOf a=e)(w:World)(hw:St X h L w):
  (results fn a.tmps).run P w=.ok (retVal vs) w:=by
 have key:∀(f:ResultVar->Sem Value),(∀t,f (.tmp t)=pure (a.tmps.getD t undef))->(∀x t,f (.cell x t)=do loadVar t (←asAddr (a.tmps.getD x undef))) ->
   ∀(rs:List ResultVar)(vs:List Value),ud P e L rs vs->(rs.mapM f:Sem (List Value)).run P w=.ok vs w:=by
  intro f hf1 hf2 rs
  induction rs with
  |nil=>intro vs hv;cases vs with
   |nil=>simp
   |cons _ _=>exact hv.elim
  |cons r rs ih=>
   intro vs hv
   cases vs with
   |nil=>cases r<;>exact hv.elim
   |cons v vs=>
    cases r with
    |tmp t=>
     obtain⟨h1,h2⟩:=hv
     have:a.tmps.getD t undef=v:=by rw[←h1,←he];rfl
     simp[ih vs h2,this,zQ,hf1]
    |cell x ty=>
     obtain⟨⟨i,bk,cl,T,fz,hL,hx,hc⟩,h2⟩:=hv
     have hax:a.tmps.getD x undef=.pointer (some ⟨bk,0,none⟩):=by rw[←hx,←he];rfl
     have hl:(loadVar ty ⟨bk,0,none⟩).run P w=.ok v w:=by
      rcases hc with⟨hT,rfl⟩|⟨m,hT,rfl⟩
      .refine pf hT λj u hj=>?_
       rw[rB]
       exact hw.cell hL (by rw[iM];exact hj)
      .exact pg hT (hw.cell hL rfl)
     simp[ih vs h2,hf2,hax,asAddr,hl,zQ]
 have h2:∀(f:ResultVar->Sem Value),(∀t,f (.tmp t)=pure (a.tmps.getD t undef))->(∀x t,f (.cell x t)=do loadVar t (←asAddr (a.tmps.getD x undef)))->(fn.results.mapM f:Sem (Array Value)).run P w=.ok vs.toArray w:=by
  intro f hf1 hf2
  rw[hr]
  have:(rs.toArray.mapM f:Sem (Array Value))=List.toArray <$> (rs.mapM f:Sem (List Value)):=by
   rw[←List.mapM_toArray]
  rw[this,Sem.run_map,key f hf1 hf2 rs vs hv]
  rfl
 unfold results
 rw[zQ]
 refine(congrArg (λr=>Result.andThen r _) (h2 _ (λ_=>rfl) (λ_ _=>rfl))).trans ?_
 simp only[qN,aBm]
 congr 1
 cases vs with
 |nil=>rfl
 |cons v vs=>cases vs with
  |nil=>rfl
  |cons u vs=>simp[retVal]
abbrev jv(P:Program)(f:FuncId)(args:List Value)(h:HF)(φ : Value->HF->Prop):Prop:=oA P f args.toArray h [] (λx h' B=>B=[]/\∃v,x=.returned v/\φ v h')
abbrev Q7(P:Program)(f:Value)(args:List Value)(h:HF)(φ : Value->HF->Prop):Prop:=mM P f args.toArray h [] (λx h' B=>B=[]/\∃v,x=.returned v/\φ v h')
section ends
variable {P:Program} {f:FuncId} {n:Nat} {k:List Item} {e:Env} {X:Cx} {h:HF} {L:LH} {fn:Func} {φ : Value->HF->Prop}
theorem kX{rs:List ResultVar}(vs:List Value)(hf:P.funcs[f]? = some fn)(hr:fn.results=rs.toArray)(hv:ud P e L rs vs)(hφ : φ (retVal vs) h):
  TT P (bodyFrame f) n (.code .ret::k) (mr P X (λx h' B=>B=[]/\∃v,x=.returned v/\φ v h')) e [] X h L:=
 qe (v:=retVal vs) hf (λa he w hw=>mV hr hv a he w hw) (λ_ hw=>hw.sub (List.nil_sublist _)) ⟨rfl,_,rfl,hφ⟩
theorem tC{rs:List ResultVar}{v:Value}{hh:HF}(vs:List Value)(hf:P.funcs[f]? = some fn)(hr:fn.results=rs.toArray)(hX:X.h0=hh)(hv:ud P e L rs vs)(hvv:retVal vs=v):
  TT P (bodyFrame f) n (.code .ret::k) (mr P X (λx h' B=>x=.returned v/\h'=hh/\B=[])) e [] X h L:=
 qe (v:=v) hf (λa he w hw=>hvv▸mV hr hv a he w hw) (λ_ hw=>hw.forget) ⟨rfl,hX,rfl⟩
end ends
section steps
variable {P:Program} {b:Frame} {n:Nat} {ops:Array Oper} {F:List Frame->(Machine->Prop)->Prop} {e:Env} {ds:List Deferred} {X:Cx} {h:HF} {L:LH} {K:Env->HF->LH->Prop}
variable {d:Option Nat} {ty:TypeId} {pos:String} {af:Array Edge} {g:Option (Nat×Bool)}
theorem cT{f:FuncId}{as:Array Operand}{ats:Array TypeId}{vs:List Value}{φ : Value->HF->Prop}(hc:∀args w,(callFunc f args).run P w=.ok (.enter f args) w)(hs:jv P f vs h φ)(hvs:as.toList.map e.ev=vs)(t':∀v h',h.le h'->φ v h'->K (pute e d v) h' L)(hg:guardB ops e ⟨d,.call ⟨.value (.func f),as,ats⟩,ty,pos,af,g⟩=true:=by rfl):
  Stp P b n ops F ds X ⟨d,.call ⟨.value (.func f),as,ats⟩,ty,pos,af,g⟩ e h L K:=
 ng (A:=[]) (Fr:=L) hc hvs hs rfl (λv' h' B hle hR=>by
   obtain⟨rfl,v,hv,hφ⟩:=hR
   cases hv
   exact t' _ h' hle hφ)
  (λch h' B _ hR=>by obtain⟨_,v,h1,_⟩:=hR;cases h1) hg
def nthI{α : Type}[Inhabited α](xs:List α)(z:Int):α:=xs.getD z.toNat default
theorem dh{α : Type}[Inhabited α]{xs:List α}{z:Int}(hz:0<=z/\z<(xs.length:Int)):xs[z.toNat]? = some (nthI xs z):=by
 have:z.toNat<xs.length:=by omega
 simp[nthI,List.getD_eq_getElem?_getD,this]
theorem pq{α : Type}[Inhabited α]{xs:List α}{z:Int}(hz:0<=z/\z<(xs.length:Int)):nthI xs z∈xs:=vE (dh hz)
theorem po{α : Type}[Inhabited α]{xs:List α}{i:Nat}{x:α}(h:xs[i]? = some x):nthI xs (i:Int)=x:=by
 simp[nthI,List.getD_eq_getElem?_getD,h]
theorem MG{α : Type}{R:Rp α}{t E:TypeId}{x ix:Operand}{a:Bool}{base:Option Addr}{m cap:Nat}{xs:List α}{y:α}{z:Int}(hT:P.underlying t=some (.slice E))(hS:tySz P E=some (R.sz,a))(hR:SlB R h base xs)(hz:0<=z/\z<(xs.length:Int))(hj:xs[z.toNat]? = some y)(hx:e.ev x=.slice base m cap)(hm:m=xs.length)(hix:e.ev ix=.int .i64 z)(t':∀q cs,At h q cs->cs.length=R.sz->R.rep h cs y->K (pute e d (.pointer (some q))) h L)(hg:guardB ops e ⟨d,.indexAddr t x ix,ty,pos,af,g⟩=true:=by rfl):Stp P b n ops F ds X ⟨d,.indexAddr t x ix,ty,pos,af,g⟩ e h L K:=by
 obtain⟨p,cs,rfl,hA,hl,hr⟩:=hR.2 z.toNat y hj
 have hzz:z=(z.toNat:Int):=by omega
 rw[hzz]at hix
 exact fK (DA hT hS hx hix (by omega)) (t' _ cs hA hl hr) hg
theorem pd{α : Type}{R:Rp α}{enc:α->List Value}{t E:TypeId}{x ix:Operand}{a:Bool}{base:Option Addr}{m cap:Nat}{xs:List α}{y:α}{z:Int}(hR':∀h cs x,R.rep h cs x->cs=enc x)(hT:P.underlying t=some (.slice E))(hS:tySz P E=some (R.sz,a))(hR:SlB R h base xs)(hz:0<=z/\z<(xs.length:Int))(hj:xs[z.toNat]? = some y)(hx:e.ev x=.slice base m cap)(hm:m=xs.length)(hix:e.ev ix=.int .i64 z)(t':∀q,At h q (enc y)->K (pute e d (.pointer (some q))) h L)(hg:guardB ops e ⟨d,.indexAddr t x ix,ty,pos,af,g⟩=true:=by rfl):Stp P b n ops F ds X ⟨d,.indexAddr t x ix,ty,pos,af,g⟩ e h L K:=
 MG hT hS hR hz hj hx hm hix (λq cs hA _ hr=>t' q (hR' _ _ _ hr▸hA)) hg
end steps
theorem ni{α : Type}{xs:List α}{i:Nat}(h:xs.drop i=[]):decide ((i:Int)<(xs.length:Int))=false:=by
 have:=List.drop_eq_nil_iff.1 h
 rw[decide_eq_false_iff_not];omega
theorem iB{α : Type}{xs r:List α}{i:Nat}{x:α}(h:xs.drop i=x::r):i<xs.length:=by
 rcases Nat.lt_or_ge i xs.length with q|q
 .exact q
 .rw[List.drop_eq_nil_of_le q]at h;cases h
theorem tj{α : Type}{xs r:List α}{i:Nat}{x:α}(h:xs.drop i=x::r):decide ((i:Int)<(xs.length:Int))=true:=by
 have:=iB h
 rw[decide_eq_true_iff];omega
theorem pI{α : Type}{xs r:List α}{i:Nat}{x:α}(h:xs.drop i=x::r):xs[i]? = some x:=by
 have:=congrArg List.head? h
 rw[List.head?_drop]at this
 simpa using this
theorem kO{α : Type}{xs r:List α}{i:Nat}{x:α}(h:xs.drop i=x::r):xs.drop (i+1)=r:=by
 rw[←List.drop_drop,h];rfl
theorem gp{α : Type}{xs r:List α}{i:Nat}{x:α}(h:xs.drop i=x::r):x∈xs:=
 vE (pI h)
theorem L7{i:Nat}(hb:i<9223372036854775807):kC .i64 (IntKind.i64.wrap ((i:Int)+1))=.int .i64 (((i+1:Nat)):Int):=by
 rw[lk (by omega)]
 simp
theorem bt{α : Type}{c:Bool}{x y:α}(h:c=true):(bif c then x else y)=x:=by rw[h];rfl
theorem bf{α : Type}{c:Bool}{x y:α}(h:c=false):(bif c then x else y)=y:=by rw[h];rfl
theorem nthZ{α : Type}{xs:List α}{i:Nat}{x:α}(h:xs[i]? = some x):0<=(i:Int)/\(i:Int)<(xs.length:Int):=by
 have:=(List.getElem?_eq_some_iff.1 h).1
 omega
theorem fH{α : Type}{xs:List α}{i:Nat}{x:α}(h:xs[i]? = some x):xs[(i:Int).toNat]? = some x:=by
 simpa using h
theorem iX{P:Program}{b:Frame}{n:Nat}{k:List Item}{F:List Frame->(Machine->Prop)->Prop}{e:Env}{ds:List Deferred}{X:Cx}{h:HF}{L:LH}{id:Nat}{c:Code}{ι : Type}(sl:ι->List (Nat×Value))(hh:ι->HF)(LL:ι->LH)(I:ι->Prop)(hk:∀i,I i->∀e',TT P b n k F (upds e' (sl i)) ds X (hh i) (LL i))(hb:(∀i e',I i->jz e' (sl i)->TT P b n k F e' ds X (hh i) (LL i))->TT P b n (.code c::.inBlock id::k) F e ds X h L):TT P b n (.code (.block id c)::k) F e ds X h L:=
 mA (hb λi e' hI hr=>JD (sl i) hr (hk i hI e'))
theorem JO{α : Type}{R:Rp α}{h:HF}{base:Option Addr}{xs:List α}(s:SlB R h base xs)(l:Nat):SlB R h (base.map (·.add (l*R.sz))) (xs.drop l):=by
 refine⟨kS (by simp) s.1,λi x hx=>?_⟩
 rw[List.getElem?_drop]at hx
 obtain⟨p,cs,rfl,hA,h1,h2⟩:=s.2 _ x hx
 have hsp:p.spot=none:=by
  cases hxs:xs with
  |nil=>rw[hxs]at hx;simp at hx
  |cons y ys=>
   obtain⟨p',_,hp,⟨_,_,_,_,h3,_⟩,_,_⟩:=s.2 0 y (by rw[hxs];rfl)
   cases hp
   simpa[qV]using h3
 refine⟨_,cs,rfl,?_,h1,h2⟩
 rw[wm p _ _ hsp,←Nat.add_mul]
 exact hA
theorem JN{α : Type}{R:Rp α}{h:HF}{base:Option Addr}{xs:List α}(s:SlB R h base xs)(l:Nat):SlB R h base (xs.take l):=by
 refine⟨kS (by simp;omega) s.1,λi x hx=>?_⟩
 rw[List.getElem?_take]at hx
 split at hx
 .exact s.2 i x hx
 .cases hx
section slices
variable {P:Program} {b:Frame} {n:Nat} {ops:Array Oper} {F:List Frame->(Machine->Prop)->Prop} {e:Env} {ds:List Deferred} {X:Cx} {h:HF} {L:LH} {K:Env->HF->LH->Prop}
variable {d:Option Nat} {ty:TypeId} {pos:String} {af:Array Edge} {g:Option (Nat×Bool)}
theorem OW{α : Type}{R:Rp α}{t E:TypeId}{x lo:Operand}{a:Bool}{base:Option Addr}{m cap:Nat}{xs:List α}{z:Int}(hT:P.underlying t=some (.slice E))(hS:tySz P E=some (R.sz,a))(hR:SlB R h base xs)(hcap:xs.length<=cap)(hz:0<=z/\z<=(xs.length:Int))(hx:e.ev x=.slice base m cap)(hm:m=xs.length)(hlo:e.ev lo=.int .i64 z)(t':∀base' cap',SlC R h base' cap' (xs.drop z.toNat)->K (pute e d (.slice base' (xs.drop z.toNat).length cap')) h L)(hg:guardB ops e ⟨d,.slice t x (some lo) none none,ty,pos,af,g⟩=true:=by rfl):Stp P b n ops F ds X ⟨d,.slice t x (some lo) none none,ty,pos,af,g⟩ e h L K:=by
 subst hm
 have hz2:0<=z/\z<=(xs.length:Int):=hz
 have hs:SlB R h (if cap=z.toNat then base else base.map (·.add (z.toNat*R.sz))) (xs.drop z.toNat):=by
  split
  .have:xs.drop z.toNat=[]:=List.drop_eq_nil_of_le (by omega)
   rw[this];exact SlB.nil
  .exact JO hR _
 have hl:xs.length-z.toNat=(xs.drop z.toNat).length:=by simp
 refine fK (v:=.slice (if cap=z.toNat then base else base.map (·.add (z.toNat*R.sz))) (xs.drop z.toNat).length (cap-z.toNat)) (λw hw=>?_) (t' _ (cap-z.toNat) ⟨hs,by rw[←hl];omega⟩) hg
 simp[execOp,Instr.sliceAt,Instr.slice,Instr.sliceBounds,Instr.sliceBound,hx,hlo,asIntOf,run_underlying hT,gP hS,hz2]
theorem OU{α : Type}{R:Rp α}{t E:TypeId}{x hi:Operand}{a:Bool}{base:Option Addr}{m cap:Nat}{xs:List α}{z:Int}(hT:P.underlying t=some (.slice E))(hS:tySz P E=some (R.sz,a))(hR:SlB R h base xs)(hcap:xs.length<=cap)(hz:0<=z/\z<=(xs.length:Int))(hx:e.ev x=.slice base m cap)(hm:m=xs.length)(hhi:e.ev hi=.int .i64 z)(t':∀base' cap',SlC R h base' cap' (xs.take z.toNat)->K (pute e d (.slice base' (xs.take z.toNat).length cap')) h L)(hg:guardB ops e ⟨d,.slice t x none (some hi) none,ty,pos,af,g⟩=true:=by rfl):Stp P b n ops F ds X ⟨d,.slice t x none (some hi) none,ty,pos,af,g⟩ e h L K:=by
 subst hm
 have hz2:0<=z/\z<=(cap:Int):=by omega
 have hl:z.toNat=(xs.take z.toNat).length:=by simp;omega
 refine fK (v:=.slice base (xs.take z.toNat).length cap) (λw hw=>?_) (t' _ cap ⟨JN hR _,by rw[←hl];omega⟩) hg
 rw[←hl]
 by_cases h0:cap=0
 .have hz0:z=0:=by omega
  subst hz0
  simp[execOp,Instr.sliceAt,Instr.slice,Instr.sliceBounds,Instr.sliceBound,hx,hhi,asIntOf,run_underlying hT,gP hS,hz2,h0]
 .simp[execOp,Instr.sliceAt,Instr.slice,Instr.sliceBounds,Instr.sliceBound,hx,hhi,asIntOf,run_underlying hT,gP hS,hz2,h0,qV]
end slices
end Go.Sg

namespace Go.Sg
theorem BX{h:HF}{K L:LH}(hs:K.Sublist L):Jst h K h L:=⟨vQ h,λ_ hp=>hs.subset hp⟩
section
variable {P:Program} {b:Frame} {n:Nat} {ops:Array Oper} {k:List Item} {F:List Frame->(Machine->Prop)->Prop} {ds:List Deferred} {X:Cx}
theorem Stp.mono{o:Oper}{e:Env}{h:HF}{L:LH}{K K':Env->HF->LH->Prop}(hk:∀e' h' L',K e' h' L'->K' e' h' L')(s:Stp P b n ops F ds X o e h L K):Stp P b n ops F ds X o e h L K':=by
 unfold Stp at s ⊢
 split
 .rename_i hg
  rw[if_pos hg]at s
  intro w hw
  exact wF.mono (λv h L=>hk _ h L) (s w hw)
 .rename_i hg
  rw[if_neg hg]at s
  exact hk _ _ _ s
theorem HR{o:Oper}{e:Env}{h:HF}{L:LH}{K:Env->HF->LH->Prop}{α : Type}{R:Rp α}{E:TypeId}{xs:List α}{base:Option Addr}{cap:Nat}(hm:R.Mono)(A G Q:LH)(hL:L=A++(G++Q))(hM:X.M=[])(hG:dC R E h xs base cap G)(t:∀h2,h.le h2->SlC R h2 base cap xs->Stp P b n ops F ds X o e h2 (A++Q) K)(hg:guardB ops e o=true:=by rfl):Stp P b n ops F ds X o e h L K:=by
 subst hL
 unfold Stp
 rw[if_pos hg]
 intro w hw
 obtain⟨h1,h2,h3⟩:=hw.freezeMid hM
 have:=t _ h2 (hG.frozen hm h2 h3)
 unfold Stp at this
 rw[if_pos hg]at this
 exact this w h1
theorem n9{h1 h2:HF}{K K2:LH}(hle:h1.le h2)(hK:∀p∈K,p∈K2):∀{m:Nat}{dn:List Nat}{e:Env}{h:HF}{L:LH},TA P b n ops k F ds X (Jst h2 K2) m dn e h L->TA P b n ops k F ds X (Jst h1 K) m dn e h L:=by
 intro m
 induction m with
 |zero=>intro dn e h L t;exact t
 |succ m ih=>
  intro dn e h L t
  refine⟨t.1,λi hi o ho=>Stp.mono ?_ (t.2 i hi o ho)⟩
  rintro e' h' L' ⟨j,t'⟩
  exact⟨⟨zF hle j.1,λp hp=>j.2 p (hK p hp)⟩,ih t'⟩
theorem og{J:HF->LH->Prop}{l:List Oper}{m:Nat}{dn:List Nat}{e:Env}{h:HF}{L:LH}(i j:Nat){o1 o2:Oper}(hn:nexts l.toArray dn=[i,j])(h1:nth l i=some o1)(h2:nth l j=some o2)(t1:Stp P b n l.toArray F ds X o1 e h L λe' h' L'=>J h' L'/\TA P b n l.toArray k F ds X J m (i::dn) e' h' L')(t2:Stp P b n l.toArray F ds X o2 e h L λe' h' L'=>J h' L'/\TA P b n l.toArray k F ds X J m (j::dn) e' h' L'):TA P b n l.toArray k F ds X J (m+1) dn e h L:=
 Qe [i,j] hn (by simp) (λx hx o ho=>by
  simp only[qC,kA,or_false]at hx
  rcases hx with rfl|rfl
  .rw[h1]at ho;cases ho;exact t1
  .rw[h2]at ho;cases ho;exact t2)
theorem j9{α : Type}{R:Rp α}(i:Nat){l:List Oper}{h1:HF}{K:LH}{m d:Nat}{dn:List Nat}{e:Env}{h:HF}{L:LH}{t E ty:TypeId}{pos:String}{af:Array Edge}{g:Option (Nat×Bool)}{x ix:Operand}{a:Bool}{base:Option Addr}{len cap:Nat}{xs:List α}{y:α}{z:Int}(hsep:sepAll l.toArray=true)(hJ:Jst h1 K h L)(hT:P.underlying t=some (.slice E))(hS:tySz P E=some (R.sz,a))(hR:SlB R h base xs)(hz:0<=z/\z<(xs.length:Int))(hj:xs[z.toNat]? = some y)(hx:e.ev x=.slice base len cap)(hm:len=xs.length)(hix:e.ev ix=.int .i64 z)(hi:nth l i=some ⟨some d,.indexAddr t x ix,ty,pos,af,g⟩)(hn:(nexts l.toArray dn).contains i=true)(t':∀q cs,At h q cs->cs.length=R.sz->R.rep h cs y->TA P b n l.toArray k F ds X (Jst h1 K) m (i::dn) (upd e d (.pointer (some q))) h L)(hg:guardB l.toArray e ⟨some d,.indexAddr t x ix,ty,pos,af,g⟩=true:=by rfl):TA P b n l.toArray k F ds X (Jst h1 K) (m+1) dn e h L:=by
 obtain⟨p,cs,rfl,hA,hl,hr⟩:=hR.2 z.toNat y hj
 have hzz:z=(z.toNat:Int):=by omega
 rw[hzz]at hix
 exact jt i hsep hJ hi rfl hn hg (λh' L' _=>DA hT hS hx hix (by omega)) (t' _ cs hA hl hr)
theorem eX{α : Type}{R:Rp α}(i:Nat){enc:α->List Value}{l:List Oper}{h1:HF}{K:LH}{m d:Nat}{dn:List Nat}{e:Env}{h:HF}{L:LH}{t E ty:TypeId}{pos:String}{af:Array Edge}{g:Option (Nat×Bool)}{x ix:Operand}{a:Bool}{base:Option Addr}{len cap:Nat}{xs:List α}{y:α}{z:Int}(hsep:sepAll l.toArray=true)(hJ:Jst h1 K h L)(hR':∀h cs x,R.rep h cs x->cs=enc x)(hT:P.underlying t=some (.slice E))(hS:tySz P E=some (R.sz,a))(hR:SlB R h base xs)(hz:0<=z/\z<(xs.length:Int))(hj:xs[z.toNat]? = some y)(hx:e.ev x=.slice base len cap)(hm:len=xs.length)(hix:e.ev ix=.int .i64 z)(hi:nth l i=some ⟨some d,.indexAddr t x ix,ty,pos,af,g⟩)(hn:(nexts l.toArray dn).contains i=true)(t':∀q,At h q (enc y)->TA P b n l.toArray k F ds X (Jst h1 K) m (i::dn) (upd e d (.pointer (some q))) h L)(hg:guardB l.toArray e ⟨some d,.indexAddr t x ix,ty,pos,af,g⟩=true:=by rfl):TA P b n l.toArray k F ds X (Jst h1 K) (m+1) dn e h L:=
 j9 i hsep hJ hT hS hR hz hj hx hm hix hi hn (λq cs hA _ hr=>t' q (hR' _ _ _ hr▸hA)) hg
theorem Nu{α : Type}{R:Rp α}(i:Nat){l:List Oper}{h1:HF}{K:LH}{m d:Nat}{dn:List Nat}{e:Env}{h:HF}{L:LH}{t E ty:TypeId}{pos:String}{af:Array Edge}{g:Option (Nat×Bool)}{x lo:Operand}{a:Bool}{base:Option Addr}{len cap:Nat}{xs:List α}{z:Int}(hsep:sepAll l.toArray=true)(hJ:Jst h1 K h L)(hT:P.underlying t=some (.slice E))(hS:tySz P E=some (R.sz,a))(hR:SlB R h base xs)(hcap:xs.length<=cap)(hz:0<=z/\z<=(xs.length:Int))(hx:e.ev x=.slice base len cap)(hm:len=xs.length)(hlo:e.ev lo=.int .i64 z)(hi:nth l i=some ⟨some d,.slice t x (some lo) none none,ty,pos,af,g⟩)(hn:(nexts l.toArray dn).contains i=true)(t':∀base' cap',SlC R h base' cap' (xs.drop z.toNat)->TA P b n l.toArray k F ds X (Jst h1 K) m (i::dn) (upd e d (.slice base' (xs.drop z.toNat).length cap')) h L)(hg:guardB l.toArray e ⟨some d,.slice t x (some lo) none none,ty,pos,af,g⟩=true:=by rfl):TA P b n l.toArray k F ds X (Jst h1 K) (m+1) dn e h L:=by
 subst hm
 have hs:SlB R h (if cap=z.toNat then base else base.map (·.add (z.toNat*R.sz))) (xs.drop z.toNat):=by
  split
  .have:xs.drop z.toNat=[]:=List.drop_eq_nil_of_le (by omega)
   rw[this];exact SlB.nil
  .exact JO hR _
 have hl:xs.length-z.toNat=(xs.drop z.toNat).length:=by simp
 refine jt (v:=.slice (if cap=z.toNat then base else base.map (·.add (z.toNat*R.sz))) (xs.drop z.toNat).length (cap-z.toNat)) i hsep hJ hi rfl hn hg (λh' L' _ w hw=>?_) (t' _ (cap-z.toNat) ⟨hs,by rw[←hl];omega⟩)
 simp[execOp,Instr.sliceAt,Instr.slice,Instr.sliceBounds,Instr.sliceBound,hx,hlo,asIntOf,run_underlying hT,gP hS,hz]
theorem HM{α : Type}{R:Rp α}(i:Nat){l:List Oper}{h1:HF}{K:LH}{m d:Nat}{dn:List Nat}{e:Env}{h:HF}{L:LH}{t E ty:TypeId}{pos:String}{af:Array Edge}{g:Option (Nat×Bool)}{x hi':Operand}{a:Bool}{base:Option Addr}{len cap:Nat}{xs:List α}{z:Int}(hsep:sepAll l.toArray=true)(hJ:Jst h1 K h L)(hT:P.underlying t=some (.slice E))(hS:tySz P E=some (R.sz,a))(hR:SlB R h base xs)(hcap:xs.length<=cap)(hz:0<=z/\z<=(xs.length:Int))(hx:e.ev x=.slice base len cap)(hm:len=xs.length)(hhi:e.ev hi'=.int .i64 z)(hi:nth l i=some ⟨some d,.slice t x none (some hi') none,ty,pos,af,g⟩)(hn:(nexts l.toArray dn).contains i=true)(t':∀base' cap',SlC R h base' cap' (xs.take z.toNat)->TA P b n l.toArray k F ds X (Jst h1 K) m (i::dn) (upd e d (.slice base' (xs.take z.toNat).length cap')) h L)(hg:guardB l.toArray e ⟨some d,.slice t x none (some hi') none,ty,pos,af,g⟩=true:=by rfl):TA P b n l.toArray k F ds X (Jst h1 K) (m+1) dn e h L:=by
 subst hm
 have hz2:0<=z/\z<=(cap:Int):=by omega
 have hl:z.toNat=(xs.take z.toNat).length:=by simp;omega
 refine jt (v:=.slice base (xs.take z.toNat).length cap) i hsep hJ hi rfl hn hg (λh' L' _ w hw=>?_) (t' _ cap ⟨JN hR _,by rw[←hl];omega⟩)
 rw[←hl]
 by_cases h0:cap=0
 .have hz0:z=0:=by omega
  subst hz0
  simp[execOp,Instr.sliceAt,Instr.slice,Instr.sliceBounds,Instr.sliceBound,hx,hhi,asIntOf,run_underlying hT,gP hS,hz2,h0]
 .simp[execOp,Instr.sliceAt,Instr.slice,Instr.sliceBounds,Instr.sliceBound,hx,hhi,asIntOf,run_underlying hT,gP hS,hz2,h0,qV]
end
end Go.Sg

namespace Go.Sg
theorem oC{α : Type}{l:List α}{i:Nat}{x:α}(h:nth l i=some x):x∈l:=by rw[iM]at h;exact vE h
theorem cL{h:HF}{bk T:Nat}{fz:Nat×Nat}{cl:List Value}(hb:h bk=some (.cells cl.toArray T fz)):At h ⟨bk,0,none⟩ cl:=
 At.FA hb (λj v hj=>by simpa using hj)
theorem St.down{X:Cx}{h h2:HF}{L:LH}{w:World}(s:St X h2 L w)(hle:h.le h2)(h0:X.h0.le h):St X h L w:=by
 refine⟨s.os,s.tape,s.output,s.size,s.keep,h0,λb hb=>?_,λb o hb=>s.imm b o (hle b o hb),s.own,s.dis,λp hp=>?_,s.new⟩
 .have h1:=s.old b hb
  cases hb2:h b with
  |none=>
   cases hb3:X.h0 b with
   |none=>rfl
   |some o=>rw[h0 b o hb3]at hb2;cases hb2
  |some o=>rw[←h1];exact(hle b o hb2).symm
 .cases hb:h p.1 with
  |none=>rfl
  |some o=>have:=hle _ _ hb;rw[s.free p hp]at this;cases this
theorem kZ{P:Program}{b:Frame}{n:Nat}{k:List Item}{F:List Frame->(Machine->Prop)->Prop}{e:Env}{ds:List Deferred}{X:Cx}{h h2 h00:HF}{L:LH}{ops:Array Oper}{l:List Oper}(hle:h.le h2)(hX:X.h0=h00)(h0:h00.le h)(t:TO P b n ops l k F e ds X h L):TO P b n ops l k F e ds X h2 L:=
 λw hw=>t w (hw.down hle (hX▸h0))
section runs
variable {P:Program} {e:Env} {X:Cx} {h:HF} {L:LH} {d:Option Nat} {ty:TypeId} {pos:String} {af:Array Edge} {g:Option (Nat×Bool)}
theorem QY{t u:TypeId}{x y:Operand}{k:IntKind}{a b:Int}(hx:e.ev x=.int k a)(hy:e.ev y=.int k b):∀w,St X h L w->(execOp e.ev ⟨d,.call ⟨.builtin .max,#[x,y],#[t,u]⟩,ty,pos,af,g⟩).run P w=.ok (.value (.int k (max a b))) w:=
 λw _=>by
  have:(if b>a then b else a)=max a b:=by omega
  simp[execOp,resolve,invoke,builtin,Builtin.max_,Builtin.max2,hx,hy,this]
theorem QX{t u:TypeId}{x y:Operand}{k:IntKind}{a b:Int}(hx:e.ev x=.int k a)(hy:e.ev y=.int k b):∀w,St X h L w->(execOp e.ev ⟨d,.call ⟨.builtin .min,#[x,y],#[t,u]⟩,ty,pos,af,g⟩).run P w=.ok (.value (.int k (min a b))) w:=
 λw _=>by
  have:(if b<a then b else a)=min a b:=by omega
  simp[execOp,resolve,invoke,builtin,Builtin.min_,Builtin.min2,hx,hy,this]
end runs
end Go.Sg

namespace Go.Sg
theorem qI{P:Program}{w:World}{bk:Nat}{es:Array MapEntry}{c:Nat}(hb:w.heap[bk]? = some (.map es c)):(getObj bk).run P w=.ok (.map es c) w:=by simp[getObj,aCh,hb]
theorem Du{P:Program}{w:World}{bk:Nat}{es:Array MapEntry}{c:Nat}{o:Obj}(hb:w.heap[bk]? = some (.map es c)):(setObj bk o).run P w=.ok () { w with heap:=w.heap.setIfInBounds bk o }:=by simp[setObj,aCh,hb]
section pure
variable {κ α : Type} [DecidableEq κ]
def mput:List (κ×α)->κ->α->List (κ×α)
 |[],k,v=>[(k,v)]
 |(k',v')::r,k,v=>if k=k' then(k,v)::r else(k',v')::mput r k v
def mget? : List (κ×α)->κ->Option α
 |[],_=>none
 |(k',v')::r,k=>if k=k' then some v' else mget? r k
def mgetD(m:List (κ×α))(k:κ)(z:α):α:=(mget? m k).getD z
def mhas(m:List (κ×α))(k:κ):Bool:=(mget? m k).isSome
def mdel:List (κ×α)->κ->List (κ×α)
 |[],_=>[]
 |(k',v')::r,k=>if k=k' then r else(k',v')::mdel r k
def findIn(k:κ):List κ->List MapEntry->Nat->Option (Nat×Value)
 |k'::l,e::es,i=>if k=k' then some (i,e.val)else findIn k l es (i+1)
 |_,_,_=>none
end pure
structure xa(P:Program)(T:TypeId){κ : Type}[DecidableEq κ](enc:κ->Value):Prop where
 check:∀b a w,(Instr.checkKey b 10000 T (enc a)).run P w=.ok () w
 find:∀k(l:List κ)(es:List MapEntry)w,es.map (·.key)=l.map enc->(Instr.findKey T (enc k) es).run P w=.ok (findIn k l es 0) w
 bits:∀a,Instr.sameBits 10000 (enc a) (enc a)=true
section rep
variable {κ α : Type} (enc:κ->Value) (V:HF->Value->α->Prop)
def pM(h:HF):List MapEntry->List (κ×α)->Prop
 |[],[]=>True
 |e::es,(k,v)::m=>e.key=enc k/\V h e.val v/\pM h es m
 |_,_=>False
def Nk(h:HF)(o:Obj)(m:List (κ×α)):Prop:=
 ∃es clock,o=.map es.toArray clock/\pM enc V h es m/\(es.map (·.born)).Pairwise (·<·)/\∀e∈es,e.born<clock
def j8(h:HF)(o:Obj)(m:List (κ×α)):Prop:=∃m',m'.Perm m/\(m'.map (·.1)).Nodup/\Nk enc V h o m'
end rep
section perm
variable {κ α : Type} [DecidableEq κ]
theorem FH{k:κ}{v:α}:∀{m:List (κ×α)},(m.map (·.1)).Nodup->(mget? m k=some v↔(k,v)∈m)
 |[],_=>by simp[mget?]
 |(k',v')::m,hn=>by
  rw[xK,kR]at hn
  simp only[mget?]
  by_cases e:k=k'
  .subst e
   simp only[if_true,jR,qC,aBK,true_and]
   constructor
   .exact λh=>.inl h.symm
   .rintro(h|h)
    .exact h.symm
    .exact absurd (kM (f:=Prod.fst) h) hn.1
  .simp only[e,if_false,qC,aBK,false_and,false_or]
   exact FH hn.2
theorem NK{m m':List (κ×α)}(hp:m.Perm m')(hn:(m.map (·.1)).Nodup)(k:κ):mget? m k=mget? m' k:=by
 apply Option.ext
 intro v
 rw[FH hn,FH ((hp.map _).nodup_iff.1 hn)]
 exact hp.mem_iff
theorem H6(k:κ)(v:α):∀(m:List (κ×α))(x:κ),x∈(mput m k v).map (·.1)↔x=k\/x∈m.map (·.1)
 |[],x=>by simp[mput]
 |(k',v')::m,x=>by
  simp only[mput]
  split
  .next e=>subst e;simp
  .simp only[xK,qC,H6 k v m x]
   constructor
   .rintro(h|h|h)<;>simp[h]
   .rintro(h|h|h)<;>simp[h]
theorem qi(k:κ)(v:α):∀{m:List (κ×α)},(m.map (·.1)).Nodup->((mput m k v).map (·.1)).Nodup
 |[],_=>by simp[mput]
 |(k',v')::m,hn=>by
  rw[xK,kR]at hn
  simp only[mput]
  split
  .next e=>subst e;rw[xK,kR];exact hn
  .next e=>
   rw[xK,kR]
   refine⟨λh=>?_,qi k v hn.2⟩
   rcases(H6 k v m k').1 h with h|h
   .exact e h.symm
   .exact hn.1 h
theorem NJ(k:κ)(v:α){m m':List (κ×α)}(hp:m.Perm m')(hn:(m.map (·.1)).Nodup):(mput m k v).Perm (mput m' k v):=by
 induction hp with
 |nil=>exact List.Perm.refl _
 |cons x p ih=>
  obtain⟨k',v'⟩:=x
  rw[xK,kR]at hn
  simp only[mput]
  split
  .exact List.Perm.cons _ p
  .exact List.Perm.cons _ (ih hn.2)
 |swap x y l=>
  obtain⟨a,va⟩:=x
  obtain⟨b,vb⟩:=y
  simp only[xK,kR,qC,not_or]at hn
  simp only[mput]
  by_cases h1:k=b
  .have h2:¬k=a:=λe=>hn.1.1 (h1.symm.trans e)
   simp only[h1,h2,if_true,if_false]
   rw[if_neg (h1▸h2)]
   exact List.Perm.swap _ _ _
  .by_cases h2:k=a
   .simp only[h1,h2,if_true,if_false]
    rw[if_neg (h2▸h1)]
    exact List.Perm.swap _ _ _
   .simp only[h1,h2,if_false]
    exact List.Perm.swap _ _ _
 |trans p q ih1 ih2=>exact(ih1 hn).trans (ih2 ((p.map _).nodup_iff.1 hn))
end perm
def Ay{α : Type}(V:HF->Value->α->Prop):Prop:=∀h h' v x,h.le h'->V h v x->V h' v x
section lemmas
variable {κ α : Type} {enc:κ->Value} {V:HF->Value->α->Prop} {h h':HF}
theorem pM.mono(hV:Ay V)(hl:h.le h'):∀{es:List MapEntry}{m:List (κ×α)},pM enc V h es m->pM enc V h' es m
 |[],[],_=>trivial
 |_::_,(_,_)::_,⟨a,b,c⟩=>⟨a,hV _ _ _ _ hl b,pM.mono hV hl c⟩
 |[],_::_,x=>x.elim
 |_::_,[],x=>x.elim
theorem j8.mono{o:Obj}{m:List (κ×α)}(r:j8 enc V h o m)(hV:Ay V)(hl:h.le h'):j8 enc V h' o m:=by
 obtain⟨m',hp,hn,es,c,rfl,h1,h2,h3⟩:=r
 exact⟨m',hp,hn,es,c,rfl,h1.mono hV hl,h2,h3⟩
theorem j8.perm{o:Obj}{m m2:List (κ×α)}(r:j8 enc V h o m)(hp:m.Perm m2):j8 enc V h o m2:=let ⟨m',p,q⟩:=r;⟨m',p.trans hp,q⟩
theorem j8.nodup{o:Obj}{m:List (κ×α)}(r:j8 enc V h o m):(m.map (·.1)).Nodup:=let ⟨_,p,hn,_⟩:=r;(p.map _).nodup_iff.1 hn
theorem j8.nil:j8 enc V h (.map #[] 0) ([]:List (κ×α)):=⟨[],.refl _,List.nodup_nil,[],0,rfl,trivial,.nil,λ_ he=>(kA he).elim⟩
theorem pM.keys:∀{es:List MapEntry}{m:List (κ×α)},pM enc V h es m->es.map (·.key)=(m.map (·.1)).map enc
 |[],[],_=>rfl
 |e::es,(k,v)::m,⟨a,_,c⟩=>by simp[a,pM.keys c]
 |[],_::_,x=>x.elim
 |_::_,[],x=>x.elim
variable [DecidableEq κ]
theorem pM.found{k:κ}:∀{es:List MapEntry}{m:List (κ×α)}(j:Nat),pM enc V h es m ->
  match findIn k (m.map (·.1)) es j with
  |some (_,v)=>∃x,mget? m k=some x/\V h v x
  |none=>mget? m k=none
 |[],[],_,_=>rfl
 |e::es,(k',v)::m,j,⟨_,b,c⟩=>by
  simp only[xK,findIn,mget?]
  by_cases hk:k=k'
  .simp only[hk,if_true];exact⟨v,rfl,b⟩
  .simp only[hk,if_false];exact pM.found (j+1) c
 |[],_::_,_,x=>x.elim
 |_::_,[],_,x=>x.elim
theorem Kn{f:MapEntry->MapEntry}(e:MapEntry)(es:List MapEntry):(e::es).modify 0 f=f e::es:=by simp
theorem Ko{f:MapEntry->MapEntry}(e:MapEntry)(es:List MapEntry)(i:Nat):(e::es).modify (i+1) f=e::es.modify i f:=by simp
theorem pM.put{k:κ}{x:α}{xv:Value}(hx:V h xv x):∀{es:List MapEntry}{m:List (κ×α)}(j:Nat),pM enc V h es m ->
  match findIn k (m.map (·.1)) es j with
  |some (i,_)=>j<=i/\(es[i-j]?).map (·.key)=some (enc k)/\pM enc V h (es.modify (i-j) λe=>{ e with key:=enc k,val:=xv }) (mput m k x)
  |none=>∀b,pM enc V h (es++[{ key:=enc k,val:=xv,born:=b }]) (mput m k x)
 |[],[],_,_=>λb=>⟨rfl,hx,trivial⟩
 |e::es,(k',v)::m,j,⟨a,b,c⟩=>by
  simp only[xK,findIn,mput]
  by_cases hk:k=k'
  .simp only[hk,if_true]
   refine⟨kF _,?_,?_⟩
   .simp[a]
   .rw[Nat.sub_self,Kn];exact⟨rfl,hx,c⟩
  .simp only[hk,if_false]
   have ih:=pM.put (k:=k) hx (j+1) c
   cases hf:findIn k (m.map (·.1)) es (j+1)with
   |none=>rw[hf]at ih;exact λb'=>⟨a,b,ih b'⟩
   |some p=>
    obtain⟨i,u⟩:=p
    rw[hf]at ih
    obtain⟨h1,h2,h3⟩:=ih
    have e1:i-j=(i-(j+1))+1:=by omega
    refine⟨by omega,?_,?_⟩
    .rw[e1];simpa using h2
    .rw[e1,Ko];exact⟨a,b,h3⟩
 |[],_::_,_,x=>x.elim
 |_::_,[],_,x=>x.elim
theorem yk{k xv:Value}:∀(es:List MapEntry)(i:Nat),(es.modify i λe=>{ e with key:=k,val:=xv }).map (·.born)=es.map (·.born)
 |[],i=>by simp
 |e::es,0=>by simp
 |e::es,i+1=>by simp[yk es i]
theorem E5{P:Program}{t T E:TypeId}{k:κ}{x:α}{xv:Value}{m:List (κ×α)}{o:Obj}{bk:Nat}{w:World}(hT:P.underlying t=some (.map T E))(hK:xa P T enc)(hb:w.heap[bk]? = some o)(hm:Nk enc V h o m)(hx:V h xv x):∃o',(Instr.mapUpdate t (.map (some bk)) (enc k) xv).run P w=.ok () { w with heap:=w.heap.setIfInBounds bk o' }/\Nk enc V h o' (mput m k x):=by
 obtain⟨es,c,rfl,h1,h2,h3⟩:=hm
 have hf:=hK.find k (m.map (·.1)) es w h1.keys
 have hp:=h1.put (k:=k) hx 0
 cases hr:findIn k (m.map (·.1)) es 0 with
 |none=>
  rw[hr]at hf hp
  refine⟨.map (es++[({ key:=enc k,val:=xv,born:=c }:MapEntry)]).toArray (c+1),?_,_,_,rfl,hp c,?_,?_⟩
  .simp only[Instr.mapUpdate,zQ,run_underlying hT,qN,qI hb,hK.check,hf,Du hb]
   simp
  .rw[List.map_append,List.pairwise_append]
   refine⟨h2,by simp,?_⟩
   intro a ha b hb'
   simp at hb' ha
   obtain⟨e,he,rfl⟩:=ha
   subst hb';exact h3 e he
  .intro e he
   rcases List.mem_append.1 he with he|he
   .exact Nat.lt_succ_of_lt (h3 e he)
   .simp at he;subst he;exact Nat.lt_succ_self _
 |some p=>
  obtain⟨i,u⟩:=p
  rw[hr]at hf hp
  obtain⟨_,hk,hp⟩:=hp
  rw[Nat.sub_zero]at hp hk
  refine⟨.map (es.modify i λe=>{ e with key:=enc k,val:=xv }).toArray c,?_,_,_,rfl,hp,?_,?_⟩
  .have hke:((es[i]?).map (·.key)).getD (enc k)=enc k:=by rw[hk];rfl
   simp only[Instr.mapUpdate,zQ,run_underlying hT,qN,qI hb,hK.check,hf]
   simp only[List.getElem?_toArray,hke,Instr.keyThatStays,hK.bits,if_true,aBm,qN,Du hb]
   simp
  .rw[yk];exact h2
  .intro e he
   have:e.born∈(es.modify i λe=>{ e with key:=enc k,val:=xv }).map (·.born):=kM he
   rw[yk]at this
   obtain⟨e',he',h4⟩:=jQ.1 this
   rw[←h4];exact h3 e' he'
theorem JZ{P:Program}{t T E:TypeId}{k:κ}{m:List (κ×α)}{o:Obj}{bk:Nat}{w:World}{z:α}{zv:Value}(ok:Bool)(hT:P.underlying t=some (.map T E))(hK:xa P T enc)(hb:w.heap[bk]? = some o)(hm:Nk enc V h o m)(hz:(zeroValue E).run P w=.ok zv w)(hzv:V h zv z):∃v,(Instr.lookup t (.map (some bk)) (enc k) ok).run P w=.ok (if ok then .tuple #[v,.bool (mhas m k)]else v) w/\V h v (mgetD m k z):=by
 obtain⟨es,c,rfl,h1,h2,h3⟩:=hm
 have hf:=hK.find k (m.map (·.1)) es w h1.keys
 have hp:=h1.found (k:=k) 0
 cases hr:findIn k (m.map (·.1)) es 0 with
 |none=>
  rw[hr]at hf hp
  refine⟨zv,?_,by simp only[mgetD,hp];exact hzv⟩
  cases ok<;>simp[Instr.lookup,run_underlying hT,qI hb,hK.check,hf,hz,mhas,hp]
 |some p=>
  obtain⟨i,u⟩:=p
  rw[hr]at hf hp
  obtain⟨x,hx,hv⟩:=hp
  refine⟨u,?_,by simp only[mgetD,hx];exact hv⟩
  cases ok<;>simp[Instr.lookup,run_underlying hT,qI hb,hK.check,hf,mhas,hx]
theorem Ad{P:Program}{t T E:TypeId}{k:κ}{x:α}{xv:Value}{m:List (κ×α)}{o:Obj}{bk:Nat}{w:World}(hT:P.underlying t=some (.map T E))(hK:xa P T enc)(hb:w.heap[bk]? = some o)(hm:j8 enc V h o m)(hx:V h xv x):∃o',(Instr.mapUpdate t (.map (some bk)) (enc k) xv).run P w=.ok () { w with heap:=w.heap.setIfInBounds bk o' }/\j8 enc V h o' (mput m k x):=by
 obtain⟨m',hp,hn,hm⟩:=hm
 obtain⟨o',h1,h2⟩:=E5 (k:=k) hT hK hb hm hx
 exact⟨o',h1,_,NJ k x hp hn,qi k x hn,h2⟩
theorem Lw{P:Program}{t T E:TypeId}{k:κ}{m:List (κ×α)}{o:Obj}{bk:Nat}{w:World}{z:α}{zv:Value}(ok:Bool)(hT:P.underlying t=some (.map T E))(hK:xa P T enc)(hb:w.heap[bk]? = some o)(hm:j8 enc V h o m)(hz:(zeroValue E).run P w=.ok zv w)(hzv:V h zv z):∃v,(Instr.lookup t (.map (some bk)) (enc k) ok).run P w=.ok (if ok then .tuple #[v,.bool (mhas m k)]else v) w/\V h v (mgetD m k z):=by
 obtain⟨m',hp,hn,hm⟩:=hm
 have:=JZ (k:=k) ok hT hK hb hm hz hzv
 simpa only[mhas,mgetD,NK hp hn k]using this
end lemmas
def zeroV(P:Program)(t:TypeId):Option Value:=(P.info? t).bind (·.zero)
theorem fw{P:Program}{t:TypeId}{z:Value}(hz:zeroV P t=some z)(w:World):(zeroValue t).run P w=.ok z w:=by
 unfold zeroV at hz
 cases hi:P.info? t with
 |none=>rw[hi]at hz;cases hz
 |some i=>
  rw[hi]at hz
  simp only[Option.bind_some]at hz
  simp[zeroValue,typeInfo,hi,hz]
theorem DV{k:Int}:∀(l:List Int)(es:List MapEntry)(j:Nat),es.map (·.key)=l.map (kC .i64)->Instr.findNow (.int .i64) (.int .i64 k) es j=some (findIn k l es j)
 |[],[],_,_=>rfl
 |k'::l,e::es,j,hh=>by
  simp at hh
  simp only[Instr.findNow,Instr.sameNow,hh.1,findIn,if_true]
  by_cases hk:k=k'
  .simp[hk]
  .have:(k==k')=false:=by simpa using hk
   simp only[this,hk,if_false];exact DV l es (j+1) (by simpa using hh.2)
 |[],_::_,_,hh=>by simp at hh
 |_::_,[],_,hh=>by simp at hh
theorem fZ{P:Program}{T:TypeId}(hT:P.underlying T=some (.int .i64)):xa P T (kC .i64) where
 check:=λb a w=>by
  rw[show(10000:Nat)=9999+1 from rfl,Instr.checkKey]
  simp[run_underlying hT]
 find:=λk l es w hh=>by simp[Instr.findKey,run_underlying hT,DV l es 0 hh]
 bits:=λa=>by simp[Instr.sameBits]
theorem yl{P:Program}{T:TypeId}{κ : Type}[DecidableEq κ]{enc:κ->Value}{fs:Array Field}(hT:P.underlying T=some (.struct fs))(hc:∀b a w,(Instr.checkKey b 10000 T (enc a)).run P w=.ok () w)(he:∀a b w,(Op.equal T (enc a) (enc b)).run P w=.ok (decide (a=b)) w)(hb:∀a,Instr.sameBits 10000 (enc a) (enc a)=true):xa P T enc where
 check:=hc
 bits:=hb
 find:=λk l es w hh=>by
  have ask:∀(l:List κ)(es:List MapEntry)(j:Nat),es.map (·.key)=l.map enc->(Instr.findAsking T (enc k) es j).run P w=.ok (findIn k l es j) w:=by
   intro l
   induction l with
   |nil=>intro es j hh;cases es with
    |nil=>simp[Instr.findAsking,findIn]
    |cons _ _=>simp at hh
   |cons k' l ih=>
    intro es j hh
    cases es with
    |nil=>simp at hh
    |cons e es=>
     simp at hh
     by_cases hk:k=k'
     .simp[Instr.findAsking,hh.1,he,findIn,hk]
     .simp[Instr.findAsking,hh.1,he,findIn,hk,ih es (j+1) (by simpa using hh.2)]
  cases es with
  |nil=>
   cases l with
   |nil=>simp[Instr.findKey,run_underlying hT,Instr.findNow,findIn]
   |cons _ _=>simp at hh
  |cons e es=>
   have:Instr.findNow (.struct fs) (enc k) (e::es) 0=none:=by simp[Instr.findNow,Instr.sameNow]
   simp[Instr.findKey,run_underlying hT,this,ask l (e::es) 0 hh]
def wg(_:HF)(v:Value)(x:Int):Prop:=v=.int .i64 x
def qb(_:HF)(v:Value)(x:Bool):Prop:=v=.bool x
def jf{α : Type}(R:Rp α)(h:HF)(v:Value)(x:α):Prop:=∃cs,v=.agg cs.toArray/\R.rep h cs x
def VSl{α : Type}(R:Rp α)(h:HF)(v:Value)(x:List α):Prop:=∃b c,v=.slice b x.length c/\SlC R h b c x
theorem wg.mono:Ay wg:=λ_ _ _ _ _ e=>e
theorem qb.mono:Ay qb:=λ_ _ _ _ _ e=>e
theorem jf.mono{α : Type}{R:Rp α}(hm:R.Mono):Ay (jf R):=λ_ _ _ _ hl⟨cs,e,r⟩=>⟨cs,e,hm _ _ _ _ hl r⟩
theorem VSl.mono{α : Type}{R:Rp α}(hm:R.Mono):Ay (VSl R):=λ_ _ _ _ hl⟨b,c,e,r⟩=>⟨b,c,e,r.mono hm hl⟩
section steps
variable {P:Program} {b:Frame} {n:Nat} {ops:Array Oper} {F:List Frame->(Machine->Prop)->Prop} {e:Env} {ds:List Deferred} {X:Cx} {h:HF} {L:LH} {K:Env->HF->LH->Prop}
variable {d:Option Nat} {ty:TypeId} {pos:String} {af:Array Edge} {g:Option (Nat×Bool)}
variable {κ α : Type} {enc:κ->Value} {V:HF->Value->α->Prop}
theorem oB{t:TypeId}(t':∀bk,K (pute e d (.map (some bk))) h ((bk,.map #[] 0)::L))(hg:guardB ops e ⟨d,.makeMap t none,ty,pos,af,g⟩=true:=by rfl):Stp P b n ops F ds X ⟨d,.makeMap t none,ty,pos,af,g⟩ e h L K:=
 iY hg λw hw=>⟨_,_,h,_,by simp[execOp,Instr.makeMap],hw.alloc _,t' _⟩
variable [DecidableEq κ]
theorem lg(i:Nat){t T E:TypeId}{mo ko xo:Operand}{bk:Nat}{o:Obj}{m:List (κ×α)}{k:κ}{x:α}(hT:P.underlying t=some (.map T E))(hK:xa P T enc)(hL:nth L i=some (bk,o))(hm:j8 enc V h o m)(hmo:e.ev mo=.map (some bk))(hko:e.ev ko=enc k)(hx:V h (e.ev xo) x)(t':∀o',j8 enc V h o' (mput m k x)->K e h (setNth L i (bk,o')))(hg:guardB ops e ⟨none,.mapUpdate t mo ko xo,ty,pos,af,g⟩=true:=by rfl):Stp P b n ops F ds X ⟨none,.mapUpdate t mo ko xo,ty,pos,af,g⟩ e h L K:=by
 unfold Stp
 rw[if_pos hg]
 intro w hw
 have hb:w.heap[bk]? = some o:=by
  have h2:=hL
  rw[iM]at h2
  exact hw.own _ (vE h2)
 obtain⟨o',hr,hm'⟩:=Ad (k:=k) hT hK hb hm hx
 have:(execOp e.ev ⟨none,.mapUpdate t mo ko xo,ty,pos,af,g⟩).run P w=.ok .skip { w with heap:=w.heap.setIfInBounds bk o' }:=by
  simp[execOp,hmo,hko,hr]
 rw[this]
 exact⟨h,_,hw.write hL _,t' o' hm'⟩
theorem Es{t T E:TypeId}{mo ko:Operand}{bk:Nat}{o:Obj}{m:List (κ×α)}{k:κ}{z:α}{zv:Value}(ok:Bool)(hT:P.underlying t=some (.map T E))(hK:xa P T enc)(hb:∀w,St X h L w->w.heap[bk]? = some o)(hm:j8 enc V h o m)(hz:∀w,(zeroValue E).run P w=.ok zv w)(hzv:V h zv z)(hmo:e.ev mo=.map (some bk))(hko:e.ev ko=enc k)(t':∀v,V h v (mgetD m k z)->K (pute e d (if ok then .tuple #[v,.bool (mhas m k)]else v)) h L)(hg:guardB ops e ⟨d,.lookup t mo ko ok,ty,pos,af,g⟩=true):Stp P b n ops F ds X ⟨d,.lookup t mo ko ok,ty,pos,af,g⟩ e h L K:=
 iY hg λw hw=>by
  obtain⟨v,hr,hv⟩:=Lw (k:=k) ok hT hK (hb w hw) hm (hz w) hzv
  exact⟨_,w,h,L,by simp[execOp,hmo,hko,hr],hw,t' v hv⟩
theorem qz(i:Nat){t T E:TypeId}{mo ko:Operand}{bk:Nat}{o:Obj}{m:List (κ×α)}{k:κ}{z:α}{zv:Value}(hT:P.underlying t=some (.map T E))(hK:xa P T enc)(hL:nth L i=some (bk,o))(hm:j8 enc V h o m)(hz:∀w,(zeroValue E).run P w=.ok zv w)(hzv:V h zv z)(hmo:e.ev mo=.map (some bk))(hko:e.ev ko=enc k)(t':∀v,V h v (mgetD m k z)->K (pute e d v) h L)(hg:guardB ops e ⟨d,.lookup t mo ko false,ty,pos,af,g⟩=true:=by rfl):Stp P b n ops F ds X ⟨d,.lookup t mo ko false,ty,pos,af,g⟩ e h L K:=
 Es false hT hK (λw hw=>by rw[iM]at hL;exact hw.own _ (vE hL)) hm hz hzv hmo hko t' hg
theorem lN(i:Nat){t T E:TypeId}{mo ko:Operand}{bk:Nat}{o:Obj}{m:List (κ×α)}{k:κ}{z:α}{zv:Value}(hT:P.underlying t=some (.map T E))(hK:xa P T enc)(hL:nth L i=some (bk,o))(hm:j8 enc V h o m)(hz:∀w,(zeroValue E).run P w=.ok zv w)(hzv:V h zv z)(hmo:e.ev mo=.map (some bk))(hko:e.ev ko=enc k)(t':∀v,V h v (mgetD m k z)->K (pute e d (.tuple #[v,.bool (mhas m k)])) h L)(hg:guardB ops e ⟨d,.lookup t mo ko true,ty,pos,af,g⟩=true:=by rfl):Stp P b n ops F ds X ⟨d,.lookup t mo ko true,ty,pos,af,g⟩ e h L K:=
 Es true hT hK (λw hw=>by rw[iM]at hL;exact hw.own _ (vE hL)) hm hz hzv hmo hko t' hg
theorem nS{t T E:TypeId}{mo ko:Operand}{bk:Nat}{o:Obj}{m:List (κ×α)}{k:κ}{z:α}{zv:Value}(hT:P.underlying t=some (.map T E))(hK:xa P T enc)(hL:h bk=some o)(hm:j8 enc V h o m)(hz:∀w,(zeroValue E).run P w=.ok zv w)(hzv:V h zv z)(hmo:e.ev mo=.map (some bk))(hko:e.ev ko=enc k)(t':∀v,V h v (mgetD m k z)->K (pute e d v) h L)(hg:guardB ops e ⟨d,.lookup t mo ko false,ty,pos,af,g⟩=true:=by rfl):Stp P b n ops F ds X ⟨d,.lookup t mo ko false,ty,pos,af,g⟩ e h L K:=
 Es false hT hK (λw hw=>hw.imm _ _ hL) hm hz hzv hmo hko t' hg
theorem tE{t T E:TypeId}{mo ko:Operand}{bk:Nat}{o:Obj}{m:List (κ×α)}{k:κ}{z:α}{zv:Value}(hT:P.underlying t=some (.map T E))(hK:xa P T enc)(hL:h bk=some o)(hm:j8 enc V h o m)(hz:∀w,(zeroValue E).run P w=.ok zv w)(hzv:V h zv z)(hmo:e.ev mo=.map (some bk))(hko:e.ev ko=enc k)(t':∀v,V h v (mgetD m k z)->K (pute e d (.tuple #[v,.bool (mhas m k)])) h L)(hg:guardB ops e ⟨d,.lookup t mo ko true,ty,pos,af,g⟩=true:=by rfl):Stp P b n ops F ds X ⟨d,.lookup t mo ko true,ty,pos,af,g⟩ e h L K:=
 Es true hT hK (λw hw=>hw.imm _ _ hL) hm hz hzv hmo hko t' hg
end steps
end Go.Sg

namespace Go.Sg
def Itr{α : Type}(P:Program)(it:Value)(val:α->HF->List Value->Prop)(xs:List α)(h:HF):Prop:=
 ∃(f0:FuncId)(cap:List Value),it=.func (.func f0) #[] cap.toArray/\(∀args w,(callFunc f0 args).run P w=.ok (.enter f0 args) w)/\N6 P it val xs h
theorem Itr.mono{α : Type}{P:Program}{it:Value}{val:α->HF->List Value->Prop}{xs:List α}{h h':HF}(i:Itr P it val xs h)(hl:h.le h'):Itr P it val xs h':=
 let ⟨f0,cap,a,b,c⟩:=i;⟨f0,cap,a,b,c.mono hl⟩
theorem sV{α : Type}{P:Program}{f:FuncId}{cap:List Value}{val:α->HF->List Value->Prop}{xs:List α}{h:HF}(hc:∀args w,(callFunc f args).run P w=.ok (.enter f args) w)(hr:∀(yf:Fn)(ya yb:Array Value)(C:List α->HF->LH->Prop)(Sp:HF->LH->Prop)(Pn:List PanicEntry->HF->LH->Prop)(h':HF)(A:LH),h.le h'->(∀done h1 h2 B,vM h1 h2->C done h1 B->C done h2 B)->(∀h1 h2 B,vM h1 h2->Sp h1 B->Sp h2 B)->(∀ch h1 h2 B,vM h1 h2->Pn ch h1 B->Pn ch h2 B)->C [] h' A ->
   (∀done x rest vs h'' B,xs=done++x::rest->h'.le h''->C done h'' B->val x h'' vs->mM P (.func yf ya yb) vs.toArray h'' B (YR C Sp Pn done x))->oA P f (.func yf ya yb::cap).toArray h' A (ItR C Sp Pn xs)):
  Itr P (.func (.func f) #[] cap.toArray) val xs h:=⟨f,cap,rfl,hc,Qv hc hr⟩
theorem yY(r:Nat)(o:Obj)(L M:LH):((r,o)::(L++M)).Perm (L++(r,o)::M):=List.perm_middle.symm
abbrev rdH(l r:Nat)(lp:Loop)(L:LH):LH:=(l,.loop { lp with state:=.busy })::(r,.deferred (some []))::L
theorem kp{α ι : Type}{P:Program}{f:FuncId}{fn:Func}{n:Nat}{k:List Item}{F:List Frame->(Machine->Prop)->Prop}{e:Env}{X:Cx}{h:HF}{L:LH}{g:Operand}{ps:List Tmp}{assign body:Code}{val:α->HF->List Value->Prop}{xs:List α}{it:Value}(rs:List Nat)(hh:ι->HF)(LL:ι->LH)(I:List α->ι->Prop)(JR JX:ι->Prop)(xid:Nat)(Q:List PanicEntry->HF->LH->Prop)(i₀ : ι)(hf:P.funcs[f]? = some fn)(hgv:e.ev g=it)(hit:Itr P it val xs h)(hps:ps.all (λp=>jS p n)=true)(hval:∀x h vs,val x h vs->vs.length=ps.length)(hQm:∀ch h1 h2 B,vM h1 h2->Q ch h1 B->Q ch h2 B)(hh0:hh i₀=h)(hL0:L=LL i₀)(h0:I xs i₀)(round:∀(l r:Nat)(lp:Loop)(x:α)(rest:List α)(vs:List Value)(i:ι)(h':HF)(X':Cx)(FR:List Frame->(Machine->Prop)->Prop),I (x::rest) i->h.le h'->(hh i).le h'->val x h' vs->X'.h0=h'->(∀b∈X'.M,b<X'.w0.heap.size)->lp.state=.ready ->
   (∀i' e' h2,I rest i'->(hh i').le h2->TT P (roundFrame l f) n [] FR e' [] X' h2 (rdH l r lp (LL i'++markB rs))) ->
   (∀i' e' h2 k',JR i'->(hh i').le h2->TT P (roundFrame l f) n (.code .ret::k') FR e' [] X' h2 (rdH l r lp (LL i'++markB rs))) ->
   (∀i' e' h2 k',JX i'->(hh i').le h2->exitTo xid k'=none->TT P (roundFrame l f) n (.code (.exit xid)::k') FR e' [] X' h2 (rdH l r lp (LL i'++markB rs))) ->
   (∀ch e' h' L',Q ch h' L'->TP P (roundFrame l f) n ch FR e' [] X' h' (rdH l r lp (L'++markB rs))) ->
   TT P (roundFrame l f) n [.code assign,.beginRound,.code body] FR (setParams e ps vs) [] X' h' ((l,.loop lp)::(r,.deferred (some []))::(LL i++markB rs)))(next:∀r i h',I [] i->(hh i).le h'->h.le h'->TT P (bodyFrame f) n k F e (marks (r::rs)) X h' (LL i++markB (r::rs)))(jret:∀r i h',JR i->(hh i).le h'->h.le h'->TT P (bodyFrame f) n (.code .ret::k) F e (marks (r::rs)) X h' (LL i++markB (r::rs)))(jexit:∀r i h',JX i->(hh i).le h'->h.le h'->TT P (bodyFrame f) n (.code (.exit xid)::k) F e (marks (r::rs)) X h' (LL i++markB (r::rs)))(pan:∀r ch h' L',Q ch h' L'->h.le h'->TP P (bodyFrame f) n ch F e (marks (r::rs)) X h' (L'++markB (r::rs))):
  TT P (bodyFrame f) n (.code (.rangeFunc g ps.toArray assign body)::k) F e (marks rs) X h (L++markB rs):=by
 obtain⟨f0,cap,rfl,hc0,hit⟩:=hit
 refine OJ (val:=val) (xs:=xs)
  (λdone h' B=>∃rest i,xs=done++rest/\(hh i).le h'/\B=LL i++markB rs/\I rest i)
  (λc h' B=>∃i,(hh i).le h'/\B=LL i++markB rs/\((c=.ret/\JR i)\/(c=.exit xid/\JX i)))
  (λch h' B=>∃L',B=L'++markB rs/\Q ch h' L') hgv hc0 hit hps hval ?_ ?_ ?_ ⟨xs,i₀,rfl,hh0▸vQ _,by rw[hL0],h0⟩ ?_ ?_ ?_ ?_
 .rintro done h1 h2 B hl ⟨rest,i,a,b,c⟩;exact⟨rest,i,a,zF b hl,c⟩
 .rintro c h1 h2 B hl ⟨i,a,b⟩;exact⟨i,zF a hl,b⟩
 .rintro ch h1 h2 B hl ⟨L',e1,a⟩;exact⟨L',e1,hQm _ _ _ _ hl a⟩
 .rintro l r lp done x rest vs h' L' X' hxs hle ⟨rest',i,hxs',hhi,rfl,hI⟩ hv hlp hX' hXM
  have hrest:rest'=x::rest:=List.append_cancel_left (hxs'.symm.trans hxs)
  subst hrest
  refine round l r lp x rest vs i h' X' _ hI hle hhi hv hX' hXM hlp ?_ ?_ ?_ ?_
  .intro i' e' h2 hI' hl
   exact IJ rfl ⟨rest,i',by rw[hxs];simp,hl,rfl,hI'⟩
  .intro i' e' h2 k' hJ hl
   exact Rh rfl ⟨i',hl,rfl,.inl ⟨rfl,hJ⟩⟩
  .intro i' e' h2 k' hJ hl hx
   exact Qk hx rfl ⟨i',hl,rfl,.inr ⟨rfl,hJ⟩⟩
  .intro ch e' h' L' hQ
   exact Ri hf ⟨L',rfl,hQ⟩
 .rintro r h' L' hle ⟨rest,i,hxs,hl,rfl,hI⟩
  have hrest:rest=[]:=by
   have h2:=congrArg List.length hxs
   rw[List.length_append]at h2
   exact List.length_eq_zero_iff.1 (by omega)
  subst hrest
  exact mb (yY r _ _ _) (next r i h' hI hl hle)
 .rintro r c h' L' hle ⟨i,hl,rfl,⟨rfl,hJ⟩|⟨rfl,hJ⟩⟩
  .exact mb (yY r _ _ _) (jret r i h' hJ hl hle)
  .exact mb (yY r _ _ _) (jexit r i h' hJ hl hle)
 .rintro r ch h' L' hle ⟨L',rfl,hQ⟩
  exact MA (yY r _ _ _) (pan r ch h' L' hQ hle)
section yield
variable {P:Program} {b:Frame} {n:Nat} {ops:Array Oper} {F:List Frame->(Machine->Prop)->Prop} {e:Env} {ds:List Deferred} {X:Cx} {h:HF} {L:LH} {K:Env->HF->LH->Prop}
variable {d:Option Nat} {ty:TypeId} {pos:String} {af:Array Edge} {g:Option (Nat×Bool)}
theorem ll{α : Type}(Fr A:LH){C:List α->HF->LH->Prop}{Sp:HF->LH->Prop}{Pn:List PanicEntry->HF->LH->Prop}{done:List α}{x:α}{t:Nat}{as:Array Operand}{ats:Array TypeId}{fv:Value}{vs:List Value}(hL:L=Fr++A)(hs:mM P fv vs.toArray h A (YR C Sp Pn done x))(hf:e t=fv)(hvs:as.toList.map e.ev=vs)(yes:∀h' B,h.le h'->C (done++[x]) h' B->K (pute e d (.bool true)) h' (Fr++B))(no:∀h' B,h.le h'->Sp h' B->K (pute e d (.bool false)) h' (Fr++B))(pan:∀ch h' B,h.le h'->Pn ch h' B->∀e',TP P b n ch F e' ds X h' (Fr++B))(hg:guardB ops e ⟨d,.call ⟨.value (.tmp t),as,ats⟩,ty,pos,af,g⟩=true:=by rfl):
  Stp P b n ops F ds X ⟨d,.call ⟨.value (.tmp t),as,ats⟩,ty,pos,af,g⟩ e h L K:=by
 refine BG Fr A hL hs hf hvs ?_ ?_ hg
 .rintro v h' B hle (⟨e1,hC⟩|⟨e1,hS⟩|⟨ch,e1,_⟩)
  .cases e1;exact yes h' B hle hC
  .cases e1;exact no h' B hle hS
  .cases e1
 .rintro ch h' B hle (⟨e1,_⟩|⟨e1,_⟩|⟨ch',e1,hP⟩)
  .cases e1
  .cases e1
  .cases e1;exact pan ch h' B hle hP
theorem OT{α : Type}(Fr A M:LH){C:List α->HF->LH->Prop}{Sp:HF->LH->Prop}{Pn:List PanicEntry->HF->LH->Prop}{done:List α}{x:α}{t:Nat}{as:Array Operand}{ats:Array TypeId}{fv:Value}{vs:List Value}(hL:L=Fr++(A++M))(hs:mM P fv vs.toArray h A (YR C Sp Pn done x))(hf:e t=fv)(hvs:as.toList.map e.ev=vs)(yes:∀h' B,h.le h'->C (done++[x]) h' B->K (pute e d (.bool true)) h' (Fr++(B++M)))(no:∀h' B,h.le h'->Sp h' B->K (pute e d (.bool false)) h' (Fr++(B++M)))(pan:∀ch h' B,h.le h'->Pn ch h' B->∀e',TP P b n ch F e' ds X h' (Fr++(B++M)))(hg:guardB ops e ⟨d,.call ⟨.value (.tmp t),as,ats⟩,ty,pos,af,g⟩=true:=by rfl):
  Stp P b n ops F ds X ⟨d,.call ⟨.value (.tmp t),as,ats⟩,ty,pos,af,g⟩ e h L K:=by
 have hp:∀B:LH,((Fr++M)++B).Perm (Fr++(B++M)):=λB=>by
  rw[kD];exact List.Perm.append_left Fr vJ
 have key:=ll (K:=λe' h' L'=>∃L'',L'.Perm L''/\K e' h' L'') (L:=(Fr++M)++A) (P:=P) (b:=b) (n:=n) (ops:=ops) (F:=F) (ds:=ds) (X:=X) (d:=d) (ty:=ty) (pos:=pos) (af:=af) (g:=g) (Fr++M) A rfl hs hf hvs
  (λh' B hl hc=>⟨_,hp B,yes h' B hl hc⟩) (λh' B hl hc=>⟨_,hp B,no h' B hl hc⟩) (λch h' B hl hc e'=>MA (hp B) (pan ch h' B hl hc e')) hg
 unfold Stp at key ⊢
 rw[if_pos hg]at key ⊢
 intro w hw
 subst hL
 have h1:=key w (hw.perm (hp A).symm)
 revert h1
 have up:∀e',∀w'':World,(∃h' L',St X h' L' w''/\∃L'',L'.Perm L''/\K e' h' L'')->∃h' L',St X h' L' w''/\K e' h' L':=by
  rintro e' w'' ⟨h',L',hst,L'',hpm,hk⟩;exact⟨h',L'',hst.perm hpm,hk⟩
 intro h1
 cases hr:(execOp e.ev ⟨d,.call ⟨.value (.tmp t),as,ats⟩,ty,pos,af,g⟩).run P w with
 |ok nx w'=>
  rw[hr]at h1
  cases nx with
  |skip=>exact up _ _ h1
  |value v=>exact up _ _ h1
  |enter f args=>
   unfold wF at h1 ⊢
   refine vf.mono (nx:=.enter f args) h1 ?_
   intro x w'' hx
   cases x with
   |returned v=>exact up _ _ hx
   |panicked ch=>exact hx
   |outgrown=>trivial
  |round l f tmps assign body=>
   unfold wF at h1 ⊢
   refine vf.mono (nx:=.round l f tmps assign body) h1 ?_
   intro x w'' hx
   cases x with
   |returned v=>exact up _ _ hx
   |panicked ch=>exact hx
   |outgrown=>trivial
  |_=>exact h1
 |halt hlt w'=>
  rw[hr]at h1
  cases hlt<;>first|exact h1|exact h1.elim
end yield
theorem jW{P:Program}{f:FuncId}{fn:Func}{c:Code}{n:Nat}{args:List Value}{h:HF}{A:LH}{R:Ending->HF->LH->Prop}(hf:P.funcs[f]? = some fn)(hb:fn.body=some c)(hn:fn.ntmps=n)(hle:Nat.ble args.length n=true)(t:∀X:Cx,(∀b∈X.M,b<X.w0.heap.size)->X.h0=h->TT P (bodyFrame f) n [.code c] (mr P X R) (envArgs args) [] X h A):oA P f args.toArray h A R:=by
 intro w p caller cs Φ h1 h2
 have hle:=xR hle
 have henter:aAk P f args.toArray .normal=(bodyFrame f).atR { tmps:=args.toArray++aAP (n-args.length) undef,defers:=[] } [.code c]:=by
  simp[aAk,aA8,hf,hb,hn,bodyFrame]
 rw[henter]
 exact t ⟨w,h,A.map (·.1)⟩ (λb hb=>by obtain⟨p',hp',rfl⟩:=jQ.1 hb;exact iq (p.own p' hp')) rfl w (aBg p) _ (caller::cs) Φ (by simp;omega) (oN _ _) rfl ⟨caller,cs,rfl,h1,h2⟩
theorem OY{P:Program}{b:Frame}{n:Nat}{ops:Array Oper}{F:List Frame->(Machine->Prop)->Prop}{e:Env}{ds:List Deferred}{X:Cx}{h:HF}{L:LH}{K:Env->HF->LH->Prop}{d:Option Nat}{ty:TypeId}{pos:String}{af:Array Edge}{g:Option (Nat×Bool)}{t:TypeId}(hXM:∀b∈X.M,b<X.w0.heap.size)(t':∀bk,bk∉X.M->K (pute e d (.map (some bk))) h ((bk,.map #[] 0)::L))(hg:guardB ops e ⟨d,.makeMap t none,ty,pos,af,g⟩=true:=by rfl):Stp P b n ops F ds X ⟨d,.makeMap t none,ty,pos,af,g⟩ e h L K:=
 iY hg λw hw=>⟨_,_,h,_,by simp[execOp,Instr.makeMap],hw.alloc _,t' _ (λhm=>by have:=hXM _ hm;have:=hw.size;omega)⟩
section freezeN
variable {P:Program} {b:Frame} {n:Nat} {k:List Item} {F:List Frame->(Machine->Prop)->Prop} {e:Env} {ds:List Deferred} {X:Cx} {h:HF} {L:LH} {ops:Array Oper} {l:List Oper}
theorem ER(i:Nat){bk:Nat}{o:Obj}(hi:nth L i=some (bk,o))(hM:bk∉X.M)(t:∀h2,h.le h2->h2 bk=some o->TO P b n ops l k F e ds X h2 (dropNth L i)):TO P b n ops l k F e ds X h L:=by
 intro w hw
 have h1:=hw.perm (pF L i _ hi)
 exact t _ (HF.C2 (h1.free (bk,o) (by simp))) (HF.yO _ _ _) w (h1.freeze hM)
end freezeN
def tA{κ α : Type}(enc:κ->Value)(V:HF->Value->α->Prop)(h:HF)(bk:Nat)(m:List (κ×α)):Prop:=∃o,h bk=some o/\j8 enc V h o m
theorem tA.mono{κ α : Type}{enc:κ->Value}{V:HF->Value->α->Prop}{h h':HF}{bk:Nat}{m:List (κ×α)}(c:tA enc V h bk m)(hV:Ay V)(hl:h.le h'):tA enc V h' bk m:=
 let ⟨o,a,b⟩:=c;⟨o,hl _ _ a,b.mono hV hl⟩
section ends
variable {α : Type} {P:Program} {f:FuncId} {n:Nat} {k:List Item} {e:Env} {X:Cx} {h:HF} {L:LH} {fn:Func} {C:List α->HF->LH->Prop} {Sp:HF->LH->Prop} {Pn:List PanicEntry->HF->LH->Prop} {xs:List α}
theorem m4(rs:List Nat){A:LH}(hf:P.funcs[f]? = some fn)(hr:fn.results=#[])(hA:A.Sublist L)(hR:C xs h A\/Sp h A):TT P (bodyFrame f) n (.code .ret::k) (mr P X (ItR C Sp Pn xs)) e (marks rs) X h (L++markB rs):=
 vh rs hf (λa _ w _=>mC hr a w) (λw hw=>hw.sub hA) (.inl ⟨rfl,hR⟩)
theorem sW(rs:List Nat){A:LH}(hf:P.funcs[f]? = some fn)(hr:fn.results=#[])(hA:A.Sublist L)(hR:C xs h A\/Sp h A):TT P (bodyFrame f) n [] (mr P X (ItR C Sp Pn xs)) e (marks rs) X h (L++markB rs):=
 Mz rs hf (λa _ w _=>mC hr a w) (λw hw=>hw.sub hA) (.inl ⟨rfl,hR⟩)
theorem nh(rs:List Nat){A:LH}{ch:List PanicEntry}(hf:P.funcs[f]? = some fn)(hA:A.Sublist L)(hR:Pn ch h A):TP P (bodyFrame f) n ch (mr P X (ItR C Sp Pn xs)) e (marks rs) X h (L++markB rs):=
 Iu rs hf (λw hw=>hw.sub hA) (.inr ⟨ch,rfl,hR⟩)
end ends
section ends2
variable {P:Program} {f:FuncId} {n:Nat} {k:List Item} {e:Env} {X:Cx} {h:HF} {L:LH} {fn:Func} {φ : Value->HF->Prop}
theorem ew{b:Frame}{todo:List Item}{F:List Frame->(Machine->Prop)->Prop}(t:TT P b n todo F e (marks []) X h (L++markB [])):TT P b n todo F e [] X h L:=by
 have:L++markB []=L:=by simp[markB]
 rw[this]at t;exact t
theorem cv{b:Frame}{todo:List Item}{F:List Frame->(Machine->Prop)->Prop}{ds:List Deferred}{L':LH}(hL:L=L')(t:TT P b n todo F e ds X h L'):TT P b n todo F e ds X h L:=hL▸t
theorem qw(ms:List Nat){rs:List ResultVar}(vs:List Value)(hf:P.funcs[f]? = some fn)(hr:fn.results=rs.toArray)(hv:ud P e L rs vs)(hφ : φ (retVal vs) h):
  TT P (bodyFrame f) n (.code .ret::k) (mr P X (λx h' B=>B=[]/\∃v,x=.returned v/\φ v h')) e (marks ms) X h (L++markB ms):=
 vh ms (v:=retVal vs) hf (λa he w hw=>mV hr hv a he w hw) (λ_ hw=>hw.sub (List.nil_sublist _)) ⟨rfl,_,rfl,hφ⟩
theorem sD(ms:List Nat){rs:List ResultVar}{v:Value}{hh:HF}(vs:List Value)(hf:P.funcs[f]? = some fn)(hr:fn.results=rs.toArray)(hX:X.h0=hh)(hv:ud P e L rs vs)(hvv:retVal vs=v):
  TT P (bodyFrame f) n (.code .ret::k) (mr P X (λx h' B=>x=.returned v/\h'=hh/\B=[])) e (marks ms) X h (L++markB ms):=
 vh ms (v:=v) hf (λa he w hw=>hvv▸mV hr hv a he w hw) (λ_ hw=>hw.forget) ⟨rfl,hX,rfl⟩
def XR(v:Except Value Value)(hh:HF)(x:Ending)(h':HF)(B:LH):Prop:=
 h'=hh/\B=[]/\match v with
  |.ok u=>x=.returned u
  |.error p=>x=.panicked [{ v:=p,recovered:=false }]
abbrev Hw(P:Program)(f:FuncId)(args:List Value)(h:HF)(v:Except Value Value):Prop:=oA P f args.toArray h [] (XR v h)
theorem yQ(ms:List Nat){rs:List ResultVar}{v:Except Value Value}{hh:HF}(vs:List Value)(hf:P.funcs[f]? = some fn)(hr:fn.results=rs.toArray)(hX:X.h0=hh)(hv:ud P e L rs vs)(hvv:v=.ok (retVal vs)):
  TT P (bodyFrame f) n [] (mr P X (XR v hh)) e (marks ms) X h (L++markB ms):=
 Mz ms (v:=retVal vs) hf (λa he w hw=>mV hr hv a he w hw) (λ_ hw=>hw.forget) (by subst hvv;exact⟨hX,rfl,rfl⟩)
theorem nP(ms:List Nat){v:Except Value Value}{hh:HF}{p:Value}(hf:P.funcs[f]? = some fn)(hX:X.h0=hh)(hvv:v=.error p):
  TP P (bodyFrame f) n [{ v:=p,recovered:=false }] (mr P X (XR v hh)) e (marks ms) X h (L++markB ms):=
 Iu ms hf (λ_ hw=>hw.forget) (by subst hvv;exact⟨hX,rfl,rfl⟩)
theorem gV{b:Frame}{ch:List PanicEntry}{F:List Frame->(Machine->Prop)->Prop}(t:TP P b n ch F e (marks []) X h (L++markB [])):TP P b n ch F e [] X h L:=by
 have:L++markB []=L:=by simp[markB]
 rw[this]at t;exact t
end ends2
section stepsX
variable {P:Program} {b:Frame} {n:Nat} {ops:Array Oper} {F:List Frame->(Machine->Prop)->Prop} {e:Env} {ds:List Deferred} {X:Cx} {h:HF} {L:LH} {K:Env->HF->LH->Prop}
variable {d:Option Nat} {ty:TypeId} {pos:String} {af:Array Edge} {g:Option (Nat×Bool)}
theorem mT{f:FuncId}{as:Array Operand}{ats:Array TypeId}{vs:List Value}{v:Except Value Value}(hc:∀args w,(callFunc f args).run P w=.ok (.enter f args) w)(hs:Hw P f vs h v)(hvs:as.toList.map e.ev=vs)(t':∀u,v=.ok u->K (pute e d u) h L)(tp:∀p,v=.error p->∀e',TP P b n [{ v:=p,recovered:=false }] F e' ds X h L)(hg:guardB ops e ⟨d,.call ⟨.value (.func f),as,ats⟩,ty,pos,af,g⟩=true:=by rfl):
  Stp P b n ops F ds X ⟨d,.call ⟨.value (.func f),as,ats⟩,ty,pos,af,g⟩ e h L K:=
 ng (A:=[]) (Fr:=L) hc hvs hs rfl (λv' h' B _ hR=>by
   obtain⟨rfl,rfl,hv⟩:=hR
   cases v with
   |ok u=>cases hv;exact t' _ rfl
   |error p=>cases hv)
  (λch h' B _ hR=>by
   obtain⟨rfl,rfl,hv⟩:=hR
   cases v with
   |ok u=>cases hv
   |error p=>cases hv;exact tp _ rfl) hg
theorem yU{P:Program}{t:TypeId}{v:Value}(w:World):(Instr.panic (.iface t v)).run P w=.halt (.panic (.iface t v)) w:=by simp[Instr.panic,goPanic]
theorem Ex{t:TypeId}{x:Operand}{v:Value}{T:TypeDesc}(hT:P.underlying t=some T)(hi:(match T with|.interface _=>false|_=>true)=true)(hx:e.ev x=v):
  ∀w,St X h L w->(execOp e.ev ⟨d,.makeInterface t x,ty,pos,af,g⟩).run P w=.ok (.value (.iface t v)) w:=λw _=>by
 cases T<;>simp_all [execOp,Instr.makeInterface,run_underlying hT]
theorem Et{x:Operand}{p:Value}(hx:e.ev x=p)(hp:∀w:World,(Instr.panic p).run P w=.halt (.panic p) w)(tp:∀e',TP P b n [{ v:=p,recovered:=false }] F e' ds X h L)(hg:guardB ops e ⟨d,.panic x,ty,pos,af,g⟩=true:=by rfl):Stp P b n ops F ds X ⟨d,.panic x,ty,pos,af,g⟩ e h L K:=by
 unfold Stp
 rw[if_pos hg]
 intro w hw
 have:(execOp e.ev ⟨d,.panic x,ty,pos,af,g⟩).run P w=.halt (.panic p) w:=by
  simp[execOp,hx,hp]
 rw[this]
 exact⟨h,L,hw,tp⟩
end stepsX
end Go.Sg

namespace Go.Sg
def eqv:Option Value->Option Value->Bool
 |some (.int _ a),some (.int _ b)=>a==b
 |some (.bool a),some (.bool b)=>a==b
 |_,_=>false
def okF(P:Program)(xs ys:List Value)(f:Field):Bool:=
 !(f.name == "_") && (match tySz P f.type with|some (1, false) => true|_ => false) && (match P.underlying f.type, nth xs f.offset, nth ys f.offset with
  |some (.int _),some (.int j _),some (.int k _)=>decide (j=k)
  |some .bool,some (.bool _),some (.bool _)=>true
  |_,_,_=>false)
theorem sf{P:Program}{t:TypeId}{xs:List Value}{off:Nat}{v:Value}(hT:tySz P t=some (1,false))(hv:nth xs off=some v)(w:World):(part t xs.toArray off).run P w=.ok v w:=by
 rw[iM]at hv
 simp[part,EK hT,gP hT,hv]
theorem H3{P : Program}{xs ys : List Value}{f : Field}(h : okF P xs ys f = true) : f.name ≠ "_" /\ tySz P f.type = some (1, false) /\
  ((∃k j a b,P.underlying f.type=some (.int k)/\nth xs f.offset=some (.int j a)/\nth ys f.offset=some (.int j b))\/∃a b,P.underlying f.type=some .bool/\nth xs f.offset=some (.bool a)/\nth ys f.offset=some (.bool b)):=by
 unfold okF at h
 rw[xB,xB]at h
 obtain⟨⟨hn,ht⟩,hv⟩:=h
 refine⟨by simpa using hn,?_,?_⟩
 .split at ht
  .assumption
  .cases ht
 .split at hv
  .rename_i h1 h2 h3
   have:=of_decide_eq_true hv
   subst this
   exact .inl ⟨_,_,_,_,h1,h2,h3⟩
  .rename_i h1 h2 h3
   exact .inr ⟨_,_,h1,h2,h3⟩
  .cases hv
theorem BJ{P:Program}{d:Nat}{xs ys:List Value}(w:World):∀(fs:List Field),fs.all (okF P xs ys)=true ->
  (Op.eqFields (d+1) xs.toArray ys.toArray fs).run P w=.ok (fs.all λf=>eqv (nth xs f.offset) (nth ys f.offset)) w
 |[],_=>by simp[Op.eqFields]
 |f::fs,h=>by
  rw[List.all_cons,xB]at h
  obtain⟨h1,h2⟩:=h
  have ih:=BJ (d:=d) w fs h2
  obtain⟨hn,hT,⟨k,j,a,b,hu,hx,hy⟩|⟨a,b,hu,hx,hy⟩⟩:=H3 h1
  .rw[Op.eqFields,if_pos hn,List.all_cons,hx,hy]
   simp only[zQ,sf hT hx,sf hT hy,qN,run_equalIn_int w d _ _ _ _ _ hu,eqv]
   cases hab:(a==b)
   .simp
   .simp only[Bool.not_true,jL,if_false,Bool.true_and];exact ih
  .rw[Op.eqFields,if_pos hn,List.all_cons,hx,hy]
   simp only[zQ,sf hT hx,sf hT hy,qN,run_equalIn_bool' w d _ _ _ hu,eqv]
   cases hab:(a==b)
   .simp
   .simp only[Bool.not_true,jL,if_false,Bool.true_and];exact ih
theorem rS{P:Program}{t:TypeId}{fs:List Field}{xs ys:List Value}{r:Bool}(hT:P.underlying t=some (.struct fs.toArray))(hp:P.stoodInHeld t=false)(hok:fs.all (okF P xs ys)=true)(hr:(fs.all λf=>eqv (nth xs f.offset) (nth ys f.offset))=r)(w:World):(Op.equal t (.agg xs.toArray) (.agg ys.toArray)).run P w=.ok r w:=by
 have hf:P.fieldsOf t=fs.toArray:=by simp[Program.fieldsOf,hT]
 have:=run_equalIn_struct (P:=P) w 9999 t xs.toArray ys.toArray (by rw[hf];exact hT) hp
 rw[hf]at this
 rw[Op.equal,Op.maxDepth,this,←hr]
 exact BJ w fs hok
theorem sL{P:Program}{t:TypeId}{fs:List Field}{xs:List Value}(e:Bool)(hT:P.underlying t=some (.struct fs.toArray))(hok:fs.all (okF P xs xs)=true)(w:World):
  (Instr.checkKey e 10000 t (.agg xs.toArray)).run P w=.ok () w:=by
 rw[show(10000:Nat)=9999+1 from rfl,Instr.checkKey]
 simp only[zQ,run_underlying hT,qN]
 rw[←Array.forIn_toList]
 simp only
 clear hT
 induction fs with
 |nil=>simp
 |cons f fs ih=>
  rw[List.all_cons,xB]at hok
  have ih:=ih hok.2
  obtain⟨hn,hT,⟨k,j,a,b,hu,hx,hy⟩|⟨a,b,hu,hx,hy⟩⟩:=H3 hok.1
  .have hc:(Instr.checkKey e 9999 f.type (.int j a)).run P w=.ok () w:=by
    rw[show(9999:Nat)=9998+1 from rfl,Instr.checkKey]
    simp[run_underlying hu]
   simp only[List.forIn_cons,if_pos hn,zQ,sf hT hx,qN,hc,aBm]
   simpa using ih
  .have hc:(Instr.checkKey e 9999 f.type (.bool a)).run P w=.ok () w:=by
    rw[show(9999:Nat)=9998+1 from rfl,Instr.checkKey]
    simp[run_underlying hu]
   simp only[List.forIn_cons,if_pos hn,zQ,sf hT hx,qN,hc,aBm]
   simpa using ih
theorem EY(vs:List Value):∀(cl:List Value),vs.length=cl.length->splice cl 0 vs=vs:=by
 intro cl hl
 have:=yS vs [] cl (by omega)
 simp at this
 rw[this,hl]
 simp
theorem aL{P:Program}{b:Frame}{n:Nat}{k:List Item}{F:List Frame->(Machine->Prop)->Prop}{e:Env}{ds:List Deferred}{X:Cx}{h:HF}{L:LH}{ops:Array Oper}{l:List Oper}{ty:TypeId}{pos:String}{af:Array Edge}{g:Option (Nat×Bool)}(i:Nat){t:TypeId}{x y:Operand}{m bk T:Nat}{a:Bool}{cl vs:List Value}(hT:tySz P t=some (m,a))(hx:e.ev x=.pointer (some ⟨bk,0,none⟩))(hL:nth L i=some (bk,.cells cl.toArray T (0,0)))(hv:e.ev y=.agg vs.toArray)(hm:vs.length=m)(hc:cl.length=m)(h1:vs.all one=true)(t':TO P b n ops l k F e ds X h (setNth L i (bk,.cells vs.toArray T (0,0))))(hg:guardB ops e ⟨none,.store t x y,ty,pos,af,g⟩=true:=by rfl):TO P b n ops (⟨none,.store t x y,ty,pos,af,g⟩::l) k F e ds X h L:=by
 refine cM i hT hx hL (vs:=vs) (by rw[hv];simp[vcells]) hm (by rw[Nat.zero_add,hm,hc];simp) h1 ?_ hg
 rw[EY vs cl (by rw[hm,hc])]
 exact t'
section runs
variable {P:Program} {e:Env} {X:Cx} {h:HF} {L:LH} {d:Option Nat} {ty:TypeId} {pos:String} {af:Array Edge} {g:Option (Nat×Bool)}
theorem MI{t u:TypeId}{x y:Operand}{xs ys:Array Value}{r:Bool}(hq:∀w,(Op.equal t (.agg xs) (.agg ys)).run P w=.ok r w)(hm:P.eqGuardType P.depth t=false)(hx:e.ev x=.agg xs)(hy:e.ev y=.agg ys):
  ∀w,St X h L w->(execOp e.ev ⟨d,.binOp .eql t x y u,ty,pos,af,g⟩).run P w=.ok (.value (.bool r)) w:=
 λw _=>by
  have h1:=run_eqGuard_agg (P:=P) w .eql t x y xs ys hm
  have h2:=hq w
  simp[execOp,hx,hy,h1,binOp,h2]
theorem IK{t:TypeId}{x ix:Operand}{s:ByteArray}{i:Int}(hT:P.underlying t=some .string)(hx:e.ev x=.string s)(hix:e.ev ix=.int .i64 i)(hi:0<=i/\i<(s.size:Int)):
  ∀w,St X h L w->(execOp e.ev ⟨d,.index t x ix,ty,pos,af,g⟩).run P w=.ok (.value (.int .u8 ((s.data.getD i.toNat 0).toNat:Nat))) w:=
 λw _=>by
  obtain⟨n,rfl⟩:=Int.eq_ofNat_of_zero_le hi.1
  have hn:n<s.size:=by omega
  have hn':n<s.data.size:=hn
  simp[execOp,Instr.index,hix,hx,asIntOf,run_underlying hT,hn]
  rfl
end runs
end Go.Sg

namespace Go.Sg
structure Holder where
 Person:Int
 Weight:Int
deriving DecidableEq
instance:Inhabited Holder:=⟨⟨0,0⟩⟩
def Holder.cells(x:Holder):List Go.Value:=[.int .i64 x.Person,.int .i64 x.Weight]
abbrev Holder.enc(x:Holder):Go.Value:=.agg (Holder.cells x).toArray
def Holder.rp:Rp Holder:=⟨2,λ_ cs x=>cs=Holder.cells x⟩
theorem Holder.ai:Holder.rp.Mono:=λ_ _ _ _ _ e=>e
theorem Holder.em:Holder.rp.Good:=⟨Holder.ai,λ_ _ _ e=>by cases e;rfl,by decide⟩
structure Use where
 Doc:Int
 Kind:Int
 Value:Int
 At:Int
 Known:Int
deriving DecidableEq
instance:Inhabited Use:=⟨⟨0,0,0,0,0⟩⟩
def Use.cells(x:Use):List Go.Value:=[.int .i64 x.Doc,.int .i64 x.Kind,.int .i64 x.Value,.int .i64 x.At,.int .i64 x.Known]
abbrev Use.enc(x:Use):Go.Value:=.agg (Use.cells x).toArray
def Use.rp:Rp Use:=⟨5,λ_ cs x=>cs=Use.cells x⟩
theorem Use.ai:Use.rp.Mono:=λ_ _ _ _ _ e=>e
theorem Use.em:Use.rp.Good:=⟨Use.ai,λ_ _ _ e=>by cases e;rfl,by decide⟩
structure Appoint where
 No:Int
 At:Int
 Known:Int
 Office:Int
 Person:Int
 Weight:Int
 Gone:Bool
deriving DecidableEq
instance:Inhabited Appoint:=⟨⟨0,0,0,0,0,0,false⟩⟩
def Appoint.cells(x:Appoint):List Go.Value:=[.int .i64 x.No,.int .i64 x.At,.int .i64 x.Known,.int .i64 x.Office,.int .i64 x.Person,.int .i64 x.Weight,.bool x.Gone]
abbrev Appoint.enc(x:Appoint):Go.Value:=.agg (Appoint.cells x).toArray
def Appoint.rp:Rp Appoint:=⟨7,λ_ cs x=>cs=Appoint.cells x⟩
theorem Appoint.ai:Appoint.rp.Mono:=λ_ _ _ _ _ e=>e
theorem Appoint.em:Appoint.rp.Good:=⟨Appoint.ai,λ_ _ _ e=>by cases e;rfl,by decide⟩
structure Deputy where
 No:Int
 At:Int
 Known:Int
 Until:Int
 From:Int
 To:Int
 Office:Int
 Kind:Int
 Most:Int
 Gone:Bool
deriving DecidableEq
instance:Inhabited Deputy:=⟨⟨0,0,0,0,0,0,0,0,0,false⟩⟩
def Deputy.cells(x:Deputy):List Go.Value:=[.int .i64 x.No,.int .i64 x.At,.int .i64 x.Known,.int .i64 x.Until,.int .i64 x.From,.int .i64 x.To,.int .i64 x.Office,.int .i64 x.Kind,.int .i64 x.Most,.bool x.Gone]
abbrev Deputy.enc(x:Deputy):Go.Value:=.agg (Deputy.cells x).toArray
def Deputy.rp:Rp Deputy:=⟨10,λ_ cs x=>cs=Deputy.cells x⟩
theorem Deputy.ai:Deputy.rp.Mono:=λ_ _ _ _ _ e=>e
theorem Deputy.em:Deputy.rp.Good:=⟨Deputy.ai,λ_ _ _ e=>by cases e;rfl,by decide⟩
structure Interest where
 No:Int
 At:Int
 Known:Int
 Person:Int
 Party:Int
 Of:Bool
 Gone:Bool
deriving DecidableEq
instance:Inhabited Interest:=⟨⟨0,0,0,0,0,false,false⟩⟩
def Interest.cells(x:Interest):List Go.Value:=[.int .i64 x.No,.int .i64 x.At,.int .i64 x.Known,.int .i64 x.Person,.int .i64 x.Party,.bool x.Of,.bool x.Gone]
abbrev Interest.enc(x:Interest):Go.Value:=.agg (Interest.cells x).toArray
def Interest.rp:Rp Interest:=⟨7,λ_ cs x=>cs=Interest.cells x⟩
theorem Interest.ai:Interest.rp.Mono:=λ_ _ _ _ _ e=>e
theorem Interest.em:Interest.rp.Good:=⟨Interest.ai,λ_ _ _ e=>by cases e;rfl,by decide⟩
structure Budget where
 No:Int
 At:Int
 Known:Int
 Kind:Int
 Period:Int
 Count:Int
 Value:Int
 Gone:Bool
deriving DecidableEq
instance:Inhabited Budget:=⟨⟨0,0,0,0,0,0,0,false⟩⟩
def Budget.cells(x:Budget):List Go.Value:=[.int .i64 x.No,.int .i64 x.At,.int .i64 x.Known,.int .i64 x.Kind,.int .i64 x.Period,.int .i64 x.Count,.int .i64 x.Value,.bool x.Gone]
abbrev Budget.enc(x:Budget):Go.Value:=.agg (Budget.cells x).toArray
def Budget.rp:Rp Budget:=⟨8,λ_ cs x=>cs=Budget.cells x⟩
theorem Budget.ai:Budget.rp.Mono:=λ_ _ _ _ _ e=>e
theorem Budget.em:Budget.rp.Good:=⟨Budget.ai,λ_ _ _ e=>by cases e;rfl,by decide⟩
structure Approval where
 No:Int
 At:Int
 Known:Int
 Doc:Int
 By:Int
 For:Int
 Office:Int
 Gone:Bool
deriving DecidableEq
instance:Inhabited Approval:=⟨⟨0,0,0,0,0,0,0,false⟩⟩
def Approval.cells(x:Approval):List Go.Value:=[.int .i64 x.No,.int .i64 x.At,.int .i64 x.Known,.int .i64 x.Doc,.int .i64 x.By,.int .i64 x.For,.int .i64 x.Office,.bool x.Gone]
abbrev Approval.enc(x:Approval):Go.Value:=.agg (Approval.cells x).toArray
def Approval.rp:Rp Approval:=⟨8,λ_ cs x=>cs=Approval.cells x⟩
theorem Approval.ai:Approval.rp.Mono:=λ_ _ _ _ _ e=>e
theorem Approval.em:Approval.rp.Good:=⟨Approval.ai,λ_ _ _ e=>by cases e;rfl,by decide⟩
inductive Expr where
 |mk (Kind N No:Int) (Name:ByteArray) (L:List Expr)
def Expr.Kind:Expr->Int
 |.mk Kind _ _ _ _=>Kind
def Expr.N:Expr->Int
 |.mk _ N _ _ _=>N
def Expr.No:Expr->Int
 |.mk _ _ No _ _=>No
def Expr.Name:Expr->ByteArray
 |.mk _ _ _ Name _=>Name
def Expr.L:Expr->List Expr
 |.mk _ _ _ _ L=>L
instance:Inhabited Expr:=⟨.mk 0 0 0 ⟨#[]⟩ []⟩
mutual
def Expr.dep:Expr->Nat
 |.mk _ _ _ _ L=>Expr.depL L+1
def Expr.depL:List Expr->Nat
 |[]=>0
 |y::ys=>Expr.dep y+Expr.depL ys
end
theorem Expr.mj(x:Expr):0<x.dep:=by cases x;simp[Expr.dep]
theorem Expr.PQ{y:Expr}:∀{l:List Expr},y∈l->y.dep<=Expr.depL l
 |z::l,h=>by
  rcases qC.1 h with rfl|h
  .simp[Expr.depL]
  .have:=Expr.PQ h;simp[Expr.depL];omega
theorem Expr.Kt:∀(l:List Expr),l.length<=Expr.depL l
 |[]=>kF _
 |z::l=>by have:=Expr.Kt l;have:=Expr.mj z;simp[Expr.depL];omega
theorem Expr.Po(x:Expr):x.L.length<x.dep:=by
 cases x with
 |mk a b c d L=>have:=Expr.Kt L;simp[Expr.dep,Expr.L];omega
theorem Expr.jU{x y:Expr}(h:y∈x.L):y.dep<x.dep:=by
 cases x with
 |mk a b c d L=>have:=Expr.PQ (l:=L) h;simp[Expr.dep];omega
structure de where
 mt:Option Addr
 mu:Nat
def Expr.cells(x:Expr)(r:de):List Go.Value:=[.int .i64 x.Kind,.int .i64 x.N,.int .i64 x.No,.string x.Name,.slice r.mt x.L.length r.mu]
inductive Expr.ok(h:HF):Expr->de->Prop
 |mk (x:Expr) (r:de) (rs:Nat->de) (h0:x.L.length<=9223372036854775807/\x.L.length<=r.mu) (h1:∀(i:Nat)(y:Expr),x.L[i]? = some y->∃p,r.mt=some p/\At h (p.add (i*5)) (Expr.cells y (rs i))) (h2:∀(i:Nat)(y:Expr),x.L[i]? = some y->Expr.ok h y (rs i)):Expr.ok h x r
def Expr.rp:Rp Expr:=⟨5,λh cs x=>∃r,cs=Expr.cells x r/\Expr.ok h x r⟩
theorem Expr.ok.mono{h h':HF}{x:Expr}{r:de}(a:Expr.ok h x r)(hl:h.le h'):Expr.ok h' x r:=by
 induction a with
 |mk x r rs h0 h1 h2 ih=>exact .mk x r rs h0 (λi y hy=>let ⟨p,e,q⟩:=h1 i y hy;⟨p,e,q.mono hl⟩) (λi y hy=>ih i y hy)
theorem Expr.ok.list{h:HF}{x:Expr}{r:de}(a:Expr.ok h x r):SlC Expr.rp h r.mt r.mu x.L:=by
 cases a with
 |mk x r rs h0 h1 h2=>exact⟨⟨h0.1,λi y hy=>let ⟨p,e,q⟩:=h1 i y hy;⟨p,_,e,q,rfl,_,rfl,h2 i y hy⟩⟩,h0.2⟩
theorem Expr.ai:Expr.rp.Mono:=λ_ _ _ _ hl⟨r,e,o⟩=>⟨r,e,o.mono hl⟩
theorem Expr.ok.of{h:HF}{x:Expr}{r:de}(a:SlC Expr.rp h r.mt r.mu x.L):Expr.ok h x r:=by
 have h1:∀i,∃q:de,∀y,x.L[i]? = some y->∃p,r.mt=some p/\At h (p.add (i*5)) (Expr.cells y q)/\Expr.ok h y q:=by
  intro i
  cases hy:x.L[i]? with
  |none=>exact⟨⟨none,0⟩,λy e=>by cases e⟩
  |some y=>
   obtain⟨p,cs,e,q,_,r',rfl,o⟩:=a.1.2 i y hy
   exact⟨r',λz ez=>by cases ez;exact⟨p,e,q,o⟩⟩
 obtain⟨rs,hrs⟩:=Classical.axiomOfChoice h1
 exact .mk x r rs ⟨a.1.1,a.2⟩ (λi y hy=>let ⟨p,e,q,_⟩:=hrs i y hy;⟨p,e,q⟩) (λi y hy=>let ⟨_,_,_,o⟩:=hrs i y hy;o)
theorem Expr.em:Expr.rp.Good:=⟨Expr.ai,λ_ _ _⟨_,e,_⟩=>by cases e;rfl,by decide⟩
structure Rule where
 Kind:ByteArray
 KindNo:Int
 Think:Int
 Expr:Expr
instance:Inhabited Rule:=⟨⟨⟨#[]⟩,0,0,default⟩⟩
structure CJ where
 Expr:de
def Rule.cells(x:Rule)(r:CJ):List Go.Value:=[.string x.Kind,.int .i64 x.KindNo,.int .i64 x.Think,.int .i64 x.Expr.Kind,.int .i64 x.Expr.N,.int .i64 x.Expr.No,.string x.Expr.Name,.slice r.Expr.mt x.Expr.L.length r.Expr.mu]
structure Rule.ok(h:HF)(x:Rule)(r:CJ):Prop where
 Expr:Expr.ok h x.Expr r.Expr
theorem Rule.ok.mono{h h':HF}{x:Rule}{r:CJ}(a:Rule.ok h x r)(hl:h.le h'):Rule.ok h' x r:=⟨a.Expr.mono hl⟩
def Rule.rp:Rp Rule:=⟨8,λh cs x=>∃r,cs=Rule.cells x r/\Rule.ok h x r⟩
theorem Rule.ai:Rule.rp.Mono:=λ_ _ _ _ hl⟨r,e,o⟩=>⟨r,e,o.mono hl⟩
theorem Rule.em:Rule.rp.Good:=⟨Rule.ai,λ_ _ _⟨_,e,_⟩=>by cases e;rfl,by decide⟩
structure Policy where
 Name:ByteArray
 Kinds:List ByteArray
 Offices:List ByteArray
 Rules:List Rule
 Change:Expr
 Mode:Int
instance:Inhabited Policy:=⟨⟨⟨#[]⟩,[],[],[],default,0⟩⟩
structure fd where
 i5:Option Addr
 iZ:Nat
 gr:Option Addr
 gq:Nat
 m8:Option Addr
 m7:Nat
 Change:de
def Policy.cells(x:Policy)(r:fd):List Go.Value:=[.string x.Name,.slice r.i5 x.Kinds.length r.iZ,.slice r.gr x.Offices.length r.gq,.slice r.m8 x.Rules.length r.m7,.int .i64 x.Change.Kind,.int .i64 x.Change.N,.int .i64 x.Change.No,.string x.Change.Name,.slice r.Change.mt x.Change.L.length r.Change.mu,.int .i64 x.Mode]
structure Policy.ok(h:HF)(x:Policy)(r:fd):Prop where
 Kinds:SlC Rp.str h r.i5 r.iZ x.Kinds
 Offices:SlC Rp.str h r.gr r.gq x.Offices
 Rules:SlC Rule.rp h r.m8 r.m7 x.Rules
 Change:Expr.ok h x.Change r.Change
theorem Policy.ok.mono{h h':HF}{x:Policy}{r:fd}(a:Policy.ok h x r)(hl:h.le h'):Policy.ok h' x r:=⟨a.Kinds.mono Rp.iC hl,a.Offices.mono Rp.iC hl,a.Rules.mono Rule.ai hl,a.Change.mono hl⟩
def Policy.rp:Rp Policy:=⟨10,λh cs x=>∃r,cs=Policy.cells x r/\Policy.ok h x r⟩
theorem Policy.ai:Policy.rp.Mono:=λ_ _ _ _ hl⟨r,e,o⟩=>⟨r,e,o.mono hl⟩
theorem Policy.em:Policy.rp.Good:=⟨Policy.ai,λ_ _ _⟨_,e,_⟩=>by cases e;rfl,by decide⟩
structure Version where
 No:Int
 At:Int
 Known:Int
 Policy:Policy
instance:Inhabited Version:=⟨⟨0,0,0,default⟩⟩
structure nO where
 Policy:fd
def Version.cells(x:Version)(r:nO):List Go.Value:=[.int .i64 x.No,.int .i64 x.At,.int .i64 x.Known,.string x.Policy.Name,.slice r.Policy.i5 x.Policy.Kinds.length r.Policy.iZ,.slice r.Policy.gr x.Policy.Offices.length r.Policy.gq,.slice r.Policy.m8 x.Policy.Rules.length r.Policy.m7,.int .i64 x.Policy.Change.Kind,.int .i64 x.Policy.Change.N,.int .i64 x.Policy.Change.No,.string x.Policy.Change.Name,.slice r.Policy.Change.mt x.Policy.Change.L.length r.Policy.Change.mu,.int .i64 x.Policy.Mode]
structure Version.ok(h:HF)(x:Version)(r:nO):Prop where
 Policy:Policy.ok h x.Policy r.Policy
theorem Version.ok.mono{h h':HF}{x:Version}{r:nO}(a:Version.ok h x r)(hl:h.le h'):Version.ok h' x r:=⟨a.Policy.mono hl⟩
def Version.rp:Rp Version:=⟨13,λh cs x=>∃r,cs=Version.cells x r/\Version.ok h x r⟩
theorem Version.ai:Version.rp.Mono:=λ_ _ _ _ hl⟨r,e,o⟩=>⟨r,e,o.mono hl⟩
theorem Version.em:Version.rp.Good:=⟨Version.ai,λ_ _ _⟨_,e,_⟩=>by cases e;rfl,by decide⟩
structure Document where
 No:Int
 At:Int
 Kind:Int
 Value:Int
 From:Int
 Until:Int
 Parties:List Int
 Revokes:List Int
 Needs:List Int
 Text:Nat->Int
instance:Inhabited Document:=⟨⟨0,0,0,0,0,0,[],[],[],λ_=>0⟩⟩
structure ls where
 zm:Option Addr
 zk:Nat
 so:Option Addr
 sn:Nat
 EF:Option Addr
 EE:Nat
def Document.cells(x:Document)(r:ls):List Go.Value:=.int .i64 x.No::.int .i64 x.At::.int .i64 x.Kind::.int .i64 x.Value::.int .i64 x.From::.int .i64 x.Until::.slice r.zm x.Parties.length r.zk::.slice r.so x.Revokes.length r.sn::.slice r.EF x.Needs.length r.EE::.int .u8 (x.Text 0)::.int .u8 (x.Text 1)::.int .u8 (x.Text 2)::.int .u8 (x.Text 3)::.int .u8 (x.Text 4)::.int .u8 (x.Text 5)::.int .u8 (x.Text 6)::.int .u8 (x.Text 7)::.int .u8 (x.Text 8)::.int .u8 (x.Text 9)::.int .u8 (x.Text 10)::.int .u8 (x.Text 11)::.int .u8 (x.Text 12)::.int .u8 (x.Text 13)::.int .u8 (x.Text 14)::.int .u8 (x.Text 15)::.int .u8 (x.Text 16)::.int .u8 (x.Text 17)::.int .u8 (x.Text 18)::.int .u8 (x.Text 19)::.int .u8 (x.Text 20)::.int .u8 (x.Text 21)::.int .u8 (x.Text 22)::.int .u8 (x.Text 23)::.int .u8 (x.Text 24)::.int .u8 (x.Text 25)::.int .u8 (x.Text 26)::.int .u8 (x.Text 27)::.int .u8 (x.Text 28)::.int .u8 (x.Text 29)::.int .u8 (x.Text 30)::.int .u8 (x.Text 31)::[]
structure Document.ok(h:HF)(x:Document)(r:ls):Prop where
 Parties:SlC kB h r.zm r.zk x.Parties
 Revokes:SlC kB h r.so r.sn x.Revokes
 Needs:SlC kB h r.EF r.EE x.Needs
theorem Document.ok.mono{h h':HF}{x:Document}{r:ls}(a:Document.ok h x r)(hl:h.le h'):Document.ok h' x r:=⟨a.Parties.mono jH hl,a.Revokes.mono jH hl,a.Needs.mono jH hl⟩
def Document.rp:Rp Document:=⟨41,λh cs x=>∃r,cs=Document.cells x r/\Document.ok h x r⟩
theorem Document.ai:Document.rp.Mono:=λ_ _ _ _ hl⟨r,e,o⟩=>⟨r,e,o.mono hl⟩
theorem Document.em:Document.rp.Good:=⟨Document.ai,λ_ _ _⟨_,e,_⟩=>by cases e;rfl,by decide⟩
structure Register where
 Appoints:List Appoint
 Deputies:List Deputy
 Interests:List Interest
 Budgets:List Budget
 Versions:List Version
 Docs:List Document
 Approvals:List Approval
instance:Inhabited Register:=⟨⟨[],[],[],[],[],[],[]⟩⟩
structure dK where
 wl:Option Addr
 wk:Nat
 wj:Option Addr
 wi:Nat
 uf:Option Addr
 ue:Nat
 zp:Option Addr
 zo:Nat
 lV:Option Addr
 lU:Nat
 Dl:Option Addr
 Dk:Nat
 uh:Option Addr
 ug:Nat
def Register.cells(x:Register)(r:dK):List Go.Value:=[.slice r.wl x.Appoints.length r.wk,.slice r.wj x.Deputies.length r.wi,.slice r.uf x.Interests.length r.ue,.slice r.zp x.Budgets.length r.zo,.slice r.lV x.Versions.length r.lU,.slice r.Dl x.Docs.length r.Dk,.slice r.uh x.Approvals.length r.ug]
structure Register.ok(h:HF)(x:Register)(r:dK):Prop where
 Appoints:SlC Appoint.rp h r.wl r.wk x.Appoints
 Deputies:SlC Deputy.rp h r.wj r.wi x.Deputies
 Interests:SlC Interest.rp h r.uf r.ue x.Interests
 Budgets:SlC Budget.rp h r.zp r.zo x.Budgets
 Versions:SlC Version.rp h r.lV r.lU x.Versions
 Docs:SlC Document.rp h r.Dl r.Dk x.Docs
 Approvals:SlC Approval.rp h r.uh r.ug x.Approvals
theorem Register.ok.mono{h h':HF}{x:Register}{r:dK}(a:Register.ok h x r)(hl:h.le h'):Register.ok h' x r:=⟨a.Appoints.mono Appoint.ai hl,a.Deputies.mono Deputy.ai hl,a.Interests.mono Interest.ai hl,a.Budgets.mono Budget.ai hl,a.Versions.mono Version.ai hl,a.Docs.mono Document.ai hl,a.Approvals.mono Approval.ai hl⟩
def Register.rp:Rp Register:=⟨7,λh cs x=>∃r,cs=Register.cells x r/\Register.ok h x r⟩
theorem Register.ai:Register.rp.Mono:=λ_ _ _ _ hl⟨r,e,o⟩=>⟨r,e,o.mono hl⟩
theorem Register.em:Register.rp.Good:=⟨Register.ai,λ_ _ _⟨_,e,_⟩=>by cases e;rfl,by decide⟩
structure fJ where
 State:Int
 Budget:Int
 Versions:List Int
 Who:List Int
instance:Inhabited fJ:=⟨⟨0,0,[],[]⟩⟩
structure pK where
 lV:Option Addr
 lU:Nat
 In:Option Addr
 Im:Nat
def fJ.cells(x:fJ)(r:pK):List Go.Value:=[.int .i64 x.State,.int .i64 x.Budget,.slice r.lV x.Versions.length r.lU,.slice r.In x.Who.length r.Im]
structure fJ.ok(h:HF)(x:fJ)(r:pK):Prop where
 Versions:SlC kB h r.lV r.lU x.Versions
 Who:SlC kB h r.In r.Im x.Who
theorem fJ.ok.mono{h h':HF}{x:fJ}{r:pK}(a:fJ.ok h x r)(hl:h.le h'):fJ.ok h' x r:=⟨a.Versions.mono jH hl,a.Who.mono jH hl⟩
def fJ.rp:Rp fJ:=⟨4,λh cs x=>∃r,cs=fJ.cells x r/\fJ.ok h x r⟩
theorem fJ.ai:fJ.rp.Mono:=λ_ _ _ _ hl⟨r,e,o⟩=>⟨r,e,o.mono hl⟩
theorem fJ.em:fJ.rp.Good:=⟨fJ.ai,λ_ _ _⟨_,e,_⟩=>by cases e;rfl,by decide⟩
structure OSeat where
 office:Int
 person:Int
deriving DecidableEq
instance:Inhabited OSeat:=⟨⟨0,0⟩⟩
def OSeat.cells(x:OSeat):List Go.Value:=[.int .i64 x.office,.int .i64 x.person]
abbrev OSeat.enc(x:OSeat):Go.Value:=.agg (OSeat.cells x).toArray
def OSeat.rp:Rp OSeat:=⟨2,λ_ cs x=>cs=OSeat.cells x⟩
theorem OSeat.ai:OSeat.rp.Mono:=λ_ _ _ _ _ e=>e
theorem OSeat.em:OSeat.rp.Good:=⟨OSeat.ai,λ_ _ _ e=>by cases e;rfl,by decide⟩
structure dp where
 person:Int
 party:Int
 of:Bool
deriving DecidableEq
instance:Inhabited dp:=⟨⟨0,0,false⟩⟩
def dp.cells(x:dp):List Go.Value:=[.int .i64 x.person,.int .i64 x.party,.bool x.of]
abbrev dp.enc(x:dp):Go.Value:=.agg (dp.cells x).toArray
def dp.rp:Rp dp:=⟨3,λ_ cs x=>cs=dp.cells x⟩
theorem dp.ai:dp.rp.Mono:=λ_ _ _ _ _ e=>e
theorem dp.em:dp.rp.Good:=⟨dp.ai,λ_ _ _ e=>by cases e;rfl,by decide⟩
structure gU where
 path:List Int
 to:Int
instance:Inhabited gU:=⟨⟨[],0⟩⟩
structure Nl where
 yg:Option Addr
 AL:Nat
def gU.cells(x:gU)(r:Nl):List Go.Value:=[.slice r.yg x.path.length r.AL,.int .i64 x.to]
structure gU.ok(h:HF)(x:gU)(r:Nl):Prop where
 path:SlC kB h r.yg r.AL x.path
theorem gU.ok.mono{h h':HF}{x:gU}{r:Nl}(a:gU.ok h x r)(hl:h.le h'):gU.ok h' x r:=⟨a.path.mono jH hl⟩
def gU.rp:Rp gU:=⟨2,λh cs x=>∃r,cs=gU.cells x r/\gU.ok h x r⟩
theorem gU.ai:gU.rp.Mono:=λ_ _ _ _ hl⟨r,e,o⟩=>⟨r,e,o.mono hl⟩
theorem gU.em:gU.rp.Good:=⟨gU.ai,λ_ _ _⟨_,e,_⟩=>by cases e;rfl,by decide⟩
structure w9 where
 QS:List Int
 To:Int
instance:Inhabited w9:=⟨⟨[],0⟩⟩
structure PZ where
 P1:Option Addr
 P0:Nat
def w9.cells(x:w9)(r:PZ):List Go.Value:=[.slice r.P1 x.QS.length r.P0,.int .i64 x.To]
structure w9.ok(h:HF)(x:w9)(r:PZ):Prop where
 QS:SlC kB h r.P1 r.P0 x.QS
theorem w9.ok.mono{h h':HF}{x:w9}{r:PZ}(a:w9.ok h x r)(hl:h.le h'):w9.ok h' x r:=⟨a.QS.mono jH hl⟩
def w9.rp:Rp w9:=⟨2,λh cs x=>∃r,cs=w9.cells x r/\w9.ok h x r⟩
theorem w9.ai:w9.rp.Mono:=λ_ _ _ _ hl⟨r,e,o⟩=>⟨r,e,o.mono hl⟩
theorem w9.em:w9.rp.Good:=⟨w9.ai,λ_ _ _⟨_,e,_⟩=>by cases e;rfl,by decide⟩
structure aZ where
 value:Int
 holders:List (List Holder)
 who:List Int
instance:Inhabited aZ:=⟨⟨0,[],[]⟩⟩
structure iU where
 lr:Option Addr
 lq:Nat
 sx:Option Addr
 su:Nat
def aZ.cells(x:aZ)(r:iU):List Go.Value:=[.int .i64 x.value,.slice r.lr x.holders.length r.lq,.slice r.sx x.who.length r.su]
structure aZ.ok(h:HF)(x:aZ)(r:iU):Prop where
 holders:SlC (Rp.sl Holder.rp) h r.lr r.lq x.holders
 who:SlC kB h r.sx r.su x.who
theorem aZ.ok.mono{h h':HF}{x:aZ}{r:iU}(a:aZ.ok h x r)(hl:h.le h'):aZ.ok h' x r:=⟨a.holders.mono (Rp.yT Holder.ai) hl,a.who.mono jH hl⟩
def aZ.rp:Rp aZ:=⟨3,λh cs x=>∃r,cs=aZ.cells x r/\aZ.ok h x r⟩
theorem aZ.ai:aZ.rp.Mono:=λ_ _ _ _ hl⟨r,e,o⟩=>⟨r,e,o.mono hl⟩
theorem aZ.em:aZ.rp.Good:=⟨aZ.ai,λ_ _ _⟨_,e,_⟩=>by cases e;rfl,by decide⟩
structure gL where
 x:Expr
 depth:Int
instance:Inhabited gL:=⟨⟨default,0⟩⟩
structure Di where
 x:de
def gL.cells(x:gL)(r:Di):List Go.Value:=[.int .i64 x.x.Kind,.int .i64 x.x.N,.int .i64 x.x.No,.string x.x.Name,.slice r.x.mt x.x.L.length r.x.mu,.int .i64 x.depth]
structure gL.ok(h:HF)(x:gL)(r:Di):Prop where
 x:Expr.ok h x.x r.x
theorem gL.ok.mono{h h':HF}{x:gL}{r:Di}(a:gL.ok h x r)(hl:h.le h'):gL.ok h' x r:=⟨a.x.mono hl⟩
def gL.rp:Rp gL:=⟨6,λh cs x=>∃r,cs=gL.cells x r/\gL.ok h x r⟩
theorem gL.ai:gL.rp.Mono:=λ_ _ _ _ hl⟨r,e,o⟩=>⟨r,e,o.mono hl⟩
theorem gL.em:gL.rp.Good:=⟨gL.ai,λ_ _ _⟨_,e,_⟩=>by cases e;rfl,by decide⟩
structure tq where
 e:Int
deriving DecidableEq
instance:Inhabited tq:=⟨⟨0⟩⟩
def tq.cells(x:tq):List Go.Value:=[.int .i64 x.e]
abbrev tq.enc(x:tq):Go.Value:=.agg (tq.cells x).toArray
def tq.rp:Rp tq:=⟨1,λ_ cs x=>cs=tq.cells x⟩
theorem tq.ai:tq.rp.Mono:=λ_ _ _ _ _ e=>e
theorem tq.em:tq.rp.Good:=⟨tq.ai,λ_ _ _ e=>by cases e;rfl,by decide⟩
structure hY where
 docs:List Document
 at_:List (Int×Int)
instance:Inhabited hY:=⟨⟨[],[]⟩⟩
structure n8 where
 Gx:Option Addr
 Gv:Nat
 Ld:Nat
def hY.cells(x:hY)(r:n8):List Go.Value:=[.slice r.Gx x.docs.length r.Gv,.map (some r.Ld)]
structure hY.ok(h:HF)(x:hY)(r:n8):Prop where
 docs:SlC Document.rp h r.Gx r.Gv x.docs
 at_:tA (kC .i64) wg h r.Ld x.at_
theorem hY.ok.mono{h h':HF}{x:hY}{r:n8}(a:hY.ok h x r)(hl:h.le h'):hY.ok h' x r:=⟨a.docs.mono Document.ai hl,a.at_.mono wg.mono hl⟩
def hY.rp:Rp hY:=⟨2,λh cs x=>∃r,cs=hY.cells x r/\hY.ok h x r⟩
theorem hY.ai:hY.rp.Mono:=λ_ _ _ _ hl⟨r,e,o⟩=>⟨r,e,o.mono hl⟩
theorem hY.em:hY.rp.Good:=⟨hY.ai,λ_ _ _⟨_,e,_⟩=>by cases e;rfl,by decide⟩
structure fu where
 doc:Int
 Bn:Int
 forWhom:Int
 office:Int
deriving DecidableEq
instance:Inhabited fu:=⟨⟨0,0,0,0⟩⟩
def fu.cells(x:fu):List Go.Value:=[.int .i64 x.doc,.int .i64 x.Bn,.int .i64 x.forWhom,.int .i64 x.office]
abbrev fu.enc(x:fu):Go.Value:=.agg (fu.cells x).toArray
def fu.rp:Rp fu:=⟨4,λ_ cs x=>cs=fu.cells x⟩
theorem fu.ai:fu.rp.Mono:=λ_ _ _ _ _ e=>e
theorem fu.em:fu.rp.Good:=⟨fu.ai,λ_ _ _ e=>by cases e;rfl,by decide⟩
structure dS where
 eV:Int
 to:Int
 office:Int
 kind:Int
deriving DecidableEq
instance:Inhabited dS:=⟨⟨0,0,0,0⟩⟩
def dS.cells(x:dS):List Go.Value:=[.int .i64 x.eV,.int .i64 x.to,.int .i64 x.office,.int .i64 x.kind]
abbrev dS.enc(x:dS):Go.Value:=.agg (dS.cells x).toArray
def dS.rp:Rp dS:=⟨4,λ_ cs x=>cs=dS.cells x⟩
theorem dS.ai:dS.rp.Mono:=λ_ _ _ _ _ e=>e
theorem dS.em:dS.rp.Good:=⟨dS.ai,λ_ _ _ e=>by cases e;rfl,by decide⟩
structure cD where
 office:Int
 kind:Int
 value:Int
 at_:Int
 known:Int
deriving DecidableEq
instance:Inhabited cD:=⟨⟨0,0,0,0,0⟩⟩
def cD.cells(x:cD):List Go.Value:=[.int .i64 x.office,.int .i64 x.kind,.int .i64 x.value,.int .i64 x.at_,.int .i64 x.known]
abbrev cD.enc(x:cD):Go.Value:=.agg (cD.cells x).toArray
def cD.rp:Rp cD:=⟨5,λ_ cs x=>cs=cD.cells x⟩
theorem cD.ai:cD.rp.Mono:=λ_ _ _ _ _ e=>e
theorem cD.em:cD.rp.Good:=⟨cD.ai,λ_ _ _ e=>by cases e;rfl,by decide⟩
structure fN where
 kind:Int
 period:Int
deriving DecidableEq
instance:Inhabited fN:=⟨⟨0,0⟩⟩
def fN.cells(x:fN):List Go.Value:=[.int .i64 x.kind,.int .i64 x.period]
abbrev fN.enc(x:fN):Go.Value:=.agg (fN.cells x).toArray
def fN.rp:Rp fN:=⟨2,λ_ cs x=>cs=fN.cells x⟩
theorem fN.ai:fN.rp.Mono:=λ_ _ _ _ _ e=>e
theorem fN.em:fN.rp.Good:=⟨fN.ai,λ_ _ _ e=>by cases e;rfl,by decide⟩
structure eS where
 shelf:hY
 signed:List Int
 done:List Bool
 lacks:List Int
 revoked:List (Int×(List Int))
instance:Inhabited eS:=⟨⟨default,[],[],[],[]⟩⟩
structure tr where
 shelf:n8
 ck:Option Addr
 cj:Nat
 Be:Option Addr
 Bd:Nat
 MS:Option Addr
 MR:Nat
 HW:Nat
def eS.cells(x:eS)(r:tr):List Go.Value:=[.slice r.shelf.Gx x.shelf.docs.length r.shelf.Gv,.map (some r.shelf.Ld),.slice r.ck x.signed.length r.cj,.slice r.Be x.done.length r.Bd,.slice r.MS x.lacks.length r.MR,.map (some r.HW)]
structure eS.ok(h:HF)(x:eS)(r:tr):Prop where
 shelf:hY.ok h x.shelf r.shelf
 signed:SlC kB h r.ck r.cj x.signed
 done:SlC Rp.bool h r.Be r.Bd x.done
 lacks:SlC kB h r.MS r.MR x.lacks
 revoked:tA (kC .i64) (VSl kB) h r.HW x.revoked
theorem eS.ok.mono{h h':HF}{x:eS}{r:tr}(a:eS.ok h x r)(hl:h.le h'):eS.ok h' x r:=⟨a.shelf.mono hl,a.signed.mono jH hl,a.done.mono Rp.ql hl,a.lacks.mono jH hl,a.revoked.mono (VSl.mono jH) hl⟩
def eS.rp:Rp eS:=⟨6,λh cs x=>∃r,cs=eS.cells x r/\eS.ok h x r⟩
theorem eS.ai:eS.rp.Mono:=λ_ _ _ _ hl⟨r,e,o⟩=>⟨r,e,o.mono hl⟩
theorem eS.em:eS.rp.Good:=⟨eS.ai,λ_ _ _⟨_,e,_⟩=>by cases e;rfl,by decide⟩
structure bU where
 Register:Register
 doc:Document
 at_:Int
 known:Int
instance:Inhabited bU:=⟨⟨default,default,0,0⟩⟩
structure kn where
 Register:dK
 doc:ls
def bU.cells(x:bU)(r:kn):List Go.Value:=.slice r.Register.wl x.Register.Appoints.length r.Register.wk::.slice r.Register.wj x.Register.Deputies.length r.Register.wi::.slice r.Register.uf x.Register.Interests.length r.Register.ue::.slice r.Register.zp x.Register.Budgets.length r.Register.zo::.slice r.Register.lV x.Register.Versions.length r.Register.lU::.slice r.Register.Dl x.Register.Docs.length r.Register.Dk::.slice r.Register.uh x.Register.Approvals.length r.Register.ug::.int .i64 x.doc.No::.int .i64 x.doc.At::.int .i64 x.doc.Kind::.int .i64 x.doc.Value::.int .i64 x.doc.From::.int .i64 x.doc.Until::.slice r.doc.zm x.doc.Parties.length r.doc.zk::.slice r.doc.so x.doc.Revokes.length r.doc.sn::.slice r.doc.EF x.doc.Needs.length r.doc.EE::.int .u8 (x.doc.Text 0)::.int .u8 (x.doc.Text 1)::.int .u8 (x.doc.Text 2)::.int .u8 (x.doc.Text 3)::.int .u8 (x.doc.Text 4)::.int .u8 (x.doc.Text 5)::.int .u8 (x.doc.Text 6)::.int .u8 (x.doc.Text 7)::.int .u8 (x.doc.Text 8)::.int .u8 (x.doc.Text 9)::.int .u8 (x.doc.Text 10)::.int .u8 (x.doc.Text 11)::.int .u8 (x.doc.Text 12)::.int .u8 (x.doc.Text 13)::.int .u8 (x.doc.Text 14)::.int .u8 (x.doc.Text 15)::.int .u8 (x.doc.Text 16)::.int .u8 (x.doc.Text 17)::.int .u8 (x.doc.Text 18)::.int .u8 (x.doc.Text 19)::.int .u8 (x.doc.Text 20)::.int .u8 (x.doc.Text 21)::.int .u8 (x.doc.Text 22)::.int .u8 (x.doc.Text 23)::.int .u8 (x.doc.Text 24)::.int .u8 (x.doc.Text 25)::.int .u8 (x.doc.Text 26)::.int .u8 (x.doc.Text 27)::.int .u8 (x.doc.Text 28)::.int .u8 (x.doc.Text 29)::.int .u8 (x.doc.Text 30)::.int .u8 (x.doc.Text 31)::.int .i64 x.at_::.int .i64 x.known::[]
structure bU.ok(h:HF)(x:bU)(r:kn):Prop where
 Register:Register.ok h x.Register r.Register
 doc:Document.ok h x.doc r.doc
theorem bU.ok.mono{h h':HF}{x:bU}{r:kn}(a:bU.ok h x r)(hl:h.le h'):bU.ok h' x r:=⟨a.Register.mono hl,a.doc.mono hl⟩
def bU.rp:Rp bU:=⟨50,λh cs x=>∃r,cs=bU.cells x r/\bU.ok h x r⟩
theorem bU.ai:bU.rp.Mono:=λ_ _ _ _ hl⟨r,e,o⟩=>⟨r,e,o.mono hl⟩
theorem bU.em:bU.rp.Good:=⟨bU.ai,λ_ _ _⟨_,e,_⟩=>by cases e;rfl,by decide⟩
end Go.Sg

namespace Go.Sg
section
variable {P:Program} {b:Frame} {n:Nat} {k:List Item} {F:List Frame->(Machine->Prop)->Prop} {e:Env} {ds:List Deferred} {X:Cx} {h:HF} {L:LH}
theorem P9{c:Code}(L':LH)(sl:List (Nat×Value))(hk:∀e',TT P b n k F (upds e' sl) ds X h L')(t':(∀e',jz e' sl->TT P b n k F e' ds X h L')->TT P b n (.code c::k) F e ds X h L):TT P b n (.code c::k) F e ds X h L:=
 t' λe' hr=>by have:=hk e';rw[hr.upds]at this;exact this
theorem yR{ops:Array Oper}{l:List Oper}{L':LH}(hs:L.Perm L')(t:TO P b n ops l k F e ds X h L'):TO P b n ops l k F e ds X h L:=λw hw=>t w (hw.perm hs)
theorem gJ{ops:Array Oper}{l:List Oper}{L':LH}(hs:L=L')(t:TO P b n ops l k F e ds X h L'):TO P b n ops l k F e ds X h L:=hs▸t
theorem sj(A G M:LH):(A++(M++G)).Perm (A++(G++M)):=List.Perm.append_left A vJ
theorem sE{id:Nat}{c:Code}{ι : Type}(sl:ι->List (Nat×Value))(dd:ι->List Deferred)(hh:ι->HF)(LL:ι->LH)(I:ι->Prop)(hk:∀i,I i->∀e',TT P b n k F (upds e' (sl i)) (dd i) X (hh i) (LL i))(hb:(∀i e',I i->jz e' (sl i)->TT P b n k F e' (dd i) X (hh i) (LL i))->TT P b n (.code c::.inBlock id::k) F e ds X h L):TT P b n (.code (.block id c)::k) F e ds X h L:=
 mA (hb λi e' hI hr=>JD (sl i) hr (hk i hI e'))
end
section runs
variable {P:Program} {e:Env} {X:Cx} {h:HF} {L:LH} {d:Option Nat} {ty:TypeId} {pos:String} {af:Array Edge} {g:Option (Nat×Bool)}
theorem O8{t E:TypeId}{x ix:Operand}{len sz:Nat}{a:Bool}{p:Addr}{i:Int}(hT:P.underlying t=some (.array len E))(hS:tySz P E=some (sz,a))(hx:e.ev x=.pointer (some p))(hix:e.ev ix=.int .i64 i)(hi:0<=i/\i<(len:Int)):
  ∀w,St X h L w->(execOp e.ev ⟨d,.indexAddr t x ix,ty,pos,af,g⟩).run P w=.ok (.value (.pointer (some (p.add (i.toNat*sz))))) w:=
 λw _=>by simp[execOp,Instr.indexAt,Instr.sureAddr,hix,hx,asIntOf,run_underlying hT,gP hS,hi.1,hi.2]
theorem nX{c x y:Operand}{s:Bool}{v:Value}(hc:e.ev c=.bool s)(hv:(bif s then e.ev x else e.ev y)=v):∀w,St X h L w->(execOp e.ev ⟨d,.pick c x y,ty,pos,af,g⟩).run P w=.ok (.value v) w:=
 hv▸LE hc
end runs
section stepsM
variable {P:Program} {b:Frame} {n:Nat} {ops:Array Oper} {F:List Frame->(Machine->Prop)->Prop} {e:Env} {ds:List Deferred} {X:Cx} {h:HF} {L:LH} {K:Env->HF->LH->Prop}
variable {ty:TypeId} {pos:String} {af:Array Edge} {g:Option (Nat×Bool)} {κ α : Type} {enc:κ->Value} {V:HF->Value->α->Prop} [DecidableEq κ]
theorem xq(i:Nat){t T E:TypeId}{mo ko xo:Operand}{bk:Nat}{o:Obj}{m:List (κ×α)}{k:κ}{x:α}(hT:P.underlying t=some (.map T E))(hK:xa P T enc)(hL:nth L i=some (bk,o))(hm:j8 enc V h o m)(hmo:e.ev mo=.map (some bk))(hko:e.ev ko=enc k)(hx:V h (e.ev xo) x)(t':∀o',j8 enc V h o' (mput m k x)->K e h (setNth L i (bk,o')))(hg:guardB ops e ⟨none,.insert t mo ko xo,ty,pos,af,g⟩=true:=by rfl):Stp P b n ops F ds X ⟨none,.insert t mo ko xo,ty,pos,af,g⟩ e h L K:=by
 unfold Stp
 rw[if_pos hg]
 intro w hw
 have hb:w.heap[bk]? = some o:=by
  have h2:=hL
  rw[iM]at h2
  exact hw.own _ (vE h2)
 obtain⟨o',hr,hm'⟩:=Ad (k:=k) hT hK hb hm hx
 have:(execOp e.ev ⟨none,.insert t mo ko xo,ty,pos,af,g⟩).run P w=.ok .skip { w with heap:=w.heap.setIfInBounds bk o' }:=by
  simp[execOp,hmo,hko,hr]
 rw[this]
 exact⟨h,_,hw.write hL _,t' o' hm'⟩
end stepsM
section stepsA
variable {P:Program} {b:Frame} {n:Nat} {ops:Array Oper} {F:List Frame->(Machine->Prop)->Prop} {e:Env} {ds:List Deferred} {X:Cx} {h:HF} {L:LH} {K:Env->HF->LH->Prop}
variable {d:Option Nat} {ty:TypeId} {pos:String} {af:Array Edge} {g:Option (Nat×Bool)}
theorem sI(i:Nat){t:TypeId}{x y:Operand}{m bk T:Nat}{a:Bool}{cl vs:List Value}(hT:tySz P t=some (m,a))(hx:e.ev x=.pointer (some ⟨bk,0,none⟩))(hL:nth L i=some (bk,.cells cl.toArray T (0,0)))(hv:e.ev y=.agg vs.toArray)(hm:vs.length=m)(hc:cl.length=m)(h1:vs.all one=true)(t':K e h (setNth L i (bk,.cells vs.toArray T (0,0))))(hg:guardB ops e ⟨none,.store t x y,ty,pos,af,g⟩=true:=by rfl):Stp P b n ops F ds X ⟨none,.store t x y,ty,pos,af,g⟩ e h L K:=by
 refine lm i hT hx hL (vs:=vs) (by rw[hv];simp[vcells]) hm (by rw[Nat.zero_add,hm,hc];simp) h1 ?_ hg
 rw[EY vs cl (by rw[hm,hc])]
 exact t'
theorem O5{t E:TypeId}{len sz:Nat}{a:Bool}{parts:Array (Nat×Operand)}{zs cells:List Value}(hT:P.underlying t=some (.array len E))(hS:tySz P E=some (sz,a))(hz:zeroC P t=some zs)(hc:Instr.fill (λi=>some (i*sz,sz)) zs.toArray (parts.toList.map λp=>(p.1,e.ev p.2))=some cells.toArray)(t':K (pute e d (.agg cells.toArray)) h L)(hg:guardB ops e ⟨d,.build t parts,ty,pos,af,g⟩=true:=by rfl):Stp P b n ops F ds X ⟨d,.build t parts,ty,pos,af,g⟩ e h L K:=
 iY hg λw hw=>by
  obtain⟨z,h1,h2⟩:=se hz w
  have hparts:(parts.map λx=>(x.1,e.ev x.2)).toList=parts.toList.map λp=>(p.1,e.ev p.2):=by simp
  refine⟨_,_,h,_,?_,hw,t'⟩
  simp only[execOp,Instr.build,zQ,h1,h2,qN,run_underlying hT,gP hS,aBm,hparts]
  rw[hc]
  simp
theorem Ds{α : Type}:∀(l:List α)(i:Nat)(x y:α),nth l i=some x->(setNth l i y).Perm (y::dropNth l i)
 |[],_,_,_,h=>by simp[nth]at h
 |z::l,0,x,y,h=>List.Perm.refl _
 |z::l,i+1,x,y,h=>(List.Perm.cons z (Ds l i x y h)).trans (List.Perm.swap y z _)
theorem O4(i:Nat){t:Nat}{as:Array Operand}{ats:Array TypeId}{fv:Value}{vs:List Value}{bk:Nat}{o o':Obj}(hL:nth L i=some (bk,o))(hs:mM P fv vs.toArray h [(bk,o)] (λx h' B=>x=.returned (.tuple #[])/\h'=h/\B=[(bk,o')]))(hf:e t=fv)(hvs:as.toList.map e.ev=vs)(t':K (pute e d (.tuple #[])) h (setNth L i (bk,o')))(hg:guardB ops e ⟨d,.call ⟨.value (.tmp t),as,ats⟩,ty,pos,af,g⟩=true:=by rfl):Stp P b n ops F ds X ⟨d,.call ⟨.value (.tmp t),as,ats⟩,ty,pos,af,g⟩ e h L K:=by
 unfold Stp
 rw[if_pos hg]
 intro w hw
 have hw':=hw.perm (pF L i _ hL)
 have harr:as.map e.ev=vs.toArray:=Array.ext' (by simp[←hvs])
 obtain⟨nx,hrun,hcall⟩:=hs w (Pre.left (A:=[(bk,o)]) hw'.pre)
 have hr:(execOp e.ev ⟨d,.call ⟨.value (.tmp t),as,ats⟩,ty,pos,af,g⟩).run P w=.ok nx w:=by
  rw[←hrun]
  simp[execOp,resolve,Env.ev,harr,hf]
 rw[hr]
 refine mm (nm hcall) (hcall.mono ?_)
 rintro x w' ⟨h',B,hst,rfl,rfl,rfl⟩
 exact⟨h',_,(aBr (A:=[(bk,o)]) (F:=dropNth L i) hw' hst).perm (Ds L i _ _ hL).symm,t'⟩
theorem O3{t:Nat}{ass:Array Operand}{ats:Array TypeId}{fv:Value}{vs:List Value}{φ : Value->HF->Prop}(hs:Q7 P fv vs h φ)(hf:e t=fv)(hvs:ass.toList.map e.ev=vs)(t':∀v h',h.le h'->φ v h'->K (pute e d v) h' L)(hg:guardB ops e ⟨d,.call ⟨.value (.tmp t),ass,ats⟩,ty,pos,af,g⟩=true:=by rfl):
  Stp P b n ops F ds X ⟨d,.call ⟨.value (.tmp t),ass,ats⟩,ty,pos,af,g⟩ e h L K:=by
 refine BG L [] (List.append_nil L).symm hs hf hvs ?_ ?_ hg
 .rintro v h' B hle ⟨rfl,v',hv,hφ⟩
  cases hv
  rw[List.append_nil]
  exact t' _ h' hle hφ
 .rintro ch h' B hle ⟨_,v',hv,_⟩
  cases hv
end stepsA
theorem RI{h:HF}{q:Addr}{cs:List Value}(ha:At h q cs){i:Int}(hi:0<=i/\i<(cs.length:Int)):At h (q.add (i.toNat*1)) [cs.getD i.toNat .nilFunc]:=by
 obtain⟨cl,T,fz,hb,hs,hc⟩:=ha
 have hlt:i.toNat<cs.length:=by omega
 have h1:i.toNat*1=i.toNat:=Nat.mul_one _
 obtain⟨g,off,sp⟩:=q
 simp only at hs
 subst hs
 have hq:(⟨g,off,none⟩:Addr).add (i.toNat*1)=⟨g,off+i.toNat,none⟩:=by
  rw[h1]
  by_cases e0:i.toNat=0
  .simp[qV,e0]
  .simp[qV,e0]
 rw[hq]
 refine⟨cl,T,fz,hb,rfl,λj v hj=>?_⟩
 have hj0:j=0:=by
  cases j with
  |zero=>rfl
  |succ j=>simp at hj
 subst hj0
 simp at hj
 subst hj
 have:=hc i.toNat (cs.getD i.toNat .nilFunc) (by simp[List.getD,vF hlt])
 simpa using this
theorem nu{P:Program}{f:FuncId}{args cap:List Value}{h:HF}{A:LH}{R:Ending->HF->LH->Prop}(hc:∀args w,(callFunc f args).run P w=.ok (.enter f args) w)(hs:oA P f (args++cap).toArray h A R):
  mM P (.func (.func f) #[] cap.toArray) args.toArray h A R:=by
 intro w hp
 refine⟨.enter f (args++cap).toArray,?_,kw (hs w hp)⟩
 simp[zK,invoke,hc]
def exW{ρ : Type}(pe:Int->Value)(f:ρ->Value):Except Int ρ->Except Value Value
 |.ok r=>.ok (f r)
 |.error e=>.error (pe e)
theorem oM{ρ : Type}{pe:Int->Value}{f:ρ->Value}{x:Except Int ρ}{u:Value}(h:exW pe f x=.ok u):∃r,x=.ok r/\f r=u:=by
 cases x with
 |ok r=>exact⟨r,rfl,by simpa[exW]using h⟩
 |error p=>simp[exW]at h
theorem m5{ρ : Type}{pe:Int->Value}{f:ρ->Value}{x:Except Int ρ}{p:Value}(h:exW pe f x=.error p):∃e,x=.error e/\pe e=p:=by
 cases x with
 |ok r=>simp[exW]at h
 |error q=>exact⟨q,rfl,by simpa[exW]using h⟩
def exi{ρ σ : Type}:Except Int ρ->(ρ->Except Int σ)->Except Int σ
 |.ok r,k=>k r
 |.error p,_=>.error p
theorem pE{ρ σ : Type}{x:Except Int ρ}{k:ρ->Except Int σ}{r:ρ}(h:x=.ok r):exi x k=k r:=by subst h;rfl
theorem nr{ρ σ : Type}{x:Except Int ρ}{k:ρ->Except Int σ}{p:Int}(h:x=.error p):exi x k=.error p:=by subst h;rfl
theorem lj{P:Program}{f:FuncId}{args:Array Value}{w:World}{R:Ending->World->Prop}(h:Calls P f args w R)(hno:∀w',¬R .outgrown w'):rL P f args w R:=by
 intro c cs Φ h1 h2
 obtain⟨e,w',fr,hR,hc,hfn,hl⟩:=h (c::cs)
 cases e with
 |returned v=>
  obtain⟨m',s',p'⟩:=h1 v w' hR
  exact⟨m',(show Steps P _ _ from hc).trans (.head (step_leave_returned hl) s'),p'⟩
 |panicked ch=>
  obtain⟨m',s',p'⟩:=h2 ch w' hR
  exact⟨m',(show Steps P _ _ from hc).trans (.head (step_leave_panicked hl) s'),p'⟩
 |outgrown=>exact(hno _ hR).elim
end Go.Sg

namespace Go.Sg
def smP(p:Policy):Prop:=p.Rules.length<=2000000/\(∀r∈p.Rules,r.Expr.dep<=1500000)/\p.Change.dep<=1500000/\p.Offices.length<=2000000/\p.Kinds.length<=2000000
def smV(l:List Version):Prop:=l.length<=2000000/\∀v∈l,smP v.Policy
def smR(r:Register):Prop:=smV r.Versions/\r.Appoints.length<=2000000/\r.Deputies.length<=2000000/\r.Interests.length<=2000000/\r.Budgets.length<=2000000/\r.Docs.length<=2000000/\r.Approvals.length<=2000000
theorem smP.rules{p:Policy}(h:smP p):p.Rules.length<=2000000:=h.1
theorem smP.change{p:Policy}(h:smP p):p.Change.dep<=1500000:=h.2.2.1
theorem smV.len{l:List Version}(h:smV l):l.length<=2000000:=h.1
theorem smR.vers{r:Register}(h:smR r):smV r.Versions:=h.1
inductive OkX(n:Int):Expr->Prop
 |mk (x:Expr) (hk:1<=x.Kind/\x.Kind<=4) (hn:x.Kind<=2->0<=x.No/\x.No<n) (hl:x.Kind=4->x.L.length=2) (hs:∀y∈x.L,OkX n y):OkX n x
theorem OkX.kind{n:Int}{x:Expr}(h:OkX n x):1<=x.Kind/\x.Kind<=4:=by cases h with|mk _ a=>exact a
theorem OkX.no{n:Int}{x:Expr}(h:OkX n x):x.Kind<=2->0<=x.No/\x.No<n:=by cases h with|mk _ _ a=>exact a
theorem OkX.two{n:Int}{x:Expr}(h:OkX n x):x.Kind=4->x.L.length=2:=by cases h with|mk _ _ _ a=>exact a
theorem OkX.sub{n:Int}{x:Expr}(h:OkX n x):∀y∈x.L,OkX n y:=by cases h with|mk _ _ _ _ a=>exact a
def stopV(e:Int):Value:=.iface 358 (.agg (tq.cells ⟨e⟩).toArray)
def errV(e:Int):Value:=.iface 37 (.int .i64 e)
def kindsC:List Value:=[.func (.func 405) #[] #[],.func (.func 406) #[] #[],.func (.func 407) #[] #[],.func (.func 408) #[] #[],.func (.func 409) #[] #[]]
def kfun(i:Int):Value:=kindsC.getD i.toNat .nilFunc
def Kinds(h:HF):Prop:=∃T fz,h 0=some (.cells kindsC.toArray T fz)
theorem Kinds.mono{h h':HF}(k:Kinds h)(hl:h.le h'):Kinds h':=let ⟨T,fz,e⟩:=k;⟨T,fz,hl _ _ e⟩
theorem Kinds.at{h:HF}(k:Kinds h){i:Int}(hi:0<=i/\i<5):At h ((⟨0,0,none⟩:Addr).add (i.toNat*1)) [kfun i]:=by
 obtain⟨T,fz,e⟩:=k
 rw[rB]
 refine At.FA e (λj v hj=>?_)
 have hj0:j=0:=by
  cases j with
  |zero=>rfl
  |succ j=>simp at hj
 subst hj0
 simp at hj
 subst hj
 have:i=0\/i=1\/i=2\/i=3\/i=4:=by omega
 rcases this with rfl|rfl|rfl|rfl|rfl<;>rfl
def VFn(_:HF)(v:Value)(x:Value):Prop:=v=x
theorem VFn.mono:Ay VFn:=λ_ _ _ _ _ e=>e
theorem m9{κ α : Type}[DecidableEq κ]:∀(m:List (κ×α))(k:κ)(v:α),(mput m k v).length<=m.length+1
 |[],_,_=>by simp[mput]
 |(k',v')::r,k,v=>by
  have:=m9 r k v
  simp only[mput]
  split<;>simp<;>omega
theorem Qf{s:ByteArray}(h:(s.toList==(⟨#[]⟩:ByteArray).toList)=false):0<s.size:=by
 rcases Nat.eq_zero_or_pos s.size with h0|h0
 .exfalso
  have:s=⟨#[]⟩:=by
   cases s with
   |mk d=>
    have:d=#[]:=Array.eq_empty_of_size_eq_zero h0
    rw[this]
  rw[this]at h;simp at h
 .exact h0
abbrev pN:=eS
abbrev Nn:=tr
abbrev pN.cells(x:eS)(r:tr):List Go.Value:=eS.cells x r
structure pN.ok(h:HF)(x:eS)(r:tr):Prop where
 signed:SlC kB h r.ck r.cj x.signed
theorem pN.ok.mono{h h':HF}{x:eS}{r:tr}(a:pN.ok h x r)(hl:h.le h'):pN.ok h' x r:=⟨a.signed.mono jH hl⟩
end Go.Sg

namespace Go.Sg
def deferFrame(f:FuncId):Frame:={ fn:=f,tmps:=#[],todo:=[],defers:=[],mode:=.run,kind:=.deferred,roundOf:=none }
section
variable {P:Program} {f:FuncId} {n:Nat} {k:List Item} {e:Env} {X:Cx} {h:HF} {L:LH} {ops:Array Oper} {l:List Oper} {d:Nat} {ty:TypeId} {pos:String} {af:Array Edge} {g:Option (Nat×Bool)} {ats:Array TypeId}
theorem EQ{F F':List Frame->(Machine->Prop)->Prop}{ds:List Deferred}(v:Value)(hF:∀cs Φ,F cs Φ->∃cs',recoverD cs=some (v,cs')/\F' cs' Φ)(t:TO P (deferFrame f) n ops l k F' (upd e d v) ds X h L)(hd:Nat.blt d n=true:=by rfl)(hg:guardB ops e ⟨some d,.call ⟨.builtin .recover,#[],ats⟩,ty,pos,af,g⟩=true:=by rfl):
  TO P (deferFrame f) n ops (⟨some d,.call ⟨.builtin .recover,#[],ats⟩,ty,pos,af,g⟩::l) k F e ds X h L:=by
 intro w hw is hi a cs Φ hn he hds hF0
 obtain⟨i,js,rfl,ho,hj⟩:=px hi
 obtain⟨cs',hrec,hF1⟩:=hF cs Φ hF0
 have hwt:=(fT (ops:=ops) he).trans hg
 have hst:=stepGR_op (P:=P) (b:=deferFrame f) (k:=k) (cs:=cs) (w:=w) (rest:=js) ho hwt
 have hr:(execOp a.eval ⟨some d,.call ⟨.builtin .recover,#[],ats⟩,ty,pos,af,g⟩).run P w=.ok .recover w:=by
  simp[execOp,resolve,invoke,builtin]
 have htr:tryRecover ((deferFrame f).atR a (.inRegion ops (i::js)::k)) cs=some (v,cs'):=by
  rw[tryRecover_deferred (by rfl) cs,hrec]
 have hput:envOf (a.put (some d) v)=upd e d v:=by rw[oY a d v (by rw[hn];exact oP hd),he]
 refine .step (m₁:=lone ((deferFrame f).atR (a.put (some d) v) (.inRegion ops js::k)) cs' w) ?_ (t w hw js hj (a.put (some d) v) cs' Φ (by rw[ot];exact hn) hput (by rw[mq];exact hds) hF1)
 refine step_lone_go ?_
 rw[hst,kd _ _ rfl,←ib a js k ho v]
 simp[stepG.apply,hr,htr]
 rfl
theorem Dp{F:List Frame->(Machine->Prop)->Prop}{ds:List Deferred}(hF:∀cs Φ,F cs Φ->recoverD cs=none)(t:TO P (deferFrame f) n ops l k F (upd e d .nilIface) ds X h L)(hd:Nat.blt d n=true:=by rfl)(hg:guardB ops e ⟨some d,.call ⟨.builtin .recover,#[],ats⟩,ty,pos,af,g⟩=true:=by rfl):
  TO P (deferFrame f) n ops (⟨some d,.call ⟨.builtin .recover,#[],ats⟩,ty,pos,af,g⟩::l) k F e ds X h L:=by
 intro w hw is hi a cs Φ hn he hds hF0
 obtain⟨i,js,rfl,ho,hj⟩:=px hi
 have hrec:=hF cs Φ hF0
 have hwt:=(fT (ops:=ops) he).trans hg
 have hst:=stepGR_op (P:=P) (b:=deferFrame f) (k:=k) (cs:=cs) (w:=w) (rest:=js) ho hwt
 have hr:(execOp a.eval ⟨some d,.call ⟨.builtin .recover,#[],ats⟩,ty,pos,af,g⟩).run P w=.ok .recover w:=by
  simp[execOp,resolve,invoke,builtin]
 have htr:tryRecover ((deferFrame f).atR a (.inRegion ops (i::js)::k)) cs=none:=by
  rw[tryRecover_deferred (by rfl) cs,hrec]
 have hput:envOf (a.put (some d) .nilIface)=upd e d .nilIface:=by rw[oY a d _ (by rw[hn];exact oP hd),he]
 refine .step (m₁:=lone ((deferFrame f).atR (a.put (some d) .nilIface) (.inRegion ops js::k)) cs w) ?_ (t w hw js hj (a.put (some d) .nilIface) cs Φ (by rw[ot];exact hn) hput (by rw[mq];exact hds) hF0)
 refine step_lone_go ?_
 rw[hst,kd _ _ rfl,←ib a js k ho .nilIface]
 simp[stepG.apply,hr,htr]
 rfl
def GL(P:Program)(X:Cx)(u':FrameMode)(R:HF->LH->Prop)(cs:List Frame)(Φ : Machine->Prop):Prop:=
 ∃c rest,cs=c::rest/\c.mode=u'/\∀w',(∃h' B,St X h' B w'/\R h' B)->To P Φ (lone { c with mode:=settle u' } rest w')
theorem Iw{fn:Func}{u':FrameMode}{R:HF->LH->Prop}(hf:P.funcs[f]? = some fn)(hr:fn.results=#[])(hR:R h L):TT P (deferFrame f) n [] (GL P X u' R) e [] X h L:=by
 intro w hw a cs Φ hn he hds hF
 obtain⟨c,rest,rfl,hm,h1⟩:=hF
 refine .step (stepR_end rfl) ?_
 have hgo:Frame.going P { (deferFrame f).atR a []with mode:=.returning } w (.returned (.tuple #[])):=⟨rfl,hds,fn,hf,mC hr a w⟩
 refine .step (step_going_returned (c:=c) (cs:=rest) rfl hgo) ?_
 rw[hm]
 exact h1 w ⟨h,L,hw,hR⟩
end
section
variable {P:Program} {b:Frame} {n:Nat} {k:List Item} {F:List Frame->(Machine->Prop)->Prop} {e:Env} {ds:List Deferred} {X:Cx} {h:HF} {L:LH} {ops:Array Oper} {l:List Oper} {ty:TypeId} {pos:String} {af:Array Edge} {g:Option (Nat×Bool)}
theorem ON{t:Nat}{fv:Fn}{cap:Array Value}{ats:Array TypeId}(hro:b.roundOf=none)(hf:e t=.func fv #[] cap)(t':TO P b n ops l k F e ({ target:=.fn fv cap,args:=#[] }::ds) X h L)(hg:guardB ops e ⟨none,.defer ⟨.value (.tmp t),#[],ats⟩,ty,pos,af,g⟩=true:=by rfl):TO P b n ops (⟨none,.defer ⟨.value (.tmp t),#[],ats⟩,ty,pos,af,g⟩::l) k F e ds X h L:=by
 intro w hw is hi a cs Φ hn he hds hF
 obtain⟨i,js,rfl,ho,hj⟩:=px hi
 have hwt:=(fT (ops:=ops) he).trans hg
 have hst:=stepGR_op (P:=P) (b:=b) (k:=k) (cs:=cs) (w:=w) (rest:=js) ho hwt
 have hr:(execOp a.eval ⟨none,.defer ⟨.value (.tmp t),#[],ats⟩,ty,pos,af,g⟩).run P w=.ok (.defer { target:=.fn fv cap,args:=#[] }) w:=by
  have hev:a.eval (.tmp t)=.func fv #[] cap:=by rw[km,he];exact hf
  simp[execOp,resolve,hev,zK]
 have hs:Oper.semAt b.roundOf a.eval ⟨none,.defer ⟨.value (.tmp t),#[],ats⟩,ty,pos,af,g⟩=execOp a.eval ⟨none,.defer ⟨.value (.tmp t),#[],ats⟩,ty,pos,af,g⟩:=by rw[hro];rfl
 refine .step (m₁:=lone (b.atR { a with defers:={ target:=.fn fv cap,args:=#[] }::a.defers } (.inRegion ops js::k)) cs w) ?_ (t' w hw js hj { a with defers:={ target:=.fn fv cap,args:=#[] }::a.defers } cs Φ hn he (by rw[hds]) hF)
 refine step_lone_go ?_
 have hfin:=ib (b:=b) { a with defers:={ target:=.fn fv cap,args:=#[] }::a.defers } js k ho undef
 rw[hst,hs]
 simp only[stepG.apply,Sem.runT_eq,hr,GStep.bare_after]
 exact congrArg (λfr=>GStep.go { frame:=fr,callers:=cs,status:=.running,dying:=none } w) hfin
end
theorem P8{P:Program}{f g:FuncId}{n m:Nat}{k:List Item}{e:Env}{X:Cx}{h:HF}{L A Fr:LH}{cap:List Value}{c:Code}{fn gn:Func}{R:Ending->HF->LH->Prop}{R':HF->LH->Prop}(hf:P.funcs[f]? = some fn)(hg:P.funcs[g]? = some gn)(hb:gn.body=some c)(hm:gn.ntmps=m)(hle:Nat.ble cap.length m=true)(hc:∀args w,(callFunc g args).run P w=.ok (.enter g args) w)(t:∀X':Cx,X'.h0=h->TT P (deferFrame g) m [.code c] (GL P X' .returning R') (envArgs cap) [] X' h A)(hL:L=A++Fr)(fin:∀h' B,h.le h'->R' h' B->∀a:Act,envOf a=e->∀w,St X h' (B++Fr) w->∃v h2 B2,(results fn a.tmps).run P w=.ok v w/\St X h2 B2 w/\R (.returned v) h2 B2):
  TT P (bodyFrame f) n (.code .ret::k) (mr P X R) e [{ target:=.fn (.func g) cap.toArray,args:=#[] }] X h L:=by
 intro w hw a cs Φ hn he hds hF
 obtain⟨cc,cs',rfl,h1,_⟩:=hF
 subst hL
 refine .step (stepR_ret rfl) ?_
 have hinv:(invoke (.fn (.func g) cap.toArray) #[]).run P w=.ok (.enter g cap.toArray) w:=by simp[invoke,hc]
 refine .step (step_defer (fr:={ (bodyFrame f).atR a (.code .ret::k)with mode:=.returning }) (by simp) hds rfl hinv) ?_
 have hle':=xR hle
 have henter:aAk P g cap.toArray .deferred=(deferFrame g).atR { tmps:=cap.toArray++aAP (m-cap.length) undef,defers:=[] } [.code c]:=by
  simp[aAk,aA8,hg,hb,hm,deferFrame]
 rw[henter]
 refine t ⟨w,h,A.map (·.1)⟩ rfl w (aBg hw.pre.left) _ _ Φ (by simp;omega) (oN _ _) rfl ⟨_,cc::cs',rfl,rfl,?_⟩
 rintro w' ⟨h',B,hst,hR'⟩
 obtain⟨v,h2,B2,hv,hs2,hR⟩:=fin h' B hst.le hR' a he w' (hw.after hst)
 refine .step (iD (fn:=fn) (v:=v) rfl rfl rfl hf hv) ?_
 exact h1 v w' ⟨h2,B2,hs2,hR⟩
theorem Qb{P:Program}{f g:FuncId}{n m:Nat}{e:Env}{X:Cx}{h:HF}{L A Fr:LH}{cap:List Value}{c:Code}{fn gn:Func}{R:Ending->HF->LH->Prop}{R':HF->LH->Prop}{pv:Value}(hf:P.funcs[f]? = some fn)(hg:P.funcs[g]? = some gn)(hb:gn.body=some c)(hm:gn.ntmps=m)(hle:Nat.ble cap.length m=true)(hc:∀args w,(callFunc g args).run P w=.ok (.enter g args) w)(t:∀X':Cx,X'.h0=h->TT P (deferFrame g) m [.code c] (λcs Φ=>∃c rest,cs=c::rest/\c.mode=.panicking [{ v:=pv,recovered:=false }]/\GL P X' (.panicking [{ v:=pv,recovered:=true }]) R' ({ c with mode:=.panicking [{ v:=pv,recovered:=true }] }::rest) Φ) (envArgs cap) [] X' h A)(hL:L=A++Fr)(fin:∀h' B,h.le h'->R' h' B->∀a:Act,envOf a=e->∀w,St X h' (B++Fr) w->∃v h2 B2,(results fn a.tmps).run P w=.ok v w/\St X h2 B2 w/\R (.returned v) h2 B2):
  TP P (bodyFrame f) n [{ v:=pv,recovered:=false }] (mr P X R) e [{ target:=.fn (.func g) cap.toArray,args:=#[] }] X h L:=by
 intro w hw a cs Φ todo hn he hds hF
 obtain⟨cc,cs',rfl,h1,_⟩:=hF
 subst hL
 have hinv:(invoke (.fn (.func g) cap.toArray) #[]).run P w=.ok (.enter g cap.toArray) w:=by simp[invoke,hc]
 refine .step (step_defer (fr:={ (bodyFrame f).atR a todo with mode:=.panicking [{ v:=pv,recovered:=false }] }) (by simp) hds rfl hinv) ?_
 have hle':=xR hle
 have henter:aAk P g cap.toArray .deferred=(deferFrame g).atR { tmps:=cap.toArray++aAP (m-cap.length) undef,defers:=[] } [.code c]:=by
  simp[aAk,aA8,hg,hb,hm,deferFrame]
 rw[henter]
 refine t ⟨w,h,A.map (·.1)⟩ rfl w (aBg hw.pre.left) _ _ Φ (by simp;omega) (oN _ _) rfl ⟨_,cc::cs',rfl,rfl,_,cc::cs',rfl,rfl,?_⟩
 rintro w' ⟨h',B,hst,hR'⟩
 obtain⟨v,h2,B2,hv,hs2,hR⟩:=fin h' B hst.le hR' a he w' (hw.after hst)
 refine .step (iD (fn:=fn) (v:=v) rfl rfl rfl hf hv) ?_
 exact h1 v w' ⟨h2,B2,hs2,hR⟩
end Go.Sg

namespace Go.Sg
section steps
variable {P:Program} {b:Frame} {n:Nat} {ops:Array Oper} {F:List Frame->(Machine->Prop)->Prop} {e:Env} {ds:List Deferred} {X:Cx} {h:HF} {L:LH} {K:Env->HF->LH->Prop}
variable {d:Option Nat} {ty:TypeId} {pos:String} {af:Array Edge} {g:Option (Nat×Bool)}
theorem MF{t T E:TypeId}{x:Operand}{bk:Nat}{es:Array MapEntry}{clock:Nat}(hT:P.underlying t=some (.map T E))(hb:h bk=some (.map es clock))(hx:e.ev x=.map (some bk))(t':∀it,K (pute e d (.pointer (some ⟨it,0,none⟩))) h ((it,.mapIter (some bk) clock #[] clock)::L))(hg:guardB ops e ⟨d,.range t x,ty,pos,af,g⟩=true:=by rfl):Stp P b n ops F ds X ⟨d,.range t x,ty,pos,af,g⟩ e h L K:=
 iY hg λw hw=>⟨_,_,h,_,by simp[execOp,Instr.range,hx,run_underlying hT,qI (hw.imm _ _ hb)],hw.alloc _,t' _⟩
theorem OX(i:Nat){x:Operand}{it bk since c0:Nat}{seen:Array Nat}{es:Array MapEntry}{clock:Nat}(hL:nth L i=some (it,.mapIter (some bk) since seen c0))(hb:h bk=some (.map es clock))(hold:∀x∈es.toList,x.born<since)(hsc:since<=c0)(hx:e.ev x=.pointer (some ⟨it,0,none⟩))(no:(leftOf es seen).size=0->K (pute e d (.tuple #[.bool false])) h L)(yes:∀en∈(leftOf es seen).toList,K (pute e d (.tuple #[.bool true,en.key,en.val])) h (setNth L i (it,.mapIter (some bk) since (seen.push en.born) clock)))(hg:guardB ops e ⟨d,.next x false,ty,pos,af,g⟩=true:=by rfl):Stp P b n ops F ds X ⟨d,.next x false,ty,pos,af,g⟩ e h L K:=by
 refine iY hg λw hw=>?_
 have hit:w.heap[it]? = some (.mapIter (some bk) since seen c0):=by
  have h2:=hL
  rw[iM]at h2
  exact hw.own _ (vE h2)
 rcases run_next_at (P:=P) w ty it bk since c0 seen es clock hit (hw.imm _ _ hb) hold hsc with⟨h0,hr⟩|⟨en,hen,w1,hw1,hr⟩
 .exact⟨_,w,h,L,by simp[execOp,hx,hr],hw,no h0⟩
 .have hw1':St X h L w1:=by
   rcases hw1 with rfl|rfl
   .exact hw
   .exact hw.drew _
  exact⟨.tuple #[.bool true,en.key,en.val],{ w1 with heap:=w1.heap.setIfInBounds it (.mapIter (some bk) since (seen.push en.born) clock) },h,_,by simp[execOp,hx,hr];rfl,hw1'.write hL _,yes en hen⟩
theorem MJ(i:Nat){x:Operand}{it bk since:Nat}{seen:Array Nat}{es:Array MapEntry}{clock:Nat}{en:MapEntry}(hL:nth L i=some (it,.mapIter (some bk) since (seen.push en.born) clock))(hb:h bk=some (.map es clock))(he:en∈es.toList)(hn:(es.toList.map (·.born)).Nodup)(hx:e.ev x=.pointer (some ⟨it,0,none⟩)):
  ∀w,St X h L w->(execOp e.ev ⟨d,.entry x,ty,pos,af,g⟩).run P w=.ok (.value (.tuple #[en.key,en.val])) w:=λw hw=>by
 have hit:w.heap[it]? = some (.mapIter (some bk) since (seen.push en.born) clock):=by
  have h2:=hL
  rw[iM]at h2
  exact hw.own _ (vE h2)
 have:=run_entry_at (P:=P) w it bk since seen es clock en hit (hw.imm _ _ hb) he hn
 simp[execOp,hx,this]
end steps
def GJ{α : Type}(P:Program)(it:Value)(val:α->HF->List Value->Prop)(S:List α->Prop)(h:HF):Prop:=
 ∃(f0:FuncId)(cap:List Value),it=.func (.func f0) #[] cap.toArray/\(∀args w,(callFunc f0 args).run P w=.ok (.enter f0 args) w) /\
  ∀(yf:Fn)(ya yb:Array Value)(C:List α->HF->LH->Prop)(Sp:HF->LH->Prop)(Pn:List PanicEntry->HF->LH->Prop)(h':HF)(A:LH),h.le h' ->
   (∀done h1 h2 B,vM h1 h2->C done h1 B->C done h2 B)->(∀h1 h2 B,vM h1 h2->Sp h1 B->Sp h2 B)->(∀ch h1 h2 B,vM h1 h2->Pn ch h1 B->Pn ch h2 B)->C [] h' A ->
   (∀done x vs h'' B,(∃rest,S (done++x::rest))->h'.le h''->C done h'' B->val x h'' vs->mM P (.func yf ya yb) vs.toArray h'' B (YR C Sp Pn done x)) ->
   mM P it #[.func yf ya yb] h' A (λr h2 B=>(r=.returned (.tuple #[])/\((∃xs,S xs/\C xs h2 B)\/Sp h2 B))\/∃ch,r=.panicked ch/\Pn ch h2 B)
theorem HJ{α : Type}{P:Program}{f:FuncId}{n:Nat}{k:List Item}{F:List Frame->(Machine->Prop)->Prop}{e:Env}{ds:List Deferred}{X:Cx}{h:HF}{L:LH}{g:Operand}{ps:List Tmp}{assign body:Code}{val:α->HF->List Value->Prop}{S:List α->Prop}(I:List α->HF->LH->Prop)(J:Code->HF->LH->Prop)(Pn:List PanicEntry->HF->LH->Prop){it:Value}(hgv:e.ev g=it)(hit:GJ P it val S h)(hps:ps.all (λp=>jS p n)=true)(hval:∀x h vs,val x h vs->vs.length=ps.length)(hIm:∀done h1 h2 B,vM h1 h2->I done h1 B->I done h2 B)(hJm:∀c h1 h2 B,vM h1 h2->J c h1 B->J c h2 B)(hPm:∀ch h1 h2 B,vM h1 h2->Pn ch h1 B->Pn ch h2 B)(h0:I [] h L)(round:∀l r lp done x vs h' L' X',(∃rest,S (done++x::rest))->h.le h'->I done h' L'->val x h' vs->lp.state=.ready->X'.h0=h'->(∀b∈X'.M,b<X'.w0.heap.size) ->
   TT P (roundFrame l f) n [.code assign,.beginRound,.code body] (mr P X' (RdR l r lp I J Pn done x)) (setParams e ps vs) [] X' h' ((l,.loop lp)::(r,.deferred (some []))::L'))(next:∀r xs h' L',S xs->h.le h'->I xs h' L'->TT P (bodyFrame f) n k F e ({ target:=.collected r,args:=#[] }::ds) X h' ((r,.deferred (some []))::L'))(jump:∀r c h' L',h.le h'->J c h' L'->TT P (bodyFrame f) n (.code c::k) F e ({ target:=.collected r,args:=#[] }::ds) X h' ((r,.deferred (some []))::L'))(pan:∀r ch h' L',h.le h'->Pn ch h' L'->TP P (bodyFrame f) n ch F e ({ target:=.collected r,args:=#[] }::ds) X h' ((r,.deferred (some []))::L')):
  TT P (bodyFrame f) n (.code (.rangeFunc g ps.toArray assign body)::k) F e ds X h L:=by
 obtain⟨f0,cap,rfl,hc0,hit⟩:=hit
 intro w hw a cs Φ hn he hds hF
 let r:=w.heap.size
 let w1:World:={ w with heap:=w.heap.push (.deferred (some [])) }
 have hw1:St X h ((r,.deferred (some []))::L) w1:=hw.alloc _
 let l:=w1.heap.size
 let lp:Loop:={ state:=.ready,pending:=none,fn:=f,tmps:=a.tmps,params:=ps.toArray,assign,body,defers:=r }
 let w2:World:={ w1 with heap:=w1.heap.push (.loop lp) }
 have hw2:St X h ((l,.loop lp)::(r,.deferred (some []))::L) w2:=hw1.alloc _
 have henter:(Instr.enterLoop (bodyFrame f).fn a.tmps ps.toArray assign body (bodyFrame f).roundOf).run P w=.ok (l,[{ target:=.collected r,args:=#[] }]) w2:=by
  simp[Instr.enterLoop,bodyFrame,r,l,lp,w2,w1]
 let C:List α->HF->LH->Prop:=λdone h' B=>∃L',B=(l,.loop lp)::(r,.deferred (some []))::L'/\I done h' L'
 let Sp:HF->LH->Prop:=λh' B=>∃c L',B=(l,.loop { lp with state:=.done,pending:=some c })::(r,.deferred (some []))::L'/\J c h' L'
 let Pm:List PanicEntry->HF->LH->Prop:=λch h' B=>∃lp' L',B=(l,.loop lp')::(r,.deferred (some []))::L'/\Pn ch h' L'
 have hps':∀p∈ps,p<n:=λp hp=>oP (List.all_eq_true.1 hps p hp)
 have hy:∀done x vs h'' B,(∃rest,S (done++x::rest))->h.le h''->C done h'' B->val x h'' vs->mM P (.func (.yield l) #[] #[]) vs.toArray h'' B (YR C Sp Pm done x):=by
  rintro done x vs h'' B hxs hle ⟨L',rfl,hI⟩ hv
  refine mM.mono (R:=RdR l r lp I J Pn done x) (xm (i:=0) (lp:=lp) rfl (by simp[lp];exact hval x h'' vs hv) ?_) ?_
  .intro X' _ hX' hXM'
   have henv:envOf { tmps:=(ps.toArray.zip vs.toArray).foldl (λtmps p=>tmps.setIfInBounds p.1 p.2) a.tmps,defers:=[] }=setParams e ps vs:=by
    have:=rR ps vs a.tmps a.defers hn hps'
    rw[←he]
    rw[←Array.foldl_toList]
    simpa using this
   have:=round l r lp done x vs h'' L' X' hxs hle hI hv rfl hX' hXM'
   rw[←henv,←hn]at this
   exact this
  .rintro x' h3 B' _ (⟨e1,L2,e2,h2⟩|⟨e1,c,L2,e2,h2⟩|⟨ch,e1,lp',L2,e2,h2⟩)
   .exact .inl ⟨e1,L2,e2,h2⟩
   .exact .inr (.inl ⟨e1,c,L2,e2,h2⟩)
   .exact .inr (.inr ⟨ch,e1,lp',L2,e2,h2⟩)
 have hs:=hit (.yield l) #[] #[] C Sp Pm h ((l,.loop lp)::(r,.deferred (some []))::L) (vQ h) (λ_ _ _ _ hl⟨L',e1,hi⟩=>⟨L',e1,hIm _ _ _ _ hl hi⟩) (λ_ _ _ hl⟨c,L',e1,hi⟩=>⟨c,L',e1,hJm _ _ _ _ hl hi⟩) (λ_ _ _ _ hl⟨lp',L',e1,hi⟩=>⟨lp',L',e1,hPm _ _ _ _ hl hi⟩) ⟨L,rfl,h0⟩ hy
 obtain⟨nx,hrun,hcall⟩:=hs w2 hw2.pre
 have hev:a.eval g=e.ev g:=by rw[km,he]
 have hnx:nx=.enter f0 (Value.func (.yield l) #[] #[]::cap).toArray:=by
  simp[zK,invoke,hc0]at hrun
  simpa using hrun.symm
 subst hnx
 have hres:(resolve a.eval (rangeCall g l) 0).run P w2=.ok { target:=.fn (.func f0) cap.toArray,args:=#[.func (.yield l) #[] #[]] } w2:=by
  have hcst:∀v,a.eval (.const v)=v:=λ_=>rfl
  simp[resolve,rangeCall,hev,hgv,hcst,zK]
 have hinv:(invoke (.fn (.func f0) cap.toArray) #[.func (.yield l) #[] #[]]).run P w2=.ok (.enter f0 (Value.func (.yield l) #[] #[]::cap).toArray) w2:=by
  simp[invoke,hc0]
 have hback:∀v w3,(∃h' B,St ⟨w2,h,((l,Obj.loop lp)::(r,.deferred (some []))::L).map (·.1)⟩ h' B w3/\(λ(r:Ending)(h2:HF)(B:LH)=>(r=.returned (.tuple #[])/\((∃xs,S xs/\C xs h2 B)\/Sp h2 B))\/∃ch,r=.panicked ch/\Pm ch h2 B) (.returned v) h' B) ->
   To P Φ (lone (((bodyFrame f).atR { a with defers:=[{ target:=.collected r,args:=#[] }]++a.defers } (.inRangeFunc l::k)).finish v) cs w3):=by
  rintro v w3 ⟨h',B,hst,hR⟩
  rw[finish_atR_inRangeFunc]
  have hS3:St X h' B w3:=by
   have:=aBr (A:=(l,.loop lp)::(r,.deferred (some []))::L) (F:=[]) (by simpa using hw2) hst
   simpa using this
  have hle:=hst.le
  rcases hR with⟨_,hCS⟩|⟨ch,hx,_⟩
  .rcases hCS with⟨xs,hxs,L',rfl,hI⟩|⟨c,L',rfl,hJ⟩
   .have hb:w3.heap[l]? = some (.loop lp):=hS3.own _ (zB ..)
    have hend:(Instr.endLoop l).run P w3=.ok none { w3 with heap:=w3.heap.setIfInBounds l (.loop { lp with state:=.exhausted }) }:=by
     simp[Instr.endLoop,aBq,getObj,setObj,aCh,hb,lp]
    refine .step (stepR_endRangeFunc hend) ?_
    have hS4:=hS3.write (i:=0) rfl (.loop { lp with state:=.exhausted })
    exact next r xs h' L' hxs hle hI _ (hS4.sub (List.sublist_cons_self ..)) { a with defers:={ target:=.collected r,args:=#[] }::a.defers } cs Φ hn he (by rw[hds]) hF
   .have hb:w3.heap[l]? = some (.loop { lp with state:=.done,pending:=some c }):=hS3.own _ (zB ..)
    have hend:(Instr.endLoop l).run P w3=.ok (some c) { w3 with heap:=w3.heap.setIfInBounds l (.loop { lp with state:=.exhausted,pending:=some c }) }:=by
     simp[Instr.endLoop,aBq,getObj,setObj,aCh,hb,lp]
    refine .step (stepR_endRangeFunc hend) ?_
    have hS4:=hS3.write (i:=0) rfl (.loop { lp with state:=.exhausted,pending:=some c })
    exact jump r c h' L' hle hJ _ (hS4.sub (List.sublist_cons_self ..)) { a with defers:={ target:=.collected r,args:=#[] }::a.defers } cs Φ hn he (by rw[hds]) hF
  .cases hx
 have hraise:∀ch w3,(∃h' B,St ⟨w2,h,((l,Obj.loop lp)::(r,.deferred (some []))::L).map (·.1)⟩ h' B w3/\(λ(r:Ending)(h2:HF)(B:LH)=>(r=.returned (.tuple #[])/\((∃xs,S xs/\C xs h2 B)\/Sp h2 B))\/∃ch,r=.panicked ch/\Pm ch h2 B) (.panicked ch) h' B) ->
   To P Φ (lone (((bodyFrame f).atR { a with defers:=[{ target:=.collected r,args:=#[] }]++a.defers } (.inRangeFunc l::k)).raise ch) cs w3):=by
  rintro ch w3 ⟨h',B,hst,hR⟩
  have hS3:St X h' B w3:=by
   have:=aBr (A:=(l,.loop lp)::(r,.deferred (some []))::L) (F:=[]) (by simpa using hw2) hst
   simpa using this
  rcases hR with⟨hx,_⟩|⟨ch',hx,lp',L',rfl,hP⟩
  .cases hx
  .cases hx
   exact pan r ch h' L' hst.le hP w3 (hS3.sub (List.sublist_cons_self ..)) { a with defers:={ target:=.collected r,args:=#[] }::a.defers } cs Φ _ hn he (by rw[hds]) hF
 refine .step (stepR_rangeFunc henter hres hinv) ?_
 exact hcall _ cs Φ hback hraise
theorem DG{es:List MapEntry}(hn:(es.map (·.born)).Nodup)(is:List Nat)(hlt:∀i∈is,i<es.length):
  ((leftOf es.toArray (is.map λi=>(es[i]?.map (·.born)).getD 0).toArray).size=0->∀i,i<es.length->i∈is) /\
  ∀en∈(leftOf es.toArray (is.map λi=>(es[i]?.map (·.born)).getD 0).toArray).toList,∃i,es[i]? = some en/\i∉is:=by
 have hmem:∀en,en∈(leftOf es.toArray (is.map λi=>(es[i]?.map (·.born)).getD 0).toArray).toList↔en∈es/\en.born∉is.map λi=>(es[i]?.map (·.born)).getD 0:=by
  intro en
  simp[leftOf]
 constructor
 .intro h0 i hi
  apply Classical.byContradiction
  intro hni
  have:es[i]∈(leftOf es.toArray (is.map λi=>(es[i]?.map (·.born)).getD 0).toArray).toList:=by
   rw[hmem]
   refine⟨List.getElem_mem hi,λhm=>?_⟩
   obtain⟨j,hj,hje⟩:=jQ.1 hm
   have hjl:=hlt j hj
   simp only[vF hjl,Option.map_some,Option.getD_some]at hje
   have:j=i:=by
    have h1:(es.map (·.born))[j]? = (es.map (·.born))[i]?:=by simp[vF hjl,vF hi,hje]
    exact(List.getElem?_inj (by simpa using hjl) hn).1 h1
   exact hni (this▸hj)
  have hl:(leftOf es.toArray (is.map λi=>(es[i]?.map (·.born)).getD 0).toArray).toList.length=0:=by simpa using h0
  rw[List.length_eq_zero_iff]at hl
  rw[hl]at this
  exact kA this
 .intro en hen
  rw[hmem]at hen
  obtain⟨i,hi,rfl⟩:=List.mem_iff_getElem.1 hen.1
  refine⟨i,vF hi,λhm=>hen.2 (jQ.2 ⟨i,hm,?_⟩)⟩
  simp[vF hi]
end Go.Sg

namespace Go.Sg
section
variable {P:Program} {b:Frame} {n:Nat} {k:List Item} {F:List Frame->(Machine->Prop)->Prop} {e:Env} {ds:List Deferred} {X:Cx} {h:HF} {L:LH}
end
theorem Nt{α ι : Type}{P:Program}{f:FuncId}{fn:Func}{n:Nat}{k:List Item}{F:List Frame->(Machine->Prop)->Prop}{e:Env}{X:Cx}{h:HF}{L:LH}{g:Operand}{ps:List Tmp}{assign body:Code}{val:α->HF->List Value->Prop}{xs:List α}{it:Value}(rs:List Nat)(hh:ι->HF)(LL:ι->LH)(I:List α->ι->Prop)(JR:ι->Prop)(xid:Nat)(Q:List PanicEntry->HF->LH->Prop)(i₀ : ι)(hf:P.funcs[f]? = some fn)(hgv:e.ev g=it)(hit:Itr P it val xs h)(hps:ps.all (λp=>jS p n)=true)(hval:∀x h vs,val x h vs->vs.length=ps.length)(hQm:∀ch h1 h2 B,vM h1 h2->Q ch h1 B->Q ch h2 B)(hh0:hh i₀=h)(hL0:L=LL i₀)(h0:I xs i₀)(round:∀(l r:Nat)(lp:Loop)(x:α)(rest:List α)(vs:List Value)(i:ι)(h':HF)(X':Cx)(FR:List Frame->(Machine->Prop)->Prop),I (x::rest) i->h.le h'->(hh i).le h'->val x h' vs->X'.h0=h'->(∀b∈X'.M,b<X'.w0.heap.size)->lp.state=.ready ->
   (∀i' e' h2,I rest i'->(hh i').le h2->TT P (roundFrame l f) n [] FR e' [] X' h2 (rdH l r lp (LL i'++markB rs))) ->
   (∀i' e' h2 k',JR i'->(hh i').le h2->TT P (roundFrame l f) n (.code .ret::k') FR e' [] X' h2 (rdH l r lp (LL i'++markB rs))) ->
   (∀i' e' h2 k',I [] i'->(hh i').le h2->exitTo xid k'=none->TT P (roundFrame l f) n (.code (.exit xid)::k') FR e' [] X' h2 (rdH l r lp (LL i'++markB rs))) ->
   (∀ch e' h' L',Q ch h' L'->TP P (roundFrame l f) n ch FR e' [] X' h' (rdH l r lp (L'++markB rs))) ->
   TT P (roundFrame l f) n [.code assign,.beginRound,.code body] FR (setParams e ps vs) [] X' h' ((l,.loop lp)::(r,.deferred (some []))::(LL i++markB rs)))(next:∀r i h',I [] i->(hh i).le h'->h.le h'->TT P (bodyFrame f) n k F e (marks (r::rs)) X h' (LL i++markB (r::rs)))(jret:∀r i h',JR i->(hh i).le h'->h.le h'->TT P (bodyFrame f) n (.code .ret::.inBlock xid::k) F e (marks (r::rs)) X h' (LL i++markB (r::rs)))(pan:∀r ch h' L',Q ch h' L'->h.le h'->TP P (bodyFrame f) n ch F e (marks (r::rs)) X h' (L'++markB (r::rs))):
  TT P (bodyFrame f) n (.code (.rangeFunc g ps.toArray assign body)::.inBlock xid::k) F e (marks rs) X h (L++markB rs):=
 kp rs hh LL I JR (λi=>I [] i) xid Q i₀ hf hgv hit hps hval hQm hh0 hL0 h0 round (λr i h' a b c=>fe (next r i h' a b c)) jret
  (λr i h' a b c=>md (by simp[exitTo]) (next r i h' a b c)) pan
section mputs
variable {κ α : Type} [DecidableEq κ]
end mputs
end Go.Sg
