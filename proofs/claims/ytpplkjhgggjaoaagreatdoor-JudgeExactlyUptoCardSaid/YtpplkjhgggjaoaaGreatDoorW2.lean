import Derived.Laws.StructEq
import Derived.Laws.Cover3
import Derived.Recover
import Derived.Maps.RangeRun
import Derived.Test.YtpplkjhgggjaoaaGreatDoorW1
/- A part of the proof of JudgeExactly. -/
set_option linter.unusedVariables false
set_option linter.unusedSimpArgs false
set_option maxRecDepth 100000
open List renaming not_mem_nil→kA,mem_cons_self→zB,mem_cons→kB,append_assoc→qE,mem_of_getElem?→xE,getElem?_eq_getElem→kF,perm_append_comm→jJ,map_cons→xK,mem_map_of_mem→vP,mem_map→jQ,nodup_cons→xR
open Bool renaming and_eq_true→xB,false_eq_true→xV
open Go.Sg.Rp renaming int→qC,aO→vG
open Go.Value renaming int→xC
open Go.Sg.HF renaming le_trans→zF,le→jM,le_refl→qP
open Nat renaming le_refl→xG,le_of_ble_eq_true→vQ,blt→kR,le_trans→xS
open Go.Deferred renaming ofValue→kJ
open Go.Result renaming andThen_ok→zM
open Go.Sem renaming run_bind→xP,run_pure→aBj,run→aBX
open Option.some renaming injEq→kQ
open Go.Addr renaming add→jT
open Go.Frame renaming enter→aAb,atR→aA6
open Array renaming replicate→aAL
open Go.Sg.St renaming start→aBd,after→aBq
open Go.Instr renaming getLoop→aBo,enterLoop→aBY
open Prod.mk renaming injEq→aBG

namespace Go.Sg
def HF.addAll(h:HF):LH->HF
 |[]=>h
 |(b,o)::L=>(h.add b o).addAll L
theorem St.freezeAll{X:Cx}(hM:X.M=[]){w:World}:∀{G Q:LH}{h:HF},St X h (G++Q) w->St X (h.addAll G) Q w/\h.le (h.addAll G)/\∀p∈G,(h.addAll G) p.1=some p.2
 |[],Q,h,s=>⟨s,h.le_refl,λp hp=>(kA hp).elim⟩
 |(b,o)::G,Q,h,s=>by
  have hfr:=s.free (b,o) (by simp)
  obtain⟨h1,h2,h3⟩:=St.freezeAll hM (G:=G) (Q:=Q) (s.freeze (by rw[hM];simp))
  refine⟨h1,zF (HF.Cd hfr) h2,λp hp=>?_⟩
  rcases kB.1 hp with rfl|hp
  .exact h2 _ _ (HF.xZ _ _ _)
  .exact h3 p hp
theorem dG.frozen{α : Type}{R:Rp α}(hm:R.Mono){E:TypeId}{h h2:HF}{xs:List α}{base:Option Addr}{cap:Nat}{G:LH}(g:dG R E h xs base cap G)(hl:h.le h2)(hG:∀p∈G,h2 p.1=some p.2):SlC R h2 base cap xs:=by
 rcases g with⟨rfl,_⟩|⟨bk,cl,sp,rfl,hc,_,hcap,hb,rfl⟩
 .exact SlC.nil
 .exact⟨(hc.mono hm hl).slB (hG _ (List.mem_singleton.2 rfl)) hb,hcap⟩
section freeze
variable {P:Program} {b:Frame} {n:Nat} {k:List Item} {F:List Frame->(Machine->Prop)->Prop} {e:Env} {ds:List Deferred} {X:Cx} {h:HF} {L:LH} {ops:Array Oper} {l:List Oper}
theorem St.freezeMid{w:World}(hM:X.M=[]){A G Q:LH}(s:St X h (A++(G++Q)) w):St X (h.addAll G) (A++Q) w/\h.le (h.addAll G)/\∀p∈G,(h.addAll G) p.1=some p.2:=
 St.freezeAll hM (s.perm (by rw[←qE,←qE];exact List.perm_append_comm.append_right Q))
theorem fF{todo:List Item}{α : Type}{R:Rp α}{E:TypeId}{xs:List α}{base:Option Addr}{cap:Nat}(hm:R.Mono)(A G Q:LH)(hL:L=A++(G++Q))(hM:X.M=[])(hG:dG R E h xs base cap G)(t:∀h2,h.le h2->SlC R h2 base cap xs->TT P b n todo F e ds X h2 (A++Q)):TT P b n todo F e ds X h L:=by
 subst hL
 intro w hw
 obtain⟨h1,h2,h3⟩:=hw.freezeMid hM
 exact t _ h2 (hG.frozen hm h2 h3) w h1
theorem m7{α : Type}{R:Rp α}{E:TypeId}{xs:List α}{base:Option Addr}{cap:Nat}(hm:R.Mono)(A G Q:LH)(hL:L=A++(G++Q))(hM:X.M=[])(hG:dG R E h xs base cap G)(t:∀h2,h.le h2->SlC R h2 base cap xs->TO P b n ops l k F e ds X h2 (A++Q)):TO P b n ops l k F e ds X h L:=by
 subst hL
 intro w hw
 obtain⟨h1,h2,h3⟩:=hw.freezeMid hM
 exact t _ h2 (hG.frozen hm h2 h3) w h1
def dropNth{α : Type}:List α->Nat->List α
 |[],_=>[]
 |_::l,0=>l
 |x::l,i+1=>x::dropNth l i
theorem pj{α : Type}:∀(l:List α)(i:Nat)(x:α),nth l i=some x->l.Perm (x::dropNth l i)
 |[],_,_,h=>by simp[nth]at h
 |y::l,0,x,h=>by simp[nth]at h;subst h;exact List.Perm.refl _
 |y::l,i+1,x,h=>(List.Perm.cons y (pj l i x h)).trans (List.Perm.swap x y _)
theorem aX(i:Nat){bk:Nat}{o:Obj}(hi:nth L i=some (bk,o))(hM:X.M=[])(t:∀h2,h.le h2->h2 bk=some o->TO P b n ops l k F e ds X h2 (dropNth L i)):TO P b n ops l k F e ds X h L:=by
 intro w hw
 have h1:=hw.perm (pj L i _ hi)
 exact t _ (HF.Cd (h1.free (bk,o) (by simp))) (HF.xZ _ _ _) w (h1.freeze (by rw[hM];simp))
theorem eR{todo:List Item}(i:Nat){bk:Nat}{o:Obj}(hi:nth L i=some (bk,o))(hM:X.M=[])(t:∀h2,h.le h2->h2 bk=some o->TT P b n todo F e ds X h2 (dropNth L i)):TT P b n todo F e ds X h L:=by
 intro w hw
 have h1:=hw.perm (pj L i _ hi)
 exact t _ (HF.Cd (h1.free (bk,o) (by simp))) (HF.xZ _ _ _) w (h1.freeze (by rw[hM];simp))
end freeze
def retVal:List Value->Value
 |[v]=>v
 |vs=>.tuple vs.toArray
def tJ(P:Program)(e:Env)(L:LH):List ResultVar->List Value->Prop
 |[],[]=>True
 |.tmp t::rs,v::vs=>e t=v/\tJ P e L rs vs
 |.cell a ty::rs,v::vs=>(∃i bk cl T fz,nth L i=some (bk,.cells cl.toArray T fz)/\e a=.pointer (some ⟨bk,0,none⟩)/\((tySz P ty=some (cl.length,true)/\v=.agg cl.toArray)\/∃m,tySz P ty=some (m,false)/\cl=[v]))/\tJ P e L rs vs
 |_,_=>False
theorem mA{P:Program}{e:Env}{X:Cx}{h:HF}{L:LH}{fn:Func}{rs:List ResultVar}{vs:List Value}(hr:fn.results=rs.toArray)(hv:tJ P e L rs vs)(a:Act)(he:envOf a=e)(w:World)(hw:St X h L w):
  (results fn a.tmps).run P w=.ok (retVal vs) w:=by
 have key:∀(f:ResultVar->Sem Value),(∀t,f (.tmp t)=pure (a.tmps.getD t undef))->(∀x t,f (.cell x t)=do loadVar t (←asAddr (a.tmps.getD x undef))) ->
   ∀(rs:List ResultVar)(vs:List Value),tJ P e L rs vs->(rs.mapM f:Sem (List Value)).run P w=.ok vs w:=by
  intro f hf1 hf2 rs
  induction rs with
  |nil=>intro vs hv;cases vs with
   |nil=>simp
   |cons _ _=>exact hv.elim
  |cons r rs ih=>
   intro vs hv
   cases vs with
   |nil=>cases r<;>exact hv.elim
   |cons v vs=>
    cases r with
    |tmp t=>
     obtain⟨h1,h2⟩:=hv
     have:a.tmps.getD t undef=v:=by rw[←h1,←he];rfl
     simp[ih vs h2,this,xP,hf1]
    |cell x ty=>
     obtain⟨⟨i,bk,cl,T,fz,hL,hx,hc⟩,h2⟩:=hv
     have hax:a.tmps.getD x undef=.pointer (some ⟨bk,0,none⟩):=by rw[←hx,←he];rfl
     have hl:(loadVar ty ⟨bk,0,none⟩).run P w=.ok v w:=by
      rcases hc with⟨hT,rfl⟩|⟨m,hT,rfl⟩
      .refine oO hT λj u hj=>?_
       rw[qz]
       exact hw.cell hL (by rw[im];exact hj)
      .exact oP hT (hw.cell hL rfl)
     simp[ih vs h2,hf2,hax,asAddr,hl,xP]
 have h2:∀(f:ResultVar->Sem Value),(∀t,f (.tmp t)=pure (a.tmps.getD t undef))->(∀x t,f (.cell x t)=do loadVar t (←asAddr (a.tmps.getD x undef)))->(fn.results.mapM f:Sem (Array Value)).run P w=.ok vs.toArray w:=by
  intro f hf1 hf2
  rw[hr]
  have:(rs.toArray.mapM f:Sem (Array Value))=List.toArray <$> (rs.mapM f:Sem (List Value)):=by
   rw[←List.mapM_toArray]
  rw[this,Sem.run_map,key f hf1 hf2 rs vs hv]
  rfl
 unfold results
 rw[xP]
 refine(congrArg (λr=>Result.andThen r _) (h2 _ (λ_=>rfl) (λ_ _=>rfl))).trans ?_
 simp only[zM,aBj]
 congr 1
 cases vs with
 |nil=>rfl
 |cons v vs=>cases vs with
  |nil=>rfl
  |cons u vs=>simp[retVal]
abbrev j1(P:Program)(f:FuncId)(args:List Value)(h:HF)(φ : Value->HF->Prop):Prop:=od P f args.toArray h [] (λx h' B=>B=[]/\∃v,x=.returned v/\φ v h')
abbrev Qi(P:Program)(f:Value)(args:List Value)(h:HF)(φ : Value->HF->Prop):Prop:=mr P f args.toArray h [] (λx h' B=>B=[]/\∃v,x=.returned v/\φ v h')
section ends
variable {P:Program} {f:FuncId} {n:Nat} {k:List Item} {e:Env} {X:Cx} {h:HF} {L:LH} {fn:Func} {φ : Value->HF->Prop}
theorem jx{rs:List ResultVar}(vs:List Value)(hf:P.funcs[f]? = some fn)(hr:fn.results=rs.toArray)(hv:tJ P e L rs vs)(hφ : φ (retVal vs) h):
  TT P (bodyFrame f) n (.code .ret::k) (lS P X (λx h' B=>B=[]/\∃v,x=.returned v/\φ v h')) e [] X h L:=
 pH (v:=retVal vs) hf (λa he w hw=>mA hr hv a he w hw) (λ_ hw=>hw.sub (List.nil_sublist _)) ⟨rfl,_,rfl,hφ⟩
theorem s8{rs:List ResultVar}{v:Value}{hh:HF}(vs:List Value)(hf:P.funcs[f]? = some fn)(hr:fn.results=rs.toArray)(hX:X.h0=hh)(hv:tJ P e L rs vs)(hvv:retVal vs=v):
  TT P (bodyFrame f) n (.code .ret::k) (lS P X (λx h' B=>x=.returned v/\h'=hh/\B=[])) e [] X h L:=
 pH (v:=v) hf (λa he w hw=>hvv▸mA hr hv a he w hw) (λ_ hw=>hw.forget) ⟨rfl,hX,rfl⟩
end ends
section steps
variable {P:Program} {b:Frame} {n:Nat} {ops:Array Oper} {F:List Frame->(Machine->Prop)->Prop} {e:Env} {ds:List Deferred} {X:Cx} {h:HF} {L:LH} {K:Env->HF->LH->Prop}
variable {d:Option Nat} {ty:TypeId} {pos:String} {af:Array Edge} {g:Option (Nat×Bool)}
theorem cS{f:FuncId}{as:Array Operand}{ats:Array TypeId}{vs:List Value}{φ : Value->HF->Prop}(hc:∀args w,(callFunc f args).run P w=.ok (.enter f args) w)(hs:j1 P f vs h φ)(hvs:as.toList.map e.ev=vs)(t':∀v h',h.le h'->φ v h'->K (pute e d v) h' L)(hg:guardB ops e ⟨d,.call ⟨.value (.func f),as,ats⟩,ty,pos,af,g⟩=true:=by rfl):
  Stp P b n ops F ds X ⟨d,.call ⟨.value (.func f),as,ats⟩,ty,pos,af,g⟩ e h L K:=
 mO (A:=[]) (Fr:=L) hc hvs hs rfl (λv' h' B hle hR=>by
   obtain⟨rfl,v,hv,hφ⟩:=hR
   cases hv
   exact t' _ h' hle hφ)
  (λch h' B _ hR=>by obtain⟨_,v,h1,_⟩:=hR;cases h1) hg
def nthI{α : Type}[Inhabited α](xs:List α)(z:Int):α:=xs.getD z.toNat default
theorem cN{α : Type}[Inhabited α]{xs:List α}{z:Int}(hz:0<=z/\z<(xs.length:Int)):xs[z.toNat]? = some (nthI xs z):=by
 have:z.toNat<xs.length:=by omega
 simp[nthI,List.getD_eq_getElem?_getD,this]
theorem nZ{α : Type}[Inhabited α]{xs:List α}{z:Int}(hz:0<=z/\z<(xs.length:Int)):nthI xs z∈xs:=xE (cN hz)
theorem nn{α : Type}[Inhabited α]{xs:List α}{i:Nat}{x:α}(h:xs[i]? = some x):nthI xs (i:Int)=x:=by
 simp[nthI,List.getD_eq_getElem?_getD,h]
theorem Lw{α : Type}{R:Rp α}{t E:TypeId}{x ix:Operand}{a:Bool}{base:Option Addr}{m cap:Nat}{xs:List α}{y:α}{z:Int}(hT:P.underlying t=some (.slice E))(hS:tySz P E=some (R.sz,a))(hR:SlB R h base xs)(hz:0<=z/\z<(xs.length:Int))(hj:xs[z.toNat]? = some y)(hx:e.ev x=.slice base m cap)(hm:m=xs.length)(hix:e.ev ix=.int .i64 z)(t':∀q cs,At h q cs->cs.length=R.sz->R.rep h cs y->K (pute e d (.pointer (some q))) h L)(hg:guardB ops e ⟨d,.indexAddr t x ix,ty,pos,af,g⟩=true:=by rfl):Stp P b n ops F ds X ⟨d,.indexAddr t x ix,ty,pos,af,g⟩ e h L K:=by
 obtain⟨p,cs,rfl,hA,hl,hr⟩:=hR.2 z.toNat y hj
 have hzz:z=(z.toNat:Int):=by omega
 rw[hzz]at hix
 exact fw (CP hT hS hx hix (by omega)) (t' _ cs hA hl hr) hg
theorem na{α : Type}{R:Rp α}{enc:α->List Value}{t E:TypeId}{x ix:Operand}{a:Bool}{base:Option Addr}{m cap:Nat}{xs:List α}{y:α}{z:Int}(hR':∀h cs x,R.rep h cs x->cs=enc x)(hT:P.underlying t=some (.slice E))(hS:tySz P E=some (R.sz,a))(hR:SlB R h base xs)(hz:0<=z/\z<(xs.length:Int))(hj:xs[z.toNat]? = some y)(hx:e.ev x=.slice base m cap)(hm:m=xs.length)(hix:e.ev ix=.int .i64 z)(t':∀q,At h q (enc y)->K (pute e d (.pointer (some q))) h L)(hg:guardB ops e ⟨d,.indexAddr t x ix,ty,pos,af,g⟩=true:=by rfl):Stp P b n ops F ds X ⟨d,.indexAddr t x ix,ty,pos,af,g⟩ e h L K:=
 Lw hT hS hR hz hj hx hm hix (λq cs hA _ hr=>t' q (hR' _ _ _ hr▸hA)) hg
end steps
theorem mR{α : Type}{xs:List α}{i:Nat}(h:xs.drop i=[]):decide ((i:Int)<(xs.length:Int))=false:=by
 have:=List.drop_eq_nil_iff.1 h
 rw[decide_eq_false_iff_not];omega
theorem io{α : Type}{xs r:List α}{i:Nat}{x:α}(h:xs.drop i=x::r):i<xs.length:=by
 rcases Nat.lt_or_ge i xs.length with q|q
 .exact q
 .rw[List.drop_eq_nil_of_le q]at h;cases h
theorem sQ{α : Type}{xs r:List α}{i:Nat}{x:α}(h:xs.drop i=x::r):decide ((i:Int)<(xs.length:Int))=true:=by
 have:=io h
 rw[decide_eq_true_iff];omega
theorem rg{α : Type}{xs r:List α}{i:Nat}{x:α}(h:xs.drop i=x::r):xs[i]? = some x:=by
 have:=congrArg List.head? h
 rw[List.head?_drop]at this
 simpa using this
theorem kx{α : Type}{xs r:List α}{i:Nat}{x:α}(h:xs.drop i=x::r):xs.drop (i+1)=r:=by
 rw[←List.drop_drop,h];rfl
theorem fX{α : Type}{xs r:List α}{i:Nat}{x:α}(h:xs.drop i=x::r):x∈xs:=
 xE (rg h)
theorem KW{i:Nat}(hb:i<9223372036854775807):xC .i64 (IntKind.i64.wrap ((i:Int)+1))=.int .i64 (((i+1:Nat)):Int):=by
 rw[jv (by omega)]
 simp
theorem bt{α : Type}{c:Bool}{x y:α}(h:c=true):(bif c then x else y)=x:=by rw[h];rfl
theorem bf{α : Type}{c:Bool}{x y:α}(h:c=false):(bif c then x else y)=y:=by rw[h];rfl
theorem nthZ{α : Type}{xs:List α}{i:Nat}{x:α}(h:xs[i]? = some x):0<=(i:Int)/\(i:Int)<(xs.length:Int):=by
 have:=(List.getElem?_eq_some_iff.1 h).1
 omega
theorem fq{α : Type}{xs:List α}{i:Nat}{x:α}(h:xs[i]? = some x):xs[(i:Int).toNat]? = some x:=by
 simpa using h
theorem iL{P:Program}{b:Frame}{n:Nat}{k:List Item}{F:List Frame->(Machine->Prop)->Prop}{e:Env}{ds:List Deferred}{X:Cx}{h:HF}{L:LH}{id:Nat}{c:Code}{ι : Type}(sl:ι->List (Nat×Value))(hh:ι->HF)(LL:ι->LH)(I:ι->Prop)(hk:∀i,I i->∀e',TT P b n k F (upds e' (sl i)) ds X (hh i) (LL i))(hb:(∀i e',I i->jd e' (sl i)->TT P b n k F e' ds X (hh i) (LL i))->TT P b n (.code c::.inBlock id::k) F e ds X h L):TT P b n (.code (.block id c)::k) F e ds X h L:=
 lZ (hb λi e' hI hr=>IF (sl i) hr (hk i hI e'))
theorem IM{α : Type}{R:Rp α}{h:HF}{base:Option Addr}{xs:List α}(s:SlB R h base xs)(l:Nat):SlB R h (base.map (·.add (l*R.sz))) (xs.drop l):=by
 refine⟨xS (by simp) s.1,λi x hx=>?_⟩
 rw[List.getElem?_drop]at hx
 obtain⟨p,cs,rfl,hA,h1,h2⟩:=s.2 _ x hx
 have hsp:p.spot=none:=by
  cases hxs:xs with
  |nil=>rw[hxs]at hx;simp at hx
  |cons y ys=>
   obtain⟨p',_,hp,⟨_,_,_,_,h3,_⟩,_,_⟩:=s.2 0 y (by rw[hxs];rfl)
   cases hp
   simpa[jT]using h3
 refine⟨_,cs,rfl,?_,h1,h2⟩
 rw[vv p _ _ hsp,←Nat.add_mul]
 exact hA
theorem IL{α : Type}{R:Rp α}{h:HF}{base:Option Addr}{xs:List α}(s:SlB R h base xs)(l:Nat):SlB R h base (xs.take l):=by
 refine⟨xS (by simp;omega) s.1,λi x hx=>?_⟩
 rw[List.getElem?_take]at hx
 split at hx
 .exact s.2 i x hx
 .cases hx
section slices
variable {P:Program} {b:Frame} {n:Nat} {ops:Array Oper} {F:List Frame->(Machine->Prop)->Prop} {e:Env} {ds:List Deferred} {X:Cx} {h:HF} {L:LH} {K:Env->HF->LH->Prop}
variable {d:Option Nat} {ty:TypeId} {pos:String} {af:Array Edge} {g:Option (Nat×Bool)}
theorem NW{α : Type}{R:Rp α}{t E:TypeId}{x lo:Operand}{a:Bool}{base:Option Addr}{m cap:Nat}{xs:List α}{z:Int}(hT:P.underlying t=some (.slice E))(hS:tySz P E=some (R.sz,a))(hR:SlB R h base xs)(hcap:xs.length<=cap)(hz:0<=z/\z<=(xs.length:Int))(hx:e.ev x=.slice base m cap)(hm:m=xs.length)(hlo:e.ev lo=.int .i64 z)(t':∀base' cap',SlC R h base' cap' (xs.drop z.toNat)->K (pute e d (.slice base' (xs.drop z.toNat).length cap')) h L)(hg:guardB ops e ⟨d,.slice t x (some lo) none none,ty,pos,af,g⟩=true:=by rfl):Stp P b n ops F ds X ⟨d,.slice t x (some lo) none none,ty,pos,af,g⟩ e h L K:=by
 subst hm
 have hz2:0<=z/\z<=(xs.length:Int):=hz
 have hs:SlB R h (if cap=z.toNat then base else base.map (·.add (z.toNat*R.sz))) (xs.drop z.toNat):=by
  split
  .have:xs.drop z.toNat=[]:=List.drop_eq_nil_of_le (by omega)
   rw[this];exact SlB.nil
  .exact IM hR _
 have hl:xs.length-z.toNat=(xs.drop z.toNat).length:=by simp
 refine fw (v:=.slice (if cap=z.toNat then base else base.map (·.add (z.toNat*R.sz))) (xs.drop z.toNat).length (cap-z.toNat)) (λw hw=>?_) (t' _ (cap-z.toNat) ⟨hs,by rw[←hl];omega⟩) hg
 simp[execOp,Instr.sliceAt,Instr.slice,Instr.sliceBounds,Instr.sliceBound,hx,hlo,asIntOf,run_underlying hT,gD hS,hz2]
theorem NU{α : Type}{R:Rp α}{t E:TypeId}{x hi:Operand}{a:Bool}{base:Option Addr}{m cap:Nat}{xs:List α}{z:Int}(hT:P.underlying t=some (.slice E))(hS:tySz P E=some (R.sz,a))(hR:SlB R h base xs)(hcap:xs.length<=cap)(hz:0<=z/\z<=(xs.length:Int))(hx:e.ev x=.slice base m cap)(hm:m=xs.length)(hhi:e.ev hi=.int .i64 z)(t':∀base' cap',SlC R h base' cap' (xs.take z.toNat)->K (pute e d (.slice base' (xs.take z.toNat).length cap')) h L)(hg:guardB ops e ⟨d,.slice t x none (some hi) none,ty,pos,af,g⟩=true:=by rfl):Stp P b n ops F ds X ⟨d,.slice t x none (some hi) none,ty,pos,af,g⟩ e h L K:=by
 subst hm
 have hz2:0<=z/\z<=(cap:Int):=by omega
 have hl:z.toNat=(xs.take z.toNat).length:=by simp;omega
 refine fw (v:=.slice base (xs.take z.toNat).length cap) (λw hw=>?_) (t' _ cap ⟨IL hR _,by rw[←hl];omega⟩) hg
 rw[←hl]
 by_cases h0:cap=0
 .have hz0:z=0:=by omega
  subst hz0
  simp[execOp,Instr.sliceAt,Instr.slice,Instr.sliceBounds,Instr.sliceBound,hx,hhi,asIntOf,run_underlying hT,gD hS,hz2,h0]
 .simp[execOp,Instr.sliceAt,Instr.slice,Instr.sliceBounds,Instr.sliceBound,hx,hhi,asIntOf,run_underlying hT,gD hS,hz2,h0,jT]
end slices
end Go.Sg

namespace Go.Sg
theorem Bb{h:HF}{K L:LH}(hs:K.Sublist L):Jst h K h L:=⟨qP h,λ_ hp=>hs.subset hp⟩
section
variable {P:Program} {b:Frame} {n:Nat} {ops:Array Oper} {k:List Item} {F:List Frame->(Machine->Prop)->Prop} {ds:List Deferred} {X:Cx}
theorem Stp.mono{o:Oper}{e:Env}{h:HF}{L:LH}{K K':Env->HF->LH->Prop}(hk:∀e' h' L',K e' h' L'->K' e' h' L')(s:Stp P b n ops F ds X o e h L K):Stp P b n ops F ds X o e h L K':=by
 unfold Stp at s ⊢
 split
 .rename_i hg
  rw[if_pos hg]at s
  intro w hw
  exact wd.mono (λv h L=>hk _ h L) (s w hw)
 .rename_i hg
  rw[if_neg hg]at s
  exact hk _ _ _ s
theorem GM{o:Oper}{e:Env}{h:HF}{L:LH}{K:Env->HF->LH->Prop}{α : Type}{R:Rp α}{E:TypeId}{xs:List α}{base:Option Addr}{cap:Nat}(hm:R.Mono)(A G Q:LH)(hL:L=A++(G++Q))(hM:X.M=[])(hG:dG R E h xs base cap G)(t:∀h2,h.le h2->SlC R h2 base cap xs->Stp P b n ops F ds X o e h2 (A++Q) K)(hg:guardB ops e o=true:=by rfl):Stp P b n ops F ds X o e h L K:=by
 subst hL
 unfold Stp
 rw[if_pos hg]
 intro w hw
 obtain⟨h1,h2,h3⟩:=hw.freezeMid hM
 have:=t _ h2 (hG.frozen hm h2 h3)
 unfold Stp at this
 rw[if_pos hg]at this
 exact this w h1
theorem nQ{h1 h2:HF}{K K2:LH}(hle:h1.le h2)(hK:∀p∈K,p∈K2):∀{m:Nat}{dn:List Nat}{e:Env}{h:HF}{L:LH},TA P b n ops k F ds X (Jst h2 K2) m dn e h L->TA P b n ops k F ds X (Jst h1 K) m dn e h L:=by
 intro m
 induction m with
 |zero=>intro dn e h L t;exact t
 |succ m ih=>
  intro dn e h L t
  refine⟨t.1,λi hi o ho=>Stp.mono ?_ (t.2 i hi o ho)⟩
  rintro e' h' L' ⟨j,t'⟩
  exact⟨⟨zF hle j.1,λp hp=>j.2 p (hK p hp)⟩,ih t'⟩
theorem nT{J:HF->LH->Prop}{l:List Oper}{m:Nat}{dn:List Nat}{e:Env}{h:HF}{L:LH}(i j:Nat){o1 o2:Oper}(hn:nexts l.toArray dn=[i,j])(h1:nth l i=some o1)(h2:nth l j=some o2)(t1:Stp P b n l.toArray F ds X o1 e h L λe' h' L'=>J h' L'/\TA P b n l.toArray k F ds X J m (i::dn) e' h' L')(t2:Stp P b n l.toArray F ds X o2 e h L λe' h' L'=>J h' L'/\TA P b n l.toArray k F ds X J m (j::dn) e' h' L'):TA P b n l.toArray k F ds X J (m+1) dn e h L:=
 Pp [i,j] hn (by simp) (λx hx o ho=>by
  simp only[kB,kA,or_false]at hx
  rcases hx with rfl|rfl
  .rw[h1]at ho;cases ho;exact t1
  .rw[h2]at ho;cases ho;exact t2)
theorem jt{α : Type}{R:Rp α}(i:Nat){l:List Oper}{h1:HF}{K:LH}{m d:Nat}{dn:List Nat}{e:Env}{h:HF}{L:LH}{t E ty:TypeId}{pos:String}{af:Array Edge}{g:Option (Nat×Bool)}{x ix:Operand}{a:Bool}{base:Option Addr}{len cap:Nat}{xs:List α}{y:α}{z:Int}(hsep:sepAll l.toArray=true)(hJ:Jst h1 K h L)(hT:P.underlying t=some (.slice E))(hS:tySz P E=some (R.sz,a))(hR:SlB R h base xs)(hz:0<=z/\z<(xs.length:Int))(hj:xs[z.toNat]? = some y)(hx:e.ev x=.slice base len cap)(hm:len=xs.length)(hix:e.ev ix=.int .i64 z)(hi:nth l i=some ⟨some d,.indexAddr t x ix,ty,pos,af,g⟩)(hn:(nexts l.toArray dn).contains i=true)(t':∀q cs,At h q cs->cs.length=R.sz->R.rep h cs y->TA P b n l.toArray k F ds X (Jst h1 K) m (i::dn) (upd e d (.pointer (some q))) h L)(hg:guardB l.toArray e ⟨some d,.indexAddr t x ix,ty,pos,af,g⟩=true:=by rfl):TA P b n l.toArray k F ds X (Jst h1 K) (m+1) dn e h L:=by
 obtain⟨p,cs,rfl,hA,hl,hr⟩:=hR.2 z.toNat y hj
 have hzz:z=(z.toNat:Int):=by omega
 rw[hzz]at hix
 exact i9 i hsep hJ hi rfl hn hg (λh' L' _=>CP hT hS hx hix (by omega)) (t' _ cs hA hl hr)
theorem eS{α : Type}{R:Rp α}(i:Nat){enc:α->List Value}{l:List Oper}{h1:HF}{K:LH}{m d:Nat}{dn:List Nat}{e:Env}{h:HF}{L:LH}{t E ty:TypeId}{pos:String}{af:Array Edge}{g:Option (Nat×Bool)}{x ix:Operand}{a:Bool}{base:Option Addr}{len cap:Nat}{xs:List α}{y:α}{z:Int}(hsep:sepAll l.toArray=true)(hJ:Jst h1 K h L)(hR':∀h cs x,R.rep h cs x->cs=enc x)(hT:P.underlying t=some (.slice E))(hS:tySz P E=some (R.sz,a))(hR:SlB R h base xs)(hz:0<=z/\z<(xs.length:Int))(hj:xs[z.toNat]? = some y)(hx:e.ev x=.slice base len cap)(hm:len=xs.length)(hix:e.ev ix=.int .i64 z)(hi:nth l i=some ⟨some d,.indexAddr t x ix,ty,pos,af,g⟩)(hn:(nexts l.toArray dn).contains i=true)(t':∀q,At h q (enc y)->TA P b n l.toArray k F ds X (Jst h1 K) m (i::dn) (upd e d (.pointer (some q))) h L)(hg:guardB l.toArray e ⟨some d,.indexAddr t x ix,ty,pos,af,g⟩=true:=by rfl):TA P b n l.toArray k F ds X (Jst h1 K) (m+1) dn e h L:=
 jt i hsep hJ hT hS hR hz hj hx hm hix hi hn (λq cs hA _ hr=>t' q (hR' _ _ _ hr▸hA)) hg
theorem Mz{α : Type}{R:Rp α}(i:Nat){l:List Oper}{h1:HF}{K:LH}{m d:Nat}{dn:List Nat}{e:Env}{h:HF}{L:LH}{t E ty:TypeId}{pos:String}{af:Array Edge}{g:Option (Nat×Bool)}{x lo:Operand}{a:Bool}{base:Option Addr}{len cap:Nat}{xs:List α}{z:Int}(hsep:sepAll l.toArray=true)(hJ:Jst h1 K h L)(hT:P.underlying t=some (.slice E))(hS:tySz P E=some (R.sz,a))(hR:SlB R h base xs)(hcap:xs.length<=cap)(hz:0<=z/\z<=(xs.length:Int))(hx:e.ev x=.slice base len cap)(hm:len=xs.length)(hlo:e.ev lo=.int .i64 z)(hi:nth l i=some ⟨some d,.slice t x (some lo) none none,ty,pos,af,g⟩)(hn:(nexts l.toArray dn).contains i=true)(t':∀base' cap',SlC R h base' cap' (xs.drop z.toNat)->TA P b n l.toArray k F ds X (Jst h1 K) m (i::dn) (upd e d (.slice base' (xs.drop z.toNat).length cap')) h L)(hg:guardB l.toArray e ⟨some d,.slice t x (some lo) none none,ty,pos,af,g⟩=true:=by rfl):TA P b n l.toArray k F ds X (Jst h1 K) (m+1) dn e h L:=by
 subst hm
 have hs:SlB R h (if cap=z.toNat then base else base.map (·.add (z.toNat*R.sz))) (xs.drop z.toNat):=by
  split
  .have:xs.drop z.toNat=[]:=List.drop_eq_nil_of_le (by omega)
   rw[this];exact SlB.nil
  .exact IM hR _
 have hl:xs.length-z.toNat=(xs.drop z.toNat).length:=by simp
 refine i9 (v:=.slice (if cap=z.toNat then base else base.map (·.add (z.toNat*R.sz))) (xs.drop z.toNat).length (cap-z.toNat)) i hsep hJ hi rfl hn hg (λh' L' _ w hw=>?_) (t' _ (cap-z.toNat) ⟨hs,by rw[←hl];omega⟩)
 simp[execOp,Instr.sliceAt,Instr.slice,Instr.sliceBounds,Instr.sliceBound,hx,hlo,asIntOf,run_underlying hT,gD hS,hz]
theorem GI{α : Type}{R:Rp α}(i:Nat){l:List Oper}{h1:HF}{K:LH}{m d:Nat}{dn:List Nat}{e:Env}{h:HF}{L:LH}{t E ty:TypeId}{pos:String}{af:Array Edge}{g:Option (Nat×Bool)}{x hi':Operand}{a:Bool}{base:Option Addr}{len cap:Nat}{xs:List α}{z:Int}(hsep:sepAll l.toArray=true)(hJ:Jst h1 K h L)(hT:P.underlying t=some (.slice E))(hS:tySz P E=some (R.sz,a))(hR:SlB R h base xs)(hcap:xs.length<=cap)(hz:0<=z/\z<=(xs.length:Int))(hx:e.ev x=.slice base len cap)(hm:len=xs.length)(hhi:e.ev hi'=.int .i64 z)(hi:nth l i=some ⟨some d,.slice t x none (some hi') none,ty,pos,af,g⟩)(hn:(nexts l.toArray dn).contains i=true)(t':∀base' cap',SlC R h base' cap' (xs.take z.toNat)->TA P b n l.toArray k F ds X (Jst h1 K) m (i::dn) (upd e d (.slice base' (xs.take z.toNat).length cap')) h L)(hg:guardB l.toArray e ⟨some d,.slice t x none (some hi') none,ty,pos,af,g⟩=true:=by rfl):TA P b n l.toArray k F ds X (Jst h1 K) (m+1) dn e h L:=by
 subst hm
 have hz2:0<=z/\z<=(cap:Int):=by omega
 have hl:z.toNat=(xs.take z.toNat).length:=by simp;omega
 refine i9 (v:=.slice base (xs.take z.toNat).length cap) i hsep hJ hi rfl hn hg (λh' L' _ w hw=>?_) (t' _ cap ⟨IL hR _,by rw[←hl];omega⟩)
 rw[←hl]
 by_cases h0:cap=0
 .have hz0:z=0:=by omega
  subst hz0
  simp[execOp,Instr.sliceAt,Instr.slice,Instr.sliceBounds,Instr.sliceBound,hx,hhi,asIntOf,run_underlying hT,gD hS,hz2,h0]
 .simp[execOp,Instr.sliceAt,Instr.slice,Instr.sliceBounds,Instr.sliceBound,hx,hhi,asIntOf,run_underlying hT,gD hS,hz2,h0,jT]
end
end Go.Sg

namespace Go.Sg
theorem oe{α : Type}{l:List α}{i:Nat}{x:α}(h:nth l i=some x):x∈l:=by rw[im]at h;exact xE h
theorem cA{h:HF}{bk T:Nat}{fz:Nat×Nat}{cl:List Value}(hb:h bk=some (.cells cl.toArray T fz)):At h ⟨bk,0,none⟩ cl:=
 At.EI hb (λj v hj=>by simpa using hj)
theorem St.down{X:Cx}{h h2:HF}{L:LH}{w:World}(s:St X h2 L w)(hle:h.le h2)(h0:X.h0.le h):St X h L w:=by
 refine⟨s.os,s.tape,s.output,s.size,s.keep,h0,λb hb=>?_,λb o hb=>s.imm b o (hle b o hb),s.own,s.dis,λp hp=>?_,s.new⟩
 .have h1:=s.old b hb
  cases hb2:h b with
  |none=>
   cases hb3:X.h0 b with
   |none=>rfl
   |some o=>rw[h0 b o hb3]at hb2;cases hb2
  |some o=>rw[←h1];exact(hle b o hb2).symm
 .cases hb:h p.1 with
  |none=>rfl
  |some o=>have:=hle _ _ hb;rw[s.free p hp]at this;cases this
theorem kh{P:Program}{b:Frame}{n:Nat}{k:List Item}{F:List Frame->(Machine->Prop)->Prop}{e:Env}{ds:List Deferred}{X:Cx}{h h2 h00:HF}{L:LH}{ops:Array Oper}{l:List Oper}(hle:h.le h2)(hX:X.h0=h00)(h0:h00.le h)(t:TO P b n ops l k F e ds X h L):TO P b n ops l k F e ds X h2 L:=
 λw hw=>t w (hw.down hle (hX▸h0))
section runs
variable {P:Program} {e:Env} {X:Cx} {h:HF} {L:LH} {d:Option Nat} {ty:TypeId} {pos:String} {af:Array Edge} {g:Option (Nat×Bool)}
theorem P7{t u:TypeId}{x y:Operand}{k:IntKind}{a b:Int}(hx:e.ev x=.int k a)(hy:e.ev y=.int k b):∀w,St X h L w->(execOp e.ev ⟨d,.call ⟨.builtin .max,#[x,y],#[t,u]⟩,ty,pos,af,g⟩).run P w=.ok (.value (.int k (max a b))) w:=
 λw _=>by
  have:(if b>a then b else a)=max a b:=by omega
  simp[execOp,resolve,invoke,builtin,Builtin.max_,Builtin.max2,hx,hy,this]
theorem P6{t u:TypeId}{x y:Operand}{k:IntKind}{a b:Int}(hx:e.ev x=.int k a)(hy:e.ev y=.int k b):∀w,St X h L w->(execOp e.ev ⟨d,.call ⟨.builtin .min,#[x,y],#[t,u]⟩,ty,pos,af,g⟩).run P w=.ok (.value (.int k (min a b))) w:=
 λw _=>by
  have:(if b<a then b else a)=min a b:=by omega
  simp[execOp,resolve,invoke,builtin,Builtin.min_,Builtin.min2,hx,hy,this]
end runs
end Go.Sg

namespace Go.Sg
theorem pX{P:Program}{w:World}{bk:Nat}{es:Array MapEntry}{c:Nat}(hb:w.heap[bk]? = some (.map es c)):(getObj bk).run P w=.ok (.map es c) w:=by simp[getObj,aBX,hb]
theorem CI{P:Program}{w:World}{bk:Nat}{es:Array MapEntry}{c:Nat}{o:Obj}(hb:w.heap[bk]? = some (.map es c)):(setObj bk o).run P w=.ok () { w with heap:=w.heap.setIfInBounds bk o }:=by simp[setObj,aBX,hb]
section pure
variable {κ α : Type} [DecidableEq κ]
def mput:List (κ×α)->κ->α->List (κ×α)
 |[],k,v=>[(k,v)]
 |(k',v')::r,k,v=>if k=k' then(k,v)::r else(k',v')::mput r k v
def mget? : List (κ×α)->κ->Option α
 |[],_=>none
 |(k',v')::r,k=>if k=k' then some v' else mget? r k
def mgetD(m:List (κ×α))(k:κ)(z:α):α:=(mget? m k).getD z
def mhas(m:List (κ×α))(k:κ):Bool:=(mget? m k).isSome
def mdel:List (κ×α)->κ->List (κ×α)
 |[],_=>[]
 |(k',v')::r,k=>if k=k' then r else(k',v')::mdel r k
def findIn(k:κ):List κ->List MapEntry->Nat->Option (Nat×Value)
 |k'::l,e::es,i=>if k=k' then some (i,e.val)else findIn k l es (i+1)
 |_,_,_=>none
end pure
structure wz(P:Program)(T:TypeId){κ : Type}[DecidableEq κ](enc:κ->Value):Prop where
 check:∀b a w,(Instr.checkKey b 10000 T (enc a)).run P w=.ok () w
 find:∀k(l:List κ)(es:List MapEntry)w,es.map (·.key)=l.map enc->(Instr.findKey T (enc k) es).run P w=.ok (findIn k l es 0) w
 bits:∀a,Instr.sameBits 10000 (enc a) (enc a)=true
section rep
variable {κ α : Type} (enc:κ->Value) (V:HF->Value->α->Prop)
def oK(h:HF):List MapEntry->List (κ×α)->Prop
 |[],[]=>True
 |e::es,(k,v)::m=>e.key=enc k/\V h e.val v/\oK h es m
 |_,_=>False
def Mq(h:HF)(o:Obj)(m:List (κ×α)):Prop:=
 ∃es clock,o=.map es.toArray clock/\oK enc V h es m/\(es.map (·.born)).Pairwise (·<·)/\∀e∈es,e.born<clock
def ja(h:HF)(o:Obj)(m:List (κ×α)):Prop:=∃m',m'.Perm m/\(m'.map (·.1)).Nodup/\Mq enc V h o m'
end rep
section perm
variable {κ α : Type} [DecidableEq κ]
theorem EO{k:κ}{v:α}:∀{m:List (κ×α)},(m.map (·.1)).Nodup->(mget? m k=some v↔(k,v)∈m)
 |[],_=>by simp[mget?]
 |(k',v')::m,hn=>by
  rw[xK,xR]at hn
  simp only[mget?]
  by_cases e:k=k'
  .subst e
   simp only[if_true,kQ,kB,aBG,true_and]
   constructor
   .exact λh=>.inl h.symm
   .rintro(h|h)
    .exact h.symm
    .exact absurd (vP (f:=Prod.fst) h) hn.1
  .simp only[e,if_false,kB,aBG,false_and,false_or]
   exact EO hn.2
theorem MR{m m':List (κ×α)}(hp:m.Perm m')(hn:(m.map (·.1)).Nodup)(k:κ):mget? m k=mget? m' k:=by
 apply Option.ext
 intro v
 rw[EO hn,EO ((hp.map _).nodup_iff.1 hn)]
 exact hp.mem_iff
theorem Ca(k:κ)(v:α):∀(m:List (κ×α))(x:κ),x∈(mput m k v).map (·.1)↔x=k\/x∈m.map (·.1)
 |[],x=>by simp[mput]
 |(k',v')::m,x=>by
  simp only[mput]
  split
  .next e=>subst e;simp
  .simp only[xK,kB,Ca k v m x]
   constructor
   .rintro(h|h|h)<;>simp[h]
   .rintro(h|h|h)<;>simp[h]
theorem ow(k:κ)(v:α):∀{m:List (κ×α)},(m.map (·.1)).Nodup->((mput m k v).map (·.1)).Nodup
 |[],_=>by simp[mput]
 |(k',v')::m,hn=>by
  rw[xK,xR]at hn
  simp only[mput]
  split
  .next e=>subst e;rw[xK,xR];exact hn
  .next e=>
   rw[xK,xR]
   refine⟨λh=>?_,ow k v hn.2⟩
   rcases(Ca k v m k').1 h with h|h
   .exact e h.symm
   .exact hn.1 h
theorem MQ(k:κ)(v:α){m m':List (κ×α)}(hp:m.Perm m')(hn:(m.map (·.1)).Nodup):(mput m k v).Perm (mput m' k v):=by
 induction hp with
 |nil=>exact List.Perm.refl _
 |cons x p ih=>
  obtain⟨k',v'⟩:=x
  rw[xK,xR]at hn
  simp only[mput]
  split
  .exact List.Perm.cons _ p
  .exact List.Perm.cons _ (ih hn.2)
 |swap x y l=>
  obtain⟨a,va⟩:=x
  obtain⟨b,vb⟩:=y
  simp only[xK,xR,kB,not_or]at hn
  simp only[mput]
  by_cases h1:k=b
  .have h2:¬k=a:=λe=>hn.1.1 (h1.symm.trans e)
   simp only[h1,h2,if_true,if_false]
   rw[if_neg (h1▸h2)]
   exact List.Perm.swap _ _ _
  .by_cases h2:k=a
   .simp only[h1,h2,if_true,if_false]
    rw[if_neg (h2▸h1)]
    exact List.Perm.swap _ _ _
   .simp only[h1,h2,if_false]
    exact List.Perm.swap _ _ _
 |trans p q ih1 ih2=>exact(ih1 hn).trans (ih2 ((p.map _).nodup_iff.1 hn))
end perm
def zh{α : Type}(V:HF->Value->α->Prop):Prop:=∀h h' v x,h.le h'->V h v x->V h' v x
section lemmas
variable {κ α : Type} {enc:κ->Value} {V:HF->Value->α->Prop} {h h':HF}
theorem oK.mono(hV:zh V)(hl:h.le h'):∀{es:List MapEntry}{m:List (κ×α)},oK enc V h es m->oK enc V h' es m
 |[],[],_=>trivial
 |_::_,(_,_)::_,⟨a,b,c⟩=>⟨a,hV _ _ _ _ hl b,oK.mono hV hl c⟩
 |[],_::_,x=>x.elim
 |_::_,[],x=>x.elim
theorem ja.mono{o:Obj}{m:List (κ×α)}(r:ja enc V h o m)(hV:zh V)(hl:h.le h'):ja enc V h' o m:=by
 obtain⟨m',hp,hn,es,c,rfl,h1,h2,h3⟩:=r
 exact⟨m',hp,hn,es,c,rfl,h1.mono hV hl,h2,h3⟩
theorem ja.perm{o:Obj}{m m2:List (κ×α)}(r:ja enc V h o m)(hp:m.Perm m2):ja enc V h o m2:=let ⟨m',p,q⟩:=r;⟨m',p.trans hp,q⟩
theorem ja.nodup{o:Obj}{m:List (κ×α)}(r:ja enc V h o m):(m.map (·.1)).Nodup:=let ⟨_,p,hn,_⟩:=r;(p.map _).nodup_iff.1 hn
theorem ja.nil:ja enc V h (.map #[] 0) ([]:List (κ×α)):=⟨[],.refl _,List.nodup_nil,[],0,rfl,trivial,.nil,λ_ he=>(kA he).elim⟩
theorem oK.keys:∀{es:List MapEntry}{m:List (κ×α)},oK enc V h es m->es.map (·.key)=(m.map (·.1)).map enc
 |[],[],_=>rfl
 |e::es,(k,v)::m,⟨a,_,c⟩=>by simp[a,oK.keys c]
 |[],_::_,x=>x.elim
 |_::_,[],x=>x.elim
variable [DecidableEq κ]
theorem oK.found{k:κ}:∀{es:List MapEntry}{m:List (κ×α)}(j:Nat),oK enc V h es m ->
  match findIn k (m.map (·.1)) es j with
  |some (_,v)=>∃x,mget? m k=some x/\V h v x
  |none=>mget? m k=none
 |[],[],_,_=>rfl
 |e::es,(k',v)::m,j,⟨_,b,c⟩=>by
  simp only[xK,findIn,mget?]
  by_cases hk:k=k'
  .simp only[hk,if_true];exact⟨v,rfl,b⟩
  .simp only[hk,if_false];exact oK.found (j+1) c
 |[],_::_,_,x=>x.elim
 |_::_,[],_,x=>x.elim
theorem Jf{f:MapEntry->MapEntry}(e:MapEntry)(es:List MapEntry):(e::es).modify 0 f=f e::es:=by simp
theorem Jg{f:MapEntry->MapEntry}(e:MapEntry)(es:List MapEntry)(i:Nat):(e::es).modify (i+1) f=e::es.modify i f:=by simp
theorem oK.put{k:κ}{x:α}{xv:Value}(hx:V h xv x):∀{es:List MapEntry}{m:List (κ×α)}(j:Nat),oK enc V h es m ->
  match findIn k (m.map (·.1)) es j with
  |some (i,_)=>j<=i/\(es[i-j]?).map (·.key)=some (enc k)/\oK enc V h (es.modify (i-j) λe=>{ e with key:=enc k,val:=xv }) (mput m k x)
  |none=>∀b,oK enc V h (es++[{ key:=enc k,val:=xv,born:=b }]) (mput m k x)
 |[],[],_,_=>λb=>⟨rfl,hx,trivial⟩
 |e::es,(k',v)::m,j,⟨a,b,c⟩=>by
  simp only[xK,findIn,mput]
  by_cases hk:k=k'
  .simp only[hk,if_true]
   refine⟨xG _,?_,?_⟩
   .simp[a]
   .rw[Nat.sub_self,Jf];exact⟨rfl,hx,c⟩
  .simp only[hk,if_false]
   have ih:=oK.put (k:=k) hx (j+1) c
   cases hf:findIn k (m.map (·.1)) es (j+1)with
   |none=>rw[hf]at ih;exact λb'=>⟨a,b,ih b'⟩
   |some p=>
    obtain⟨i,u⟩:=p
    rw[hf]at ih
    obtain⟨h1,h2,h3⟩:=ih
    have e1:i-j=(i-(j+1))+1:=by omega
    refine⟨by omega,?_,?_⟩
    .rw[e1];simpa using h2
    .rw[e1,Jg];exact⟨a,b,h3⟩
 |[],_::_,_,x=>x.elim
 |_::_,[],_,x=>x.elim
theorem w8{k xv:Value}:∀(es:List MapEntry)(i:Nat),(es.modify i λe=>{ e with key:=k,val:=xv }).map (·.born)=es.map (·.born)
 |[],i=>by simp
 |e::es,0=>by simp
 |e::es,i+1=>by simp[w8 es i]
theorem Eh{P:Program}{t T E:TypeId}{k:κ}{x:α}{xv:Value}{m:List (κ×α)}{o:Obj}{bk:Nat}{w:World}(hT:P.underlying t=some (.map T E))(hK:wz P T enc)(hb:w.heap[bk]? = some o)(hm:Mq enc V h o m)(hx:V h xv x):∃o',(Instr.mapUpdate t (.map (some bk)) (enc k) xv).run P w=.ok () { w with heap:=w.heap.setIfInBounds bk o' }/\Mq enc V h o' (mput m k x):=by
 obtain⟨es,c,rfl,h1,h2,h3⟩:=hm
 have hf:=hK.find k (m.map (·.1)) es w h1.keys
 have hp:=h1.put (k:=k) hx 0
 cases hr:findIn k (m.map (·.1)) es 0 with
 |none=>
  rw[hr]at hf hp
  refine⟨.map (es++[({ key:=enc k,val:=xv,born:=c }:MapEntry)]).toArray (c+1),?_,_,_,rfl,hp c,?_,?_⟩
  .simp only[Instr.mapUpdate,xP,run_underlying hT,zM,pX hb,hK.check,hf,CI hb]
   simp
  .rw[List.map_append,List.pairwise_append]
   refine⟨h2,by simp,?_⟩
   intro a ha b hb'
   simp at hb' ha
   obtain⟨e,he,rfl⟩:=ha
   subst hb';exact h3 e he
  .intro e he
   rcases List.mem_append.1 he with he|he
   .exact Nat.lt_succ_of_lt (h3 e he)
   .simp at he;subst he;exact Nat.lt_succ_self _
 |some p=>
  obtain⟨i,u⟩:=p
  rw[hr]at hf hp
  obtain⟨_,hk,hp⟩:=hp
  rw[Nat.sub_zero]at hp hk
  refine⟨.map (es.modify i λe=>{ e with key:=enc k,val:=xv }).toArray c,?_,_,_,rfl,hp,?_,?_⟩
  .have hke:((es[i]?).map (·.key)).getD (enc k)=enc k:=by rw[hk];rfl
   simp only[Instr.mapUpdate,xP,run_underlying hT,zM,pX hb,hK.check,hf]
   simp only[List.getElem?_toArray,hke,Instr.keyThatStays,hK.bits,if_true,aBj,zM,CI hb]
   simp
  .rw[w8];exact h2
  .intro e he
   have:e.born∈(es.modify i λe=>{ e with key:=enc k,val:=xv }).map (·.born):=vP he
   rw[w8]at this
   obtain⟨e',he',h4⟩:=jQ.1 this
   rw[←h4];exact h3 e' he'
theorem IU{P:Program}{t T E:TypeId}{k:κ}{m:List (κ×α)}{o:Obj}{bk:Nat}{w:World}{z:α}{zv:Value}(ok:Bool)(hT:P.underlying t=some (.map T E))(hK:wz P T enc)(hb:w.heap[bk]? = some o)(hm:Mq enc V h o m)(hz:(zeroValue E).run P w=.ok zv w)(hzv:V h zv z):∃v,(Instr.lookup t (.map (some bk)) (enc k) ok).run P w=.ok (if ok then .tuple #[v,.bool (mhas m k)]else v) w/\V h v (mgetD m k z):=by
 obtain⟨es,c,rfl,h1,h2,h3⟩:=hm
 have hf:=hK.find k (m.map (·.1)) es w h1.keys
 have hp:=h1.found (k:=k) 0
 cases hr:findIn k (m.map (·.1)) es 0 with
 |none=>
  rw[hr]at hf hp
  refine⟨zv,?_,by simp only[mgetD,hp];exact hzv⟩
  cases ok<;>simp[Instr.lookup,run_underlying hT,pX hb,hK.check,hf,hz,mhas,hp]
 |some p=>
  obtain⟨i,u⟩:=p
  rw[hr]at hf hp
  obtain⟨x,hx,hv⟩:=hp
  refine⟨u,?_,by simp only[mgetD,hx];exact hv⟩
  cases ok<;>simp[Instr.lookup,run_underlying hT,pX hb,hK.check,hf,mhas,hx]
theorem yP{P:Program}{t T E:TypeId}{k:κ}{x:α}{xv:Value}{m:List (κ×α)}{o:Obj}{bk:Nat}{w:World}(hT:P.underlying t=some (.map T E))(hK:wz P T enc)(hb:w.heap[bk]? = some o)(hm:ja enc V h o m)(hx:V h xv x):∃o',(Instr.mapUpdate t (.map (some bk)) (enc k) xv).run P w=.ok () { w with heap:=w.heap.setIfInBounds bk o' }/\ja enc V h o' (mput m k x):=by
 obtain⟨m',hp,hn,hm⟩:=hm
 obtain⟨o',h1,h2⟩:=Eh (k:=k) hT hK hb hm hx
 exact⟨o',h1,_,MQ k x hp hn,ow k x hn,h2⟩
theorem Kp{P:Program}{t T E:TypeId}{k:κ}{m:List (κ×α)}{o:Obj}{bk:Nat}{w:World}{z:α}{zv:Value}(ok:Bool)(hT:P.underlying t=some (.map T E))(hK:wz P T enc)(hb:w.heap[bk]? = some o)(hm:ja enc V h o m)(hz:(zeroValue E).run P w=.ok zv w)(hzv:V h zv z):∃v,(Instr.lookup t (.map (some bk)) (enc k) ok).run P w=.ok (if ok then .tuple #[v,.bool (mhas m k)]else v) w/\V h v (mgetD m k z):=by
 obtain⟨m',hp,hn,hm⟩:=hm
 have:=IU (k:=k) ok hT hK hb hm hz hzv
 simpa only[mhas,mgetD,MR hp hn k]using this
end lemmas
def zeroV(P:Program)(t:TypeId):Option Value:=(P.info? t).bind (·.zero)
theorem e8{P:Program}{t:TypeId}{z:Value}(hz:zeroV P t=some z)(w:World):(zeroValue t).run P w=.ok z w:=by
 unfold zeroV at hz
 cases hi:P.info? t with
 |none=>rw[hi]at hz;cases hz
 |some i=>
  rw[hi]at hz
  simp only[Option.bind_some]at hz
  simp[zeroValue,typeInfo,hi,hz]
theorem Dc{k:Int}:∀(l:List Int)(es:List MapEntry)(j:Nat),es.map (·.key)=l.map (xC .i64)->Instr.findNow (.int .i64) (.int .i64 k) es j=some (findIn k l es j)
 |[],[],_,_=>rfl
 |k'::l,e::es,j,hh=>by
  simp at hh
  simp only[Instr.findNow,Instr.sameNow,hh.1,findIn,if_true]
  by_cases hk:k=k'
  .simp[hk]
  .have:(k==k')=false:=by simpa using hk
   simp only[this,hk,if_false];exact Dc l es (j+1) (by simpa using hh.2)
 |[],_::_,_,hh=>by simp at hh
 |_::_,[],_,hh=>by simp at hh
theorem fC{P:Program}{T:TypeId}(hT:P.underlying T=some (.int .i64)):wz P T (xC .i64) where
 check:=λb a w=>by
  rw[show(10000:Nat)=9999+1 from rfl,Instr.checkKey]
  simp[run_underlying hT]
 find:=λk l es w hh=>by simp[Instr.findKey,run_underlying hT,Dc l es 0 hh]
 bits:=λa=>by simp[Instr.sameBits]
theorem w9{P:Program}{T:TypeId}{κ : Type}[DecidableEq κ]{enc:κ->Value}{fs:Array Field}(hT:P.underlying T=some (.struct fs))(hc:∀b a w,(Instr.checkKey b 10000 T (enc a)).run P w=.ok () w)(he:∀a b w,(Op.equal T (enc a) (enc b)).run P w=.ok (decide (a=b)) w)(hb:∀a,Instr.sameBits 10000 (enc a) (enc a)=true):wz P T enc where
 check:=hc
 bits:=hb
 find:=λk l es w hh=>by
  have ask:∀(l:List κ)(es:List MapEntry)(j:Nat),es.map (·.key)=l.map enc->(Instr.findAsking T (enc k) es j).run P w=.ok (findIn k l es j) w:=by
   intro l
   induction l with
   |nil=>intro es j hh;cases es with
    |nil=>simp[Instr.findAsking,findIn]
    |cons _ _=>simp at hh
   |cons k' l ih=>
    intro es j hh
    cases es with
    |nil=>simp at hh
    |cons e es=>
     simp at hh
     by_cases hk:k=k'
     .simp[Instr.findAsking,hh.1,he,findIn,hk]
     .simp[Instr.findAsking,hh.1,he,findIn,hk,ih es (j+1) (by simpa using hh.2)]
  cases es with
  |nil=>
   cases l with
   |nil=>simp[Instr.findKey,run_underlying hT,Instr.findNow,findIn]
   |cons _ _=>simp at hh
  |cons e es=>
   have:Instr.findNow (.struct fs) (enc k) (e::es) 0=none:=by simp[Instr.findNow,Instr.sameNow]
   simp[Instr.findKey,run_underlying hT,this,ask l (e::es) 0 hh]
def vm(_:HF)(v:Value)(x:Int):Prop:=v=.int .i64 x
def nz(_:HF)(v:Value)(x:Bool):Prop:=v=.bool x
def iT{α : Type}(R:Rp α)(h:HF)(v:Value)(x:α):Prop:=∃cs,v=.agg cs.toArray/\R.rep h cs x
def VSl{α : Type}(R:Rp α)(h:HF)(v:Value)(x:List α):Prop:=∃b c,v=.slice b x.length c/\SlC R h b c x
theorem vm.mono:zh vm:=λ_ _ _ _ _ e=>e
theorem nz.mono:zh nz:=λ_ _ _ _ _ e=>e
theorem iT.mono{α : Type}{R:Rp α}(hm:R.Mono):zh (iT R):=λ_ _ _ _ hl⟨cs,e,r⟩=>⟨cs,e,hm _ _ _ _ hl r⟩
theorem VSl.mono{α : Type}{R:Rp α}(hm:R.Mono):zh (VSl R):=λ_ _ _ _ hl⟨b,c,e,r⟩=>⟨b,c,e,r.mono hm hl⟩
section steps
variable {P:Program} {b:Frame} {n:Nat} {ops:Array Oper} {F:List Frame->(Machine->Prop)->Prop} {e:Env} {ds:List Deferred} {X:Cx} {h:HF} {L:LH} {K:Env->HF->LH->Prop}
variable {d:Option Nat} {ty:TypeId} {pos:String} {af:Array Edge} {g:Option (Nat×Bool)}
variable {κ α : Type} {enc:κ->Value} {V:HF->Value->α->Prop}
theorem nC{t:TypeId}(t':∀bk,K (pute e d (.map (some bk))) h ((bk,.map #[] 0)::L))(hg:guardB ops e ⟨d,.makeMap t none,ty,pos,af,g⟩=true:=by rfl):Stp P b n ops F ds X ⟨d,.makeMap t none,ty,pos,af,g⟩ e h L K:=
 iM hg λw hw=>⟨_,_,h,_,by simp[execOp,Instr.makeMap],hw.alloc _,t' _⟩
variable [DecidableEq κ]
theorem kb(i:Nat){t T E:TypeId}{mo ko xo:Operand}{bk:Nat}{o:Obj}{m:List (κ×α)}{k:κ}{x:α}(hT:P.underlying t=some (.map T E))(hK:wz P T enc)(hL:nth L i=some (bk,o))(hm:ja enc V h o m)(hmo:e.ev mo=.map (some bk))(hko:e.ev ko=enc k)(hx:V h (e.ev xo) x)(t':∀o',ja enc V h o' (mput m k x)->K e h (setNth L i (bk,o')))(hg:guardB ops e ⟨none,.mapUpdate t mo ko xo,ty,pos,af,g⟩=true:=by rfl):Stp P b n ops F ds X ⟨none,.mapUpdate t mo ko xo,ty,pos,af,g⟩ e h L K:=by
 unfold Stp
 rw[if_pos hg]
 intro w hw
 have hb:w.heap[bk]? = some o:=by
  have h2:=hL
  rw[im]at h2
  exact hw.own _ (xE h2)
 obtain⟨o',hr,hm'⟩:=yP (k:=k) hT hK hb hm hx
 have:(execOp e.ev ⟨none,.mapUpdate t mo ko xo,ty,pos,af,g⟩).run P w=.ok .skip { w with heap:=w.heap.setIfInBounds bk o' }:=by
  simp[execOp,hmo,hko,hr]
 rw[this]
 exact⟨h,_,hw.write hL _,t' o' hm'⟩
theorem DI{t T E:TypeId}{mo ko:Operand}{bk:Nat}{o:Obj}{m:List (κ×α)}{k:κ}{z:α}{zv:Value}(ok:Bool)(hT:P.underlying t=some (.map T E))(hK:wz P T enc)(hb:∀w,St X h L w->w.heap[bk]? = some o)(hm:ja enc V h o m)(hz:∀w,(zeroValue E).run P w=.ok zv w)(hzv:V h zv z)(hmo:e.ev mo=.map (some bk))(hko:e.ev ko=enc k)(t':∀v,V h v (mgetD m k z)->K (pute e d (if ok then .tuple #[v,.bool (mhas m k)]else v)) h L)(hg:guardB ops e ⟨d,.lookup t mo ko ok,ty,pos,af,g⟩=true):Stp P b n ops F ds X ⟨d,.lookup t mo ko ok,ty,pos,af,g⟩ e h L K:=
 iM hg λw hw=>by
  obtain⟨v,hr,hv⟩:=Kp (k:=k) ok hT hK (hb w hw) hm (hz w) hzv
  exact⟨_,w,h,L,by simp[execOp,hmo,hko,hr],hw,t' v hv⟩
theorem oN(i:Nat){t T E:TypeId}{mo ko:Operand}{bk:Nat}{o:Obj}{m:List (κ×α)}{k:κ}{z:α}{zv:Value}(hT:P.underlying t=some (.map T E))(hK:wz P T enc)(hL:nth L i=some (bk,o))(hm:ja enc V h o m)(hz:∀w,(zeroValue E).run P w=.ok zv w)(hzv:V h zv z)(hmo:e.ev mo=.map (some bk))(hko:e.ev ko=enc k)(t':∀v,V h v (mgetD m k z)->K (pute e d v) h L)(hg:guardB ops e ⟨d,.lookup t mo ko false,ty,pos,af,g⟩=true:=by rfl):Stp P b n ops F ds X ⟨d,.lookup t mo ko false,ty,pos,af,g⟩ e h L K:=
 DI false hT hK (λw hw=>by rw[im]at hL;exact hw.own _ (xE hL)) hm hz hzv hmo hko t' hg
theorem lv(i:Nat){t T E:TypeId}{mo ko:Operand}{bk:Nat}{o:Obj}{m:List (κ×α)}{k:κ}{z:α}{zv:Value}(hT:P.underlying t=some (.map T E))(hK:wz P T enc)(hL:nth L i=some (bk,o))(hm:ja enc V h o m)(hz:∀w,(zeroValue E).run P w=.ok zv w)(hzv:V h zv z)(hmo:e.ev mo=.map (some bk))(hko:e.ev ko=enc k)(t':∀v,V h v (mgetD m k z)->K (pute e d (.tuple #[v,.bool (mhas m k)])) h L)(hg:guardB ops e ⟨d,.lookup t mo ko true,ty,pos,af,g⟩=true:=by rfl):Stp P b n ops F ds X ⟨d,.lookup t mo ko true,ty,pos,af,g⟩ e h L K:=
 DI true hT hK (λw hw=>by rw[im]at hL;exact hw.own _ (xE hL)) hm hz hzv hmo hko t' hg
theorem nD{t T E:TypeId}{mo ko:Operand}{bk:Nat}{o:Obj}{m:List (κ×α)}{k:κ}{z:α}{zv:Value}(hT:P.underlying t=some (.map T E))(hK:wz P T enc)(hL:h bk=some o)(hm:ja enc V h o m)(hz:∀w,(zeroValue E).run P w=.ok zv w)(hzv:V h zv z)(hmo:e.ev mo=.map (some bk))(hko:e.ev ko=enc k)(t':∀v,V h v (mgetD m k z)->K (pute e d v) h L)(hg:guardB ops e ⟨d,.lookup t mo ko false,ty,pos,af,g⟩=true:=by rfl):Stp P b n ops F ds X ⟨d,.lookup t mo ko false,ty,pos,af,g⟩ e h L K:=
 DI false hT hK (λw hw=>hw.imm _ _ hL) hm hz hzv hmo hko t' hg
theorem tb{t T E:TypeId}{mo ko:Operand}{bk:Nat}{o:Obj}{m:List (κ×α)}{k:κ}{z:α}{zv:Value}(hT:P.underlying t=some (.map T E))(hK:wz P T enc)(hL:h bk=some o)(hm:ja enc V h o m)(hz:∀w,(zeroValue E).run P w=.ok zv w)(hzv:V h zv z)(hmo:e.ev mo=.map (some bk))(hko:e.ev ko=enc k)(t':∀v,V h v (mgetD m k z)->K (pute e d (.tuple #[v,.bool (mhas m k)])) h L)(hg:guardB ops e ⟨d,.lookup t mo ko true,ty,pos,af,g⟩=true:=by rfl):Stp P b n ops F ds X ⟨d,.lookup t mo ko true,ty,pos,af,g⟩ e h L K:=
 DI true hT hK (λw hw=>hw.imm _ _ hL) hm hz hzv hmo hko t' hg
end steps
end Go.Sg

namespace Go.Sg
def Itr{α : Type}(P:Program)(it:Value)(val:α->HF->List Value->Prop)(xs:List α)(h:HF):Prop:=
 ∃(f0:FuncId)(cap:List Value),it=.func (.func f0) #[] cap.toArray/\(∀args w,(callFunc f0 args).run P w=.ok (.enter f0 args) w)/\Na P it val xs h
theorem Itr.mono{α : Type}{P:Program}{it:Value}{val:α->HF->List Value->Prop}{xs:List α}{h h':HF}(i:Itr P it val xs h)(hl:h.le h'):Itr P it val xs h':=
 let ⟨f0,cap,a,b,c⟩:=i;⟨f0,cap,a,b,c.mono hl⟩
theorem sE{α : Type}{P:Program}{f:FuncId}{cap:List Value}{val:α->HF->List Value->Prop}{xs:List α}{h:HF}(hc:∀args w,(callFunc f args).run P w=.ok (.enter f args) w)(hr:∀(yf:Fn)(ya yb:Array Value)(C:List α->HF->LH->Prop)(Sp:HF->LH->Prop)(Pn:List PanicEntry->HF->LH->Prop)(h':HF)(A:LH),h.le h'->(∀done h1 h2 B,jM h1 h2->C done h1 B->C done h2 B)->(∀h1 h2 B,jM h1 h2->Sp h1 B->Sp h2 B)->(∀ch h1 h2 B,jM h1 h2->Pn ch h1 B->Pn ch h2 B)->C [] h' A ->
   (∀done x rest vs h'' B,xs=done++x::rest->h'.le h''->C done h'' B->val x h'' vs->mr P (.func yf ya yb) vs.toArray h'' B (YR C Sp Pn done x))->od P f (.func yf ya yb::cap).toArray h' A (ItR C Sp Pn xs)):
  Itr P (.func (.func f) #[] cap.toArray) val xs h:=⟨f,cap,rfl,hc,PF hc hr⟩
theorem yj(r:Nat)(o:Obj)(L M:LH):((r,o)::(L++M)).Perm (L++(r,o)::M):=List.perm_middle.symm
abbrev rdH(l r:Nat)(lp:Loop)(L:LH):LH:=(l,.loop { lp with state:=.busy })::(r,.deferred (some []))::L
theorem j3{α ι : Type}{P:Program}{f:FuncId}{fn:Func}{n:Nat}{k:List Item}{F:List Frame->(Machine->Prop)->Prop}{e:Env}{X:Cx}{h:HF}{L:LH}{g:Operand}{ps:List Tmp}{assign body:Code}{val:α->HF->List Value->Prop}{xs:List α}{it:Value}(rs:List Nat)(hh:ι->HF)(LL:ι->LH)(I:List α->ι->Prop)(JR JX:ι->Prop)(xid:Nat)(Q:List PanicEntry->HF->LH->Prop)(i₀ : ι)(hf:P.funcs[f]? = some fn)(hgv:e.ev g=it)(hit:Itr P it val xs h)(hps:ps.all (λp=>kR p n)=true)(hval:∀x h vs,val x h vs->vs.length=ps.length)(hQm:∀ch h1 h2 B,jM h1 h2->Q ch h1 B->Q ch h2 B)(hh0:hh i₀=h)(hL0:L=LL i₀)(h0:I xs i₀)(round:∀(l r:Nat)(lp:Loop)(x:α)(rest:List α)(vs:List Value)(i:ι)(h':HF)(X':Cx)(FR:List Frame->(Machine->Prop)->Prop),I (x::rest) i->h.le h'->(hh i).le h'->val x h' vs->X'.h0=h'->(∀b∈X'.M,b<X'.w0.heap.size)->lp.state=.ready ->
   (∀i' e' h2,I rest i'->(hh i').le h2->TT P (roundFrame l f) n [] FR e' [] X' h2 (rdH l r lp (LL i'++markB rs))) ->
   (∀i' e' h2 k',JR i'->(hh i').le h2->TT P (roundFrame l f) n (.code .ret::k') FR e' [] X' h2 (rdH l r lp (LL i'++markB rs))) ->
   (∀i' e' h2 k',JX i'->(hh i').le h2->exitTo xid k'=none->TT P (roundFrame l f) n (.code (.exit xid)::k') FR e' [] X' h2 (rdH l r lp (LL i'++markB rs))) ->
   (∀ch e' h' L',Q ch h' L'->TP P (roundFrame l f) n ch FR e' [] X' h' (rdH l r lp (L'++markB rs))) ->
   TT P (roundFrame l f) n [.code assign,.beginRound,.code body] FR (setParams e ps vs) [] X' h' ((l,.loop lp)::(r,.deferred (some []))::(LL i++markB rs)))(next:∀r i h',I [] i->(hh i).le h'->h.le h'->TT P (bodyFrame f) n k F e (marks (r::rs)) X h' (LL i++markB (r::rs)))(jret:∀r i h',JR i->(hh i).le h'->h.le h'->TT P (bodyFrame f) n (.code .ret::k) F e (marks (r::rs)) X h' (LL i++markB (r::rs)))(jexit:∀r i h',JX i->(hh i).le h'->h.le h'->TT P (bodyFrame f) n (.code (.exit xid)::k) F e (marks (r::rs)) X h' (LL i++markB (r::rs)))(pan:∀r ch h' L',Q ch h' L'->h.le h'->TP P (bodyFrame f) n ch F e (marks (r::rs)) X h' (L'++markB (r::rs))):
  TT P (bodyFrame f) n (.code (.rangeFunc g ps.toArray assign body)::k) F e (marks rs) X h (L++markB rs):=by
 obtain⟨f0,cap,rfl,hc0,hit⟩:=hit
 refine NJ (val:=val) (xs:=xs)
  (λdone h' B=>∃rest i,xs=done++rest/\(hh i).le h'/\B=LL i++markB rs/\I rest i)
  (λc h' B=>∃i,(hh i).le h'/\B=LL i++markB rs/\((c=.ret/\JR i)\/(c=.exit xid/\JX i)))
  (λch h' B=>∃L',B=L'++markB rs/\Q ch h' L') hgv hc0 hit hps hval ?_ ?_ ?_ ⟨xs,i₀,rfl,hh0▸qP _,by rw[hL0],h0⟩ ?_ ?_ ?_ ?_
 .rintro done h1 h2 B hl ⟨rest,i,a,b,c⟩;exact⟨rest,i,a,zF b hl,c⟩
 .rintro c h1 h2 B hl ⟨i,a,b⟩;exact⟨i,zF a hl,b⟩
 .rintro ch h1 h2 B hl ⟨L',e1,a⟩;exact⟨L',e1,hQm _ _ _ _ hl a⟩
 .rintro l r lp done x rest vs h' L' X' hxs hle ⟨rest',i,hxs',hhi,rfl,hI⟩ hv hlp hX' hXM
  have hrest:rest'=x::rest:=List.append_cancel_left (hxs'.symm.trans hxs)
  subst hrest
  refine round l r lp x rest vs i h' X' _ hI hle hhi hv hX' hXM hlp ?_ ?_ ?_ ?_
  .intro i' e' h2 hI' hl
   exact HK rfl ⟨rest,i',by rw[hxs];simp,hl,rfl,hI'⟩
  .intro i' e' h2 k' hJ hl
   exact Qr rfl ⟨i',hl,rfl,.inl ⟨rfl,hJ⟩⟩
  .intro i' e' h2 k' hJ hl hx
   exact Pu hx rfl ⟨i',hl,rfl,.inr ⟨rfl,hJ⟩⟩
  .intro ch e' h' L' hQ
   exact Qt hf ⟨L',rfl,hQ⟩
 .rintro r h' L' hle ⟨rest,i,hxs,hl,rfl,hI⟩
  have hrest:rest=[]:=by
   have h2:=congrArg List.length hxs
   rw[List.length_append]at h2
   exact List.length_eq_zero_iff.1 (by omega)
  subst hrest
  exact lH (yj r _ _ _) (next r i h' hI hl hle)
 .rintro r c h' L' hle ⟨i,hl,rfl,⟨rfl,hJ⟩|⟨rfl,hJ⟩⟩
  .exact lH (yj r _ _ _) (jret r i h' hJ hl hle)
  .exact lH (yj r _ _ _) (jexit r i h' hJ hl hle)
 .rintro r ch h' L' hle ⟨L',rfl,hQ⟩
  exact Lp (yj r _ _ _) (pan r ch h' L' hQ hle)
section yield
variable {P:Program} {b:Frame} {n:Nat} {ops:Array Oper} {F:List Frame->(Machine->Prop)->Prop} {e:Env} {ds:List Deferred} {X:Cx} {h:HF} {L:LH} {K:Env->HF->LH->Prop}
variable {d:Option Nat} {ty:TypeId} {pos:String} {af:Array Edge} {g:Option (Nat×Bool)}
theorem kp{α : Type}(Fr A:LH){C:List α->HF->LH->Prop}{Sp:HF->LH->Prop}{Pn:List PanicEntry->HF->LH->Prop}{done:List α}{x:α}{t:Nat}{as:Array Operand}{ats:Array TypeId}{fv:Value}{vs:List Value}(hL:L=Fr++A)(hs:mr P fv vs.toArray h A (YR C Sp Pn done x))(hf:e t=fv)(hvs:as.toList.map e.ev=vs)(yes:∀h' B,h.le h'->C (done++[x]) h' B->K (pute e d (.bool true)) h' (Fr++B))(no:∀h' B,h.le h'->Sp h' B->K (pute e d (.bool false)) h' (Fr++B))(pan:∀ch h' B,h.le h'->Pn ch h' B->∀e',TP P b n ch F e' ds X h' (Fr++B))(hg:guardB ops e ⟨d,.call ⟨.value (.tmp t),as,ats⟩,ty,pos,af,g⟩=true:=by rfl):
  Stp P b n ops F ds X ⟨d,.call ⟨.value (.tmp t),as,ats⟩,ty,pos,af,g⟩ e h L K:=by
 refine AJ Fr A hL hs hf hvs ?_ ?_ hg
 .rintro v h' B hle (⟨e1,hC⟩|⟨e1,hS⟩|⟨ch,e1,_⟩)
  .cases e1;exact yes h' B hle hC
  .cases e1;exact no h' B hle hS
  .cases e1
 .rintro ch h' B hle (⟨e1,_⟩|⟨e1,_⟩|⟨ch',e1,hP⟩)
  .cases e1
  .cases e1
  .cases e1;exact pan ch h' B hle hP
theorem NT{α : Type}(Fr A M:LH){C:List α->HF->LH->Prop}{Sp:HF->LH->Prop}{Pn:List PanicEntry->HF->LH->Prop}{done:List α}{x:α}{t:Nat}{as:Array Operand}{ats:Array TypeId}{fv:Value}{vs:List Value}(hL:L=Fr++(A++M))(hs:mr P fv vs.toArray h A (YR C Sp Pn done x))(hf:e t=fv)(hvs:as.toList.map e.ev=vs)(yes:∀h' B,h.le h'->C (done++[x]) h' B->K (pute e d (.bool true)) h' (Fr++(B++M)))(no:∀h' B,h.le h'->Sp h' B->K (pute e d (.bool false)) h' (Fr++(B++M)))(pan:∀ch h' B,h.le h'->Pn ch h' B->∀e',TP P b n ch F e' ds X h' (Fr++(B++M)))(hg:guardB ops e ⟨d,.call ⟨.value (.tmp t),as,ats⟩,ty,pos,af,g⟩=true:=by rfl):
  Stp P b n ops F ds X ⟨d,.call ⟨.value (.tmp t),as,ats⟩,ty,pos,af,g⟩ e h L K:=by
 have hp:∀B:LH,((Fr++M)++B).Perm (Fr++(B++M)):=λB=>by
  rw[qE];exact List.Perm.append_left Fr jJ
 have key:=kp (K:=λe' h' L'=>∃L'',L'.Perm L''/\K e' h' L'') (L:=(Fr++M)++A) (P:=P) (b:=b) (n:=n) (ops:=ops) (F:=F) (ds:=ds) (X:=X) (d:=d) (ty:=ty) (pos:=pos) (af:=af) (g:=g) (Fr++M) A rfl hs hf hvs
  (λh' B hl hc=>⟨_,hp B,yes h' B hl hc⟩) (λh' B hl hc=>⟨_,hp B,no h' B hl hc⟩) (λch h' B hl hc e'=>Lp (hp B) (pan ch h' B hl hc e')) hg
 unfold Stp at key ⊢
 rw[if_pos hg]at key ⊢
 intro w hw
 subst hL
 have h1:=key w (hw.perm (hp A).symm)
 revert h1
 have up:∀e',∀w'':World,(∃h' L',St X h' L' w''/\∃L'',L'.Perm L''/\K e' h' L'')->∃h' L',St X h' L' w''/\K e' h' L':=by
  rintro e' w'' ⟨h',L',hst,L'',hpm,hk⟩;exact⟨h',L'',hst.perm hpm,hk⟩
 intro h1
 cases hr:(execOp e.ev ⟨d,.call ⟨.value (.tmp t),as,ats⟩,ty,pos,af,g⟩).run P w with
 |ok nx w'=>
  rw[hr]at h1
  cases nx with
  |skip=>exact up _ _ h1
  |value v=>exact up _ _ h1
  |enter f args=>
   unfold wd at h1 ⊢
   refine uN.mono (nx:=.enter f args) h1 ?_
   intro x w'' hx
   cases x with
   |returned v=>exact up _ _ hx
   |panicked ch=>exact hx
   |outgrown=>trivial
  |round l f tmps assign body=>
   unfold wd at h1 ⊢
   refine uN.mono (nx:=.round l f tmps assign body) h1 ?_
   intro x w'' hx
   cases x with
   |returned v=>exact up _ _ hx
   |panicked ch=>exact hx
   |outgrown=>trivial
  |_=>exact h1
 |halt hlt w'=>
  rw[hr]at h1
  cases hlt<;>first|exact h1|exact h1.elim
end yield
theorem jg{P:Program}{f:FuncId}{fn:Func}{c:Code}{n:Nat}{args:List Value}{h:HF}{A:LH}{R:Ending->HF->LH->Prop}(hf:P.funcs[f]? = some fn)(hb:fn.body=some c)(hn:fn.ntmps=n)(hle:Nat.ble args.length n=true)(t:∀X:Cx,(∀b∈X.M,b<X.w0.heap.size)->X.h0=h->TT P (bodyFrame f) n [.code c] (lS P X R) (envArgs args) [] X h A):od P f args.toArray h A R:=by
 intro w p caller cs Φ h1 h2
 have hle:=vQ hle
 have henter:aAb P f args.toArray .normal=(bodyFrame f).atR { tmps:=args.toArray++aAL (n-args.length) undef,defers:=[] } [.code c]:=by
  simp[aAb,aA6,hf,hb,hn,bodyFrame]
 rw[henter]
 exact t ⟨w,h,A.map (·.1)⟩ (λb hb=>by obtain⟨p',hp',rfl⟩:=jQ.1 hb;exact ib (p.own p' hp')) rfl w (aBd p) _ (caller::cs) Φ (by simp;omega) (oz _ _) rfl ⟨caller,cs,rfl,h1,h2⟩
theorem NY{P:Program}{b:Frame}{n:Nat}{ops:Array Oper}{F:List Frame->(Machine->Prop)->Prop}{e:Env}{ds:List Deferred}{X:Cx}{h:HF}{L:LH}{K:Env->HF->LH->Prop}{d:Option Nat}{ty:TypeId}{pos:String}{af:Array Edge}{g:Option (Nat×Bool)}{t:TypeId}(hXM:∀b∈X.M,b<X.w0.heap.size)(t':∀bk,bk∉X.M->K (pute e d (.map (some bk))) h ((bk,.map #[] 0)::L))(hg:guardB ops e ⟨d,.makeMap t none,ty,pos,af,g⟩=true:=by rfl):Stp P b n ops F ds X ⟨d,.makeMap t none,ty,pos,af,g⟩ e h L K:=
 iM hg λw hw=>⟨_,_,h,_,by simp[execOp,Instr.makeMap],hw.alloc _,t' _ (λhm=>by have:=hXM _ hm;have:=hw.size;omega)⟩
section freezeN
variable {P:Program} {b:Frame} {n:Nat} {k:List Item} {F:List Frame->(Machine->Prop)->Prop} {e:Env} {ds:List Deferred} {X:Cx} {h:HF} {L:LH} {ops:Array Oper} {l:List Oper}
theorem D5(i:Nat){bk:Nat}{o:Obj}(hi:nth L i=some (bk,o))(hM:bk∉X.M)(t:∀h2,h.le h2->h2 bk=some o->TO P b n ops l k F e ds X h2 (dropNth L i)):TO P b n ops l k F e ds X h L:=by
 intro w hw
 have h1:=hw.perm (pj L i _ hi)
 exact t _ (HF.Cd (h1.free (bk,o) (by simp))) (HF.xZ _ _ _) w (h1.freeze hM)
end freezeN
def s7{κ α : Type}(enc:κ->Value)(V:HF->Value->α->Prop)(h:HF)(bk:Nat)(m:List (κ×α)):Prop:=∃o,h bk=some o/\ja enc V h o m
theorem s7.mono{κ α : Type}{enc:κ->Value}{V:HF->Value->α->Prop}{h h':HF}{bk:Nat}{m:List (κ×α)}(c:s7 enc V h bk m)(hV:zh V)(hl:h.le h'):s7 enc V h' bk m:=
 let ⟨o,a,b⟩:=c;⟨o,hl _ _ a,b.mono hV hl⟩
section ends
variable {α : Type} {P:Program} {f:FuncId} {n:Nat} {k:List Item} {e:Env} {X:Cx} {h:HF} {L:LH} {fn:Func} {C:List α->HF->LH->Prop} {Sp:HF->LH->Prop} {Pn:List PanicEntry->HF->LH->Prop} {xs:List α}
theorem mF(rs:List Nat){A:LH}(hf:P.funcs[f]? = some fn)(hr:fn.results=#[])(hA:A.Sublist L)(hR:C xs h A\/Sp h A):TT P (bodyFrame f) n (.code .ret::k) (lS P X (ItR C Sp Pn xs)) e (marks rs) X h (L++markB rs):=
 uO rs hf (λa _ w _=>mb hr a w) (λw hw=>hw.sub hA) (.inl ⟨rfl,hR⟩)
theorem sF(rs:List Nat){A:LH}(hf:P.funcs[f]? = some fn)(hr:fn.results=#[])(hA:A.Sublist L)(hR:C xs h A\/Sp h A):TT P (bodyFrame f) n [] (lS P X (ItR C Sp Pn xs)) e (marks rs) X h (L++markB rs):=
 Lo rs hf (λa _ w _=>mb hr a w) (λw hw=>hw.sub hA) (.inl ⟨rfl,hR⟩)
theorem mP(rs:List Nat){A:LH}{ch:List PanicEntry}(hf:P.funcs[f]? = some fn)(hA:A.Sublist L)(hR:Pn ch h A):TP P (bodyFrame f) n ch (lS P X (ItR C Sp Pn xs)) e (marks rs) X h (L++markB rs):=
 Hx rs hf (λw hw=>hw.sub hA) (.inr ⟨ch,rfl,hR⟩)
end ends
section ends2
variable {P:Program} {f:FuncId} {n:Nat} {k:List Item} {e:Env} {X:Cx} {h:HF} {L:LH} {fn:Func} {φ : Value->HF->Prop}
theorem et{b:Frame}{todo:List Item}{F:List Frame->(Machine->Prop)->Prop}(t:TT P b n todo F e (marks []) X h (L++markB [])):TT P b n todo F e [] X h L:=by
 have:L++markB []=L:=by simp[markB]
 rw[this]at t;exact t
theorem cn{b:Frame}{todo:List Item}{F:List Frame->(Machine->Prop)->Prop}{ds:List Deferred}{L':LH}(hL:L=L')(t:TT P b n todo F e ds X h L'):TT P b n todo F e ds X h L:=hL▸t
theorem pV(ms:List Nat){rs:List ResultVar}(vs:List Value)(hf:P.funcs[f]? = some fn)(hr:fn.results=rs.toArray)(hv:tJ P e L rs vs)(hφ : φ (retVal vs) h):
  TT P (bodyFrame f) n (.code .ret::k) (lS P X (λx h' B=>B=[]/\∃v,x=.returned v/\φ v h')) e (marks ms) X h (L++markB ms):=
 uO ms (v:=retVal vs) hf (λa he w hw=>mA hr hv a he w hw) (λ_ hw=>hw.sub (List.nil_sublist _)) ⟨rfl,_,rfl,hφ⟩
theorem rY(ms:List Nat){rs:List ResultVar}{v:Value}{hh:HF}(vs:List Value)(hf:P.funcs[f]? = some fn)(hr:fn.results=rs.toArray)(hX:X.h0=hh)(hv:tJ P e L rs vs)(hvv:retVal vs=v):
  TT P (bodyFrame f) n (.code .ret::k) (lS P X (λx h' B=>x=.returned v/\h'=hh/\B=[])) e (marks ms) X h (L++markB ms):=
 uO ms (v:=v) hf (λa he w hw=>hvv▸mA hr hv a he w hw) (λ_ hw=>hw.forget) ⟨rfl,hX,rfl⟩
def XR(v:Except Value Value)(hh:HF)(x:Ending)(h':HF)(B:LH):Prop:=
 h'=hh/\B=[]/\match v with
  |.ok u=>x=.returned u
  |.error p=>x=.panicked [{ v:=p,recovered:=false }]
abbrev Gu(P:Program)(f:FuncId)(args:List Value)(h:HF)(v:Except Value Value):Prop:=od P f args.toArray h [] (XR v h)
theorem yc(ms:List Nat){rs:List ResultVar}{v:Except Value Value}{hh:HF}(vs:List Value)(hf:P.funcs[f]? = some fn)(hr:fn.results=rs.toArray)(hX:X.h0=hh)(hv:tJ P e L rs vs)(hvv:v=.ok (retVal vs)):
  TT P (bodyFrame f) n [] (lS P X (XR v hh)) e (marks ms) X h (L++markB ms):=
 Lo ms (v:=retVal vs) hf (λa he w hw=>mA hr hv a he w hw) (λ_ hw=>hw.forget) (by subst hvv;exact⟨hX,rfl,rfl⟩)
theorem nB(ms:List Nat){v:Except Value Value}{hh:HF}{p:Value}(hf:P.funcs[f]? = some fn)(hX:X.h0=hh)(hvv:v=.error p):
  TP P (bodyFrame f) n [{ v:=p,recovered:=false }] (lS P X (XR v hh)) e (marks ms) X h (L++markB ms):=
 Hx ms hf (λ_ hw=>hw.forget) (by subst hvv;exact⟨hX,rfl,rfl⟩)
theorem gH{b:Frame}{ch:List PanicEntry}{F:List Frame->(Machine->Prop)->Prop}(t:TP P b n ch F e (marks []) X h (L++markB [])):TP P b n ch F e [] X h L:=by
 have:L++markB []=L:=by simp[markB]
 rw[this]at t;exact t
end ends2
section stepsX
variable {P:Program} {b:Frame} {n:Nat} {ops:Array Oper} {F:List Frame->(Machine->Prop)->Prop} {e:Env} {ds:List Deferred} {X:Cx} {h:HF} {L:LH} {K:Env->HF->LH->Prop}
variable {d:Option Nat} {ty:TypeId} {pos:String} {af:Array Edge} {g:Option (Nat×Bool)}
theorem my{f:FuncId}{as:Array Operand}{ats:Array TypeId}{vs:List Value}{v:Except Value Value}(hc:∀args w,(callFunc f args).run P w=.ok (.enter f args) w)(hs:Gu P f vs h v)(hvs:as.toList.map e.ev=vs)(t':∀u,v=.ok u->K (pute e d u) h L)(tp:∀p,v=.error p->∀e',TP P b n [{ v:=p,recovered:=false }] F e' ds X h L)(hg:guardB ops e ⟨d,.call ⟨.value (.func f),as,ats⟩,ty,pos,af,g⟩=true:=by rfl):
  Stp P b n ops F ds X ⟨d,.call ⟨.value (.func f),as,ats⟩,ty,pos,af,g⟩ e h L K:=
 mO (A:=[]) (Fr:=L) hc hvs hs rfl (λv' h' B _ hR=>by
   obtain⟨rfl,rfl,hv⟩:=hR
   cases v with
   |ok u=>cases hv;exact t' _ rfl
   |error p=>cases hv)
  (λch h' B _ hR=>by
   obtain⟨rfl,rfl,hv⟩:=hR
   cases v with
   |ok u=>cases hv
   |error p=>cases hv;exact tp _ rfl) hg
theorem yg{P:Program}{t:TypeId}{v:Value}(w:World):(Instr.panic (.iface t v)).run P w=.halt (.panic (.iface t v)) w:=by simp[Instr.panic,goPanic]
theorem DO{t:TypeId}{x:Operand}{v:Value}{T:TypeDesc}(hT:P.underlying t=some T)(hi:(match T with|.interface _=>false|_=>true)=true)(hx:e.ev x=v):
  ∀w,St X h L w->(execOp e.ev ⟨d,.makeInterface t x,ty,pos,af,g⟩).run P w=.ok (.value (.iface t v)) w:=λw _=>by
 cases T<;>simp_all [execOp,Instr.makeInterface,run_underlying hT]
theorem DK{x:Operand}{p:Value}(hx:e.ev x=p)(hp:∀w:World,(Instr.panic p).run P w=.halt (.panic p) w)(tp:∀e',TP P b n [{ v:=p,recovered:=false }] F e' ds X h L)(hg:guardB ops e ⟨d,.panic x,ty,pos,af,g⟩=true:=by rfl):Stp P b n ops F ds X ⟨d,.panic x,ty,pos,af,g⟩ e h L K:=by
 unfold Stp
 rw[if_pos hg]
 intro w hw
 have:(execOp e.ev ⟨d,.panic x,ty,pos,af,g⟩).run P w=.halt (.panic p) w:=by
  simp[execOp,hx,hp]
 rw[this]
 exact⟨h,L,hw,tp⟩
end stepsX
end Go.Sg

namespace Go.Sg
def eqv:Option Value->Option Value->Bool
 |some (.int _ a),some (.int _ b)=>a==b
 |some (.bool a),some (.bool b)=>a==b
 |_,_=>false
def okF(P:Program)(xs ys:List Value)(f:Field):Bool:=
 !(f.name == "_") && (match tySz P f.type with|some (1, false) => true|_ => false) && (match P.underlying f.type, nth xs f.offset, nth ys f.offset with
  |some (.int _),some (.int j _),some (.int k _)=>decide (j=k)
  |some .bool,some (.bool _),some (.bool _)=>true
  |_,_,_=>false)
theorem rM{P:Program}{t:TypeId}{xs:List Value}{off:Nat}{v:Value}(hT:tySz P t=some (1,false))(hv:nth xs off=some v)(w:World):(part t xs.toArray off).run P w=.ok v w:=by
 rw[im]at hv
 simp[part,DZ hT,gD hT,hv]
theorem GY{P : Program}{xs ys : List Value}{f : Field}(h : okF P xs ys f = true) : f.name ≠ "_" /\ tySz P f.type = some (1, false) /\
  ((∃k j a b,P.underlying f.type=some (.int k)/\nth xs f.offset=some (.int j a)/\nth ys f.offset=some (.int j b))\/∃a b,P.underlying f.type=some .bool/\nth xs f.offset=some (.bool a)/\nth ys f.offset=some (.bool b)):=by
 unfold okF at h
 rw[xB,xB]at h
 obtain⟨⟨hn,ht⟩,hv⟩:=h
 refine⟨by simpa using hn,?_,?_⟩
 .split at ht
  .assumption
  .cases ht
 .split at hv
  .rename_i h1 h2 h3
   have:=of_decide_eq_true hv
   subst this
   exact .inl ⟨_,_,_,_,h1,h2,h3⟩
  .rename_i h1 h2 h3
   exact .inr ⟨_,_,h1,h2,h3⟩
  .cases hv
theorem AM{P:Program}{d:Nat}{xs ys:List Value}(w:World):∀(fs:List Field),fs.all (okF P xs ys)=true ->
  (Op.eqFields (d+1) xs.toArray ys.toArray fs).run P w=.ok (fs.all λf=>eqv (nth xs f.offset) (nth ys f.offset)) w
 |[],_=>by simp[Op.eqFields]
 |f::fs,h=>by
  rw[List.all_cons,xB]at h
  obtain⟨h1,h2⟩:=h
  have ih:=AM (d:=d) w fs h2
  obtain⟨hn,hT,⟨k,j,a,b,hu,hx,hy⟩|⟨a,b,hu,hx,hy⟩⟩:=GY h1
  .rw[Op.eqFields,if_pos hn,List.all_cons,hx,hy]
   simp only[xP,rM hT hx,rM hT hy,zM,run_equalIn_int w d _ _ _ _ _ hu,eqv]
   cases hab:(a==b)
   .simp
   .simp only[Bool.not_true,xV,if_false,Bool.true_and];exact ih
  .rw[Op.eqFields,if_pos hn,List.all_cons,hx,hy]
   simp only[xP,rM hT hx,rM hT hy,zM,run_equalIn_bool' w d _ _ _ hu,eqv]
   cases hab:(a==b)
   .simp
   .simp only[Bool.not_true,xV,if_false,Bool.true_and];exact ih
theorem rB{P:Program}{t:TypeId}{fs:List Field}{xs ys:List Value}{r:Bool}(hT:P.underlying t=some (.struct fs.toArray))(hp:P.stoodInHeld t=false)(hok:fs.all (okF P xs ys)=true)(hr:(fs.all λf=>eqv (nth xs f.offset) (nth ys f.offset))=r)(w:World):(Op.equal t (.agg xs.toArray) (.agg ys.toArray)).run P w=.ok r w:=by
 have hf:P.fieldsOf t=fs.toArray:=by simp[Program.fieldsOf,hT]
 have:=run_equalIn_struct (P:=P) w 9999 t xs.toArray ys.toArray (by rw[hf];exact hT) hp
 rw[hf]at this
 rw[Op.equal,Op.maxDepth,this,←hr]
 exact AM w fs hok
theorem sn{P:Program}{t:TypeId}{fs:List Field}{xs:List Value}(e:Bool)(hT:P.underlying t=some (.struct fs.toArray))(hok:fs.all (okF P xs xs)=true)(w:World):
  (Instr.checkKey e 10000 t (.agg xs.toArray)).run P w=.ok () w:=by
 rw[show(10000:Nat)=9999+1 from rfl,Instr.checkKey]
 simp only[xP,run_underlying hT,zM]
 rw[←Array.forIn_toList]
 simp only
 clear hT
 induction fs with
 |nil=>simp
 |cons f fs ih=>
  rw[List.all_cons,xB]at hok
  have ih:=ih hok.2
  obtain⟨hn,hT,⟨k,j,a,b,hu,hx,hy⟩|⟨a,b,hu,hx,hy⟩⟩:=GY hok.1
  .have hc:(Instr.checkKey e 9999 f.type (.int j a)).run P w=.ok () w:=by
    rw[show(9999:Nat)=9998+1 from rfl,Instr.checkKey]
    simp[run_underlying hu]
   simp only[List.forIn_cons,if_pos hn,xP,rM hT hx,zM,hc,aBj]
   simpa using ih
  .have hc:(Instr.checkKey e 9999 f.type (.bool a)).run P w=.ok () w:=by
    rw[show(9999:Nat)=9998+1 from rfl,Instr.checkKey]
    simp[run_underlying hu]
   simp only[List.forIn_cons,if_pos hn,xP,rM hT hx,zM,hc,aBj]
   simpa using ih
theorem Ea(vs:List Value):∀(cl:List Value),vs.length=cl.length->splice cl 0 vs=vs:=by
 intro cl hl
 have:=ye vs [] cl (by omega)
 simp at this
 rw[this,hl]
 simp
theorem aQ{P:Program}{b:Frame}{n:Nat}{k:List Item}{F:List Frame->(Machine->Prop)->Prop}{e:Env}{ds:List Deferred}{X:Cx}{h:HF}{L:LH}{ops:Array Oper}{l:List Oper}{ty:TypeId}{pos:String}{af:Array Edge}{g:Option (Nat×Bool)}(i:Nat){t:TypeId}{x y:Operand}{m bk T:Nat}{a:Bool}{cl vs:List Value}(hT:tySz P t=some (m,a))(hx:e.ev x=.pointer (some ⟨bk,0,none⟩))(hL:nth L i=some (bk,.cells cl.toArray T (0,0)))(hv:e.ev y=.agg vs.toArray)(hm:vs.length=m)(hc:cl.length=m)(h1:vs.all one=true)(t':TO P b n ops l k F e ds X h (setNth L i (bk,.cells vs.toArray T (0,0))))(hg:guardB ops e ⟨none,.store t x y,ty,pos,af,g⟩=true:=by rfl):TO P b n ops (⟨none,.store t x y,ty,pos,af,g⟩::l) k F e ds X h L:=by
 refine cT i hT hx hL (vs:=vs) (by rw[hv];simp[vcells]) hm (by rw[Nat.zero_add,hm,hc];simp) h1 ?_ hg
 rw[Ea vs cl (by rw[hm,hc])]
 exact t'
section runs
variable {P:Program} {e:Env} {X:Cx} {h:HF} {L:LH} {d:Option Nat} {ty:TypeId} {pos:String} {af:Array Edge} {g:Option (Nat×Bool)}
theorem Ly{t u:TypeId}{x y:Operand}{xs ys:Array Value}{r:Bool}(hq:∀w,(Op.equal t (.agg xs) (.agg ys)).run P w=.ok r w)(hm:P.eqGuardType P.depth t=false)(hx:e.ev x=.agg xs)(hy:e.ev y=.agg ys):
  ∀w,St X h L w->(execOp e.ev ⟨d,.binOp .eql t x y u,ty,pos,af,g⟩).run P w=.ok (.value (.bool r)) w:=
 λw _=>by
  have h1:=run_eqGuard_agg (P:=P) w .eql t x y xs ys hm
  have h2:=hq w
  simp[execOp,hx,hy,h1,binOp,h2]
theorem HL{t:TypeId}{x ix:Operand}{s:ByteArray}{i:Int}(hT:P.underlying t=some .string)(hx:e.ev x=.string s)(hix:e.ev ix=.int .i64 i)(hi:0<=i/\i<(s.size:Int)):
  ∀w,St X h L w->(execOp e.ev ⟨d,.index t x ix,ty,pos,af,g⟩).run P w=.ok (.value (.int .u8 ((s.data.getD i.toNat 0).toNat:Nat))) w:=
 λw _=>by
  obtain⟨n,rfl⟩:=Int.eq_ofNat_of_zero_le hi.1
  have hn:n<s.size:=by omega
  have hn':n<s.data.size:=hn
  simp[execOp,Instr.index,hix,hx,asIntOf,run_underlying hT,hn]
  rfl
end runs
end Go.Sg

namespace Go.Sg
structure Holder where
 Person:Int
 Weight:Int
deriving DecidableEq
instance:Inhabited Holder:=⟨⟨0,0⟩⟩
def Holder.cells(x:Holder):List Go.Value:=[.int .i64 x.Person,.int .i64 x.Weight]
abbrev Holder.enc(x:Holder):Go.Value:=.agg (Holder.cells x).toArray
def Holder.rp:Rp Holder:=⟨2,λ_ cs x=>cs=Holder.cells x⟩
theorem Holder.aj:Holder.rp.Mono:=λ_ _ _ _ _ e=>e
theorem Holder.eQ:Holder.rp.Good:=⟨Holder.aj,λ_ _ _ e=>by cases e;rfl,by decide⟩
structure Use where
 Doc:Int
 Kind:Int
 Value:Int
 At:Int
 Known:Int
deriving DecidableEq
instance:Inhabited Use:=⟨⟨0,0,0,0,0⟩⟩
def Use.cells(x:Use):List Go.Value:=[.int .i64 x.Doc,.int .i64 x.Kind,.int .i64 x.Value,.int .i64 x.At,.int .i64 x.Known]
abbrev Use.enc(x:Use):Go.Value:=.agg (Use.cells x).toArray
def Use.rp:Rp Use:=⟨5,λ_ cs x=>cs=Use.cells x⟩
theorem Use.aj:Use.rp.Mono:=λ_ _ _ _ _ e=>e
theorem Use.eQ:Use.rp.Good:=⟨Use.aj,λ_ _ _ e=>by cases e;rfl,by decide⟩
structure Appoint where
 No:Int
 At:Int
 Known:Int
 Office:Int
 Person:Int
 Weight:Int
 Gone:Bool
deriving DecidableEq
instance:Inhabited Appoint:=⟨⟨0,0,0,0,0,0,false⟩⟩
def Appoint.cells(x:Appoint):List Go.Value:=[.int .i64 x.No,.int .i64 x.At,.int .i64 x.Known,.int .i64 x.Office,.int .i64 x.Person,.int .i64 x.Weight,.bool x.Gone]
abbrev Appoint.enc(x:Appoint):Go.Value:=.agg (Appoint.cells x).toArray
def Appoint.rp:Rp Appoint:=⟨7,λ_ cs x=>cs=Appoint.cells x⟩
theorem Appoint.aj:Appoint.rp.Mono:=λ_ _ _ _ _ e=>e
theorem Appoint.eQ:Appoint.rp.Good:=⟨Appoint.aj,λ_ _ _ e=>by cases e;rfl,by decide⟩
structure Deputy where
 No:Int
 At:Int
 Known:Int
 Until:Int
 From:Int
 To:Int
 Office:Int
 Kind:Int
 Most:Int
 Gone:Bool
deriving DecidableEq
instance:Inhabited Deputy:=⟨⟨0,0,0,0,0,0,0,0,0,false⟩⟩
def Deputy.cells(x:Deputy):List Go.Value:=[.int .i64 x.No,.int .i64 x.At,.int .i64 x.Known,.int .i64 x.Until,.int .i64 x.From,.int .i64 x.To,.int .i64 x.Office,.int .i64 x.Kind,.int .i64 x.Most,.bool x.Gone]
abbrev Deputy.enc(x:Deputy):Go.Value:=.agg (Deputy.cells x).toArray
def Deputy.rp:Rp Deputy:=⟨10,λ_ cs x=>cs=Deputy.cells x⟩
theorem Deputy.aj:Deputy.rp.Mono:=λ_ _ _ _ _ e=>e
theorem Deputy.eQ:Deputy.rp.Good:=⟨Deputy.aj,λ_ _ _ e=>by cases e;rfl,by decide⟩
structure Interest where
 No:Int
 At:Int
 Known:Int
 Person:Int
 Party:Int
 Of:Bool
 Gone:Bool
deriving DecidableEq
instance:Inhabited Interest:=⟨⟨0,0,0,0,0,false,false⟩⟩
def Interest.cells(x:Interest):List Go.Value:=[.int .i64 x.No,.int .i64 x.At,.int .i64 x.Known,.int .i64 x.Person,.int .i64 x.Party,.bool x.Of,.bool x.Gone]
abbrev Interest.enc(x:Interest):Go.Value:=.agg (Interest.cells x).toArray
def Interest.rp:Rp Interest:=⟨7,λ_ cs x=>cs=Interest.cells x⟩
theorem Interest.aj:Interest.rp.Mono:=λ_ _ _ _ _ e=>e
theorem Interest.eQ:Interest.rp.Good:=⟨Interest.aj,λ_ _ _ e=>by cases e;rfl,by decide⟩
structure Budget where
 No:Int
 At:Int
 Known:Int
 Kind:Int
 Period:Int
 Count:Int
 Value:Int
 Gone:Bool
deriving DecidableEq
instance:Inhabited Budget:=⟨⟨0,0,0,0,0,0,0,false⟩⟩
def Budget.cells(x:Budget):List Go.Value:=[.int .i64 x.No,.int .i64 x.At,.int .i64 x.Known,.int .i64 x.Kind,.int .i64 x.Period,.int .i64 x.Count,.int .i64 x.Value,.bool x.Gone]
abbrev Budget.enc(x:Budget):Go.Value:=.agg (Budget.cells x).toArray
def Budget.rp:Rp Budget:=⟨8,λ_ cs x=>cs=Budget.cells x⟩
theorem Budget.aj:Budget.rp.Mono:=λ_ _ _ _ _ e=>e
theorem Budget.eQ:Budget.rp.Good:=⟨Budget.aj,λ_ _ _ e=>by cases e;rfl,by decide⟩
structure Approval where
 No:Int
 At:Int
 Known:Int
 Doc:Int
 By:Int
 For:Int
 Office:Int
 Gone:Bool
deriving DecidableEq
instance:Inhabited Approval:=⟨⟨0,0,0,0,0,0,0,false⟩⟩
def Approval.cells(x:Approval):List Go.Value:=[.int .i64 x.No,.int .i64 x.At,.int .i64 x.Known,.int .i64 x.Doc,.int .i64 x.By,.int .i64 x.For,.int .i64 x.Office,.bool x.Gone]
abbrev Approval.enc(x:Approval):Go.Value:=.agg (Approval.cells x).toArray
def Approval.rp:Rp Approval:=⟨8,λ_ cs x=>cs=Approval.cells x⟩
theorem Approval.aj:Approval.rp.Mono:=λ_ _ _ _ _ e=>e
theorem Approval.eQ:Approval.rp.Good:=⟨Approval.aj,λ_ _ _ e=>by cases e;rfl,by decide⟩
inductive Expr where
 |mk (Kind N No:Int) (Name:ByteArray) (L:List Expr)
def Expr.Kind:Expr->Int
 |.mk Kind _ _ _ _=>Kind
def Expr.N:Expr->Int
 |.mk _ N _ _ _=>N
def Expr.No:Expr->Int
 |.mk _ _ No _ _=>No
def Expr.Name:Expr->ByteArray
 |.mk _ _ _ Name _=>Name
def Expr.L:Expr->List Expr
 |.mk _ _ _ _ L=>L
instance:Inhabited Expr:=⟨.mk 0 0 0 ⟨#[]⟩ []⟩
mutual
def Expr.dep:Expr->Nat
 |.mk _ _ _ _ L=>Expr.depL L+1
def Expr.depL:List Expr->Nat
 |[]=>0
 |y::ys=>Expr.dep y+Expr.depL ys
end
theorem Expr.lO(x:Expr):0<x.dep:=by cases x;simp[Expr.dep]
theorem Expr.O0{y:Expr}:∀{l:List Expr},y∈l->y.dep<=Expr.depL l
 |z::l,h=>by
  rcases kB.1 h with rfl|h
  .simp[Expr.depL]
  .have:=Expr.O0 h;simp[Expr.depL];omega
theorem Expr.Jl:∀(l:List Expr),l.length<=Expr.depL l
 |[]=>xG _
 |z::l=>by have:=Expr.Jl l;have:=Expr.lO z;simp[Expr.depL];omega
theorem Expr.On(x:Expr):x.L.length<x.dep:=by
 cases x with
 |mk a b c d L=>have:=Expr.Jl L;simp[Expr.dep,Expr.L];omega
theorem Expr.jf{x y:Expr}(h:y∈x.L):y.dep<x.dep:=by
 cases x with
 |mk a b c d L=>have:=Expr.O0 (l:=L) h;simp[Expr.dep];omega
structure cL where
 lX:Option Addr
 mm:Nat
def Expr.cells(x:Expr)(r:cL):List Go.Value:=[.int .i64 x.Kind,.int .i64 x.N,.int .i64 x.No,.string x.Name,.slice r.lX x.L.length r.mm]
inductive Expr.ok(h:HF):Expr->cL->Prop
 |mk (x:Expr) (r:cL) (rs:Nat->cL) (h0:x.L.length<=9223372036854775807/\x.L.length<=r.mm) (h1:∀(i:Nat)(y:Expr),x.L[i]? = some y->∃p,r.lX=some p/\At h (p.add (i*5)) (Expr.cells y (rs i))) (h2:∀(i:Nat)(y:Expr),x.L[i]? = some y->Expr.ok h y (rs i)):Expr.ok h x r
def Expr.rp:Rp Expr:=⟨5,λh cs x=>∃r,cs=Expr.cells x r/\Expr.ok h x r⟩
theorem Expr.ok.mono{h h':HF}{x:Expr}{r:cL}(a:Expr.ok h x r)(hl:h.le h'):Expr.ok h' x r:=by
 induction a with
 |mk x r rs h0 h1 h2 ih=>exact .mk x r rs h0 (λi y hy=>let ⟨p,e,q⟩:=h1 i y hy;⟨p,e,q.mono hl⟩) (λi y hy=>ih i y hy)
theorem Expr.ok.list{h:HF}{x:Expr}{r:cL}(a:Expr.ok h x r):SlC Expr.rp h r.lX r.mm x.L:=by
 cases a with
 |mk x r rs h0 h1 h2=>exact⟨⟨h0.1,λi y hy=>let ⟨p,e,q⟩:=h1 i y hy;⟨p,_,e,q,rfl,_,rfl,h2 i y hy⟩⟩,h0.2⟩
theorem Expr.aj:Expr.rp.Mono:=λ_ _ _ _ hl⟨r,e,o⟩=>⟨r,e,o.mono hl⟩
theorem Expr.ok.of{h:HF}{x:Expr}{r:cL}(a:SlC Expr.rp h r.lX r.mm x.L):Expr.ok h x r:=by
 have h1:∀i,∃q:cL,∀y,x.L[i]? = some y->∃p,r.lX=some p/\At h (p.add (i*5)) (Expr.cells y q)/\Expr.ok h y q:=by
  intro i
  cases hy:x.L[i]? with
  |none=>exact⟨⟨none,0⟩,λy e=>by cases e⟩
  |some y=>
   obtain⟨p,cs,e,q,_,r',rfl,o⟩:=a.1.2 i y hy
   exact⟨r',λz ez=>by cases ez;exact⟨p,e,q,o⟩⟩
 obtain⟨rs,hrs⟩:=Classical.axiomOfChoice h1
 exact .mk x r rs ⟨a.1.1,a.2⟩ (λi y hy=>let ⟨p,e,q,_⟩:=hrs i y hy;⟨p,e,q⟩) (λi y hy=>let ⟨_,_,_,o⟩:=hrs i y hy;o)
theorem Expr.eQ:Expr.rp.Good:=⟨Expr.aj,λ_ _ _⟨_,e,_⟩=>by cases e;rfl,by decide⟩
structure Rule where
 Kind:ByteArray
 KindNo:Int
 Think:Int
 Expr:Expr
instance:Inhabited Rule:=⟨⟨⟨#[]⟩,0,0,default⟩⟩
structure BJ where
 Expr:cL
def Rule.cells(x:Rule)(r:BJ):List Go.Value:=[.string x.Kind,.int .i64 x.KindNo,.int .i64 x.Think,.int .i64 x.Expr.Kind,.int .i64 x.Expr.N,.int .i64 x.Expr.No,.string x.Expr.Name,.slice r.Expr.lX x.Expr.L.length r.Expr.mm]
structure Rule.ok(h:HF)(x:Rule)(r:BJ):Prop where
 Expr:Expr.ok h x.Expr r.Expr
theorem Rule.ok.mono{h h':HF}{x:Rule}{r:BJ}(a:Rule.ok h x r)(hl:h.le h'):Rule.ok h' x r:=⟨a.Expr.mono hl⟩
def Rule.rp:Rp Rule:=⟨8,λh cs x=>∃r,cs=Rule.cells x r/\Rule.ok h x r⟩
theorem Rule.aj:Rule.rp.Mono:=λ_ _ _ _ hl⟨r,e,o⟩=>⟨r,e,o.mono hl⟩
theorem Rule.eQ:Rule.rp.Good:=⟨Rule.aj,λ_ _ _⟨_,e,_⟩=>by cases e;rfl,by decide⟩
structure Policy where
 Name:ByteArray
 Kinds:List ByteArray
 Offices:List ByteArray
 Rules:List Rule
 Change:Expr
 Mode:Int
instance:Inhabited Policy:=⟨⟨⟨#[]⟩,[],[],[],default,0⟩⟩
structure eA where
 i8:Option Addr
 i7:Nat
 gq:Option Addr
 gp:Nat
 nO:Option Addr
 nN:Nat
 Change:cL
def Policy.cells(x:Policy)(r:eA):List Go.Value:=[.string x.Name,.slice r.i8 x.Kinds.length r.i7,.slice r.gq x.Offices.length r.gp,.slice r.nO x.Rules.length r.nN,.int .i64 x.Change.Kind,.int .i64 x.Change.N,.int .i64 x.Change.No,.string x.Change.Name,.slice r.Change.lX x.Change.L.length r.Change.mm,.int .i64 x.Mode]
structure Policy.ok(h:HF)(x:Policy)(r:eA):Prop where
 Kinds:SlC Rp.str h r.i8 r.i7 x.Kinds
 Offices:SlC Rp.str h r.gq r.gp x.Offices
 Rules:SlC Rule.rp h r.nO r.nN x.Rules
 Change:Expr.ok h x.Change r.Change
theorem Policy.ok.mono{h h':HF}{x:Policy}{r:eA}(a:Policy.ok h x r)(hl:h.le h'):Policy.ok h' x r:=⟨a.Kinds.mono Rp.hU hl,a.Offices.mono Rp.hU hl,a.Rules.mono Rule.aj hl,a.Change.mono hl⟩
def Policy.rp:Rp Policy:=⟨10,λh cs x=>∃r,cs=Policy.cells x r/\Policy.ok h x r⟩
theorem Policy.aj:Policy.rp.Mono:=λ_ _ _ _ hl⟨r,e,o⟩=>⟨r,e,o.mono hl⟩
theorem Policy.eQ:Policy.rp.Good:=⟨Policy.aj,λ_ _ _⟨_,e,_⟩=>by cases e;rfl,by decide⟩
structure Version where
 No:Int
 At:Int
 Known:Int
 Policy:Policy
instance:Inhabited Version:=⟨⟨0,0,0,default⟩⟩
structure pq where
 Policy:eA
def Version.cells(x:Version)(r:pq):List Go.Value:=[.int .i64 x.No,.int .i64 x.At,.int .i64 x.Known,.string x.Policy.Name,.slice r.Policy.i8 x.Policy.Kinds.length r.Policy.i7,.slice r.Policy.gq x.Policy.Offices.length r.Policy.gp,.slice r.Policy.nO x.Policy.Rules.length r.Policy.nN,.int .i64 x.Policy.Change.Kind,.int .i64 x.Policy.Change.N,.int .i64 x.Policy.Change.No,.string x.Policy.Change.Name,.slice r.Policy.Change.lX x.Policy.Change.L.length r.Policy.Change.mm,.int .i64 x.Policy.Mode]
structure Version.ok(h:HF)(x:Version)(r:pq):Prop where
 Policy:Policy.ok h x.Policy r.Policy
theorem Version.ok.mono{h h':HF}{x:Version}{r:pq}(a:Version.ok h x r)(hl:h.le h'):Version.ok h' x r:=⟨a.Policy.mono hl⟩
def Version.rp:Rp Version:=⟨13,λh cs x=>∃r,cs=Version.cells x r/\Version.ok h x r⟩
theorem Version.aj:Version.rp.Mono:=λ_ _ _ _ hl⟨r,e,o⟩=>⟨r,e,o.mono hl⟩
theorem Version.eQ:Version.rp.Good:=⟨Version.aj,λ_ _ _⟨_,e,_⟩=>by cases e;rfl,by decide⟩
structure Document where
 No:Int
 At:Int
 Kind:Int
 Value:Int
 From:Int
 Until:Int
 Parties:List Int
 Revokes:List Int
 Needs:List Int
 Text:Nat->Int
instance:Inhabited Document:=⟨⟨0,0,0,0,0,0,[],[],[],λ_=>0⟩⟩
structure ke where
 yt:Option Addr
 yr:Nat
 pN:Option Addr
 pM:Nat
 yv:Option Addr
 yu:Nat
def Document.cells(x:Document)(r:ke):List Go.Value:=.int .i64 x.No::.int .i64 x.At::.int .i64 x.Kind::.int .i64 x.Value::.int .i64 x.From::.int .i64 x.Until::.slice r.yt x.Parties.length r.yr::.slice r.pN x.Revokes.length r.pM::.slice r.yv x.Needs.length r.yu::.int .u8 (x.Text 0)::.int .u8 (x.Text 1)::.int .u8 (x.Text 2)::.int .u8 (x.Text 3)::.int .u8 (x.Text 4)::.int .u8 (x.Text 5)::.int .u8 (x.Text 6)::.int .u8 (x.Text 7)::.int .u8 (x.Text 8)::.int .u8 (x.Text 9)::.int .u8 (x.Text 10)::.int .u8 (x.Text 11)::.int .u8 (x.Text 12)::.int .u8 (x.Text 13)::.int .u8 (x.Text 14)::.int .u8 (x.Text 15)::.int .u8 (x.Text 16)::.int .u8 (x.Text 17)::.int .u8 (x.Text 18)::.int .u8 (x.Text 19)::.int .u8 (x.Text 20)::.int .u8 (x.Text 21)::.int .u8 (x.Text 22)::.int .u8 (x.Text 23)::.int .u8 (x.Text 24)::.int .u8 (x.Text 25)::.int .u8 (x.Text 26)::.int .u8 (x.Text 27)::.int .u8 (x.Text 28)::.int .u8 (x.Text 29)::.int .u8 (x.Text 30)::.int .u8 (x.Text 31)::[]
structure Document.ok(h:HF)(x:Document)(r:ke):Prop where
 Parties:SlC qC h r.yt r.yr x.Parties
 Revokes:SlC qC h r.pN r.pM x.Revokes
 Needs:SlC qC h r.yv r.yu x.Needs
theorem Document.ok.mono{h h':HF}{x:Document}{r:ke}(a:Document.ok h x r)(hl:h.le h'):Document.ok h' x r:=⟨a.Parties.mono vG hl,a.Revokes.mono vG hl,a.Needs.mono vG hl⟩
def Document.rp:Rp Document:=⟨41,λh cs x=>∃r,cs=Document.cells x r/\Document.ok h x r⟩
theorem Document.aj:Document.rp.Mono:=λ_ _ _ _ hl⟨r,e,o⟩=>⟨r,e,o.mono hl⟩
theorem Document.eQ:Document.rp.Good:=⟨Document.aj,λ_ _ _⟨_,e,_⟩=>by cases e;rfl,by decide⟩
structure Register where
 Appoints:List Appoint
 Deputies:List Deputy
 Interests:List Interest
 Budgets:List Budget
 Versions:List Version
 Docs:List Document
 Approvals:List Approval
instance:Inhabited Register:=⟨⟨[],[],[],[],[],[],[]⟩⟩
structure dD where
 vu:Option Addr
 vr:Nat
 vq:Option Addr
 vp:Nat
 tL:Option Addr
 tK:Nat
 yx:Option Addr
 yw:Nat
 kY:Option Addr
 kX:Nat
 Cy:Option Addr
 Cw:Nat
 tN:Option Addr
 tM:Nat
def Register.cells(x:Register)(r:dD):List Go.Value:=[.slice r.vu x.Appoints.length r.vr,.slice r.vq x.Deputies.length r.vp,.slice r.tL x.Interests.length r.tK,.slice r.yx x.Budgets.length r.yw,.slice r.kY x.Versions.length r.kX,.slice r.Cy x.Docs.length r.Cw,.slice r.tN x.Approvals.length r.tM]
structure Register.ok(h:HF)(x:Register)(r:dD):Prop where
 Appoints:SlC Appoint.rp h r.vu r.vr x.Appoints
 Deputies:SlC Deputy.rp h r.vq r.vp x.Deputies
 Interests:SlC Interest.rp h r.tL r.tK x.Interests
 Budgets:SlC Budget.rp h r.yx r.yw x.Budgets
 Versions:SlC Version.rp h r.kY r.kX x.Versions
 Docs:SlC Document.rp h r.Cy r.Cw x.Docs
 Approvals:SlC Approval.rp h r.tN r.tM x.Approvals
theorem Register.ok.mono{h h':HF}{x:Register}{r:dD}(a:Register.ok h x r)(hl:h.le h'):Register.ok h' x r:=⟨a.Appoints.mono Appoint.aj hl,a.Deputies.mono Deputy.aj hl,a.Interests.mono Interest.aj hl,a.Budgets.mono Budget.aj hl,a.Versions.mono Version.aj hl,a.Docs.mono Document.aj hl,a.Approvals.mono Approval.aj hl⟩
def Register.rp:Rp Register:=⟨7,λh cs x=>∃r,cs=Register.cells x r/\Register.ok h x r⟩
theorem Register.aj:Register.rp.Mono:=λ_ _ _ _ hl⟨r,e,o⟩=>⟨r,e,o.mono hl⟩
theorem Register.eQ:Register.rp.Good:=⟨Register.aj,λ_ _ _⟨_,e,_⟩=>by cases e;rfl,by decide⟩
structure gy where
 State:Int
 Budget:Int
 Versions:List Int
 Who:List Int
instance:Inhabited gy:=⟨⟨0,0,[],[]⟩⟩
structure sS where
 kY:Option Addr
 kX:Nat
 FP:Option Addr
 FO:Nat
def gy.cells(x:gy)(r:sS):List Go.Value:=[.int .i64 x.State,.int .i64 x.Budget,.slice r.kY x.Versions.length r.kX,.slice r.FP x.Who.length r.FO]
structure gy.ok(h:HF)(x:gy)(r:sS):Prop where
 Versions:SlC qC h r.kY r.kX x.Versions
 Who:SlC qC h r.FP r.FO x.Who
theorem gy.ok.mono{h h':HF}{x:gy}{r:sS}(a:gy.ok h x r)(hl:h.le h'):gy.ok h' x r:=⟨a.Versions.mono vG hl,a.Who.mono vG hl⟩
def gy.rp:Rp gy:=⟨4,λh cs x=>∃r,cs=gy.cells x r/\gy.ok h x r⟩
theorem gy.aj:gy.rp.Mono:=λ_ _ _ _ hl⟨r,e,o⟩=>⟨r,e,o.mono hl⟩
theorem gy.eQ:gy.rp.Good:=⟨gy.aj,λ_ _ _⟨_,e,_⟩=>by cases e;rfl,by decide⟩
structure OSeat where
 office:Int
 person:Int
deriving DecidableEq
instance:Inhabited OSeat:=⟨⟨0,0⟩⟩
def OSeat.cells(x:OSeat):List Go.Value:=[.int .i64 x.office,.int .i64 x.person]
abbrev OSeat.enc(x:OSeat):Go.Value:=.agg (OSeat.cells x).toArray
def OSeat.rp:Rp OSeat:=⟨2,λ_ cs x=>cs=OSeat.cells x⟩
theorem OSeat.aj:OSeat.rp.Mono:=λ_ _ _ _ _ e=>e
theorem OSeat.eQ:OSeat.rp.Good:=⟨OSeat.aj,λ_ _ _ e=>by cases e;rfl,by decide⟩
structure ed where
 person:Int
 party:Int
 of:Bool
deriving DecidableEq
instance:Inhabited ed:=⟨⟨0,0,false⟩⟩
def ed.cells(x:ed):List Go.Value:=[.int .i64 x.person,.int .i64 x.party,.bool x.of]
abbrev ed.enc(x:ed):Go.Value:=.agg (ed.cells x).toArray
def ed.rp:Rp ed:=⟨3,λ_ cs x=>cs=ed.cells x⟩
theorem ed.aj:ed.rp.Mono:=λ_ _ _ _ _ e=>e
theorem ed.eQ:ed.rp.Good:=⟨ed.aj,λ_ _ _ e=>by cases e;rfl,by decide⟩
structure gT where
 path:List Int
 to:Int
instance:Inhabited gT:=⟨⟨[],0⟩⟩
structure Mr where
 w6:Option Addr
 zy:Nat
def gT.cells(x:gT)(r:Mr):List Go.Value:=[.slice r.w6 x.path.length r.zy,.int .i64 x.to]
structure gT.ok(h:HF)(x:gT)(r:Mr):Prop where
 path:SlC qC h r.w6 r.zy x.path
theorem gT.ok.mono{h h':HF}{x:gT}{r:Mr}(a:gT.ok h x r)(hl:h.le h'):gT.ok h' x r:=⟨a.path.mono vG hl⟩
def gT.rp:Rp gT:=⟨2,λh cs x=>∃r,cs=gT.cells x r/\gT.ok h x r⟩
theorem gT.aj:gT.rp.Mono:=λ_ _ _ _ hl⟨r,e,o⟩=>⟨r,e,o.mono hl⟩
theorem gT.eQ:gT.rp.Good:=⟨gT.aj,λ_ _ _⟨_,e,_⟩=>by cases e;rfl,by decide⟩
structure wy where
 P1:List Int
 To:Int
instance:Inhabited wy:=⟨⟨[],0⟩⟩
structure O9 where
 Pb:Option Addr
 Pa:Nat
def wy.cells(x:wy)(r:O9):List Go.Value:=[.slice r.Pb x.P1.length r.Pa,.int .i64 x.To]
structure wy.ok(h:HF)(x:wy)(r:O9):Prop where
 P1:SlC qC h r.Pb r.Pa x.P1
theorem wy.ok.mono{h h':HF}{x:wy}{r:O9}(a:wy.ok h x r)(hl:h.le h'):wy.ok h' x r:=⟨a.P1.mono vG hl⟩
def wy.rp:Rp wy:=⟨2,λh cs x=>∃r,cs=wy.cells x r/\wy.ok h x r⟩
theorem wy.aj:wy.rp.Mono:=λ_ _ _ _ hl⟨r,e,o⟩=>⟨r,e,o.mono hl⟩
theorem wy.eQ:wy.rp.Good:=⟨wy.aj,λ_ _ _⟨_,e,_⟩=>by cases e;rfl,by decide⟩
structure bo where
 value:Int
 holders:List (List Holder)
 who:List Int
instance:Inhabited bo:=⟨⟨0,[],[]⟩⟩
structure iE where
 kw:Option Addr
 kv:Nat
 rS:Option Addr
 rR:Nat
def bo.cells(x:bo)(r:iE):List Go.Value:=[.int .i64 x.value,.slice r.kw x.holders.length r.kv,.slice r.rS x.who.length r.rR]
structure bo.ok(h:HF)(x:bo)(r:iE):Prop where
 holders:SlC (Rp.sl Holder.rp) h r.kw r.kv x.holders
 who:SlC qC h r.rS r.rR x.who
theorem bo.ok.mono{h h':HF}{x:bo}{r:iE}(a:bo.ok h x r)(hl:h.le h'):bo.ok h' x r:=⟨a.holders.mono (Rp.s9 Holder.aj) hl,a.who.mono vG hl⟩
def bo.rp:Rp bo:=⟨3,λh cs x=>∃r,cs=bo.cells x r/\bo.ok h x r⟩
theorem bo.aj:bo.rp.Mono:=λ_ _ _ _ hl⟨r,e,o⟩=>⟨r,e,o.mono hl⟩
theorem bo.eQ:bo.rp.Good:=⟨bo.aj,λ_ _ _⟨_,e,_⟩=>by cases e;rfl,by decide⟩
structure gx where
 x:Expr
 depth:Int
instance:Inhabited gx:=⟨⟨default,0⟩⟩
structure Cu where
 x:cL
def gx.cells(x:gx)(r:Cu):List Go.Value:=[.int .i64 x.x.Kind,.int .i64 x.x.N,.int .i64 x.x.No,.string x.x.Name,.slice r.x.lX x.x.L.length r.x.mm,.int .i64 x.depth]
structure gx.ok(h:HF)(x:gx)(r:Cu):Prop where
 x:Expr.ok h x.x r.x
theorem gx.ok.mono{h h':HF}{x:gx}{r:Cu}(a:gx.ok h x r)(hl:h.le h'):gx.ok h' x r:=⟨a.x.mono hl⟩
def gx.rp:Rp gx:=⟨6,λh cs x=>∃r,cs=gx.cells x r/\gx.ok h x r⟩
theorem gx.aj:gx.rp.Mono:=λ_ _ _ _ hl⟨r,e,o⟩=>⟨r,e,o.mono hl⟩
theorem gx.eQ:gx.rp.Good:=⟨gx.aj,λ_ _ _⟨_,e,_⟩=>by cases e;rfl,by decide⟩
structure sU where
 e:Int
deriving DecidableEq
instance:Inhabited sU:=⟨⟨0⟩⟩
def sU.cells(x:sU):List Go.Value:=[.int .i64 x.e]
abbrev sU.enc(x:sU):Go.Value:=.agg (sU.cells x).toArray
def sU.rp:Rp sU:=⟨1,λ_ cs x=>cs=sU.cells x⟩
theorem sU.aj:sU.rp.Mono:=λ_ _ _ _ _ e=>e
theorem sU.eQ:sU.rp.Good:=⟨sU.aj,λ_ _ _ e=>by cases e;rfl,by decide⟩
structure gM where
 docs:List Document
 at_:List (Int×Int)
instance:Inhabited gM:=⟨⟨[],[]⟩⟩
structure nP where
 FD:Option Addr
 FC:Nat
 Ka:Nat
def gM.cells(x:gM)(r:nP):List Go.Value:=[.slice r.FD x.docs.length r.FC,.map (some r.Ka)]
structure gM.ok(h:HF)(x:gM)(r:nP):Prop where
 docs:SlC Document.rp h r.FD r.FC x.docs
 at_:s7 (xC .i64) vm h r.Ka x.at_
theorem gM.ok.mono{h h':HF}{x:gM}{r:nP}(a:gM.ok h x r)(hl:h.le h'):gM.ok h' x r:=⟨a.docs.mono Document.aj hl,a.at_.mono vm.mono hl⟩
def gM.rp:Rp gM:=⟨2,λh cs x=>∃r,cs=gM.cells x r/\gM.ok h x r⟩
theorem gM.aj:gM.rp.Mono:=λ_ _ _ _ hl⟨r,e,o⟩=>⟨r,e,o.mono hl⟩
theorem gM.eQ:gM.rp.Good:=⟨gM.aj,λ_ _ _⟨_,e,_⟩=>by cases e;rfl,by decide⟩
structure fh where
 doc:Int
 Aq:Int
 forWhom:Int
 office:Int
deriving DecidableEq
instance:Inhabited fh:=⟨⟨0,0,0,0⟩⟩
def fh.cells(x:fh):List Go.Value:=[.int .i64 x.doc,.int .i64 x.Aq,.int .i64 x.forWhom,.int .i64 x.office]
abbrev fh.enc(x:fh):Go.Value:=.agg (fh.cells x).toArray
def fh.rp:Rp fh:=⟨4,λ_ cs x=>cs=fh.cells x⟩
theorem fh.aj:fh.rp.Mono:=λ_ _ _ _ _ e=>e
theorem fh.eQ:fh.rp.Good:=⟨fh.aj,λ_ _ _ e=>by cases e;rfl,by decide⟩
structure eo where
 eY:Int
 to:Int
 office:Int
 kind:Int
deriving DecidableEq
instance:Inhabited eo:=⟨⟨0,0,0,0⟩⟩
def eo.cells(x:eo):List Go.Value:=[.int .i64 x.eY,.int .i64 x.to,.int .i64 x.office,.int .i64 x.kind]
abbrev eo.enc(x:eo):Go.Value:=.agg (eo.cells x).toArray
def eo.rp:Rp eo:=⟨4,λ_ cs x=>cs=eo.cells x⟩
theorem eo.aj:eo.rp.Mono:=λ_ _ _ _ _ e=>e
theorem eo.eQ:eo.rp.Good:=⟨eo.aj,λ_ _ _ e=>by cases e;rfl,by decide⟩
structure cI where
 office:Int
 kind:Int
 value:Int
 at_:Int
 known:Int
deriving DecidableEq
instance:Inhabited cI:=⟨⟨0,0,0,0,0⟩⟩
def cI.cells(x:cI):List Go.Value:=[.int .i64 x.office,.int .i64 x.kind,.int .i64 x.value,.int .i64 x.at_,.int .i64 x.known]
abbrev cI.enc(x:cI):Go.Value:=.agg (cI.cells x).toArray
def cI.rp:Rp cI:=⟨5,λ_ cs x=>cs=cI.cells x⟩
theorem cI.aj:cI.rp.Mono:=λ_ _ _ _ _ e=>e
theorem cI.eQ:cI.rp.Good:=⟨cI.aj,λ_ _ _ e=>by cases e;rfl,by decide⟩
structure gN where
 kind:Int
 period:Int
deriving DecidableEq
instance:Inhabited gN:=⟨⟨0,0⟩⟩
def gN.cells(x:gN):List Go.Value:=[.int .i64 x.kind,.int .i64 x.period]
abbrev gN.enc(x:gN):Go.Value:=.agg (gN.cells x).toArray
def gN.rp:Rp gN:=⟨2,λ_ cs x=>cs=gN.cells x⟩
theorem gN.aj:gN.rp.Mono:=λ_ _ _ _ _ e=>e
theorem gN.eQ:gN.rp.Good:=⟨gN.aj,λ_ _ _ e=>by cases e;rfl,by decide⟩
structure ft where
 shelf:gM
 signed:List Int
 done:List Bool
 lacks:List Int
 revoked:List (Int×(List Int))
instance:Inhabited ft:=⟨⟨default,[],[],[],[]⟩⟩
structure sV where
 shelf:nP
 bZ:Option Addr
 bY:Nat
 Ag:Option Addr
 Af:Nat
 LP:Option Addr
 LO:Nat
 GT:Nat
def ft.cells(x:ft)(r:sV):List Go.Value:=[.slice r.shelf.FD x.shelf.docs.length r.shelf.FC,.map (some r.shelf.Ka),.slice r.bZ x.signed.length r.bY,.slice r.Ag x.done.length r.Af,.slice r.LP x.lacks.length r.LO,.map (some r.GT)]
structure ft.ok(h:HF)(x:ft)(r:sV):Prop where
 shelf:gM.ok h x.shelf r.shelf
 signed:SlC qC h r.bZ r.bY x.signed
 done:SlC Rp.bool h r.Ag r.Af x.done
 lacks:SlC qC h r.LP r.LO x.lacks
 revoked:s7 (xC .i64) (VSl qC) h r.GT x.revoked
theorem ft.ok.mono{h h':HF}{x:ft}{r:sV}(a:ft.ok h x r)(hl:h.le h'):ft.ok h' x r:=⟨a.shelf.mono hl,a.signed.mono vG hl,a.done.mono Rp.nM hl,a.lacks.mono vG hl,a.revoked.mono (VSl.mono vG) hl⟩
def ft.rp:Rp ft:=⟨6,λh cs x=>∃r,cs=ft.cells x r/\ft.ok h x r⟩
theorem ft.aj:ft.rp.Mono:=λ_ _ _ _ hl⟨r,e,o⟩=>⟨r,e,o.mono hl⟩
theorem ft.eQ:ft.rp.Good:=⟨ft.aj,λ_ _ _⟨_,e,_⟩=>by cases e;rfl,by decide⟩
structure bN where
 Register:Register
 doc:Document
 at_:Int
 known:Int
instance:Inhabited bN:=⟨⟨default,default,0,0⟩⟩
structure j2 where
 Register:dD
 doc:ke
def bN.cells(x:bN)(r:j2):List Go.Value:=.slice r.Register.vu x.Register.Appoints.length r.Register.vr::.slice r.Register.vq x.Register.Deputies.length r.Register.vp::.slice r.Register.tL x.Register.Interests.length r.Register.tK::.slice r.Register.yx x.Register.Budgets.length r.Register.yw::.slice r.Register.kY x.Register.Versions.length r.Register.kX::.slice r.Register.Cy x.Register.Docs.length r.Register.Cw::.slice r.Register.tN x.Register.Approvals.length r.Register.tM::.int .i64 x.doc.No::.int .i64 x.doc.At::.int .i64 x.doc.Kind::.int .i64 x.doc.Value::.int .i64 x.doc.From::.int .i64 x.doc.Until::.slice r.doc.yt x.doc.Parties.length r.doc.yr::.slice r.doc.pN x.doc.Revokes.length r.doc.pM::.slice r.doc.yv x.doc.Needs.length r.doc.yu::.int .u8 (x.doc.Text 0)::.int .u8 (x.doc.Text 1)::.int .u8 (x.doc.Text 2)::.int .u8 (x.doc.Text 3)::.int .u8 (x.doc.Text 4)::.int .u8 (x.doc.Text 5)::.int .u8 (x.doc.Text 6)::.int .u8 (x.doc.Text 7)::.int .u8 (x.doc.Text 8)::.int .u8 (x.doc.Text 9)::.int .u8 (x.doc.Text 10)::.int .u8 (x.doc.Text 11)::.int .u8 (x.doc.Text 12)::.int .u8 (x.doc.Text 13)::.int .u8 (x.doc.Text 14)::.int .u8 (x.doc.Text 15)::.int .u8 (x.doc.Text 16)::.int .u8 (x.doc.Text 17)::.int .u8 (x.doc.Text 18)::.int .u8 (x.doc.Text 19)::.int .u8 (x.doc.Text 20)::.int .u8 (x.doc.Text 21)::.int .u8 (x.doc.Text 22)::.int .u8 (x.doc.Text 23)::.int .u8 (x.doc.Text 24)::.int .u8 (x.doc.Text 25)::.int .u8 (x.doc.Text 26)::.int .u8 (x.doc.Text 27)::.int .u8 (x.doc.Text 28)::.int .u8 (x.doc.Text 29)::.int .u8 (x.doc.Text 30)::.int .u8 (x.doc.Text 31)::.int .i64 x.at_::.int .i64 x.known::[]
structure bN.ok(h:HF)(x:bN)(r:j2):Prop where
 Register:Register.ok h x.Register r.Register
 doc:Document.ok h x.doc r.doc
theorem bN.ok.mono{h h':HF}{x:bN}{r:j2}(a:bN.ok h x r)(hl:h.le h'):bN.ok h' x r:=⟨a.Register.mono hl,a.doc.mono hl⟩
def bN.rp:Rp bN:=⟨50,λh cs x=>∃r,cs=bN.cells x r/\bN.ok h x r⟩
theorem bN.aj:bN.rp.Mono:=λ_ _ _ _ hl⟨r,e,o⟩=>⟨r,e,o.mono hl⟩
theorem bN.eQ:bN.rp.Good:=⟨bN.aj,λ_ _ _⟨_,e,_⟩=>by cases e;rfl,by decide⟩
end Go.Sg

namespace Go.Sg
section
variable {P:Program} {b:Frame} {n:Nat} {k:List Item} {F:List Frame->(Machine->Prop)->Prop} {e:Env} {ds:List Deferred} {X:Cx} {h:HF} {L:LH}
theorem Pi{c:Code}(L':LH)(sl:List (Nat×Value))(hk:∀e',TT P b n k F (upds e' sl) ds X h L')(t':(∀e',jd e' sl->TT P b n k F e' ds X h L')->TT P b n (.code c::k) F e ds X h L):TT P b n (.code c::k) F e ds X h L:=
 t' λe' hr=>by have:=hk e';rw[hr.upds]at this;exact this
theorem yd{ops:Array Oper}{l:List Oper}{L':LH}(hs:L.Perm L')(t:TO P b n ops l k F e ds X h L'):TO P b n ops l k F e ds X h L:=λw hw=>t w (hw.perm hs)
theorem il{ops:Array Oper}{l:List Oper}{L':LH}(hs:L=L')(t:TO P b n ops l k F e ds X h L'):TO P b n ops l k F e ds X h L:=hs▸t
theorem rP(A G M:LH):(A++(M++G)).Perm (A++(G++M)):=List.Perm.append_left A jJ
theorem rZ{id:Nat}{c:Code}{ι : Type}(sl:ι->List (Nat×Value))(dd:ι->List Deferred)(hh:ι->HF)(LL:ι->LH)(I:ι->Prop)(hk:∀i,I i->∀e',TT P b n k F (upds e' (sl i)) (dd i) X (hh i) (LL i))(hb:(∀i e',I i->jd e' (sl i)->TT P b n k F e' (dd i) X (hh i) (LL i))->TT P b n (.code c::.inBlock id::k) F e ds X h L):TT P b n (.code (.block id c)::k) F e ds X h L:=
 lZ (hb λi e' hI hr=>IF (sl i) hr (hk i hI e'))
end
section runs
variable {P:Program} {e:Env} {X:Cx} {h:HF} {L:LH} {d:Option Nat} {ty:TypeId} {pos:String} {af:Array Edge} {g:Option (Nat×Bool)}
theorem Oa{t E:TypeId}{x ix:Operand}{len sz:Nat}{a:Bool}{p:Addr}{i:Int}(hT:P.underlying t=some (.array len E))(hS:tySz P E=some (sz,a))(hx:e.ev x=.pointer (some p))(hix:e.ev ix=.int .i64 i)(hi:0<=i/\i<(len:Int)):
  ∀w,St X h L w->(execOp e.ev ⟨d,.indexAddr t x ix,ty,pos,af,g⟩).run P w=.ok (.value (.pointer (some (p.add (i.toNat*sz))))) w:=
 λw _=>by simp[execOp,Instr.indexAt,Instr.sureAddr,hix,hx,asIntOf,run_underlying hT,gD hS,hi.1,hi.2]
theorem nI{c x y:Operand}{s:Bool}{v:Value}(hc:e.ev c=.bool s)(hv:(bif s then e.ev x else e.ev y)=v):∀w,St X h L w->(execOp e.ev ⟨d,.pick c x y,ty,pos,af,g⟩).run P w=.ok (.value v) w:=
 hv▸Kw hc
end runs
section stepsM
variable {P:Program} {b:Frame} {n:Nat} {ops:Array Oper} {F:List Frame->(Machine->Prop)->Prop} {e:Env} {ds:List Deferred} {X:Cx} {h:HF} {L:LH} {K:Env->HF->LH->Prop}
variable {ty:TypeId} {pos:String} {af:Array Edge} {g:Option (Nat×Bool)} {κ α : Type} {enc:κ->Value} {V:HF->Value->α->Prop} [DecidableEq κ]
theorem wN(i:Nat){t T E:TypeId}{mo ko xo:Operand}{bk:Nat}{o:Obj}{m:List (κ×α)}{k:κ}{x:α}(hT:P.underlying t=some (.map T E))(hK:wz P T enc)(hL:nth L i=some (bk,o))(hm:ja enc V h o m)(hmo:e.ev mo=.map (some bk))(hko:e.ev ko=enc k)(hx:V h (e.ev xo) x)(t':∀o',ja enc V h o' (mput m k x)->K e h (setNth L i (bk,o')))(hg:guardB ops e ⟨none,.insert t mo ko xo,ty,pos,af,g⟩=true:=by rfl):Stp P b n ops F ds X ⟨none,.insert t mo ko xo,ty,pos,af,g⟩ e h L K:=by
 unfold Stp
 rw[if_pos hg]
 intro w hw
 have hb:w.heap[bk]? = some o:=by
  have h2:=hL
  rw[im]at h2
  exact hw.own _ (xE h2)
 obtain⟨o',hr,hm'⟩:=yP (k:=k) hT hK hb hm hx
 have:(execOp e.ev ⟨none,.insert t mo ko xo,ty,pos,af,g⟩).run P w=.ok .skip { w with heap:=w.heap.setIfInBounds bk o' }:=by
  simp[execOp,hmo,hko,hr]
 rw[this]
 exact⟨h,_,hw.write hL _,t' o' hm'⟩
end stepsM
section stepsA
variable {P:Program} {b:Frame} {n:Nat} {ops:Array Oper} {F:List Frame->(Machine->Prop)->Prop} {e:Env} {ds:List Deferred} {X:Cx} {h:HF} {L:LH} {K:Env->HF->LH->Prop}
variable {d:Option Nat} {ty:TypeId} {pos:String} {af:Array Edge} {g:Option (Nat×Bool)}
theorem sf(i:Nat){t:TypeId}{x y:Operand}{m bk T:Nat}{a:Bool}{cl vs:List Value}(hT:tySz P t=some (m,a))(hx:e.ev x=.pointer (some ⟨bk,0,none⟩))(hL:nth L i=some (bk,.cells cl.toArray T (0,0)))(hv:e.ev y=.agg vs.toArray)(hm:vs.length=m)(hc:cl.length=m)(h1:vs.all one=true)(t':K e h (setNth L i (bk,.cells vs.toArray T (0,0))))(hg:guardB ops e ⟨none,.store t x y,ty,pos,af,g⟩=true:=by rfl):Stp P b n ops F ds X ⟨none,.store t x y,ty,pos,af,g⟩ e h L K:=by
 refine ku i hT hx hL (vs:=vs) (by rw[hv];simp[vcells]) hm (by rw[Nat.zero_add,hm,hc];simp) h1 ?_ hg
 rw[Ea vs cl (by rw[hm,hc])]
 exact t'
theorem N6{t E:TypeId}{len sz:Nat}{a:Bool}{parts:Array (Nat×Operand)}{zs cells:List Value}(hT:P.underlying t=some (.array len E))(hS:tySz P E=some (sz,a))(hz:zeroC P t=some zs)(hc:Instr.fill (λi=>some (i*sz,sz)) zs.toArray (parts.toList.map λp=>(p.1,e.ev p.2))=some cells.toArray)(t':K (pute e d (.agg cells.toArray)) h L)(hg:guardB ops e ⟨d,.build t parts,ty,pos,af,g⟩=true:=by rfl):Stp P b n ops F ds X ⟨d,.build t parts,ty,pos,af,g⟩ e h L K:=
 iM hg λw hw=>by
  obtain⟨z,h1,h2⟩:=rL hz w
  have hparts:(parts.map λx=>(x.1,e.ev x.2)).toList=parts.toList.map λp=>(p.1,e.ev p.2):=by simp
  refine⟨_,_,h,_,?_,hw,t'⟩
  simp only[execOp,Instr.build,xP,h1,h2,zM,run_underlying hT,gD hS,aBj,hparts]
  rw[hc]
  simp
theorem CG{α : Type}:∀(l:List α)(i:Nat)(x y:α),nth l i=some x->(setNth l i y).Perm (y::dropNth l i)
 |[],_,_,_,h=>by simp[nth]at h
 |z::l,0,x,y,h=>List.Perm.refl _
 |z::l,i+1,x,y,h=>(List.Perm.cons z (CG l i x y h)).trans (List.Perm.swap y z _)
theorem N5(i:Nat){t:Nat}{as:Array Operand}{ats:Array TypeId}{fv:Value}{vs:List Value}{bk:Nat}{o o':Obj}(hL:nth L i=some (bk,o))(hs:mr P fv vs.toArray h [(bk,o)] (λx h' B=>x=.returned (.tuple #[])/\h'=h/\B=[(bk,o')]))(hf:e t=fv)(hvs:as.toList.map e.ev=vs)(t':K (pute e d (.tuple #[])) h (setNth L i (bk,o')))(hg:guardB ops e ⟨d,.call ⟨.value (.tmp t),as,ats⟩,ty,pos,af,g⟩=true:=by rfl):Stp P b n ops F ds X ⟨d,.call ⟨.value (.tmp t),as,ats⟩,ty,pos,af,g⟩ e h L K:=by
 unfold Stp
 rw[if_pos hg]
 intro w hw
 have hw':=hw.perm (pj L i _ hL)
 have harr:as.map e.ev=vs.toArray:=Array.ext' (by simp[←hvs])
 obtain⟨nx,hrun,hcall⟩:=hs w (Pre.left (A:=[(bk,o)]) hw'.pre)
 have hr:(execOp e.ev ⟨d,.call ⟨.value (.tmp t),as,ats⟩,ty,pos,af,g⟩).run P w=.ok nx w:=by
  rw[←hrun]
  simp[execOp,resolve,Env.ev,harr,hf]
 rw[hr]
 refine lP (mV hcall) (hcall.mono ?_)
 rintro x w' ⟨h',B,hst,rfl,rfl,rfl⟩
 exact⟨h',_,(aBq (A:=[(bk,o)]) (F:=dropNth L i) hw' hst).perm (CG L i _ _ hL).symm,t'⟩
theorem N4{t:Nat}{ass:Array Operand}{ats:Array TypeId}{fv:Value}{vs:List Value}{φ : Value->HF->Prop}(hs:Qi P fv vs h φ)(hf:e t=fv)(hvs:ass.toList.map e.ev=vs)(t':∀v h',h.le h'->φ v h'->K (pute e d v) h' L)(hg:guardB ops e ⟨d,.call ⟨.value (.tmp t),ass,ats⟩,ty,pos,af,g⟩=true:=by rfl):
  Stp P b n ops F ds X ⟨d,.call ⟨.value (.tmp t),ass,ats⟩,ty,pos,af,g⟩ e h L K:=by
 refine AJ L [] (List.append_nil L).symm hs hf hvs ?_ ?_ hg
 .rintro v h' B hle ⟨rfl,v',hv,hφ⟩
  cases hv
  rw[List.append_nil]
  exact t' _ h' hle hφ
 .rintro ch h' B hle ⟨_,v',hv,_⟩
  cases hv
end stepsA
theorem QP{h:HF}{q:Addr}{cs:List Value}(ha:At h q cs){i:Int}(hi:0<=i/\i<(cs.length:Int)):At h (q.add (i.toNat*1)) [cs.getD i.toNat .nilFunc]:=by
 obtain⟨cl,T,fz,hb,hs,hc⟩:=ha
 have hlt:i.toNat<cs.length:=by omega
 have h1:i.toNat*1=i.toNat:=Nat.mul_one _
 obtain⟨g,off,sp⟩:=q
 simp only at hs
 subst hs
 have hq:(⟨g,off,none⟩:Addr).add (i.toNat*1)=⟨g,off+i.toNat,none⟩:=by
  rw[h1]
  by_cases e0:i.toNat=0
  .simp[jT,e0]
  .simp[jT,e0]
 rw[hq]
 refine⟨cl,T,fz,hb,rfl,λj v hj=>?_⟩
 have hj0:j=0:=by
  cases j with
  |zero=>rfl
  |succ j=>simp at hj
 subst hj0
 simp at hj
 subst hj
 have:=hc i.toNat (cs.getD i.toNat .nilFunc) (by simp[List.getD,kF hlt])
 simpa using this
theorem m8{P:Program}{f:FuncId}{args cap:List Value}{h:HF}{A:LH}{R:Ending->HF->LH->Prop}(hc:∀args w,(callFunc f args).run P w=.ok (.enter f args) w)(hs:od P f (args++cap).toArray h A R):
  mr P (.func (.func f) #[] cap.toArray) args.toArray h A R:=by
 intro w hp
 refine⟨.enter f (args++cap).toArray,?_,j7 (hs w hp)⟩
 simp[kJ,invoke,hc]
def exW{ρ : Type}(pe:Int->Value)(f:ρ->Value):Except Int ρ->Except Value Value
 |.ok r=>.ok (f r)
 |.error e=>.error (pe e)
theorem oy{ρ : Type}{pe:Int->Value}{f:ρ->Value}{x:Except Int ρ}{u:Value}(h:exW pe f x=.ok u):∃r,x=.ok r/\f r=u:=by
 cases x with
 |ok r=>exact⟨r,rfl,by simpa[exW]using h⟩
 |error p=>simp[exW]at h
theorem mG{ρ : Type}{pe:Int->Value}{f:ρ->Value}{x:Except Int ρ}{p:Value}(h:exW pe f x=.error p):∃e,x=.error e/\pe e=p:=by
 cases x with
 |ok r=>simp[exW]at h
 |error q=>exact⟨q,rfl,by simpa[exW]using h⟩
def exi{ρ σ : Type}:Except Int ρ->(ρ->Except Int σ)->Except Int σ
 |.ok r,k=>k r
 |.error p,_=>.error p
theorem pi{ρ σ : Type}{x:Except Int ρ}{k:ρ->Except Int σ}{r:ρ}(h:x=.ok r):exi x k=k r:=by subst h;rfl
theorem mZ{ρ σ : Type}{x:Except Int ρ}{k:ρ->Except Int σ}{p:Int}(h:x=.error p):exi x k=.error p:=by subst h;rfl
theorem kn{P:Program}{f:FuncId}{args:Array Value}{w:World}{R:Ending->World->Prop}(h:Calls P f args w R)(hno:∀w',¬R .outgrown w'):rq P f args w R:=by
 intro c cs Φ h1 h2
 obtain⟨e,w',fr,hR,hc,hfn,hl⟩:=h (c::cs)
 cases e with
 |returned v=>
  obtain⟨m',s',p'⟩:=h1 v w' hR
  exact⟨m',(show Steps P _ _ from hc).trans (.head (step_leave_returned hl) s'),p'⟩
 |panicked ch=>
  obtain⟨m',s',p'⟩:=h2 ch w' hR
  exact⟨m',(show Steps P _ _ from hc).trans (.head (step_leave_panicked hl) s'),p'⟩
 |outgrown=>exact(hno _ hR).elim
end Go.Sg

namespace Go.Sg
def smP(p:Policy):Prop:=p.Rules.length<=2000000/\(∀r∈p.Rules,r.Expr.dep<=1500000)/\p.Change.dep<=1500000/\p.Offices.length<=2000000/\p.Kinds.length<=2000000
def smV(l:List Version):Prop:=l.length<=2000000/\∀v∈l,smP v.Policy
def smR(r:Register):Prop:=smV r.Versions/\r.Appoints.length<=2000000/\r.Deputies.length<=2000000/\r.Interests.length<=2000000/\r.Budgets.length<=2000000/\r.Docs.length<=2000000/\r.Approvals.length<=2000000
theorem smP.rules{p:Policy}(h:smP p):p.Rules.length<=2000000:=h.1
theorem smP.change{p:Policy}(h:smP p):p.Change.dep<=1500000:=h.2.2.1
theorem smV.len{l:List Version}(h:smV l):l.length<=2000000:=h.1
theorem smR.vers{r:Register}(h:smR r):smV r.Versions:=h.1
inductive OkX(n:Int):Expr->Prop
 |mk (x:Expr) (hk:1<=x.Kind/\x.Kind<=4) (hn:x.Kind<=2->0<=x.No/\x.No<n) (hl:x.Kind=4->x.L.length=2) (hs:∀y∈x.L,OkX n y):OkX n x
theorem OkX.kind{n:Int}{x:Expr}(h:OkX n x):1<=x.Kind/\x.Kind<=4:=by cases h with|mk _ a=>exact a
theorem OkX.no{n:Int}{x:Expr}(h:OkX n x):x.Kind<=2->0<=x.No/\x.No<n:=by cases h with|mk _ _ a=>exact a
theorem OkX.two{n:Int}{x:Expr}(h:OkX n x):x.Kind=4->x.L.length=2:=by cases h with|mk _ _ _ a=>exact a
theorem OkX.sub{n:Int}{x:Expr}(h:OkX n x):∀y∈x.L,OkX n y:=by cases h with|mk _ _ _ _ a=>exact a
def stopV(e:Int):Value:=.iface 358 (.agg (sU.cells ⟨e⟩).toArray)
def errV(e:Int):Value:=.iface 37 (.int .i64 e)
def kindsC:List Value:=[.func (.func 405) #[] #[],.func (.func 406) #[] #[],.func (.func 407) #[] #[],.func (.func 408) #[] #[],.func (.func 409) #[] #[]]
def kfun(i:Int):Value:=kindsC.getD i.toNat .nilFunc
def Kinds(h:HF):Prop:=∃T fz,h 0=some (.cells kindsC.toArray T fz)
theorem Kinds.mono{h h':HF}(k:Kinds h)(hl:h.le h'):Kinds h':=let ⟨T,fz,e⟩:=k;⟨T,fz,hl _ _ e⟩
theorem Kinds.at{h:HF}(k:Kinds h){i:Int}(hi:0<=i/\i<5):At h ((⟨0,0,none⟩:Addr).add (i.toNat*1)) [kfun i]:=by
 obtain⟨T,fz,e⟩:=k
 rw[qz]
 refine At.EI e (λj v hj=>?_)
 have hj0:j=0:=by
  cases j with
  |zero=>rfl
  |succ j=>simp at hj
 subst hj0
 simp at hj
 subst hj
 have:i=0\/i=1\/i=2\/i=3\/i=4:=by omega
 rcases this with rfl|rfl|rfl|rfl|rfl<;>rfl
def VFn(_:HF)(v:Value)(x:Value):Prop:=v=x
theorem VFn.mono:zh VFn:=λ_ _ _ _ _ e=>e
theorem mI{κ α : Type}[DecidableEq κ]:∀(m:List (κ×α))(k:κ)(v:α),(mput m k v).length<=m.length+1
 |[],_,_=>by simp[mput]
 |(k',v')::r,k,v=>by
  have:=mI r k v
  simp only[mput]
  split<;>simp<;>omega
theorem Pq{s:ByteArray}(h:(s.toList==(⟨#[]⟩:ByteArray).toList)=false):0<s.size:=by
 rcases Nat.eq_zero_or_pos s.size with h0|h0
 .exfalso
  have:s=⟨#[]⟩:=by
   cases s with
   |mk d=>
    have:d=#[]:=Array.eq_empty_of_size_eq_zero h0
    rw[this]
  rw[this]at h;simp at h
 .exact h0
abbrev pt:=ft
abbrev Mu:=sV
abbrev pt.cells(x:ft)(r:sV):List Go.Value:=ft.cells x r
structure pt.ok(h:HF)(x:ft)(r:sV):Prop where
 signed:SlC qC h r.bZ r.bY x.signed
theorem pt.ok.mono{h h':HF}{x:ft}{r:sV}(a:pt.ok h x r)(hl:h.le h'):pt.ok h' x r:=⟨a.signed.mono vG hl⟩
end Go.Sg

namespace Go.Sg
def deferFrame(f:FuncId):Frame:={ fn:=f,tmps:=#[],todo:=[],defers:=[],mode:=.run,kind:=.deferred,roundOf:=none }
section
variable {P:Program} {f:FuncId} {n:Nat} {k:List Item} {e:Env} {X:Cx} {h:HF} {L:LH} {ops:Array Oper} {l:List Oper} {d:Nat} {ty:TypeId} {pos:String} {af:Array Edge} {g:Option (Nat×Bool)} {ats:Array TypeId}
theorem D4{F F':List Frame->(Machine->Prop)->Prop}{ds:List Deferred}(v:Value)(hF:∀cs Φ,F cs Φ->∃cs',recoverD cs=some (v,cs')/\F' cs' Φ)(t:TO P (deferFrame f) n ops l k F' (upd e d v) ds X h L)(hd:Nat.blt d n=true:=by rfl)(hg:guardB ops e ⟨some d,.call ⟨.builtin .recover,#[],ats⟩,ty,pos,af,g⟩=true:=by rfl):
  TO P (deferFrame f) n ops (⟨some d,.call ⟨.builtin .recover,#[],ats⟩,ty,pos,af,g⟩::l) k F e ds X h L:=by
 intro w hw is hi a cs Φ hn he hds hF0
 obtain⟨i,js,rfl,ho,hj⟩:=oZ hi
 obtain⟨cs',hrec,hF1⟩:=hF cs Φ hF0
 have hwt:=(fK (ops:=ops) he).trans hg
 have hst:=stepGR_op (P:=P) (b:=deferFrame f) (k:=k) (cs:=cs) (w:=w) (rest:=js) ho hwt
 have hr:(execOp a.eval ⟨some d,.call ⟨.builtin .recover,#[],ats⟩,ty,pos,af,g⟩).run P w=.ok .recover w:=by
  simp[execOp,resolve,invoke,builtin]
 have htr:tryRecover ((deferFrame f).atR a (.inRegion ops (i::js)::k)) cs=some (v,cs'):=by
  rw[tryRecover_deferred (by rfl) cs,hrec]
 have hput:envOf (a.put (some d) v)=upd e d v:=by rw[oI a d v (by rw[hn];exact oB hd),he]
 refine .step (m₁:=lone ((deferFrame f).atR (a.put (some d) v) (.inRegion ops js::k)) cs' w) ?_ (t w hw js hj (a.put (some d) v) cs' Φ (by rw[nX];exact hn) hput (by rw[lR];exact hds) hF1)
 refine step_lone_go ?_
 rw[hst,jI _ _ rfl,←gQ a js k ho v]
 simp[stepG.apply,hr,htr]
 rfl
theorem CC{F:List Frame->(Machine->Prop)->Prop}{ds:List Deferred}(hF:∀cs Φ,F cs Φ->recoverD cs=none)(t:TO P (deferFrame f) n ops l k F (upd e d .nilIface) ds X h L)(hd:Nat.blt d n=true:=by rfl)(hg:guardB ops e ⟨some d,.call ⟨.builtin .recover,#[],ats⟩,ty,pos,af,g⟩=true:=by rfl):
  TO P (deferFrame f) n ops (⟨some d,.call ⟨.builtin .recover,#[],ats⟩,ty,pos,af,g⟩::l) k F e ds X h L:=by
 intro w hw is hi a cs Φ hn he hds hF0
 obtain⟨i,js,rfl,ho,hj⟩:=oZ hi
 have hrec:=hF cs Φ hF0
 have hwt:=(fK (ops:=ops) he).trans hg
 have hst:=stepGR_op (P:=P) (b:=deferFrame f) (k:=k) (cs:=cs) (w:=w) (rest:=js) ho hwt
 have hr:(execOp a.eval ⟨some d,.call ⟨.builtin .recover,#[],ats⟩,ty,pos,af,g⟩).run P w=.ok .recover w:=by
  simp[execOp,resolve,invoke,builtin]
 have htr:tryRecover ((deferFrame f).atR a (.inRegion ops (i::js)::k)) cs=none:=by
  rw[tryRecover_deferred (by rfl) cs,hrec]
 have hput:envOf (a.put (some d) .nilIface)=upd e d .nilIface:=by rw[oI a d _ (by rw[hn];exact oB hd),he]
 refine .step (m₁:=lone ((deferFrame f).atR (a.put (some d) .nilIface) (.inRegion ops js::k)) cs w) ?_ (t w hw js hj (a.put (some d) .nilIface) cs Φ (by rw[nX];exact hn) hput (by rw[lR];exact hds) hF0)
 refine step_lone_go ?_
 rw[hst,jI _ _ rfl,←gQ a js k ho .nilIface]
 simp[stepG.apply,hr,htr]
 rfl
def FT(P:Program)(X:Cx)(u':FrameMode)(R:HF->LH->Prop)(cs:List Frame)(Φ : Machine->Prop):Prop:=
 ∃c rest,cs=c::rest/\c.mode=u'/\∀w',(∃h' B,St X h' B w'/\R h' B)->To P Φ (lone { c with mode:=settle u' } rest w')
theorem Hz{fn:Func}{u':FrameMode}{R:HF->LH->Prop}(hf:P.funcs[f]? = some fn)(hr:fn.results=#[])(hR:R h L):TT P (deferFrame f) n [] (FT P X u' R) e [] X h L:=by
 intro w hw a cs Φ hn he hds hF
 obtain⟨c,rest,rfl,hm,h1⟩:=hF
 refine .step (stepR_end rfl) ?_
 have hgo:Frame.going P { (deferFrame f).atR a []with mode:=.returning } w (.returned (.tuple #[])):=⟨rfl,hds,fn,hf,mb hr a w⟩
 refine .step (step_going_returned (c:=c) (cs:=rest) rfl hgo) ?_
 rw[hm]
 exact h1 w ⟨h,L,hw,hR⟩
end
section
variable {P:Program} {b:Frame} {n:Nat} {k:List Item} {F:List Frame->(Machine->Prop)->Prop} {e:Env} {ds:List Deferred} {X:Cx} {h:HF} {L:LH} {ops:Array Oper} {l:List Oper} {ty:TypeId} {pos:String} {af:Array Edge} {g:Option (Nat×Bool)}
theorem NN{t:Nat}{fv:Fn}{cap:Array Value}{ats:Array TypeId}(hro:b.roundOf=none)(hf:e t=.func fv #[] cap)(t':TO P b n ops l k F e ({ target:=.fn fv cap,args:=#[] }::ds) X h L)(hg:guardB ops e ⟨none,.defer ⟨.value (.tmp t),#[],ats⟩,ty,pos,af,g⟩=true:=by rfl):TO P b n ops (⟨none,.defer ⟨.value (.tmp t),#[],ats⟩,ty,pos,af,g⟩::l) k F e ds X h L:=by
 intro w hw is hi a cs Φ hn he hds hF
 obtain⟨i,js,rfl,ho,hj⟩:=oZ hi
 have hwt:=(fK (ops:=ops) he).trans hg
 have hst:=stepGR_op (P:=P) (b:=b) (k:=k) (cs:=cs) (w:=w) (rest:=js) ho hwt
 have hr:(execOp a.eval ⟨none,.defer ⟨.value (.tmp t),#[],ats⟩,ty,pos,af,g⟩).run P w=.ok (.defer { target:=.fn fv cap,args:=#[] }) w:=by
  have hev:a.eval (.tmp t)=.func fv #[] cap:=by rw[jZ,he];exact hf
  simp[execOp,resolve,hev,kJ]
 have hs:Oper.semAt b.roundOf a.eval ⟨none,.defer ⟨.value (.tmp t),#[],ats⟩,ty,pos,af,g⟩=execOp a.eval ⟨none,.defer ⟨.value (.tmp t),#[],ats⟩,ty,pos,af,g⟩:=by rw[hro];rfl
 refine .step (m₁:=lone (b.atR { a with defers:={ target:=.fn fv cap,args:=#[] }::a.defers } (.inRegion ops js::k)) cs w) ?_ (t' w hw js hj { a with defers:={ target:=.fn fv cap,args:=#[] }::a.defers } cs Φ hn he (by rw[hds]) hF)
 refine step_lone_go ?_
 have hfin:=gQ (b:=b) { a with defers:={ target:=.fn fv cap,args:=#[] }::a.defers } js k ho undef
 rw[hst,hs]
 simp only[stepG.apply,Sem.runT_eq,hr,GStep.bare_after]
 exact congrArg (λfr=>GStep.go { frame:=fr,callers:=cs,status:=.running,dying:=none } w) hfin
end
theorem Ph{P:Program}{f g:FuncId}{n m:Nat}{k:List Item}{e:Env}{X:Cx}{h:HF}{L A Fr:LH}{cap:List Value}{c:Code}{fn gn:Func}{R:Ending->HF->LH->Prop}{R':HF->LH->Prop}(hf:P.funcs[f]? = some fn)(hg:P.funcs[g]? = some gn)(hb:gn.body=some c)(hm:gn.ntmps=m)(hle:Nat.ble cap.length m=true)(hc:∀args w,(callFunc g args).run P w=.ok (.enter g args) w)(t:∀X':Cx,X'.h0=h->TT P (deferFrame g) m [.code c] (FT P X' .returning R') (envArgs cap) [] X' h A)(hL:L=A++Fr)(fin:∀h' B,h.le h'->R' h' B->∀a:Act,envOf a=e->∀w,St X h' (B++Fr) w->∃v h2 B2,(results fn a.tmps).run P w=.ok v w/\St X h2 B2 w/\R (.returned v) h2 B2):
  TT P (bodyFrame f) n (.code .ret::k) (lS P X R) e [{ target:=.fn (.func g) cap.toArray,args:=#[] }] X h L:=by
 intro w hw a cs Φ hn he hds hF
 obtain⟨cc,cs',rfl,h1,_⟩:=hF
 subst hL
 refine .step (stepR_ret rfl) ?_
 have hinv:(invoke (.fn (.func g) cap.toArray) #[]).run P w=.ok (.enter g cap.toArray) w:=by simp[invoke,hc]
 refine .step (step_defer (fr:={ (bodyFrame f).atR a (.code .ret::k)with mode:=.returning }) (by simp) hds rfl hinv) ?_
 have hle':=vQ hle
 have henter:aAb P g cap.toArray .deferred=(deferFrame g).atR { tmps:=cap.toArray++aAL (m-cap.length) undef,defers:=[] } [.code c]:=by
  simp[aAb,aA6,hg,hb,hm,deferFrame]
 rw[henter]
 refine t ⟨w,h,A.map (·.1)⟩ rfl w (aBd hw.pre.left) _ _ Φ (by simp;omega) (oz _ _) rfl ⟨_,cc::cs',rfl,rfl,?_⟩
 rintro w' ⟨h',B,hst,hR'⟩
 obtain⟨v,h2,B2,hv,hs2,hR⟩:=fin h' B hst.le hR' a he w' (hw.after hst)
 refine .step (ip (fn:=fn) (v:=v) rfl rfl rfl hf hv) ?_
 exact h1 v w' ⟨h2,B2,hs2,hR⟩
theorem Pk{P:Program}{f g:FuncId}{n m:Nat}{e:Env}{X:Cx}{h:HF}{L A Fr:LH}{cap:List Value}{c:Code}{fn gn:Func}{R:Ending->HF->LH->Prop}{R':HF->LH->Prop}{pv:Value}(hf:P.funcs[f]? = some fn)(hg:P.funcs[g]? = some gn)(hb:gn.body=some c)(hm:gn.ntmps=m)(hle:Nat.ble cap.length m=true)(hc:∀args w,(callFunc g args).run P w=.ok (.enter g args) w)(t:∀X':Cx,X'.h0=h->TT P (deferFrame g) m [.code c] (λcs Φ=>∃c rest,cs=c::rest/\c.mode=.panicking [{ v:=pv,recovered:=false }]/\FT P X' (.panicking [{ v:=pv,recovered:=true }]) R' ({ c with mode:=.panicking [{ v:=pv,recovered:=true }] }::rest) Φ) (envArgs cap) [] X' h A)(hL:L=A++Fr)(fin:∀h' B,h.le h'->R' h' B->∀a:Act,envOf a=e->∀w,St X h' (B++Fr) w->∃v h2 B2,(results fn a.tmps).run P w=.ok v w/\St X h2 B2 w/\R (.returned v) h2 B2):
  TP P (bodyFrame f) n [{ v:=pv,recovered:=false }] (lS P X R) e [{ target:=.fn (.func g) cap.toArray,args:=#[] }] X h L:=by
 intro w hw a cs Φ todo hn he hds hF
 obtain⟨cc,cs',rfl,h1,_⟩:=hF
 subst hL
 have hinv:(invoke (.fn (.func g) cap.toArray) #[]).run P w=.ok (.enter g cap.toArray) w:=by simp[invoke,hc]
 refine .step (step_defer (fr:={ (bodyFrame f).atR a todo with mode:=.panicking [{ v:=pv,recovered:=false }] }) (by simp) hds rfl hinv) ?_
 have hle':=vQ hle
 have henter:aAb P g cap.toArray .deferred=(deferFrame g).atR { tmps:=cap.toArray++aAL (m-cap.length) undef,defers:=[] } [.code c]:=by
  simp[aAb,aA6,hg,hb,hm,deferFrame]
 rw[henter]
 refine t ⟨w,h,A.map (·.1)⟩ rfl w (aBd hw.pre.left) _ _ Φ (by simp;omega) (oz _ _) rfl ⟨_,cc::cs',rfl,rfl,_,cc::cs',rfl,rfl,?_⟩
 rintro w' ⟨h',B,hst,hR'⟩
 obtain⟨v,h2,B2,hv,hs2,hR⟩:=fin h' B hst.le hR' a he w' (hw.after hst)
 refine .step (ip (fn:=fn) (v:=v) rfl rfl rfl hf hv) ?_
 exact h1 v w' ⟨h2,B2,hs2,hR⟩
end Go.Sg

namespace Go.Sg
section steps
variable {P:Program} {b:Frame} {n:Nat} {ops:Array Oper} {F:List Frame->(Machine->Prop)->Prop} {e:Env} {ds:List Deferred} {X:Cx} {h:HF} {L:LH} {K:Env->HF->LH->Prop}
variable {d:Option Nat} {ty:TypeId} {pos:String} {af:Array Edge} {g:Option (Nat×Bool)}
theorem Lv{t T E:TypeId}{x:Operand}{bk:Nat}{es:Array MapEntry}{clock:Nat}(hT:P.underlying t=some (.map T E))(hb:h bk=some (.map es clock))(hx:e.ev x=.map (some bk))(t':∀it,K (pute e d (.pointer (some ⟨it,0,none⟩))) h ((it,.mapIter (some bk) clock #[] clock)::L))(hg:guardB ops e ⟨d,.range t x,ty,pos,af,g⟩=true:=by rfl):Stp P b n ops F ds X ⟨d,.range t x,ty,pos,af,g⟩ e h L K:=
 iM hg λw hw=>⟨_,_,h,_,by simp[execOp,Instr.range,hx,run_underlying hT,pX (hw.imm _ _ hb)],hw.alloc _,t' _⟩
theorem NX(i:Nat){x:Operand}{it bk since c0:Nat}{seen:Array Nat}{es:Array MapEntry}{clock:Nat}(hL:nth L i=some (it,.mapIter (some bk) since seen c0))(hb:h bk=some (.map es clock))(hold:∀x∈es.toList,x.born<since)(hsc:since<=c0)(hx:e.ev x=.pointer (some ⟨it,0,none⟩))(no:(leftOf es seen).size=0->K (pute e d (.tuple #[.bool false])) h L)(yes:∀en∈(leftOf es seen).toList,K (pute e d (.tuple #[.bool true,en.key,en.val])) h (setNth L i (it,.mapIter (some bk) since (seen.push en.born) clock)))(hg:guardB ops e ⟨d,.next x false,ty,pos,af,g⟩=true:=by rfl):Stp P b n ops F ds X ⟨d,.next x false,ty,pos,af,g⟩ e h L K:=by
 refine iM hg λw hw=>?_
 have hit:w.heap[it]? = some (.mapIter (some bk) since seen c0):=by
  have h2:=hL
  rw[im]at h2
  exact hw.own _ (xE h2)
 rcases run_next_at (P:=P) w ty it bk since c0 seen es clock hit (hw.imm _ _ hb) hold hsc with⟨h0,hr⟩|⟨en,hen,w1,hw1,hr⟩
 .exact⟨_,w,h,L,by simp[execOp,hx,hr],hw,no h0⟩
 .have hw1':St X h L w1:=by
   rcases hw1 with rfl|rfl
   .exact hw
   .exact hw.drew _
  exact⟨.tuple #[.bool true,en.key,en.val],{ w1 with heap:=w1.heap.setIfInBounds it (.mapIter (some bk) since (seen.push en.born) clock) },h,_,by simp[execOp,hx,hr];rfl,hw1'.write hL _,yes en hen⟩
theorem Lz(i:Nat){x:Operand}{it bk since:Nat}{seen:Array Nat}{es:Array MapEntry}{clock:Nat}{en:MapEntry}(hL:nth L i=some (it,.mapIter (some bk) since (seen.push en.born) clock))(hb:h bk=some (.map es clock))(he:en∈es.toList)(hn:(es.toList.map (·.born)).Nodup)(hx:e.ev x=.pointer (some ⟨it,0,none⟩)):
  ∀w,St X h L w->(execOp e.ev ⟨d,.entry x,ty,pos,af,g⟩).run P w=.ok (.value (.tuple #[en.key,en.val])) w:=λw hw=>by
 have hit:w.heap[it]? = some (.mapIter (some bk) since (seen.push en.born) clock):=by
  have h2:=hL
  rw[im]at h2
  exact hw.own _ (xE h2)
 have:=run_entry_at (P:=P) w it bk since seen es clock en hit (hw.imm _ _ hb) he hn
 simp[execOp,hx,this]
end steps
def FS{α : Type}(P:Program)(it:Value)(val:α->HF->List Value->Prop)(S:List α->Prop)(h:HF):Prop:=
 ∃(f0:FuncId)(cap:List Value),it=.func (.func f0) #[] cap.toArray/\(∀args w,(callFunc f0 args).run P w=.ok (.enter f0 args) w) /\
  ∀(yf:Fn)(ya yb:Array Value)(C:List α->HF->LH->Prop)(Sp:HF->LH->Prop)(Pn:List PanicEntry->HF->LH->Prop)(h':HF)(A:LH),h.le h' ->
   (∀done h1 h2 B,jM h1 h2->C done h1 B->C done h2 B)->(∀h1 h2 B,jM h1 h2->Sp h1 B->Sp h2 B)->(∀ch h1 h2 B,jM h1 h2->Pn ch h1 B->Pn ch h2 B)->C [] h' A ->
   (∀done x vs h'' B,(∃rest,S (done++x::rest))->h'.le h''->C done h'' B->val x h'' vs->mr P (.func yf ya yb) vs.toArray h'' B (YR C Sp Pn done x)) ->
   mr P it #[.func yf ya yb] h' A (λr h2 B=>(r=.returned (.tuple #[])/\((∃xs,S xs/\C xs h2 B)\/Sp h2 B))\/∃ch,r=.panicked ch/\Pn ch h2 B)
theorem GF{α : Type}{P:Program}{f:FuncId}{n:Nat}{k:List Item}{F:List Frame->(Machine->Prop)->Prop}{e:Env}{ds:List Deferred}{X:Cx}{h:HF}{L:LH}{g:Operand}{ps:List Tmp}{assign body:Code}{val:α->HF->List Value->Prop}{S:List α->Prop}(I:List α->HF->LH->Prop)(J:Code->HF->LH->Prop)(Pn:List PanicEntry->HF->LH->Prop){it:Value}(hgv:e.ev g=it)(hit:FS P it val S h)(hps:ps.all (λp=>kR p n)=true)(hval:∀x h vs,val x h vs->vs.length=ps.length)(hIm:∀done h1 h2 B,jM h1 h2->I done h1 B->I done h2 B)(hJm:∀c h1 h2 B,jM h1 h2->J c h1 B->J c h2 B)(hPm:∀ch h1 h2 B,jM h1 h2->Pn ch h1 B->Pn ch h2 B)(h0:I [] h L)(round:∀l r lp done x vs h' L' X',(∃rest,S (done++x::rest))->h.le h'->I done h' L'->val x h' vs->lp.state=.ready->X'.h0=h'->(∀b∈X'.M,b<X'.w0.heap.size) ->
   TT P (roundFrame l f) n [.code assign,.beginRound,.code body] (lS P X' (RdR l r lp I J Pn done x)) (setParams e ps vs) [] X' h' ((l,.loop lp)::(r,.deferred (some []))::L'))(next:∀r xs h' L',S xs->h.le h'->I xs h' L'->TT P (bodyFrame f) n k F e ({ target:=.collected r,args:=#[] }::ds) X h' ((r,.deferred (some []))::L'))(jump:∀r c h' L',h.le h'->J c h' L'->TT P (bodyFrame f) n (.code c::k) F e ({ target:=.collected r,args:=#[] }::ds) X h' ((r,.deferred (some []))::L'))(pan:∀r ch h' L',h.le h'->Pn ch h' L'->TP P (bodyFrame f) n ch F e ({ target:=.collected r,args:=#[] }::ds) X h' ((r,.deferred (some []))::L')):
  TT P (bodyFrame f) n (.code (.rangeFunc g ps.toArray assign body)::k) F e ds X h L:=by
 obtain⟨f0,cap,rfl,hc0,hit⟩:=hit
 intro w hw a cs Φ hn he hds hF
 let r:=w.heap.size
 let w1:World:={ w with heap:=w.heap.push (.deferred (some [])) }
 have hw1:St X h ((r,.deferred (some []))::L) w1:=hw.alloc _
 let l:=w1.heap.size
 let lp:Loop:={ state:=.ready,pending:=none,fn:=f,tmps:=a.tmps,params:=ps.toArray,assign,body,defers:=r }
 let w2:World:={ w1 with heap:=w1.heap.push (.loop lp) }
 have hw2:St X h ((l,.loop lp)::(r,.deferred (some []))::L) w2:=hw1.alloc _
 have henter:(aBY (bodyFrame f).fn a.tmps ps.toArray assign body (bodyFrame f).roundOf).run P w=.ok (l,[{ target:=.collected r,args:=#[] }]) w2:=by
  simp[aBY,bodyFrame,r,l,lp,w2,w1]
 let C:List α->HF->LH->Prop:=λdone h' B=>∃L',B=(l,.loop lp)::(r,.deferred (some []))::L'/\I done h' L'
 let Sp:HF->LH->Prop:=λh' B=>∃c L',B=(l,.loop { lp with state:=.done,pending:=some c })::(r,.deferred (some []))::L'/\J c h' L'
 let Pm:List PanicEntry->HF->LH->Prop:=λch h' B=>∃lp' L',B=(l,.loop lp')::(r,.deferred (some []))::L'/\Pn ch h' L'
 have hps':∀p∈ps,p<n:=λp hp=>oB (List.all_eq_true.1 hps p hp)
 have hy:∀done x vs h'' B,(∃rest,S (done++x::rest))->h.le h''->C done h'' B->val x h'' vs->mr P (.func (.yield l) #[] #[]) vs.toArray h'' B (YR C Sp Pm done x):=by
  rintro done x vs h'' B hxs hle ⟨L',rfl,hI⟩ hv
  refine mr.mono (R:=RdR l r lp I J Pn done x) (wK (i:=0) (lp:=lp) rfl (by simp[lp];exact hval x h'' vs hv) ?_) ?_
  .intro X' _ hX' hXM'
   have henv:envOf { tmps:=(ps.toArray.zip vs.toArray).foldl (λtmps p=>tmps.setIfInBounds p.1 p.2) a.tmps,defers:=[] }=setParams e ps vs:=by
    have:=rA ps vs a.tmps a.defers hn hps'
    rw[←he]
    rw[←Array.foldl_toList]
    simpa using this
   have:=round l r lp done x vs h'' L' X' hxs hle hI hv rfl hX' hXM'
   rw[←henv,←hn]at this
   exact this
  .rintro x' h3 B' _ (⟨e1,L2,e2,h2⟩|⟨e1,c,L2,e2,h2⟩|⟨ch,e1,lp',L2,e2,h2⟩)
   .exact .inl ⟨e1,L2,e2,h2⟩
   .exact .inr (.inl ⟨e1,c,L2,e2,h2⟩)
   .exact .inr (.inr ⟨ch,e1,lp',L2,e2,h2⟩)
 have hs:=hit (.yield l) #[] #[] C Sp Pm h ((l,.loop lp)::(r,.deferred (some []))::L) (qP h) (λ_ _ _ _ hl⟨L',e1,hi⟩=>⟨L',e1,hIm _ _ _ _ hl hi⟩) (λ_ _ _ hl⟨c,L',e1,hi⟩=>⟨c,L',e1,hJm _ _ _ _ hl hi⟩) (λ_ _ _ _ hl⟨lp',L',e1,hi⟩=>⟨lp',L',e1,hPm _ _ _ _ hl hi⟩) ⟨L,rfl,h0⟩ hy
 obtain⟨nx,hrun,hcall⟩:=hs w2 hw2.pre
 have hev:a.eval g=e.ev g:=by rw[jZ,he]
 have hnx:nx=.enter f0 (Value.func (.yield l) #[] #[]::cap).toArray:=by
  simp[kJ,invoke,hc0]at hrun
  simpa using hrun.symm
 subst hnx
 have hres:(resolve a.eval (rangeCall g l) 0).run P w2=.ok { target:=.fn (.func f0) cap.toArray,args:=#[.func (.yield l) #[] #[]] } w2:=by
  have hcst:∀v,a.eval (.const v)=v:=λ_=>rfl
  simp[resolve,rangeCall,hev,hgv,hcst,kJ]
 have hinv:(invoke (.fn (.func f0) cap.toArray) #[.func (.yield l) #[] #[]]).run P w2=.ok (.enter f0 (Value.func (.yield l) #[] #[]::cap).toArray) w2:=by
  simp[invoke,hc0]
 have hback:∀v w3,(∃h' B,St ⟨w2,h,((l,Obj.loop lp)::(r,.deferred (some []))::L).map (·.1)⟩ h' B w3/\(λ(r:Ending)(h2:HF)(B:LH)=>(r=.returned (.tuple #[])/\((∃xs,S xs/\C xs h2 B)\/Sp h2 B))\/∃ch,r=.panicked ch/\Pm ch h2 B) (.returned v) h' B) ->
   To P Φ (lone (((bodyFrame f).atR { a with defers:=[{ target:=.collected r,args:=#[] }]++a.defers } (.inRangeFunc l::k)).finish v) cs w3):=by
  rintro v w3 ⟨h',B,hst,hR⟩
  rw[finish_atR_inRangeFunc]
  have hS3:St X h' B w3:=by
   have:=aBq (A:=(l,.loop lp)::(r,.deferred (some []))::L) (F:=[]) (by simpa using hw2) hst
   simpa using this
  have hle:=hst.le
  rcases hR with⟨_,hCS⟩|⟨ch,hx,_⟩
  .rcases hCS with⟨xs,hxs,L',rfl,hI⟩|⟨c,L',rfl,hJ⟩
   .have hb:w3.heap[l]? = some (.loop lp):=hS3.own _ (zB ..)
    have hend:(Instr.endLoop l).run P w3=.ok none { w3 with heap:=w3.heap.setIfInBounds l (.loop { lp with state:=.exhausted }) }:=by
     simp[Instr.endLoop,aBo,getObj,setObj,aBX,hb,lp]
    refine .step (stepR_endRangeFunc hend) ?_
    have hS4:=hS3.write (i:=0) rfl (.loop { lp with state:=.exhausted })
    exact next r xs h' L' hxs hle hI _ (hS4.sub (List.sublist_cons_self ..)) { a with defers:={ target:=.collected r,args:=#[] }::a.defers } cs Φ hn he (by rw[hds]) hF
   .have hb:w3.heap[l]? = some (.loop { lp with state:=.done,pending:=some c }):=hS3.own _ (zB ..)
    have hend:(Instr.endLoop l).run P w3=.ok (some c) { w3 with heap:=w3.heap.setIfInBounds l (.loop { lp with state:=.exhausted,pending:=some c }) }:=by
     simp[Instr.endLoop,aBo,getObj,setObj,aBX,hb,lp]
    refine .step (stepR_endRangeFunc hend) ?_
    have hS4:=hS3.write (i:=0) rfl (.loop { lp with state:=.exhausted,pending:=some c })
    exact jump r c h' L' hle hJ _ (hS4.sub (List.sublist_cons_self ..)) { a with defers:={ target:=.collected r,args:=#[] }::a.defers } cs Φ hn he (by rw[hds]) hF
  .cases hx
 have hraise:∀ch w3,(∃h' B,St ⟨w2,h,((l,Obj.loop lp)::(r,.deferred (some []))::L).map (·.1)⟩ h' B w3/\(λ(r:Ending)(h2:HF)(B:LH)=>(r=.returned (.tuple #[])/\((∃xs,S xs/\C xs h2 B)\/Sp h2 B))\/∃ch,r=.panicked ch/\Pm ch h2 B) (.panicked ch) h' B) ->
   To P Φ (lone (((bodyFrame f).atR { a with defers:=[{ target:=.collected r,args:=#[] }]++a.defers } (.inRangeFunc l::k)).raise ch) cs w3):=by
  rintro ch w3 ⟨h',B,hst,hR⟩
  have hS3:St X h' B w3:=by
   have:=aBq (A:=(l,.loop lp)::(r,.deferred (some []))::L) (F:=[]) (by simpa using hw2) hst
   simpa using this
  rcases hR with⟨hx,_⟩|⟨ch',hx,lp',L',rfl,hP⟩
  .cases hx
  .cases hx
   exact pan r ch h' L' hst.le hP w3 (hS3.sub (List.sublist_cons_self ..)) { a with defers:={ target:=.collected r,args:=#[] }::a.defers } cs Φ _ hn he (by rw[hds]) hF
 refine .step (stepR_rangeFunc henter hres hinv) ?_
 exact hcall _ cs Φ hback hraise
theorem CV{es:List MapEntry}(hn:(es.map (·.born)).Nodup)(is:List Nat)(hlt:∀i∈is,i<es.length):
  ((leftOf es.toArray (is.map λi=>(es[i]?.map (·.born)).getD 0).toArray).size=0->∀i,i<es.length->i∈is) /\
  ∀en∈(leftOf es.toArray (is.map λi=>(es[i]?.map (·.born)).getD 0).toArray).toList,∃i,es[i]? = some en/\i∉is:=by
 have hmem:∀en,en∈(leftOf es.toArray (is.map λi=>(es[i]?.map (·.born)).getD 0).toArray).toList↔en∈es/\en.born∉is.map λi=>(es[i]?.map (·.born)).getD 0:=by
  intro en
  simp[leftOf]
 constructor
 .intro h0 i hi
  apply Classical.byContradiction
  intro hni
  have:es[i]∈(leftOf es.toArray (is.map λi=>(es[i]?.map (·.born)).getD 0).toArray).toList:=by
   rw[hmem]
   refine⟨List.getElem_mem hi,λhm=>?_⟩
   obtain⟨j,hj,hje⟩:=jQ.1 hm
   have hjl:=hlt j hj
   simp only[kF hjl,Option.map_some,Option.getD_some]at hje
   have:j=i:=by
    have h1:(es.map (·.born))[j]? = (es.map (·.born))[i]?:=by simp[kF hjl,kF hi,hje]
    exact(List.getElem?_inj (by simpa using hjl) hn).1 h1
   exact hni (this▸hj)
  have hl:(leftOf es.toArray (is.map λi=>(es[i]?.map (·.born)).getD 0).toArray).toList.length=0:=by simpa using h0
  rw[List.length_eq_zero_iff]at hl
  rw[hl]at this
  exact kA this
 .intro en hen
  rw[hmem]at hen
  obtain⟨i,hi,rfl⟩:=List.mem_iff_getElem.1 hen.1
  refine⟨i,kF hi,λhm=>hen.2 (jQ.2 ⟨i,hm,?_⟩)⟩
  simp[kF hi]
end Go.Sg

namespace Go.Sg
section
variable {P:Program} {b:Frame} {n:Nat} {k:List Item} {F:List Frame->(Machine->Prop)->Prop} {e:Env} {ds:List Deferred} {X:Cx} {h:HF} {L:LH}
end
theorem My{α ι : Type}{P:Program}{f:FuncId}{fn:Func}{n:Nat}{k:List Item}{F:List Frame->(Machine->Prop)->Prop}{e:Env}{X:Cx}{h:HF}{L:LH}{g:Operand}{ps:List Tmp}{assign body:Code}{val:α->HF->List Value->Prop}{xs:List α}{it:Value}(rs:List Nat)(hh:ι->HF)(LL:ι->LH)(I:List α->ι->Prop)(JR:ι->Prop)(xid:Nat)(Q:List PanicEntry->HF->LH->Prop)(i₀ : ι)(hf:P.funcs[f]? = some fn)(hgv:e.ev g=it)(hit:Itr P it val xs h)(hps:ps.all (λp=>kR p n)=true)(hval:∀x h vs,val x h vs->vs.length=ps.length)(hQm:∀ch h1 h2 B,jM h1 h2->Q ch h1 B->Q ch h2 B)(hh0:hh i₀=h)(hL0:L=LL i₀)(h0:I xs i₀)(round:∀(l r:Nat)(lp:Loop)(x:α)(rest:List α)(vs:List Value)(i:ι)(h':HF)(X':Cx)(FR:List Frame->(Machine->Prop)->Prop),I (x::rest) i->h.le h'->(hh i).le h'->val x h' vs->X'.h0=h'->(∀b∈X'.M,b<X'.w0.heap.size)->lp.state=.ready ->
   (∀i' e' h2,I rest i'->(hh i').le h2->TT P (roundFrame l f) n [] FR e' [] X' h2 (rdH l r lp (LL i'++markB rs))) ->
   (∀i' e' h2 k',JR i'->(hh i').le h2->TT P (roundFrame l f) n (.code .ret::k') FR e' [] X' h2 (rdH l r lp (LL i'++markB rs))) ->
   (∀i' e' h2 k',I [] i'->(hh i').le h2->exitTo xid k'=none->TT P (roundFrame l f) n (.code (.exit xid)::k') FR e' [] X' h2 (rdH l r lp (LL i'++markB rs))) ->
   (∀ch e' h' L',Q ch h' L'->TP P (roundFrame l f) n ch FR e' [] X' h' (rdH l r lp (L'++markB rs))) ->
   TT P (roundFrame l f) n [.code assign,.beginRound,.code body] FR (setParams e ps vs) [] X' h' ((l,.loop lp)::(r,.deferred (some []))::(LL i++markB rs)))(next:∀r i h',I [] i->(hh i).le h'->h.le h'->TT P (bodyFrame f) n k F e (marks (r::rs)) X h' (LL i++markB (r::rs)))(jret:∀r i h',JR i->(hh i).le h'->h.le h'->TT P (bodyFrame f) n (.code .ret::.inBlock xid::k) F e (marks (r::rs)) X h' (LL i++markB (r::rs)))(pan:∀r ch h' L',Q ch h' L'->h.le h'->TP P (bodyFrame f) n ch F e (marks (r::rs)) X h' (L'++markB (r::rs))):
  TT P (bodyFrame f) n (.code (.rangeFunc g ps.toArray assign body)::.inBlock xid::k) F e (marks rs) X h (L++markB rs):=
 j3 rs hh LL I JR (λi=>I [] i) xid Q i₀ hf hgv hit hps hval hQm hh0 hL0 h0 round (λr i h' a b c=>eF (next r i h' a b c)) jret
  (λr i h' a b c=>lI (by simp[exitTo]) (next r i h' a b c)) pan
section mputs
variable {κ α : Type} [DecidableEq κ]
end mputs
end Go.Sg
