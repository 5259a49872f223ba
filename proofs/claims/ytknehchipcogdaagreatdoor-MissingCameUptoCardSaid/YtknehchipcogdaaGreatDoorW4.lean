import Derived.KernelRfl
import Derived.Test.YtknehchipcogdaaGreatDoorProg
import Derived.ChangeArms
import Derived.OpenShut
import Derived.Test.YtknehchipcogdaaGreatDoorRows
import Derived.LaidHandle
import Derived.WordedOn
import Derived.ChangeSame
import Derived.Carry
import Derived.Test.YtknehchipcogdaaGreatDoorW3
/- A part of the proof of MissingCame. -/
set_option linter.unusedVariables false
set_option linter.unusedSimpArgs false
set_option maxRecDepth 100000
open List renaming length_cons→xA,not_mem_nil→jA,length_append→vA,mem_cons_self→xB,length_nil→jB,mem_cons_of_mem→qC,append_assoc→zC,mem_singleton→xC,mem_cons→kC,range→zD,mem_of_getElem?→xD,nil_append→vD,perm_append_comm→jF,mem_append→kF,map_cons→kG,mem_filter→vH,mem_map→xJ,cons_append→jJ,all_eq_true→zP,mem_append_left→jP,foldl_cons→zV,map_append→qW,map_nil→xW,nodup_nil→Yx,mem_range→Zb,ext_getElem?→Zg,map_eq_nil_iff→aAy
open Bool renaming and_eq_true→zB,or_eq_true→kD,not_eq_true'→kE,eq_iff_iff→jK
open Go.Value renaming int→jC,bool→jV
open Go.IntKind renaming wrap→vC
open Nat renaming le_refl→xE,zero_le→jH,blt→qJ,lt_or_ge→zK,le_trans→kK,eq_of_beq_eq_true→vM,beq→Yu
open Go.Obj renaming cells→zH
open Go.Addr renaming add→xP
open Option.some renaming injEq→kP
open Go.Frame renaming enter→qS
open Go.Sg.OSeat renaming mk→YF
open Array renaming replicate→YK
open Go.Sg.Register renaming mk→Y3
open Prod.mk renaming injEq→ZU
open Go.Sg.Budget renaming mk→aAf
open Go.RowKit renaming Below→aAA

namespace Go.Sg
variable {aP ah k o z:Int}{all:List aG}{b:Budget}{c:bI}{g:List (Int×Int)}{i m n:Nat}{p:Prop}{signed w:List Int}{u:List Use}{x y:ai}{α ρ:Type}
section
theorem Ic{B:Int->Bool}{k:Bool}{L:List Int}(hB:∀y∈L,B y=false)(hL:L.Pairwise (·<·))(hk:k=true):∀(l pre:List Int),L=pre++l->refLs B L k l pre.length=true
 |[],_,_=>hk
 |y::l,pre,h=>by
  have hlast:(decide (0<(pre.length:Int))&&decide (y<=nthI L ((pre.length:Int)-1)))=false:=by
   rcases List.eq_nil_or_concat pre with rfl|⟨a,x,e⟩
   .rfl
   .rw[List.concat_eq_append]at e
    subst e
    have hx:nthI L (((a++[x]).length:Int)-1)=x:=by
     rw[show(((a++[x]).length:Int)-1)=(a.length:Int)from by simp]
     exact pz (by rw[h];simp)
    grind
  have ih:=Ic hB hL hk l (pre++[y]) (by rw[h];simp)
  rw[vA,xA,jB,Nat.zero_add]at ih
  have hy:y∈L:=by rw[h];simp
  simp only[refLs,hB y hy,hlast,Bool.or_self,cond_false]
  exact ih
theorem CY{l:List Int}{dY:Int}(h:((∀x∈l,0<=x/\x<dY)/\l.Pairwise (·<·))/\l.length<=16):fT l dY=true:=by
 have e:∀(L l:List Int)i,fT.L1 L dY (fT.K1 L) l i=refLs (λy=>decide (y<0)||decide (dY<=y)) L (fT.K1 L) l i:=by
  intro L l
  induction l with
  |nil=>intro i;rfl
  |cons y l ih=>intro i;simp only[fT.L1,refLs,ih]
 unfold fT
 rw[e]
 refine Ic (λy hy=>?_) h.1.2 ?_ l [] rfl
 all_goals grind [fT.K1,Bool.or_eq_false_iff,decide_eq_false_iff_not]
theorem LJ(no:Int):∀(l:List av)(i:Nat),(l.any λd=>d.No==no)=true->0<=gx.L1 no gx.K1 l i
 |[],i,h=>by cases h
 |y::l,i,h=>by
  simp only[gx.L1,Bool.cond_eq_ite]
  split
  .omega
  .next hc=>
   rw[List.any_cons,Bool.eq_false_iff.2 hc,Bool.false_or]at h
   exact LJ no l (i+1) h
theorem HO(L:List av):∀nos:List Int,(∀x∈nos,(L.any λd=>d.No==x)=true)->fS.L1 L fS.K1 nos=true
 |[],_=>rfl
 |y::nos,h=>by
  have h1:=LJ y L 0 (h y (xB ..))
  have:decide (gx L y<0)=false:=by unfold gx;simp;omega
  simp only[fS.L1,this,cond_false]
  exact HO L nos λx hx=>h x (qC _ hx)
theorem Uq{L:List av}{d:av}(h:j6 (aI L) d=true):fS L d.fF=true/\fS L d.e9=true:=by
 have hs:=(DI L L 0 []).2
 have key:∀nos:List Int,eJ nos (λfh=>iD fh (aI L))=false->fS L nos=true:=by
  intro nos hn
  rw[containsF,List.any_eq_false]at hn
  refine HO L nos λx hx=>?_
  have h1:=hn x hx
  unfold iD at h1
  have e:mhas (aI L).at_ x=(mhas [] x||L.any λd=>d.No==x):=hs x
  rw[e]at h1
  simpa[mhas,mget?]using h1
 unfold j6 at h
 grind
theorem JD{l:List av}(h:aY l=0):eB l=0:=by
 have L:∀(L l:List av)(i:Nat),aY.L1 L aY.K1 l i=0->eB.L1 L eB.K1 l i=0:=by
  intro L l
  induction l with
  |nil=>intros;rfl
  |cons y l ih=>
   intro i h
   simp only[aY.L1,Bool.cond_eq_ite]at h
   split at h
   .omega
   .next hc=>
    simp only[kD,not_or,kE,Bool.not_eq_false,Bool.not_eq_true]at hc
    obtain⟨⟨c1,c2⟩,c3⟩:=hc
    obtain⟨t1,t2⟩:=Uq c3
    have hR:nk y=true:=by
     simp only[mw,zB,decide_eq_true_eq,iZ]at c1
     obtain⟨⟨⟨⟨⟨⟨⟨⟨⟨⟨⟨⟨p1,p2⟩,p3⟩,p4⟩,p5⟩,p6⟩,p7⟩,p8⟩,p9⟩,p10⟩,p11⟩,p12⟩,p13⟩:=c1
     unfold nk
     rw[Bool.cond_eq_ite,if_neg]
     .rw[CY ((Hj _ _).1 p11),CY ((Hj _ _).1 p12),CY ((Hj _ _).1 p13)]
      grind
     .simp only[qz,kD,decide_eq_true_eq,kE,Bool.and_eq_false_iff,decide_eq_false_iff_not,not_or]
      omega
    simp only[eB.L1,hR,c2,t1,t2,Bool.not_true,Bool.or_false,Bool.or_self,cond_false]
    exact ih (i+1) h
 grind [aY,eB]
theorem judge30{r:Register}(hs:smR r):dq r=0↔nj r=0:=by
 constructor
 .intro h
  obtain⟨d1,d2,d3,d4,d5,d6,d7⟩:=(iQ r).1 h
  simp only[nj,(FZ r.da).symm.trans d1,(EC r.eI).symm.trans d2,(CN r.dt).symm.trans d3,(BN r.df).symm.trans d4,KL hs.vers d5,JD d6,(CR r.bO).symm.trans d7]
  rfl
 .intro h
  obtain⟨c1,c2,c3,c4,c5,c6,c7⟩:=Pj h
  exact(iQ r).2 ⟨(FZ r.da).trans c1,(EC _).trans c2,(CN r.dt).trans c3,(BN _).trans c4,Po hs.vers c5,KH c6,(CR _).trans c7⟩
theorem T7{α : Type}{f:α->Int}:∀{l:List α},l.Pairwise (λa b=>f a<f b)->∀{a b:α},a∈l->b∈l->f a=f b->a=b
 |[],_,_,_,ha,_,_=>(jA ha).elim
 |y::l,h,a,b,ha,hb,e=>by
  rw[List.pairwise_cons]at h
  rcases kC.1 ha with e1|ha2
  .grind
  .rcases kC.1 hb with e2|hb2
   .have:=h.1 a ha2;rw[e2]at e;omega
   .exact T7 h.2 ha2 hb2 e
def sKey(y:aG):eR:=eR.mk y.dz y.jt y.Of
def sCnt(t ah:Int)(y:aG):Prop:=y.At<=t/\y.fX<=ah
def sOver(z w:aG):Prop:=z.At<w.At\/(w.At=z.At/\z.No<w.No)
structure Ym(t ah:Int)(pre:List aG)(m:List (eR×aG)):Prop where
 some:∀k z,mget? m k=some z->z∈pre/\sKey z=k/\sCnt t ah z/\∀w∈pre,sKey w=k->sCnt t ah w->¬sOver z w
 none:∀k,mget? m k=none->∀w∈pre,sKey w=k->¬sCnt t ah w
structure ChL(l:List Int):Prop where
 inc:l.Pairwise (·<·)
 zero:∃l',l=0::l'
 tm:∀x∈l,0<=x/\x<1099511627776
theorem R7(l:List av){d:av}(hd:d∈l):mhas (aI l).at_ d.No=true:=by
 have:=(DI l l 0 []).2 d.No
 show mhas (aI.L1 (aI.K1 l) l 0 []).at_ d.No=true
 grind
theorem LO{t:Int}(h:0<=t/\t<1099511627776):iZ t=true:=by
 simp only[iZ,zB,decide_eq_true_eq];exact h
theorem Bq{l:List av}{t:Int}(hc:aY l=0)(hs:cj l signed=true)(ht:0<=t/\t<1099511627776):(bp l signed t).2=0:=by
 unfold bp
 rw[hc,hs,LO ht]
 simp only[bne_self_eq_false,cond_false,Bool.not_true,Bool.or_false]
 have:∀(s:List av)(i:Nat)(g:List Int),(bp.L1 l signed t bp.K1 s i g).2=0:=by
  intro s
  induction s with
  |nil=>intro i g;rfl
  |cons y s ih=>intro i g;simp only[bp.L1,Bool.cond_eq_ite];split<;>exact ih _ _
 exact this _ _ _
theorem U9{l:List av}{t:Int}{d:av}(hc:aY l=0)(hs:cj l signed=true)(ht:0<=t/\t<1099511627776)(hd:d∈l):(ji l signed d.No t).2.2=0:=by grind [ji,LO,zb,R7]
theorem VI{l:List av}{f:av->Bool}{d:av}(hd:d∈l)(hf:f d=true):0<=aj l f/\aj l f<(l.length:Int):=by grind [aj,vA,xA,I0]
theorem Tz{l:List av}(h:cj l signed=true):signed.length=l.length:=by
 simp only[cj,zB,beq_iff_eq]at h
 have:=h.1
 omega
section
variable {c:bI} (h:iI c)
include h
theorem iI.docs:aY c.Register.bV=0:=((iQ _).1 h.chk).2.2.2.2.2.1
theorem KI{signed:List Int}(hs:cj c.Register.bV signed=true):(bp c.Register.bV signed c.at_).2=0:=Bq h.docs hs h.time
theorem SF{signed:List Int}{d:av}(hs:cj c.Register.bV signed=true)(hd:d∈c.Register.bV):(ji c.Register.bV signed d.No c.at_).2.2=0:=U9 h.docs hs h.time hd
theorem SG{signed:List Int}(hs:cj c.Register.bV signed=true):0<=aj c.Register.bV (λfh=>jI fh c)/\aj c.Register.bV (λfh=>jI fh c)<(signed.length:Int):=by
 rw[Tz hs]
 exact VI h.aP (by simp[jI])
end
theorem JL:∀(xs out:List Int),out.Pairwise (·<·)->(∀a∈out,∀y∈xs,a<=y)->xs.Pairwise (·<=·) ->
  (xs.foldl compStep out).Pairwise (·<·)/\∀z,z∈xs.foldl compStep out↔z∈out\/z∈xs
 |[],out,h1,_,_=>⟨h1,λz=>by simp⟩
 |x::xs,out,h1,h2,h3=>by
  rw[List.pairwise_cons]at h3
  simp only[zV]
  by_cases hx:out.getLast? = some x
  .have e:compStep out x=out:=by simp[compStep,hx]
   rw[e]
   obtain⟨a,b⟩:=JL xs out h1 (λa ha y hy=>h2 a ha y (qC _ hy)) h3.2
   grind
  .have e:compStep out x=out++[x]:=by simp[compStep,hx]
   rw[e]
   have hlt:∀a∈out,a<x:=by
    intro a ha
    have dN:=h2 a ha x (xB ..)
    rcases Int.lt_or_eq_of_le dN with h|h
    .exact h
    .exfalso
     subst h
     obtain⟨pre,post,hp⟩:=List.append_of_mem ha
     cases post with
     |nil=>exact hx (by rw[hp];simp)
     |cons p post=>
      rw[hp,List.pairwise_append]at h1
      have h4:=(List.pairwise_cons.1 h1.2.1).1 p (xB ..)
      have h5:=h2 p (by rw[hp];simp) a (xB ..)
      omega
   obtain⟨a,b⟩:=JL xs (out++[x]) (by
     rw[List.pairwise_append]
     exact⟨h1,List.pairwise_singleton _ _,λa ha y hy=>by rw[xC.1 hy];exact hlt a ha⟩) (λa ha y hy=>by
     rcases kF.1 ha with ha|ha
     .grind
     .rw[xC.1 ha];exact h3.1 y hy) h3.2
   grind
def setI(xs:List Int):List Int:=compI (sortI xs)
theorem BR(xs:List Int):(setI xs).Pairwise (·<·)/\∀z,z∈setI xs↔z∈xs:=by
 obtain⟨a,b⟩:=JL (sortI xs) [] List.Pairwise.nil (λ_ h=>(jA h).elim) (pG xs)
 refine⟨a,λz=>(b z).trans ?_⟩
 rw[(nZ xs).mem_iff]
 simp
theorem Ui{l:List av}{f:av->Bool}(h:0<=aj l f):∃a y b,l=a++y::b/\nthI l (aj l f)=y/\f y=true/\∀x∈a,f x=false:=by
 unfold aj at h ⊢
 rcases I0 f l 0 with⟨h1,_⟩|⟨a,y,b,h1,h2,h3,h4⟩
 .omega
 .refine⟨a,y,b,h1,?_,h3,h4⟩
  rw[h2,Nat.zero_add]
  exact pz (by rw[h1];simp)
theorem Hg{r:Register}{t:Int}(hc:dq r=0)(h:oh r aP t ah=.ok c):
  c=⟨r,c.aP,t,ah⟩/\iI c/\c.aP.No=aP/\∃a b,r.bV=a++c.aP::b/\∀x∈a,x.No≠aP:=by
 unfold oh at h
 rw[Bool.cond_eq_ite]at h
 split at h
 .cases h
 .next hn=>
  simp only[kD,not_or,decide_eq_true_eq]at hn
  obtain⟨⟨h1,h2⟩,h3⟩:=hn
  cases h
  obtain⟨a,y,b,e1,e2,e3,e4⟩:=Ui (by omega:0<=aj r.bV (λfh=>bA fh aP))
  rw[e2]
  refine⟨rfl,⟨hc,by rw[e1];simp,?_,?_⟩,?_,a,b,e1,λx hx=>?_⟩
  .show 0<=t/\t<1099511627776;omega
  .grind
  .simpa[bA]using e3
  .simpa[bA]using e4 x hx
theorem OV(f:aD->Bool):∀(l:List aD)(i:Nat),(bG.L1 f bG.K1 l i=-1/\∀x∈l,f x=false) \/
  ∃a y b,l=a++y::b/\bG.L1 f bG.K1 l i=((i+a.length:Nat):Int)/\f y=true/\∀x∈a,f x=false
 |[],i=>.inl ⟨rfl,λ_ h=>(jA h).elim⟩
 |y::l,i=>by
  simp only[bG.L1]
  cases hy:f y with
  |true=>exact .inr ⟨[],y,l,rfl,by simp,hy,λ_ h=>(jA h).elim⟩
  |false=>
   rcases OV f l (i+1)with⟨h1,h2⟩|⟨a,z,b,rfl,h2,h3,h4⟩
   all_goals grind
theorem za(c:bI)(no:Int):(fI c no=.error 1/\∀v∈c.Register.Versions,v.No≠no)\/∃a v b,c.Register.Versions=a++v::b/\fI c no=.ok v.ay/\v.No=no/\∀x∈a,x.No≠no:=by
 unfold fI bG
 rcases OV (λfh=>iS fh no) c.Register.Versions 0 with⟨h1,h2⟩|⟨a,v,b,h1,h2,h3,h4⟩
 .left
  rw[h1]
  exact⟨rfl,λv hv=>by simpa[iS]using h2 v hv⟩
 .right
  refine⟨a,v,b,h1,?_,by simpa[iS]using h3,λx hx=>by simpa[iS]using h4 x hx⟩
  rw[h2,show decide (((0+a.length:Nat):Int)<0)=false from decide_eq_false (by omega),cond_false,Nat.zero_add,pz (x:=v) (by rw[h1];simp)]
theorem Ln{no:Int}{p:ay}(h:fI c no=.ok p):∃v∈c.Register.Versions,v.No=no/\v.ay=p:=by grind [za]
theorem MG{no:Int}(h:∃v∈c.Register.Versions,v.No=no):exOk (fI c no):=by
 obtain⟨v,hv,hn⟩:=h
 rcases za c no with⟨_,h2⟩|⟨_,_,_,_,h2,_⟩
 .exact absurd hn (h2 v hv)
 .rw[h2];trivial
structure RX(p:ay):Prop where
 sm:smP p
 off:p.aB.length<=32
 rules:p.cZ.length=p.dM.length/\∀y∈p.cZ,0<=y.gf/\y.gf<=1099511627775
theorem si(h:iI c)(hs:smR c.Register){no:Int}{p:ay}(hp:fI c no=.ok p):RX p:=by
 obtain⟨v,hv,_,rfl⟩:=Ln hp
 have hg:=(h.vers.each v hv).2.2.2
 exact⟨hs.1.2 v hv,(Ch hg).2.1,(Ch hg).1,(JP hg).2.2⟩
theorem Qo[Inhabited ρ]{x:Except Int ρ}{p:ρ}(h:x=.ok p):exD x=p:=by subst h;rfl
theorem SN(l:List ai)(aP bD ah:Int):(eV l aP bD ah).length<=l.length:=by
 show(cM.L1 aP bD ah cM.K1 l).length<=l.length
 induction l with
 |nil=>exact xE _
 |cons y l ih=>simp only[cM.L1,Bool.cond_eq_ite];split<;>simp only[xA]<;>omega
theorem SJ(l:List ai)(aP bD ah:Int):(aF l aP bD ah).length<=l.length:=by
 have h2:∀(g:List (eE×ai))(s acc:List ai),(aF.L2 g aF.K2 s acc).length<=acc.length+s.length:=by
  intro g s
  induction s with
  |nil=>intro acc;exact xE _
  |cons y s ih=>
   intro acc
   simp only[aF.L2,Bool.cond_eq_ite]
   grind
 have h1:∀(s:List ai)(g:List (eE×ai)),(aF.L1 (aF.K1 l aP bD ah) s g).length<=l.length:=by
  intro s
  induction s with
  |nil=>
   intro g
   have h3:=h2 g (eV l aP bD ah) []
   have h4:=SN l aP bD ah
   show(aF.L2 g aF.K2 (eV l aP bD ah) []).length<=l.length
   simp only[jB]at h3;omega
  |cons y s ih=>intro g;simp only[aF.L1,Bool.cond_eq_ite];split<;>exact ih _
 exact h1 _ _
theorem zu(l:List ai)(d b th t k:Int):(ck l d b th t k).1.length<=l.length:=by
 unfold ck
 simp only[Bool.cond_eq_ite]
 split
 .exact jH _
 .split
  .exact jH _
  .exact kK (List.length_filter_le _ _) (SJ _ _ _ _)
def goodA(c:bI)(y:ai):Bool:=(((ew c.Register.da y.ea y.For c.at_ c.ah).2.2.1&&(aH c.Register.eI y.For y.By y.ea c.aP.Kind c.aP.Value c.at_ c.ah).2.1)&&(!(jO c y.For)))&&(!(jO c y.By))
theorem Rr(c:bI):∀l:List ai,cU.L1 c cU.K1 l=l.filter (goodA c)
 |[]=>rfl
 |y::l=>by
  simp only[cU.L1,List.filter_cons,Rr c l,Bool.cond_eq_ite]
  rfl
theorem Ce(c:bI)(p:ay):gF c p=bif decide ((p.dM.length:Int)<=c.aP.Kind)then[]else((ck c.Register.bO c.aP.No c.aP.At ((nthI p.cZ c.aP.Kind).gf) c.at_ c.ah).1).filter (goodA c):=by
 show cU c p=_
 unfold cU
 rw[Rr]
theorem yp(c:bI)(p:ay):cq c p=setI ((gF c p).map (·.For)):=by
 have:∀(s:List ai)(g:List Int),cq.L1 cq.K1 s g=setI (g++s.map (·.For)):=by
  intro s
  induction s with
  |nil=>intro g;simp[cq.L1,cq.K1,setI,slices_Compact_int]
  |cons y s ih=>intro g;simp only[cq.L1,ih,kG,zC,jJ,vD]
 have h:=this (gF c p) []
 rw[vD]at h
 exact h
theorem JN:∀(xs out:List Int),(xs.foldl compStep out).length<=out.length+xs.length
 |[],out=>xE _
 |x::xs,out=>by
  simp only[zV,xA]
  have h1:=JN xs (compStep out x)
  grind [compStep]
theorem Ur(hs:smR c.Register)(p:ay):(gF c p).length<=2000000:=by
 rw[Ce,Bool.cond_eq_ite]
 have h3:=hs.2.2.2.2.2.2
 grind [zu]
theorem IF(hs:smR c.Register)(p:ay):(cq c p).length<=2000000:=by
 rw[yp]
 have h1:=JN (sortI ((gF c p).map (·.For))) []
 rw[iE,List.length_map]at h1
 have h2:(gF c p).length<=c.Register.bO.length:=by
  grind [Ce,zu]
 have h3:=hs.2.2.2.2.2.2
 show(compI _).length<=_
 grind [compI,jB]
theorem Mv(u:List Use)(v t k:Int):∀s:List Budget,(aL.L1 u v t k aL.K1 s).2.2=0
 |[]=>rfl
 |y::s=>by
  simp only[aL.L1]
  have:∀(l:List Int)(a b:Int),(aL.L3 (λzg3_b6_0 zg3_b5_0=>(bif(decide (y.Count<zg3_b5_0)||decide (y.Value<zg3_b6_0))then(y.No,false,0)else(aL.L1 u v t k aL.K1 s))) l a b).2.2=0:=by
   intro l
   induction l with
   |nil=>intro a b;simp only[aL.L3,Bool.cond_eq_ite];split;rfl;exact Mv u v t k s
   |cons z l ih=>intro a b;simp only[aL.L3];exact ih _ _
  exact this _ _ _
theorem ru{a b:Int}:cC a b [z]=true↔a<=z/\z<=b:=by
 simp only[cC,containsF,lq,List.any_cons,List.any_nil,Bool.or_false,kE,Bool.or_eq_false_iff,decide_eq_false_iff_not];omega
theorem BP{a b y:Int}:cC a b [y,z]=true↔(a<=y/\y<=b)/\(a<=z/\z<=b):=by
 simp only[cC,containsF,lq,List.any_cons,List.any_nil,Bool.or_false,kE,Bool.or_eq_false_iff,decide_eq_false_iff_not];omega
theorem H8{l:List Budget}(h:(aL l u 0 0 0 0).2.2=0){v t n:Int}(hk:0<=k/\k<16)(hv:0<=v/\v<=1099511627776)(ht:0<=t/\t<1099511627776)(hn:0<=n/\n<1099511627776):(aL l u k v t n).2.2=0:=by
 unfold aL at h ⊢
 cases h1:(bC l) != 0 with
 |true=>
  grind
 |false=>
  rw[h1,cond_false]at h
  rw[cond_false]
  cases h2:decide (4096<(u.length:Int))with
  |true=>rw[h2,cond_true]at h;cases h
  |false=>
   rw[h2,cond_false]at h
   rw[cond_false]
   cases h3:gY u with
   |false=>rw[h3]at h;cases h
   |true=>
    rw[ru.2 (show(0:Int)<=k/\k<=15 by omega),ru.2 hv,BP.2 (show((0:Int)<=t/\t<=1099511627775)/\(0<=n/\n<=1099511627775) by omega)]
    exact Mv _ _ _ _ _
theorem MX{l:List av}{t:Int}(h:(bp l signed t).2=0):cj l signed=true:=by grind [bp]
theorem Fz(h:fq c signed=false):c.aP.At<=c.at_:=by grind [fq,Bool.or_eq_false_iff,decide_eq_false_iff_not]
theorem Pa(no:Int):∀(l:List av)(i:Nat),eC.L1 no eC.K1 l i=aj.L1 (λfh=>bA fh no) aj.K1 l i
 |[],i=>rfl
 |y::l,i=>by
  simp only[eC.L1,aj.L1,bA,Bool.cond_eq_ite]
  split
  .rfl
  .exact Pa no l (i+1)
theorem Hh{r:Register}{t:Int}(hd:0<=eC r aP)(ht:0<=t/\t<1099511627776)(hk:0<=ah/\ah<1099511627776):oh r aP t ah=.ok ⟨r,nthI r.bV (eC r aP),t,ah⟩:=by
 have e:aj r.bV (λfh=>bA fh aP)=eC r aP:=(Pa aP r.bV 0).symm
 grind [oh]
theorem D2{l:List Int}{n:Int}{k:Nat}{i:Int}(h:∀x∈l,0<=x/\x<n)(hi:0<=i/\i<n):∀x∈(l.take k++[i])++l.drop k,0<=x/\x<n:=by grind
theorem VD{l:List Int}{n:Int}(h:∀x∈l,0<=x/\x<n)(hn:0<n)(i:Int):0<=nthI l i/\nthI l i<n:=
 D6 (P:=λx:Int=>0<=x/\x<n) h ⟨Int.le_refl _,hn⟩ i
theorem Kq{n:Int}:∀{l:List Int},jg l n=true->n∈l:=by
 have h:∀l:List Int,jg.L1 n (jg.K1) l=true->n∈l:=by
  intro l
  induction l with
  |nil=>intro h;simp[jg.L1,jg.K1]at h
  |cons y l ih=>
   intro h
   simp only[jg.L1,Bool.cond_eq_ite]at h
   grind
 intro l;exact h l
theorem Up{l:List Int}{i:Int}(h:∀x∈l,0<=x/\x<(n:Int))(e:m=n)(c:(!(jg l i))=false):0<=i/\i<(m:Int):=by
 subst e;exact h i (Kq (by simpa using c))
theorem vi(signed:List Int)(t:Int):∀x∈bQ signed t,0<=x/\x<(signed.length:Int):=by
 have h3:∀(y1:Int)(g:List Int)(k:Nat->List Int)(P:List Int->Prop),(∀i,P (k i))->∀(s:List Nat)(i:Nat),P (bQ.L3 signed y1 g k s i):=by
  intro y1 g k P hk s
  induction s with
  |nil=>intro i;exact hk i
  |cons y s ih=>intro i;simp only[bQ.L3,Bool.cond_eq_ite];split;exact ih _;exact hk _
 have h1:∀(s:List Int)(i:Nat)(g:List Int),i+s.length=signed.length->(∀x∈g,0<=x/\x<(signed.length:Int)) ->
   ∀x∈bQ.L1 signed t (bQ.K1) s i g,0<=x/\x<(signed.length:Int):=by
  intro s
  induction s with
  |nil=>intro i g _ hg;exact hg
  |cons y s ih=>
   intro i g hi hg
   simp only[xA]at hi
   simp only[bQ.L1,Bool.cond_eq_ite]
   split
   .exact ih _ _ (by omega) hg
   .exact h3 _ _ _ (λr=>∀x∈r,0<=x/\x<(signed.length:Int)) (λk=>ih _ _ (by omega) (D2 hg (by omega))) _ _
 exact h1 signed 0 [] (by omega) (λx hx=>(jA hx).elim)
theorem EN{l:List av}{signed:List Int}(h:eO l signed=true):signed.length=l.length:=by
 have h1:∀s:List Int,eO.L1 (eO.K1 l signed) s=true->eO.K1 l signed=true:=by
  intro s
  induction s with
  |nil=>intro h;exact h
  |cons y s ih=>
   intro h
   simp only[eO.L1,Bool.cond_eq_ite]at h
   split at h
   .cases h
   .exact ih h
 have h2:=h1 signed h
 simp only[eO.K1,beq_iff_eq]at h2
 omega
theorem SR(l:List av)(signed:List Int)(t:Int)(hsg:signed.length=l.length):(bR l signed t).length=l.length:=by
 have h4:∀(i2:Nat)(y2:Int)(g:List Bool)(k:List Int->List Int)(P:List Int->Prop)(n:Nat),(∀r:List Int,r.length=n->P (k r)) ->
   ∀(s:List Nat)(i:Nat)(r:List Int),r.length=n->P (bR.L4 l signed t i2 y2 g k s i r):=by
  intro i2 y2 g k P n hk s
  induction s with
  |nil=>intro i r hr;exact hk r hr
  |cons y s ih=>
   intro i r hr
   simp only[bR.L4,Bool.cond_eq_ite]
   grind
 have h2:∀(s:List Int)(i:Nat)(g:List Bool)(r:List Int),(bR.L2 l signed t (bR.K2) s i g r).length=r.length:=by
  intro s
  induction s with
  |nil=>intro i g r;rfl
  |cons y s ih=>
   intro i g r
   simp only[bR.L2]
   exact h4 _ _ _ _ (λx=>x.length=r.length) r.length (λq hq=>by rw[ih];exact hq) _ _ _ rfl
 have h1:∀(s:List av)(g:List Int),(bR.L1 (bR.K1 l signed t) s g).length=g.length+s.length:=by
  intro s
  induction s with
  |nil=>intro g;simp only[bR.L1,bR.K1];rw[h2];rfl
  |cons y s ih=>intro g;simp only[bR.L1];rw[ih];simp only[vA,xA,jB];omega
 have:=h1 l []
 simpa[bR]using this
theorem Pk{l:List av}(h:((eB l) != 0)=false):∀d∈l,d.e9.length<=16:=by
 intro d hd
 have h0:eB l=0:=by simpa using h
 exact(FP ((UV h0).2 d hd)).needs.2
theorem C2{l:List Budget}{n t:Int}{x:Budget}(h:x∈ec l n t ah):x∈l:=by
 have h1:∀(s:List Budget)(i:Nat)(g:List Budget),x∈ec.L1 l n t ah (ec.K1) s i g->x∈g\/x∈s:=by
  intro s
  induction s with
  |nil=>intro i g h;exact .inl h
  |cons y s ih=>
   intro i g h
   simp only[ec.L1,Bool.cond_eq_ite]at h
   grind
 rcases h1 l 0 [] h with h|h
 .exact(jA h).elim
 .exact h
theorem MB{l:List Budget}{n t ah:Int}{x:Budget}(h:hY l=0)(hx:x∈ec l n t ah):x.lC≠0:=by
 have h2:bC l=0:=(BN l).trans h
 grind [xX,sS,C2]
def nX(r:Register)(signed:List Int)(u:List Use)(aP t ah:Int):Bool:=(((lJ r&&decide ((signed.length:Int)<=40))&&decide ((u.length:Int)<=30))&&((pt r signed u aP t ah)==0))
def bstM(kind t ah:Int):List Budget->List (gq×Budget)->List (gq×Budget)
 |[],m=>m
 |y::l,m=>bif((decide (t<y.At)||decide (ah<y.fX))||((y.Kind != (-1))&&(y.Kind != kind)))then bstM kind t ah l m else bif((!(mhas m (gq.mk y.Kind y.lC)))||decide ((mgetD m (gq.mk y.Kind y.lC) (aAf 0 0 0 0 0 0 0 false)).At<=y.At))then bstM kind t ah l (mput m (gq.mk y.Kind y.lC) y)else bstM kind t ah l m
theorem Nm(kind t ah:Int)(k:List (gq×Budget)->List Budget):∀(l:List Budget)m,aU.L1 kind t ah k l m=k (bstM kind t ah l m)
 |[],m=>rfl
 |y::l,m=>by
  simp only[aU.L1,bstM,Nm kind t ah k l,Bool.cond_eq_ite]
  repeat' split
  all_goals rfl
theorem Nl(v:List (gq×Budget)):∀(l g:List Budget),aU.L2 v aU.K2 l g=g++l.filter λy=>(!y.nA)&&decide ((mgetD v (gq.mk y.Kind y.lC) (aAf 0 0 0 0 0 0 0 false))=y)
 |[],g=>by simp[aU.L2,aU.K2]
 |y::l,g=>by
  simp only[aU.L2,List.filter_cons,Nl v l]
  grind
theorem R6{l:List av}{sg:List Int}:cj l sg=true↔sg.length=l.length/\∀x∈sg,me x=false:=by
 unfold cj
 rw[zB,beq_iff_eq,containsF]
 grind
theorem Se{l:List Budget}(h:(aL l u 0 0 0 0).2.2=0):u.length<=4096/\gY u=true:=by
 unfold aL at h
 cases c0:(bC l) != 0 with
 |true=>rw[c0]at h;simp only[cond_true]at h;rw[h]at c0;cases c0
 |false=>
  grind
theorem Li{l:List Budget}(hc:bC l=0)(hl:u.length<=4096)(hu:gY u=true):(aL l u 0 0 0 0).2.2=0:=by
 unfold aL
 have c1:decide (4096<(u.length:Int))=false:=by simp;omega
 rw[hc,c1,hu]
 have c2:(((!(cC 0 15 ([0])))||(!(cC 0 1099511627776 ([0]))))||(!(cC 0 1099511627775 ([0,0]))))=false:=by decide
 rw[c2]
 exact Mv u 0 0 0 _
section
variable {r:Register} {d:av} {t ah:Int} {signed:List Int} {u:List Use} (hco:iI ⟨r,d,t,ah⟩) (hs:cj r.bV signed=true) (hr:(aL r.df u 0 0 0 0).2.2=0)
include hco hs hr
end
theorem uses18(h:gi u=true):gY u=true:=by
 have h3:∀(y:Use)(k:Bool)(s:List Nat)(j:Nat),gi.L3 u y k s j=true->k=true/\∀q:Nat,j<=q->q<j+s.length->(nthI u (q:Int)).Doc≠y.Doc:=by
  intro y k s
  induction s with
  |nil=>intro j h;exact⟨h,λq h1 h2=>by simp at h2;omega⟩
  |cons z s ih=>
   intro j h
   simp only[gi.L3,Bool.cond_eq_ite]at h
   split at h
   .cases h
   .next hc=>
    obtain⟨h1,h2⟩:=ih _ h
    grind
 have h1:∀(s:List Use)(i:Nat)(m:List (Int×Bool)),u.drop i=s->(∀x,mgetD m x false=true->∃q:Nat,q<i/\(nthI u (q:Int)).Doc=x)->gi.L1 u (gi.K1) s i=true->gY.L1 gY.K1 s m=true:=by
  intro s
  induction s with
  |nil=>intro i m _ _ _;rfl
  |cons y s ih=>
   intro i m hd hm h
   simp only[gi.L1,Bool.cond_eq_ite]at h
   split at h
   .cases h
   .next hc=>
    simp only[kD,not_or,Bool.not_eq_true,Bool.not_eq_false',j0,vW,lU,zB,decide_eq_true_eq]at hc
    obtain⟨⟨⟨⟨c1,c2⟩,c3⟩,c4⟩,c5⟩:=hc
    obtain⟨h4,h5⟩:=h3 _ _ _ _ h
    have e0:mgetD m y.Doc false=false:=by
     grind
    simp only[gY.L1,e0,(ru (a:=0) (b:=4095) (z:=y.Doc)).2 ⟨by omega,by omega⟩,(ru (a:=0) (b:=15) (z:=y.Kind)).2 ⟨by omega,by omega⟩,(ru (a:=0) (b:=1099511627776) (z:=y.Value)).2 ⟨by omega,by omega⟩,(BP (a:=0) (b:=1099511627775) (y:=y.At) (z:=y.fX)).2 ⟨⟨by omega,by omega⟩,⟨by omega,by omega⟩⟩,Bool.not_true,Bool.or_false,cond_false]
    refine ih (i+1) _ (ll hd) (λx hx=>?_) h4
    unfold mgetD at hx
    rw[mi]at hx
    split at hx
    .next e=>exact⟨i,Nat.lt_succ_self _,by rw[e,pz (ui hd)]⟩
    .obtain⟨q,hq,he⟩:=hm x hx;exact⟨q,by omega,he⟩
 exact h1 u 0 [] rfl (λx hx=>by cases hx) h
theorem signs17{l:List av}(h:eO l signed=true):cj l signed=true:=by
 rw[R6]
 refine⟨EN h,?_⟩
 have h1:∀s:List Int,eO.L1 (eO.K1 l signed) s=true->∀x∈s,me x=false:=by
  intro s
  induction s with
  |nil=>intro _ x hx;exact(jA hx).elim
  |cons y s ih=>
   intro h x hx
   simp only[eO.L1,Bool.cond_eq_ite]at h
   split at h
   .cases h
   .next hc=>
    rcases kC.1 hx with rfl|hx
    .exact Bool.eq_false_iff.2 hc
    .exact ih h x hx
 exact h1 signed h
theorem RI{r:Register}(hsm:smR r){t:Int}(he:pt r signed u aP t ah=0):
  dq r=0/\0<=eC r aP/\(0<=t/\t<1099511627776)/\(0<=ah/\ah<1099511627776)/\cj r.bV signed=true/\(aL r.df u 0 0 0 0).2.2=0:=by
 unfold pt at he
 simp only[Bool.cond_eq_ite]at he
 split at he
 .cases he
 .next e1=>
  split at he
  .next e2=>exact absurd he (by simpa using e2)
  .next e2=>
   split at he
   .next e3=>exact absurd he (by simpa using e3)
   .next e3=>
    split at he
    .cases he
    .next e4=>
     have c1:nj r=0:=by simpa using e1
     have c2:(ia r.bV signed 0).2=0:=by simpa using e2
     have c3:(kt r.df u 0 0 0 0).2.2=0:=by simpa using e3
     simp only[kD,not_or,Bool.not_eq_true,Bool.not_eq_false',decide_eq_true_eq,rK,zB]at e4
     obtain⟨⟨h4,h5⟩,h6⟩:=e4
     have hc:=(judge30 hsm).2 c1
     have hs:cj r.bV signed=true:=by
      refine signs17 ?_
      unfold ia at c2
      cases q1:eB r.bV != 0 with
      |true=>rw[q1]at c2;simp only[cond_true]at c2;rw[c2]at q1;cases q1
      |false=>
       rw[q1]at c2
       cases q2:eO r.bV signed with
       |true=>rfl
       |false=>rw[q2]at c2;simp at c2
     have hu:u.length<=4096/\gY u=true:=by
      unfold kt at c3
      cases q1:hY r.df != 0 with
      |true=>rw[q1]at c3;simp only[cond_true]at c3;rw[c3]at q1;cases q1
      |false=>
       rw[q1]at c3
       cases q2:decide (4096<(u.length:Int))with
       |true=>rw[q2]at c3;simp at c3
       |false=>
        rw[q2]at c3
        cases q3:gi u with
        |true=>exact⟨by simp at q2;omega,uses18 q3⟩
        |false=>rw[q3]at c3;simp at c3
     exact⟨hc,by omega,h5,h6,hs,Li ((iQ r).1 hc).2.2.2.1 hu.1 hu.2⟩
theorem BU{r:Register}(hsm:smR r){t:Int}(hg:nX r signed u aP t ah=true):
  dq r=0/\0<=eC r aP/\(0<=t/\t<1099511627776)/\(0<=ah/\ah<1099511627776)/\cj r.bV signed=true/\(aL r.df u 0 0 0 0).2.2=0:=by
 simp only[nX,zB,beq_iff_eq]at hg
 exact RI hsm hg.2
abbrev rCourt(r:Register)(aP t ah:Int):bI:=⟨r,nthI r.bV (eC r aP),t,ah⟩
theorem SC{r:Register}(hsm:smR r){t:Int}(he:pt r signed u aP t ah=0):
  iI (rCourt r aP t ah)/\aZ r signed u aP t ah=(judgeC (rCourt r aP t ah) r signed u t ah,0):=by
 obtain⟨hc,hd,ht,hk,hs,hr⟩:=RI hsm he
 have ho:=Hh hd ht hk
 obtain⟨_,hco,_,_⟩:=Hg hc ho
 have hdc:aY r.bV=0:=((iQ r).1 hc).2.2.2.2.2.1
 have hi:(bp r.bV signed 0).2=0:=Bq hdc hs ⟨Int.le_refl _,by decide⟩
 refine⟨hco,?_⟩
 unfold aZ
 rw[hc,hi,hr,ho]
 rfl
theorem FQ{r:Register}(hsm:smR r){t:Int}(hg:nX r signed u aP t ah=true):
  iI (rCourt r aP t ah)/\aZ r signed u aP t ah=(judgeC (rCourt r aP t ah) r signed u t ah,0):=by
 simp only[nX,zB,beq_iff_eq]at hg
 exact SC hsm hg.2
section
variable {α κ : Type} [DecidableEq κ] (key:α->κ) (at_ no:α->Int) (z0:α)
def gMap:List α->List (κ×α)->List (κ×α)
 |[],m=>m
 |y::l,m=>gMap l (bif(!(mhas m (key y)))||decide (at_ (mgetD m (key y) z0)<=at_ y)then mput m (key y) y else m)
def gOver(z w:α):Prop:=at_ z<at_ w\/(at_ w=at_ z/\no z<no w)
structure ST(pre:List α)(m:List (κ×α)):Prop where
 some:∀k z,mget? m k=some z->z∈pre/\key z=k/\∀w∈pre,key w=k->¬gOver at_ no z w
 none:∀k,mget? m k=none->∀w∈pre,key w≠k
theorem I5:∀(l pre:List α)(m:List (κ×α)),(pre++l).Pairwise (λa b=>no a<no b)->ST key at_ no pre m->ST key at_ no (pre++l) (gMap key at_ z0 l m)
 |[],pre,m,_,h=>by rw[List.append_nil];exact h
 |y::l,pre,m,hp,h=>by
  have hno:∀w∈pre,no w<no y:=λw hw=>(List.pairwise_append.1 hp).2.2 w hw y (xB ..)
  have hp2:((pre++[y])++l).Pairwise (λa b=>no a<no b):=by rw[zC];exact hp
  have go:∀m',ST key at_ no (pre++[y]) m'->ST key at_ no (pre++y::l) (gMap key at_ z0 l m'):=λm' h'=>by
   have:=I5 l (pre++[y]) m' hp2 h'
   rwa [zC]at this
  simp only[gMap,Bool.cond_eq_ite]
  split
  .next hn=>
   refine go _ ⟨λk z hz=>?_,λk hz w hw hk=>?_⟩
   .rw[mi]at hz
    split at hz
    .next hk=>
     cases hz
     refine⟨by simp,hk.symm,λw hw hkw=>?_⟩
     rcases kF.1 hw with hw|hw
     .have hb:=hno w hw
      cases hm:mget? m (key y)with
      |none=>exact(h.none _ hm w hw (by rw[hkw,hk])).elim
      |some z1=>
       have a4:=(h.some _ _ hm).2.2 w hw (by rw[hkw,hk])
       have:at_ z1<=at_ y:=by
        simp only[mhas,mgetD,hm]at hn
        simpa using hn
       unfold gOver at a4 ⊢;omega
     .rw[xC.1 hw];unfold gOver;omega
    .next hk=>
     obtain⟨a1,a2,a4⟩:=h.some k z hz
     refine⟨jP _ a1,a2,λw hw hkw=>?_⟩
     rcases kF.1 hw with hw|hw
     .exact a4 w hw hkw
     .rw[xC.1 hw]at hkw;exact(hk hkw.symm).elim
   .rw[mi]at hz
    split at hz
    .cases hz
    .next hk2=>
     rcases kF.1 hw with hw|hw
     .exact h.none k hz w hw hk
     .rw[xC.1 hw]at hk;exact(hk2 hk.symm).elim
  .next hn=>
   refine go m ⟨λk z hz=>?_,λk hz w hw hk=>?_⟩
   .obtain⟨a1,a2,a4⟩:=h.some k z hz
    refine⟨jP _ a1,a2,λw hw hkw=>?_⟩
    rcases kF.1 hw with hw|hw
    .exact a4 w hw hkw
    .rw[xC.1 hw]at hkw ⊢
     subst hkw
     have:¬at_ z<=at_ y:=by
      simp only[mhas,mgetD,hz]at hn
      simpa using hn
     unfold gOver;omega
   .rcases kF.1 hw with hw|hw
    .exact h.none k hz w hw hk
    .rw[xC.1 hw]at hk
     subst hk
     simp only[mhas,mgetD,hz]at hn
     simp at hn
theorem I6{L:List α}(hp:L.Pairwise (λa b=>no a<no b)){y:α}(hy:y∈L):mgetD (gMap key at_ z0 L []) (key y) z0=y↔∀w∈L,key w=key y->¬gOver at_ no y w:=by
 have hv:ST key at_ no L (gMap key at_ z0 L []):=by
  have:=I5 key at_ no z0 L [] [] hp ⟨λk z h=>(by simp[mget?]at h),λk h w hw=>(jA hw).elim⟩
  exact this
 cases hm:mget? (gMap key at_ z0 L []) (key y)with
 |none=>exact(hv.none _ hm y hy rfl).elim
 |some z=>
  obtain⟨a1,a2,a4⟩:=hv.some _ _ hm
  simp only[mgetD,hm,Option.getD]
  constructor
  .rintro rfl;exact a4
  .intro b2
   have c1:=a4 y hy rfl
   have c2:=b2 z a1 a2
   have:no z=no y:=by unfold gOver at c1 c2;omega
   exact T7 (f:=no) hp a1 hy this
end
def cntA(aP t ah:Int)(y:ai):Bool:=((y.Doc==aP)&&decide (y.At<=t))&&decide (y.fX<=ah)
theorem zy(aP t ah:Int):∀l:List ai,cM.L1 aP t ah cM.K1 l=l.filter (cntA aP t ah)
 |[]=>rfl
 |y::l=>by
  simp only[cM.L1,zy aP t ah l,List.filter_cons]
  show(bif cntA aP t ah y then _ else _)=(if cntA aP t ah y=true then _ else _)
  cases cntA aP t ah y<;>rfl
abbrev z0A:ai:=ai.mk 0 0 0 0 0 0 0 false
theorem QC(k:List (eE×ai)->List ai):∀(l:List ai)(m:List (eE×ai)),aF.L1 k l m=k (gMap aW (·.At) z0A l m)
 |[],m=>rfl
 |y::l,m=>by
  simp only[aF.L1,QC k l,gMap]
  cases(!(mhas m (aW y)))||decide ((mgetD m (aW y) z0A).At<=y.At)<;>rfl
theorem QB(v:List (eE×ai)):∀(l g:List ai),aF.L2 v aF.K2 l g=g++l.filter λy=>(!y.nA)&&decide ((mgetD v (aW y) z0A)=y)
 |[],g=>by simp[aF.L2,aF.K2]
 |y::l,g=>by
  simp only[aF.L2,QB v l,List.filter_cons]
  cases(!y.nA)&&decide ((mgetD v (aW y) z0A)=y)<;>simp
theorem Ph(l:List bj):dj l=l:=by
 have:∀(l g:List bj),cR.L1 cR.K1 l g=g++l:=by
  intro l
  induction l with
  |nil=>intro g;simp[cR.L1,cR.K1]
  |cons y l ih=>intro g;simp only[cR.L1,ih];simp
 exact(this l []).trans (vD _)
def walkN(E:List bj)(b:Int):Nat->Int->Prop
 |0,a=>a=b
 |n+1,a=>∃x∈E,x.From=a/\walkN E b n x.To
def farStep(i:Nat)(g:List (Int×Int))(y:bj):List (Int×Int):=bif((mhas g y.To)&&((mgetD g y.To 0)==(i:Int)))&&(!(mhas g y.From))then mput g y.From (((i+1):Nat):Int)else g
theorem LS(i:Nat)(k:List (Int×Int)->List Int×Bool×Int):∀(s:List bj)(g:List (Int×Int)),aH.L3 i k s g=k (s.foldl (farStep i) g)
 |[],g=>rfl
 |y::s,g=>by
  simp only[aH.L3,LS i k s,zV,farStep]
  grind
def farAll(E:List bj):List Nat->Nat->List (Int×Int)->List (Int×Int)
 |[],_,g=>g
 |_::s,i,g=>farAll E s (i+1) (E.foldl (farStep i) g)
theorem LT(l:List bj)(o kd v t n:Int)(k:List (Int×Int)->List Int×Bool×Int):∀(s:List Nat)(i:Nat)(g:List (Int×Int)),aH.L1 l o kd v t n k s i g=k (farAll (aR (cn.mk o kd v t n) l) s i g)
 |[],i,g=>rfl
 |y::s,i,g=>by
  simp only[aH.L1,LS,LT l o kd v t n k s,farAll,Ph]
structure Far(E:List bj)(b:Int)(i:Nat)(g:List (Int×Int)):Prop where
 sound:∀p v,mget? g p=some v->∃m:Nat,v=(m:Int)/\m<=i/\walkN E b m p
 start:mget? g b=some 0
 closed:∀x∈E,∀m:Nat,mget? g x.To=some (m:Int)->m<i->∃m':Nat,mget? g x.From=some (m':Int)/\m'<=m+1
theorem IQ{p:Int}(h:mhas g p=true):∃v,mget? g p=some v:=by
 unfold mhas at h
 cases e:mget? g p with
 |none=>rw[e]at h;cases h
 |some v=>exact⟨v,rfl⟩
structure PE(E:List bj)(b:Int)(i:Nat)(g0:List (Int×Int))(done:List bj)(g:List (Int×Int)):Prop where
 keep:∀p v,mget? g0 p=some v->mget? g p=some v
 new:∀p v,mget? g p=some v->mget? g0 p=some v\/(v=((i+1:Nat):Int)/\walkN E b (i+1) p)
 met:∀x∈done,mget? g0 x.To=some (i:Int)->∃v,mget? g x.From=some v
theorem LM{E:List bj}{b:Int}{i:Nat}{g0:List (Int×Int)}(hw:∀p,mget? g0 p=some (i:Int)->walkN E b i p):∀(s done:List bj)(g:List (Int×Int)),(∀x∈s,x∈E)->PE E b i g0 done g->PE E b i g0 (done++s) (s.foldl (farStep i) g)
 |[],done,g,_,h=>by rw[List.append_nil];exact h
 |y::s,done,g,hs,h=>by
  have go:PE E b i g0 (done++[y]) (farStep i g y)->PE E b i g0 (done++y::s) ((y::s).foldl (farStep i) g):=λh'=>by
   have:=LM hw s (done++[y]) _ (λx hx=>hs x (qC _ hx)) h'
   rwa [zC]at this
  refine go ?_
  have hto:mget? g0 y.To=some (i:Int)↔mget? g y.To=some (i:Int):=by
   constructor
   .exact h.keep _ _
   .intro e
    rcases h.new _ _ e with e'|⟨e',_⟩
    all_goals grind
  unfold farStep
  cases hc:((mhas g y.To)&&((mgetD g y.To 0)==(i:Int)))&&(!(mhas g y.From))with
  |true=>
   simp only[zB,kE,beq_iff_eq]at hc
   obtain⟨⟨h1,h2⟩,h3⟩:=hc
   obtain⟨v,hv⟩:=IQ h1
   have hvi:v=(i:Int):=by simpa[mgetD,hv]using h2
   have hg0:=hto.2 (by rw[hv,hvi])
   have hnone:mget? g y.From=none:=by
    unfold mhas at h3
    cases e:mget? g y.From with
    |none=>rfl
    |some w=>rw[e]at h3;cases h3
   have hwk:walkN E b (i+1) y.From:=⟨y,hs y (xB ..),rfl,hw _ hg0⟩
   rw[cond_true]
   refine⟨λp w hp=>?_,λp w hp=>?_,λx hx hx0=>?_⟩
   .rw[mi]
    split
    .next e=>rw[e]at hp;have:=h.keep _ _ hp;rw[hnone]at this;cases this
    .exact h.keep _ _ hp
   .rw[mi]at hp
    split at hp
    .grind
    .exact h.new _ _ hp
   .rw[mi]
    split
    .exact⟨_,rfl⟩
    .next e=>
     rcases kF.1 hx with hx|hx
     .exact h.met x hx hx0
     .grind
  |false=>
   rw[cond_false]
   refine⟨h.keep,h.new,λx hx hx0=>?_⟩
   rcases kF.1 hx with hx|hx
   .exact h.met x hx hx0
   .rw[xC.1 hx]at hx0 ⊢
    have h1:=hto.1 hx0
    have h2:mhas g y.From=true:=by
     cases e:mhas g y.From with
     |true=>rfl
     |false=>simp[mhas,mgetD,h1,e]at hc;unfold mhas at e;rw[hc]at e;cases e
    exact IQ h2
theorem SB{E:List bj}{b:Int}(h:Far E b i g):Far E b (i+1) (E.foldl (farStep i) g):=by
 have hw:∀p,mget? g p=some (i:Int)->walkN E b i p:=λp hp=>by
  obtain⟨m,e,_,w⟩:=h.sound p _ hp
  have:i=m:=by omega
  subst this;exact w
 have f:PE E b i g E (E.foldl (farStep i) g):=by
  have:=LM hw E [] g (λ_ hx=>hx) ⟨λ_ _ e=>e,λ_ _ e=>.inl e,λx hx=>(jA hx).elim⟩
  exact this
 refine⟨λp v hp=>?_,f.keep _ _ h.start,λx hx m hm hlt=>?_⟩
 .rcases f.new _ _ hp with e|⟨e,w⟩
  .obtain⟨m,a,c,d⟩:=h.sound p v e;exact⟨m,a,by omega,d⟩
  .exact⟨i+1,e,xE _,w⟩
 .have hm0:mget? g x.To=some (m:Int):=by
   rcases f.new _ _ hm with e|⟨e,_⟩
   all_goals grind
  by_cases hi:m<i
  .obtain⟨m',a,c⟩:=h.closed x hx m hm0 hi
   exact⟨m',f.keep _ _ a,c⟩
  .have e:m=i:=by omega
   subst e
   obtain⟨v,hv⟩:=f.met x hx hm0
   rcases f.new _ _ hv with e|⟨e,_⟩
   .obtain⟨m',a,c,_⟩:=h.sound _ _ e
    exact⟨m',by rw[hv,a],by omega⟩
   .grind
theorem RG{E:List bj}{b:Int}:∀(s:List Nat)(i:Nat)(g:List (Int×Int)),Far E b i g->Far E b (i+s.length) (farAll E s i g)
 |[],i,g,h=>h
 |_::s,i,g,h=>by
  have:=RG s (i+1) _ (SB h)
  rw[xA,show i+(s.length+1)=i+1+s.length from by omega]
  exact this
theorem LK{E:List bj}{b:Int}{i:Nat}{g:List (Int×Int)}(h:Far E b i g):∀(n:Nat)(p:Int),n<=i->walkN E b n p->∃m:Nat,mget? g p=some (m:Int)/\m<=n
 |0,p,_,hp=>⟨0,by have:p=b:=hp;rw[this];exact h.start,xE _⟩
 |n+1,p,hn,hp=>by
  obtain⟨x,hx,e,w⟩:=hp
  obtain⟨m,hm,hl⟩:=LK h n x.To (by omega) w
  obtain⟨m',a,c⟩:=h.closed x hx m hm (by omega)
  exact⟨m',by rw[←e];exact a,by omega⟩
theorem Qz{l:List bj}{a v t n:Int}:(aH.K1 l a o k v t n g).2.1=mhas g a:=by
 unfold aH.K1
 cases mhas g a with
 |false=>rfl
 |true=>
  simp only[Bool.not_true,cond_false]
  have:∀(s:List Nat)(i:Nat)(p:List Int)(q:Int),(aH.L4 l a o k v t n g aH.K4 s i p q).2.1=true:=by
   intro s
   induction s with
   |nil=>intro i p q;rfl
   |cons y s ih=>
    intro i p q
    simp only[aH.L4]
    have:∀(L:List bj)(p:List Int)(q:Int),(aH.L6 a g i (λzg6_16 zg6_31=>aH.L4 l a o k v t n g aH.K4 s (i+1) zg6_16 zg6_31) L p q).2.1=true:=by
     intro L
     induction L with
     |nil=>intro p q;exact ih _ _ _
     |cons z L ihL=>intro p q;simp only[aH.L6,Bool.cond_eq_ite];split;exact ih _ _ _;exact ihL _ _
    exact this _ _ _
  exact this _ _ _ _
theorem Qy{l:List bj}{a b v t n:Int}(h0:lm l a b (cn.mk o k v t n)=0):(aH l a b o k v t n).2.1=true↔∃m≤8,walkN (aR (cn.mk o k v t n) l) b m a:=by
 unfold aH
 rw[h0]
 simp only[bne_self_eq_false,cond_false]
 rw[LT,Qz]
 have hF:=RG (E:=aR (cn.mk o k v t n) l) (b:=b) (zD 8) 0 (mput [] b 0)
  ⟨λp w hp=>by
   rw[mi]at hp
   split at hp
   .next e=>cases hp;exact⟨0,rfl,xE _,e⟩
   .exact absurd hp (by simp[mget?]),by rw[mi,if_pos rfl],λx hx m hm hlt=>(by omega)⟩
 rw[List.length_range,Nat.zero_add]at hF
 constructor
 .intro h
  obtain⟨w,hw⟩:=IQ h
  obtain⟨m,_,c,d⟩:=hF.sound _ _ hw
  exact⟨m,c,d⟩
 .rintro⟨m,hm,hw⟩
  obtain⟨m',e,_⟩:=LK hF m a hm hw
  simp[mhas,e]
def ER(all:List aG)(w:List sx):Prop:=(w.map (·.To)).Nodup/\(∀x∈w,x.To∈all.map (·.jt))/\∀x∈w,x.QF.length<=8
theorem ER.nil:ER all []:=⟨Yx,λ_ h=>(jA h).elim,λ_ h=>(jA h).elim⟩
theorem ER.len{w:List sx}(h:ER all w):w.length<=all.length:=by
 have:=BZ h.1 (b:=all.map (·.jt)) (λt ht=>by obtain⟨x,hx,rfl⟩:=xJ.1 ht;exact h.2.1 x hx)
 simpa using this
theorem ER.put{w:List sx}(h:ER all w){x:sx}(ht:x.To∈all.map (·.jt))(hp:x.QF.length<=8):ER all (rwPut w x):=by
 unfold rwPut
 cases hb:w.any (λw=>w.To==x.To)with
 |true=>exact h
 |false=>
  simp only[cond_false]
  refine⟨?_,λy hy=>?_,λy hy=>?_⟩
  .rw[qW,List.nodup_append]
   refine⟨h.1,by simp,λa ha c hc e=>?_⟩
   obtain⟨y,hy,rfl⟩:=xJ.1 ha
   simp only[kG,xW,xC]at hc
   have:w.any (λw=>w.To==x.To)=true:=List.any_eq_true.2 ⟨y,hy,by simp[e,hc]⟩
   rw[hb]at this;cases this
  .rcases kF.1 hy with hy|hy
   .exact h.2.1 y hy
   .rw[xC.1 hy];exact ht
  .rcases kF.1 hy with hy|hy
   .exact h.2.2 y hy
   .rw[xC.1 hy];exact hp
theorem ER.at{w:List sx}(h:ER all w){k:Nat}(hk:k<w.length):(nthI w (k:Int)).QF.length<=8:=h.2.2 _ (nm ⟨by omega,by omega⟩)
abbrev z0B:Budget:=aAf 0 0 0 0 0 0 0 false
def bKey(y:Budget):gq:=gq.mk y.Kind y.lC
def bCnt(kind t ah:Int)(y:Budget):Bool:=((decide (y.At<=t)&&decide (y.fX<=ah))&&((y.Kind==(-1))||(y.Kind==kind)))
theorem EJ(kind t ah:Int):∀(l:List Budget)m,bstM kind t ah l m=gMap bKey (·.At) z0B (l.filter (bCnt kind t ah)) m
 |[],m=>rfl
 |y::l,m=>by
  have hc:((decide (t<y.At)||decide (ah<y.fX))||((y.Kind != (-1))&&(y.Kind != kind)))=!(bCnt kind t ah y):=by
   grind [bCnt,bne,Bool.not_and,Bool.not_or]
  simp only[bstM,List.filter_cons,hc]
  cases bCnt kind t ah y with
  |false=>simp only[Bool.not_false,cond_true,Bool.false_eq_true,if_false];exact EJ kind t ah l m
  |true=>
   simp only[Bool.not_true,cond_false,if_true,gMap]
   show(bif(!(mhas m (bKey y)))||decide ((mgetD m (bKey y) z0B).At<=y.At)then _ else _)=gMap bKey (·.At) z0B (l.filter (bCnt kind t ah)) (bif(!(mhas m (bKey y)))||decide ((mgetD m (bKey y) z0B).At<=y.At)then mput m (bKey y) y else m)
   cases(!(mhas m (bKey y)))||decide ((mgetD m (bKey y) z0B).At<=y.At)<;>simp only[cond_true,cond_false]<;>exact EJ kind t ah l _
theorem DC{L:List Budget}{i t ah:Int}{x:Budget}(hx:nthI L i=x):∀l:List Budget,il.L1 L i t ah il.K1 l=true↔∀w∈l,jr w t ah=true->bKey w=bKey x->¬gOver (λb:Budget=>b.At) (λb=>b.No) x w
 |[]=>by simp[il.L1,il.K1]
 |y::l=>by
  simp only[il.L1,Bool.cond_eq_ite,List.forall_mem_cons,hx]
  have e:((((y.Kind==x.Kind)&&(y.lC==x.lC))&&(jr y t ah))&&(decide (x.At<y.At)||((y.At==x.At)&&decide (x.No<y.No))))=true↔jr y t ah=true/\bKey y=bKey x/\gOver (λb:Budget=>b.At) (λb=>b.No) x y:=by
   simp only[zB,kD,beq_iff_eq,decide_eq_true_eq,bKey,gq.mk.injEq,gOver]
   grind
  split
  .grind
  .next h=>rw[DC hx l];exact⟨λh'=>⟨λa b c=>h (e.2 ⟨a,b,c⟩),h'⟩,λh'=>h'.2⟩
def bStands(l:List Budget)(t ah:Int)(y:Budget):Bool:=(!y.nA&&jr y t ah)&&l.all λw=>!((jr w t ah&&decide (bKey w=bKey y))&&(decide (y.At<w.At)||(decide (w.At=y.At)&&decide (y.No<w.No))))
theorem stands18{L:List Budget}{i t:Int}{x:Budget}(hx:nthI L i=x):il L i t ah=bStands L t ah x:=by
 unfold il bStands
 rw[hx,jK,Bool.cond_eq_ite]
 split
 .grind
 .next h=>
  simp only[kD,not_or,Bool.not_eq_true,Bool.not_eq_false']at h
  rw[DC hx,h.1,h.2]
  simp only[Bool.not_false,Bool.and_self,Bool.true_and,zP,kE,Bool.and_eq_false_iff,gOver]
  grind
theorem wx(L:List Budget)(n t ah:Int):∀(s pre g:List Budget),L=pre++s->ec.L1 L n t ah ec.K1 s pre.length g=g++s.filter λy=>((y.Kind==(-1))||(y.Kind==n))&&bStands L t ah y
 |[],pre,g,_=>by simp[ec.L1,ec.K1]
 |y::s,pre,g,h=>by
  have hy:nthI L (pre.length:Int)=y:=pz (by rw[h];simp)
  have ih:=λg=>wx L n t ah s (pre++[y]) g (by rw[h];simp)
  simp only[vA,xA,jB,Nat.zero_add]at ih
  simp only[ec.L1,stands18 hy,ih,List.filter_cons]
  grind
theorem bstanding18{l:List Budget}(h:bC l=0)(n t ah:Int):aU l n t ah=ec l n t ah:=by
 have hr:=sS h
 have hp:l.Pairwise (λa b=>a.No<b.No):=by
  unfold bC at h
  simp only[Bool.cond_eq_ite]at h
  grind [budgetsP,oL]
 unfold aU ec
 rw[Nm]
 unfold aU.K1
 rw[Nl,vD,EJ]
 have:=wx l n t ah l [] [] rfl
 rw[jB,vD]at this
 rw[this]
 apply List.filter_congr
 intro y hy
 have hv:ST bKey (λb:Budget=>b.At) (λb=>b.No) (l.filter (bCnt n t ah)) (gMap bKey (·.At) z0B (l.filter (bCnt n t ah)) []):=by
  have:=I5 bKey (λb:Budget=>b.At) (λb=>b.No) z0B (l.filter (bCnt n t ah)) [] [] (hp.sublist List.filter_sublist) ⟨λk z h=>(by simp[mget?]at h),λk h w hw=>(jA hw).elim⟩
  exact this
 show((!y.nA)&&decide (mgetD (gMap bKey (·.At) z0B (l.filter (bCnt n t ah)) []) (bKey y) z0B=y))=_
 rw[jK,zB,decide_eq_true_eq]
 have hcc:bCnt n t ah y=(jr y t ah&&((y.Kind==(-1))||(y.Kind==n))):=rfl
 cases hc:bCnt n t ah y with
 |false=>
  constructor
  .rintro⟨_,h2⟩
   exfalso
   cases hm:mget? (gMap bKey (·.At) z0B (l.filter (bCnt n t ah)) []) (bKey y)with
   |none=>
    simp only[mgetD,hm,Option.getD]at h2
    have:=xX (hr y hy)
    rw[←h2]at this
    exact this rfl
   |some z=>
    simp only[mgetD,hm,Option.getD]at h2
    have:=(vH.1 (hv.some _ _ hm).1).2
    rw[h2,hc]at this
    cases this
  .intro h2
   simp only[bStands,zB]at h2
   rw[hcc,h2.2.1.2,h2.1]at hc
   cases hc
 |true=>
  have hm:y∈l.filter (bCnt n t ah):=vH.2 ⟨hy,hc⟩
  rw[I6 bKey (λb:Budget=>b.At) (λb=>b.No) z0B (hp.sublist List.filter_sublist) hm]
  rw[hcc,zB]at hc
  simp only[bStands,hc.1,hc.2,Bool.true_and,Bool.and_true,zB,zP,kE,Bool.and_eq_false_iff]
  refine and_congr Iff.rfl ?_
  constructor
  .intro h' w hw
   by_cases a:jr w t ah=true
   .by_cases b:bKey w=bKey y
    .have hk:w.Kind=y.Kind:=congrArg gq.kind b
     have:=h' w (vH.2 ⟨hw,by show(jr w t ah&&((w.Kind==(-1))||(w.Kind==n)))=true;rw[a,hk];simpa using hc.2⟩) b
     grind [gOver,Bool.or_eq_false_iff,Bool.and_eq_false_iff,decide_eq_false_iff_not]
    .left;right;exact decide_eq_false b
   .left;left;simpa using a
  .intro h' w hw b c
   obtain⟨hw1,hw2⟩:=vH.1 hw
   have hw3:(jr w t ah&&((w.Kind==(-1))||(w.Kind==n)))=true:=hw2
   grind [gOver,Bool.or_eq_false_iff,Bool.and_eq_false_iff,decide_eq_false_iff_not]
theorem qg{l:List ai}(h:aX l=0):l.length<=4096/\l.Pairwise (λa b=>a.No<b.No):=by grind [aX,approvalsP,oL]
theorem Hp(y:ai)(t:Int):jY y t<0↔y.No<t:=by grind [jY,cmp_Compare_int,cmp_isNaN_int]
theorem RU(y:ai)(t:Int):(jY y t==0)=(y.No==t):=by
 have h1:∀x,cmp_isNaN_int x=false:=λx=>by simp[cmp_isNaN_int]
 unfold jY cmp_Compare_int
 grind
def addAt(l:List ai)(t:Int):Nat:=(l.takeWhile λy=>decide (y.No<t)).length
theorem J3(l:List ai)(t:Int):addAt l t<=l.length:=by
 have:=congrArg List.length (List.takeWhile_append_dropWhile (p:=λy:ai=>decide (y.No<t)) (l:=l))
 grind [addAt]
theorem J1(l:List ai)(t:Int):l.take (addAt l t)=l.takeWhile λy=>decide (y.No<t):=by
 have e:=List.takeWhile_append_dropWhile (p:=λy:ai=>decide (y.No<t)) (l:=l)
 grind [addAt]
theorem J4(l:List ai)(t:Int):l.drop (addAt l t)=l.dropWhile λy=>decide (y.No<t):=by
 have e:=List.takeWhile_append_dropWhile (p:=λy:ai=>decide (y.No<t)) (l:=l)
 grind [addAt]
theorem PA(l:List ai)(t:Int)(i:Nat)(y:ai)(hi:i<addAt l t)(hy:l[i]? = some y):jY y t<0:=by
 rw[Hp]
 have hm:y∈l.take (addAt l t):=by
  have:(l.take (addAt l t))[i]? = some y:=by rw[List.getElem?_take,if_pos hi];exact hy
  exact xD this
 rw[J1]at hm
 have hall:=List.all_takeWhile (p:=λy:ai=>decide (y.No<t)) (l:=l)
 grind
theorem PB{l:List ai}(h:l.Pairwise (λa b=>a.No<b.No))(t:Int)(i:Nat)(y:ai)(hi:addAt l t<=i)(hy:l[i]? = some y):¬jY y t<0:=by
 rw[Hp]
 have key:∀z∈l.dropWhile (λy=>decide (y.No<t)),¬z.No<t:=by
  cases hd:l.dropWhile (λy=>decide (y.No<t))with
  |nil=>exact λz hz=>(jA hz).elim
  |cons z r=>
   have hz:¬z.No<t:=by
    have:=List.head?_dropWhile_not (λy:ai=>decide (y.No<t)) l
    rw[hd]at this
    simpa using this
   have hp:(z::r).Pairwise (λa b=>a.No<b.No):=by rw[←hd];exact h.sublist (List.dropWhile_sublist _)
   intro w hw
   rcases kC.1 hw with rfl|hw
   .exact hz
   .have:=(List.pairwise_cons.1 hp).1 w hw;omega
 have hm:y∈l.drop (addAt l t):=by
  have:(l.drop (addAt l t))[i-addAt l t]? = some y:=by rw[List.getElem?_drop,show addAt l t+(i-addAt l t)=i by omega];exact hy
  exact xD this
 rw[J4]at hm
 exact key y hm
theorem PC{l:List ai}(h:l.Pairwise (λa b=>a.No<b.No))(t:Int):((l[addAt l t]?).any λy=>jY y t==0)=l.any (λy=>y.No==t):=by
 have hlo:=PA l t
 have hhi:=PB h t
 apply jK.2
 rw[List.any_eq_true]
 constructor
 .grind [addAt,RU]
 .rintro⟨y,hy,he⟩
  obtain⟨i,hi⟩:=List.mem_iff_getElem?.1 hy
  have hyt:y.No=t:=by simpa using he
  have h1:addAt l t<=i:=by
   grind [addAt,Hp]
  rcases zK (addAt l t) i with h2|h2
  .have hil:=(List.getElem?_eq_some_iff.1 hi).1
   have hg:l[addAt l t]? = some l[addAt l t]:=List.getElem?_eq_getElem (by omega)
   have h3:=hhi _ _ (xE _) hg
   rw[Hp]at h3
   have h4:=List.pairwise_iff_getElem.1 h (addAt l t) i (by omega) hil h2
   grind
  .grind [addAt,RU]
theorem V8(l:List ai)(x:ai):(dG l x).1.length<=4097:=by
 unfold dG
 cases h1:aX l != 0 with
 |true=>simp
 |false=>
  have hl:=(qg (l:=l) (by simpa using h1)).1
  have e:=congrArg List.length (List.takeWhile_append_dropWhile (p:=λy:ai=>decide (y.No<x.No)) (l:=l))
  grind
theorem vj{a:Int}:dB a [z]=true↔0<=z/\z<=a:=by
 simp only[dB,containsF,iz,List.any_cons,List.any_nil,Bool.or_false,kE,Bool.or_eq_false_iff,decide_eq_false_iff_not];omega
theorem Hq{a y:Int}:dB a [y,z]=true↔(0<=y/\y<=a)/\(0<=z/\z<=a):=by
 simp only[dB,containsF,iz,List.any_cons,List.any_nil,Bool.or_false,kE,Bool.or_eq_false_iff,decide_eq_false_iff_not];omega
def addL(l:List ai)(x:ai):List ai:=l.takeWhile (λy=>decide (y.No<x.No))++x::l.dropWhile (λy=>decide (y.No<x.No))
theorem Nq{l:List ai}(h:(dG l x).2=0):aX l=0/\eu x=true/\(∀y∈l,y.No≠x.No)/\l.length≠4096/\(dG l x).1=addL l x:=by
 unfold dG at h ⊢
 cases h1:aX l != 0 with
 |true=>rw[h1,cond_true]at h;rw[show aX l=0 from h]at h1;cases h1
 |false=>
  rw[h1,cond_false]at h
  cases h2:eu x with
  |false=>rw[h2]at h;cases h
  |true=>
   rw[h2,Bool.not_true,cond_false]at h
   cases h3:l.any (λy=>y.No==x.No)with
   |true=>rw[h3]at h;cases h
   |false=>
    rw[h3,cond_false]at h
    cases h4:(l.length:Int)==4096 with
    |true=>rw[h4]at h;cases h
    |false=>
     refine⟨by simpa using h1,rfl,λy hy hn=>?_,λhn=>?_,rfl⟩
     all_goals grind
theorem yx{l:List ai}:y∈addL l x↔y=x\/y∈l:=by
 have e:=List.takeWhile_append_dropWhile (p:=λy:ai=>decide (y.No<x.No)) (l:=l)
 grind [addL]
theorem JZ{l:List ai}(h:l.Pairwise (λa b=>a.No<b.No))(hx:∀y∈l,y.No≠x.No):(addL l x).Pairwise (λa b=>a.No<b.No):=by
 have e:=List.takeWhile_append_dropWhile (p:=λy:ai=>decide (y.No<x.No)) (l:=l)
 have hp:(l.takeWhile (λy=>decide (y.No<x.No))++l.dropWhile (λy=>decide (y.No<x.No))).Pairwise (λa b=>a.No<b.No):=by rw[e];exact h
 rw[List.pairwise_append]at hp
 obtain⟨p1,p2,p3⟩:=hp
 have hlo:∀y∈l.takeWhile (λy=>decide (y.No<x.No)),y.No<x.No:=by
  have hall:=List.all_takeWhile (p:=λy:ai=>decide (y.No<x.No)) (l:=l)
  grind
 have hhi:∀y∈l.dropWhile (λy=>decide (y.No<x.No)),x.No<y.No:=by
  intro y hy
  have hm:y∈l:=(List.dropWhile_sublist _).subset hy
  have hn:=hx y hm
  cases hd:l.dropWhile (λy=>decide (y.No<x.No))with
  |nil=>rw[hd]at hy;exact(jA hy).elim
  |cons z s=>
   have hz:¬z.No<x.No:=by
    have:=List.head?_dropWhile_not (λy:ai=>decide (y.No<x.No)) l
    rw[hd]at this
    simpa using this
   have hzm:z∈l:=(List.dropWhile_sublist _).subset (by rw[hd];exact xB ..)
   have hzn:=hx z hzm
   rw[hd]at hy p2
   rcases kC.1 hy with rfl|hy
   .omega
   .have:=(List.pairwise_cons.1 p2).1 y hy;omega
 unfold addL
 rw[List.pairwise_append]
 refine⟨p1,List.pairwise_cons.2 ⟨hhi,p2⟩,λa ha b hb=>?_⟩
 grind
theorem SM{l:List ai}(h:(dG l x).2=0):aX (addL l x)=0:=by
 obtain⟨h1,h2,h3,h4,h5⟩:=Nq h
 have hi:=qg h1
 have hlen:(addL l x).length=l.length+1:=by
  have e:=congrArg List.length (List.takeWhile_append_dropWhile (p:=λy:ai=>decide (y.No<x.No)) (l:=l))
  grind [addL]
 unfold aX at h1 ⊢
 rw[approvalsP]at h1 ⊢
 have hd:decide (4096<(l.length:Int))=false:=by have:=hi.1;simp;omega
 have hd2:decide (4096<((addL l x).length:Int))=false:=by have:=hi.1;simp;omega
 rw[hd,cond_false,oL (by decide)]at h1
 rw[hd2,cond_false,oL (by decide)]
 refine⟨λy hy=>?_,JZ hi.2 h3⟩
 rcases yx.1 hy with rfl|hy
 .refine⟨h2,?_⟩
  simp only[eu,zB]at h2
  have:=vj.1 h2.1.1.1.1
  omega
 .exact h1.1 y hy
section
variable {r:Register} {x:ai} (ha:(dG r.bO x).2=0) (hs:∀y∈r.bO,aW y≠aW x) {d:av} {t ah:Int}
include ha
end
theorem VJ{p:ay}(hy:y∈gF c p):y∈c.Register.bO:=by
 rw[Ce,Bool.cond_eq_ite]at hy
 split at hy
 .exact(jA hy).elim
 .have h1:=(vH.1 hy).1
  unfold ck at h1
  simp only[Bool.cond_eq_ite]at h1
  split at h1
  .exact(jA h1).elim
  .split at h1
   .exact(jA h1).elim
   .have h2:=(vH.1 h1).1
    unfold aF at h2
    rw[QC]at h2
    unfold aF.K1 at h2
    rw[QB,vD]at h2
    have h3:=(vH.1 h2).1
    have hc:eV c.Register.bO c.aP.No c.at_ c.ah=c.Register.bO.filter (cntA c.aP.No c.at_ c.ah):=zy _ _ _ _
    rw[hc]at h3
    exact(vH.1 h3).1
theorem Oj(h:dq c.Register=0)(p:ay):dQ (cq c p)=true:=by
 rw[Fc,yp]
 refine⟨λz hz=>?_,(BR _).1⟩
 rw[(BR _).2,xJ]at hz
 obtain⟨y,hy,rfl⟩:=hz
 have hm:=VJ hy
 have h7:=((iQ _).1 h).2.2.2.2.2.2
 have hr:eu y=true:=by
  grind [aX,approvalsP,oL]
 simp only[eu,zB]at hr
 have:=Hq.1 hr.1.2
 omega
section
variable {r:Register} {x:ai} (hsm:smR r) (hc:dq r=0) (ha:(dG r.bO x).2=0) (hs:∀y∈r.bO,aW y≠aW x) {d:av} {t ah:Int}
include hsm hc ha hs
end
def saneN:Register:={ cA [1,2]with Versions:=[] }
def saneF:Register:={ cA [1,2]with df:=[⟨7,0,0,-1,100,0,0,false⟩] }
theorem dk[Decidable p](h:decide p=true:=by kernel_rfl):p:=of_decide_eq_true h
theorem smk{r:Register}(a:r.Versions.length<=2000000/\(∀v∈r.Versions,v.ay.cZ.length<=2000000/\(∀y∈v.ay.cZ,y.ao.dep<=1500000)/\v.ay.aS.dep<=1500000/\v.ay.aB.length<=2000000/\v.ay.dM.length<=2000000)/\r.da.length<=2000000/\r.eI.length<=2000000/\r.dt.length<=2000000/\r.df.length<=2000000/\r.bV.length<=2000000/\r.bO.length<=2000000):smR r:=⟨⟨a.1,a.2.1⟩,a.2.2⟩
theorem XL:smP lszp:=by unfold smP;exact dk
theorem XM:smR saneN:=smk dk
theorem XN:smR saneF:=smk dk
theorem Wf:smR (cA [1,2]):=smk dk
theorem WA:smR (cA [2]):=smk dk
theorem WB:smR (cA []):=smk dk
theorem XT:wE saneN 5 9 9:=⟨dk,dk,dk,dk,dk,dk,dk,dk⟩
theorem XU:wE saneF 5 9 9:=⟨dk,dk,dk,dk,dk,dk,dk,dk⟩
theorem Wi:wE (cA [1,2]) 5 9 9:=⟨dk,dk,dk,dk,dk,dk,dk,dk⟩
theorem WR:wE (cA [2]) 5 9 9:=⟨dk,dk,dk,dk,dk,dk,dk,dk⟩
theorem Xo:wE (cA []) 5 9 9:=⟨dk,dk,dk,dk,dk,dk,dk,dk⟩
theorem XW:(aZ (cA []) [-1] [] 6 9 9).2=0->wE (cA []) 6 9 9:=λh=>absurd h (dk (p:=¬(aZ (cA []) [-1] [] 6 9 9).2=0))
theorem XV:(aZ (cA []) [] [] 5 9 9).2=0->wE (cA []) 5 9 9:=λ_=>Xo
theorem sane1:bN saneN [-1] [] 5 9 9=([],false,0):=by kernel_rfl
theorem sane2:ma (cA [2]) [-1] [] 5 9 9 [⟨1,3⟩]=(true,0):=by kernel_rfl
theorem sane3:ma (cA [2]) [-1] [] 5 9 9 [⟨1,4⟩]=(false,0):=by kernel_rfl
theorem sane4:bN (cA []) [] [] 5 9 9=([],false,1):=by kernel_rfl
theorem sane5:ma (cA []) [-1] [] 6 9 9 []=(false,1):=by kernel_rfl
theorem sane6:wg (cA [1,2]) (-1) []=true:=by kernel_rfl
theorem sane7:wg (cA [1,2]) 3 [⟨4,5⟩]=true:=by kernel_rfl
theorem sane8:wg (cA [2]) (-1) [⟨1,1⟩]=true:=by kernel_rfl
theorem sane9:wg (cA []) (-1) [⟨1,1⟩,⟨1,2⟩]=true:=by kernel_rfl
theorem saneA:wg saneF (-1) [⟨3,7⟩]=true:=by kernel_rfl
theorem ym{r:Register}{t:Int}(h:jp r signed u aP t ah=true):nX r signed u aP t ah=true/\r.bV.length<20/\signed.length<=20/\u.length<=30:=by
 simp only[jp,zB]at h
 obtain⟨h1,h2⟩:=h
 unfold lI at h1
 cases hc:((!(lJ r))||decide (20<(signed.length:Int)))||decide (30<(u.length:Int))with
 |true=>rw[hc]at h1;cases h1
 |false=>
  simp only[Bool.or_eq_false_iff,Bool.not_eq_false',decide_eq_false_iff_not]at hc
  have hd:r.bV.length<20:=by
   have h3:=hc.1.1
   simp only[lJ,Bool.cond_eq_ite]at h3
   grind
  grind [nX]
theorem Ia{r:Register}{t:Int}(h:jp r signed u aP t ah=true):r.bV.length<20:=(ym h).2.1
theorem LN{f:Nat->List (List Int)}{w:List Int}:∀{j:Nat},w∈downF f j->∃m,m<j/\w∈f m
 |0,h=>by simp[downF]at h
 |j+1,h=>by
  rcases kF.1 h with h|h
  .exact⟨j,Nat.lt_succ_self j,h⟩
  .obtain⟨m,a,b⟩:=LN h;exact⟨m,Nat.lt_succ_of_lt a,b⟩
theorem Lb(n:Nat)(m:Int):∀(l:List Int)(i:Nat)(g:List Int),(setOf.L n m l i g).length<=g.length+l.length
 |[],i,g=>by simp[setOf.L]
 |y::s,i,g=>by
  have h1:=Lb n m s (i+1) (bif bitAt m ((n:Int)-1-(i:Int))then g++[y]else g)
  grind [setOf.L,bitAt]
theorem QH{f:Nat->List (List Int)}{w:List Int}:∀{c i:Nat},w∈upF f i c->∃s,w∈f s
 |0,_,h=>by simp[upF]at h
 |c+1,i,h=>by
  rcases kF.1 h with h|h
  .exact⟨i,h⟩
  .exact QH h
theorem TB{p:List Int}(h:w∈iX p):w.length<=p.length:=by
 obtain⟨s,h⟩:=QH h
 grind [setsM,LN,pop64,Lb,setOf]
theorem BM(l:List Int):eA l=l:=by
 have h:∀(s g:List Int),el.L1 el.K1 s g=g++s:=by
  intro s
  induction s with
  |nil=>intro g;simp[el.L1,el.K1]
  |cons y s ih=>intro g;simp only[el.L1];rw[ih];simp
 exact h l []
theorem Pv{f:α->Int}{l a b:List α}{y:α}(hl:l=a++y::b)(hp:l.Pairwise λx z=>f x<f z):bsPos f l (f y)=a.length:=by
 subst hl
 obtain⟨h1,h2,h3⟩:=List.pairwise_append.1 hp
 have e1:a.countP (λx=>decide (f x<f y))=a.length:=List.countP_eq_length.2 λx hx=>by simpa using h3 x hx y (xB ..)
 have e2:(y::b).countP (λx=>decide (f x<f y))=0:=List.countP_eq_zero.2 λx hx=>by
  rcases kC.1 hx with rfl|hx
  .simp
  .have:=(List.pairwise_cons.1 h2).1 x hx;simp;omega
 grind [bsPos]
theorem LU[Inhabited α]{f:α->Int}{l:List α}{y:α}(hp:l.Pairwise λx z=>f x<f z)(hy:y∈l):bsPos f l (f y)<l.length/\nthI l ((bsPos f l (f y):Nat):Int)=y:=by
 obtain⟨a,b,rfl⟩:=List.append_of_mem hy
 rw[Pv rfl hp]
 exact⟨by simp,pz (by simp)⟩
theorem Gl(l0:List av):∀(l pre:List av),l0=pre++l->aY.L1 l0 0 l pre.length=0->(pre≠[]->∀y∈l.head?,(nthI l0 ((pre.length:Int)-1)).No<y.No)/\l.Pairwise (λa b=>a.No<b.No)
 |[],_,_,_=>⟨λ_ _ h=>(by simp at h),List.Pairwise.nil⟩
 |y::l,pre,h0,h=>by
  simp only[aY.L1,Bool.cond_eq_ite]at h
  split at h
  .omega
  .next hc=>
   simp only[kD,not_or,Bool.not_eq_true,Bool.and_eq_false_iff,decide_eq_false_iff_not]at hc
   obtain⟨i1,i2⟩:=Gl l0 l (pre++[y]) (by rw[h0];simp) (by simpa using h)
   have hy:nthI l0 (((pre++[y]).length:Nat)-1:Int)=y:=by
    have:(((pre++[y]).length:Nat)-1:Int)=(pre.length:Int):=by simp
    rw[this];exact pz (by rw[h0];simp)
   rw[hy]at i1
   refine⟨λhne z hz=>?_,?_⟩
   .cases hz
    have:0<pre.length:=List.length_pos_iff.2 hne
    rcases hc.1.2 with h'|h'<;>omega
   .cases l with
    |nil=>simp
    |cons z l=>
     have hyz:=i1 (by simp) z rfl
     rw[List.pairwise_cons]
     refine⟨λw hw=>?_,i2⟩
     rcases kC.1 hw with rfl|hw
     .exact hyz
     .have:=(List.pairwise_cons.1 i2).1 w hw;omega
theorem JF{l:List av}(h:aY l=0):l.Pairwise (λa b=>a.No<b.No):=by
 unfold aY aY.K1 at h
 rw[Bool.cond_eq_ite]at h
 split at h
 .omega
 .exact(Gl l l [] rfl h).2
section
variable {r:Register} {aP:Int} (hc:dq r=0) (hd:0<=eC r aP)
include hc hd
theorem Wm:gB r aP=nthI r.bV (eC r aP)/\bsPos av.No r.bV aP<r.bV.length:=by
 obtain⟨_,h2,h3⟩:=Vy (r:=r) (no:=aP) hd
 have:=LU (JF ((iQ r).1 hc).2.2.2.2.2.1) h2
 rw[h3]at this
 exact⟨this.2,this.1⟩
end
theorem QG{l:List aD}(g:Gt l){db t:Int}{no:Int}(h:no∈(aN l db t ah).1):∃v∈l,v.No=no:=by
 by_cases hb:fx db=true/\fx t=true/\fx ah=true/\db<=t
 .have f:∀{x},fx x=true->0<=x/\x<1099511627776:=λh=>by simpa[fx]using h
  exact(yO g (f hb.1) (f hb.2.1) (f hb.2.2.1) hb.2.2.2).mem no h
 .exfalso
  unfold aN at h
  grind
theorem Cc{r:Register}(g:Gt r.Versions)(hr:c.Register=r){no:Int}(h:∃v∈r.Versions,v.No=no):
  bsPos aD.No r.Versions no<r.Versions.length/\fI c no=.ok (nthI r.Versions ((bsPos aD.No r.Versions no:Nat):Int)).ay:=by
 obtain⟨v,hv,rfl⟩:=h
 obtain⟨h1,h2⟩:=LU g.inc hv
 refine⟨h1,?_⟩
 rw[h2]
 rcases za c v.No with⟨_,h0⟩|⟨a,w,b,e1,e2,e3,_⟩
 .grind
 .have hw:w∈r.Versions:=by rw[←hr,e1];simp
  rw[e2,Rm g.inc hw hv e3]
theorem RB(r:Register)(at_ ah:Int)(i1:Nat)(k:Bool->List Int):∀(l:List Nat)(i:Nat)(g:Bool),∃b,aO.L3 r at_ ah i1 k l i g=k b/\(b=true->g=true\/∃o:Nat,(ew r.da (o:Int) (i1:Int) at_ ah).2.2.1=true)
 |[],i,g=>⟨g,rfl,λh=>.inl h⟩
 |y::l,i,g=>by
  simp only[aO.L3]
  obtain⟨b,e,hb⟩:=RB r at_ ah i1 k l (i+1) (g||(ew r.da (i:Int) (i1:Int) at_ ah).2.2.1)
  grind
theorem Ev(r:Register)(at_ ah:Int)(d:av):∀(l:List Nat)(i:Nat),(aO.L1 r at_ ah d aO.K1 l i).length<=l.length/\(aO.L1 r at_ ah d aO.K1 l i).Pairwise (·<·)/\∀x∈aO.L1 r at_ ah d aO.K1 l i,(i:Int)<=x/\x<i+l.length/\∃o:Nat,(ew r.da (o:Int) x at_ ah).2.2.1=true
 |[],i=>⟨xE _,List.Pairwise.nil,λx hx=>(jA hx).elim⟩
 |y::l,i=>by
  obtain⟨h1,h2,h3⟩:=Ev r at_ ah d l (i+1)
  simp only[aO.L1]
  obtain⟨b,e,hb⟩:=RB r at_ ah i (λzg3_7=>(bif(!zg3_7)then(aO.L1 r at_ ah d aO.K1 l ((i+1)))else(bif(!((dc r.dt (i:Int) d.ju at_ ah).2.1))then((i:Int)::(aO.L1 r at_ ah d aO.K1 l ((i+1))))else(aO.L1 r at_ ah d aO.K1 l ((i+1)))))) (zD 32) 0 false
  rw[e]
  have h3':∀x∈aO.L1 r at_ ah d aO.K1 l (i+1),(i:Int)<=x/\x<(i:Int)+((y::l).length:Nat)/\∃o:Nat,(ew r.da (o:Int) x at_ ah).2.2.1=true:=λx hx=>by
   grind
  cases b with
  |false=>exact⟨by simp only[Bool.not_false,cond_true,xA];omega,h2,h3'⟩
  |true=>
   simp only[Bool.not_true,cond_false]
   cases(!((dc r.dt (i:Int) d.ju at_ ah).2.1))with
   |false=>exact⟨by simp only[cond_false,xA];omega,h2,h3'⟩
   |true=>
    simp only[cond_true,xA]
    refine⟨by omega,List.pairwise_cons.2 ⟨λx hx=>by have:=(h3 x hx).1;omega,h2⟩,λx hx=>?_⟩
    grind
theorem Oi(c:bI)(k:List (List cm)->Bool):∀(s:List ByteArray)(i:Nat)(g:List (List cm)),cT.L1 c k s i g=k (g++(zD s.length).map λj=>gK c.Register c.at_ c.ah (i+j))
 |[],i,g=>by simp[cT.L1]
 |y::s,i,g=>by
  simp only[cT.L1,Oi c k s,zC,xA,List.range_succ_eq_map,kG,List.map_map,jJ,vD]
  congr 3
  apply List.map_congr_left
  grind
theorem s9(c:bI)(p:ay)(j9:List Int):cT c p j9=cT.K1 c p j9 ((zD p.aB.length).map (gK c.Register c.at_ c.ah)):=by grind [cT,Oi]
theorem PZ(h:iI c)(p:ay):(cq c p).length<=4096:=by
 rw[yp]
 have h1:=JN (sortI ((gF c p).map (·.For))) []
 rw[iE,List.length_map]at h1
 have h2:(gF c p).length<=c.Register.bO.length:=by
  grind [Ce,zu]
 have h3:c.Register.bO.length<=4096:=by
  have:=((iQ _).1 h.chk).2.2.2.2.2.2
  unfold aX at this
  grind
 show(compI _).length<=_
 grind [compI,jB]
theorem xY(l:List Budget)(kind t ah:Int):(aU l kind t ah).Sublist l:=by
 unfold aU
 rw[Nm]
 unfold aU.K1
 rw[Nl,vD]
 exact List.filter_sublist
section
variable {r:Register} {aP t ah:Int} (hc:dq r=0) (hd:0<=eC r aP) (ht:0<=t/\t<1099511627776) (hk:0<=ah/\ah<1099511627776)
include hc hd ht hk
theorem wq:iI (rCourt r aP t ah)/\(rCourt r aP t ah).aP.No=aP:=by
 obtain⟨_,h1,h2,_⟩:=Hg hc (Hh hd ht hk)
 exact⟨h1,h2⟩
theorem J5{no:Int}(h:∃v∈r.Versions,v.No=no):fC r aP no t ah=(askWho (rCourt r aP t ah) no,0)/\askP (rCourt r aP t ah) no=(nthI r.Versions ((bsPos aD.No r.Versions no:Nat):Int)).ay:=by
 have hco:=(wq hc hd ht hk).1
 obtain⟨_,hp⟩:=Cc hco.vers (c:=rCourt r aP t ah) rfl h
 have e:=Qo hp
 refine⟨?_,e⟩
 unfold fC
 rw[hc,Hh hd ht hk]
 simp only[bne_self_eq_false,cond_false]
 grind [askWho,askP,nthI,bsPos]
theorem W9(hsm:smR r)(hdl:r.df.length<=1000000):wE r aP t ah:=by
 obtain⟨hco,hno⟩:=wq hc hd ht hk
 obtain⟨e1,e2⟩:=Wm hc hd
 have hg:=hco.good
 refine⟨JF hco.docs,e2,hco.vers.inc,λno hn=>?_,?_,?_,?_,?_⟩
 .have hv:=QG hco.vers hn
  obtain⟨i1,i2⟩:=Cc hco.vers (c:=rCourt r aP t ah) rfl hv
  refine⟨i1,?_,?_⟩
  .exact kK (si hco hsm i2).off (by decide)
  .rw[e1,show(nthI r.bV (eC r aP)).No=aP from hno,(J5 hc hd ht hk hv).1]
   exact kK (PZ hco (askP (rCourt r aP t ah) no)) (by decide)
 .have:=Dr r.Versions (gB r aP).At t ah
  have h2:=hco.vers.len
  grind
 .have:=(Ev r t ah (gB r aP) (zD 64) 0).1
  rw[List.length_range]at this
  show(aO.L1 _ _ _ _ _ _ _).length<=_
  omega
 .rw[e1]
  have:=hg.needs.2
  grind
 .have h1:=(xY r.df (gB r aP).Kind t ah).length_le
  unfold ek
  grind
end
theorem Sj{r:Register}(hsm:smR r){t:Int}(h:jp r signed u aP t ah=true):wE r aP t ah:=by
 obtain⟨hc,hd,ht,hk,_,_⟩:=BU hsm (ym h).1
 refine W9 hc hd ht hk hsm ?_
 have:=((iQ _).1 hc).2.2.2.1
 unfold bC at this
 grind
theorem IK(f:List Int):∀(l g:List Int),jh f l g=g++l.filter λy=>!(fu f y)
 |[],g=>by simp[jh]
 |y::s,g=>by
  simp only[jh,IK f s,List.filter_cons]
  cases(!fu f y)<;>simp
theorem MJ(u:List Use)(d:av)(t ah:Int):∀(l:List Budget)(g:List Int),iH u d t ah l g=g++(l.filter λb=>!((aL [b] u d.Kind d.Value t ah).2.1)).map (·.No)
 |[],g=>by simp[iH]
 |b::s,g=>by
  simp only[iH,MJ u d t ah s,List.filter_cons]
  grind
theorem Uf(k:Int)(l:List Int):bo k l=l.map (eQ.mk k):=by
 have h:∀(l:List Int)(g:List eQ),bo.L1 k bo.K1 l g=g++l.map (eQ.mk k):=by
  intro l
  induction l with
  |nil=>intro g;simp[bo.L1,bo.K1]
  |cons y l ih=>intro g;simp only[bo.L1,ih];simp
 have:=h l []
 rwa [vD]at this
theorem Lh(k:Int->Int->Int×Bool×Int):∀(s:List Int)(a b:Int),∃x y,∀k:Int->Int->Int×Bool×Int,aL.L3 k s a b=k x y
 |[],a,b=>⟨a,b,λ_=>rfl⟩
 |z::s,a,b=>Lh k s _ _
theorem Sh(u:List Use)(v t ah:Int)(b:Budget)(s:List Budget):aL.L1 u v t ah aL.K1 (b::s)=bif(aL.L1 u v t ah aL.K1 [b]).2.1 then aL.L1 u v t ah aL.K1 s else(b.No,false,0):=by
 simp only[aL.L1]
 obtain⟨x,y,h⟩:=Lh (λ_ _=>(0,false,0)) (sj b u t ah) v 1
 rw[h,h]
 cases(decide (b.Count<y)||decide (b.Value<x))<;>rfl
theorem N8(u:List Use)(v t ah:Int):∀s:List Budget,
  ((aL.L1 u v t ah aL.K1 s).2.1=true->∀b∈s,(aL.L1 u v t ah aL.K1 [b]).2.1=true) /\
  ((aL.L1 u v t ah aL.K1 s).2.1=false->∃b∈s,(aL.L1 u v t ah aL.K1 [b]).2.1=false/\b.No=(aL.L1 u v t ah aL.K1 s).1)
 |[]=>⟨λ_ _ h=>(jA h).elim,λh=>by cases h⟩
 |b::s=>by
  obtain⟨h1,h2⟩:=N8 u v t ah s
  rw[Sh]
  grind
theorem Nk{l:List Budget}(hc:bC l=0){kind t:Int}(h:b∈aU l kind t ah):b∈l/\b.nA=false/\bCnt kind t ah b=true:=by
 have hm:=(xY l kind t ah).subset h
 rw[bstanding18 hc]at h
 unfold ec at h
 have:=wx l kind t ah l [] [] rfl
 rw[jB,vD]at this
 rw[this]at h
 have h2:=(vH.1 h).2
 simp only[zB,bStands,kE,jr]at h2
 grind [bCnt]
theorem KM{kind t:Int}(hg:b.nA=false)(h:bCnt kind t ah b=true):aU [b] kind t ah=[b]:=by
 unfold aU
 rw[Nm]
 unfold aU.K1
 rw[Nl,vD,EJ]
 simp only[List.filter_cons,h,if_true,List.filter_nil]
 have e:mgetD (gMap bKey (λb:Budget=>b.At) z0B [b] []) (bKey b) z0B=b:=by simp[gMap,mhas,mgetD,mi,mget?]
 have e2:decide ((mgetD (gMap bKey (λb:Budget=>b.At) z0B [b] []) (gq.mk b.Kind b.lC) (aAf 0 0 0 0 0 0 0 false))=b)=true:=by
  rw[decide_eq_true_iff];exact e
 rw[e2,hg];rfl
theorem RW{l:List Budget}{v t n:Int}(h:(aL l u k v t n).2.2=0):aL l u k v t n=aL.L1 u v t n aL.K1 (aU l k t n):=by
 unfold aL at h ⊢
 cases h1:(bC l) != 0 with
 |true=>
  grind
 |false=>
  grind
theorem SH{l:List Budget}(hc:bC l=0)(hb:b∈l):bC [b]=0:=by
 unfold bC at hc ⊢
 rw[Bool.cond_eq_ite]at hc
 split at hc
 .cases hc
 .rw[budgetsP]at hc ⊢
  exact PY (by decide) (List.singleton_sublist.2 hb) hc
theorem Sf{l:List Budget}(hr:(aL l u 0 0 0 0).2.2=0)(hc:bC l=0){d:av}{t:Int}(hk:0<=d.Kind/\d.Kind<16)(hv:0<=d.Value/\d.Value<=1099511627776)(ht:0<=t/\t<1099511627776)(hn:0<=ah/\ah<1099511627776):
  ((aL l u d.Kind d.Value t ah).2.1=true->iH u d t ah (ek l d.Kind t ah).1 []=[]) /\
  ((aL l u d.Kind d.Value t ah).2.1=false->(aL l u d.Kind d.Value t ah).1∈iH u d t ah (ek l d.Kind t ah).1 []):=by
 have hst:(ek l d.Kind t ah).1=aU l d.Kind t ah:=by
  unfold ek
  rw[hc,ru.2 (show(0:Int)<=d.Kind/\d.Kind<=15 by omega),BP.2 (show((0:Int)<=t/\t<=1099511627775)/\(0<=ah/\ah<=1099511627775) by omega)]
  rfl
 obtain⟨u1,u2⟩:=Se hr
 have h1:∀b∈aU l d.Kind t ah,aL [b] u d.Kind d.Value t ah=aL.L1 u d.Value t ah aL.K1 [b]:=λb hb=>by
  grind [Nk,RW,H8,Li,SH,KM]
 rw[hst,MJ,vD,RW (H8 hr hk hv ht hn)]
 obtain⟨a1,a2⟩:=N8 u d.Value t ah (aU l d.Kind t ah)
 refine⟨λh=>?_,λh=>?_⟩
 .rw[aAy,List.filter_eq_nil_iff]
  intro b hb
  rw[h1 b hb,a1 h b hb];simp
 .grind
def mAns(c:bI)(w:List Int)(no:Int):Bool:=cT c (askP c no) (setI (askWho c no++w))
section
variable {r:Register} {aP t ah:Int} {signed:List Int} {u:List Use} (hc:dq r=0) (hd:0<=eC r aP) (ht:0<=t/\t<1099511627776) (hk:0<=ah/\ah<1099511627776)
include hc hd ht hk
theorem UZ{no:Int}(h:∃v∈r.Versions,v.No=no)(w:List Int):jX r (rCourt r aP t ah).aP no t ah w=mAns (rCourt r aP t ah) w no:=by
 obtain⟨hco,hno⟩:=wq hc hd ht hk
 obtain⟨e1,e2⟩:=J5 hc hd ht hk h
 unfold jX mAns
 rw[s9,e2,hno,e1]
 rfl
theorem JK(dN:(rCourt r aP t ah).aP.At<=t)(w:List Int):(iT r signed u aP t ah (rCourt r aP t ah).aP).decides w=(fK (askJ (rCourt r aP t ah)).2.1 ((askJ (rCourt r aP t ah)).1.map (mAns (rCourt r aP t ah) w))).1:=by
 obtain⟨hco,hno⟩:=wq hc hd ht hk
 have hj:Jdg r.Versions (aN r.Versions (rCourt r aP t ah).aP.At t ah):=yO hco.vers hco.good.at_ ht hk dN
 show oO w _ _ _=_
 unfold oO
 rw[hj.err]
 simp only[bne_self_eq_false,cond_false,List.map_map]
 have e:((aN r.Versions (rCourt r aP t ah).aP.At t ah).1.map ((λf=>f w)∘λno=>jX r (rCourt r aP t ah).aP no t ah))=(askJ (rCourt r aP t ah)).1.map (mAns (rCourt r aP t ah) w):=by
  apply List.map_congr_left
  intro no hno'
  exact UZ hc hd ht hk (hj.mem no hno') w
 rw[e]
 show((fK (askJ (rCourt r aP t ah)).2.1 _).1&&((fK (askJ (rCourt r aP t ah)).2.1 _).2==0))=_
 cases hn:(askJ (rCourt r aP t ah)).1 with
 |nil=>rw[xW,J9];rfl
 |cons x l=>
  have hm:=hj.mode (by rw[show(aN r.Versions (rCourt r aP t ah).aP.At t ah).1=x::l from hn];simp)
  have hl:((x::l).map (mAns (rCourt r aP t ah) w)).length<=256:=by rw[←hn,List.length_map];exact kK (Dr _ _ _ _) hco.vers.len
  have:=Ka (mode:=(askJ (rCourt r aP t ah)).2.1) hm hl
  rw[this]
  simp
end
end
section
def aC.L3(cL:Int)(iO:Int)(k:Bool):List fg->Bool
 |[]=>(k )
 |y3::rz3=>(bif(decide ((vC .i64 (cL-iO))<y3.gf))then true else(aC.L3 cL iO k rz3 ))
def aC.L4(cL:Int)(iO:Int)(k:Bool):List fg->Bool
 |[]=>(k )
 |y4::rz4=>(bif(decide ((vC .i64 (cL-iO))<y4.gf))then true else(aC.L4 cL iO k rz4 ))
def aC.L9(co:Register)(signed:List Int)(u:List Use)(aP:Int)(cL:Int)(ah:Int)(i7:Nat)(k:Bool):List ai->Bool
 |[]=>(k )
 |y9::rz9=>(bif((((y9.Doc==aP)&&(y9.By==(nthI ((bN co signed u aP cL ah).1) 0).N))&&(y9.For==(nthI ((bN co signed u aP cL ah).1) 0).N))&&(y9.ea==(i7:Int)))then true else(aC.L9 co signed u aP cL ah i7 k rz9 ))
def aC.L12(aP:Int)(y6:eQ)(i10:Nat)(k:Bool):List ai->Bool
 |[]=>(k )
 |y12::rz12=>(bif((((y12.Doc==aP)&&(y12.By==y6.N))&&(y12.For==y6.N))&&(y12.ea==(i10:Int)))then true else(aC.L12 aP y6 i10 k rz12 ))
def aC.L10(aP:Int)(iO:Int)(y6:eQ)(k:Int->(List ai)->Bool):List Nat->Nat->Int->(List ai)->Bool
 |[],i10,ns,pS=>(k ns pS)
 |y10::rz10,i10,ns,pS=>((aC.L12 aP y6 i10 ((bif((dG pS (ai.mk ns iO 0 aP y6.N y6.N (i10:Int) false)).2 != 0)then decide (1048576<ns)else(aC.L10 aP iO y6 k rz10 ((i10+1)) (vC .i64 (ns+1)) ((dG pS (ai.mk ns iO 0 aP y6.N y6.N (i10:Int) false)).1))))) pS )
def aC.K6(co:Register)(signed:List Int)(u:List Use)(aP:Int)(cL:Int)(ah:Int)(I7:Int)(yE:List ai):Bool:=(((aZ (Y3 co.da co.eI co.dt co.df co.Versions co.bV yE) signed u aP cL ah).2==0)&&(((aZ (Y3 co.da co.eI co.dt co.df co.Versions co.bV yE) signed u aP cL ah).1).State==0))
def aC.L6(aP:Int)(iO:Int)(k:Int->(List ai)->Bool):List eQ->Int->(List ai)->Bool
 |[],I7,yE=>(k I7 yE)
 |y6::rz6,I7,yE=>(bif(y6.Kind != 1)then true else(bif(decide (y6.N<0)||decide (64<=y6.N))then false else((aC.L10 aP iO y6 (λzg10_23 zg10_26=>(aC.L6 aP iO k rz6 zg10_23 zg10_26))) (zD 32) 0 I7 yE)))
def aC.K5(co:Register)(signed:List Int)(u:List Use)(aP:Int)(cL:Int)(ah:Int)(iO:Int)(Ef:Int):Bool:=((aC.L6 aP iO (aC.K6 co signed u aP cL ah)) ((bN co signed u aP cL ah).1) Ef co.bO)
def aC.L5(k:Int->Bool):List ai->Int->Bool
 |[],Ef=>(k Ef)
 |y5::rz5,Ef=>(aC.L5  k rz5 (max Ef (vC .i64 (y5.No+1))))
def aC.K2(co:Register)(signed:List Int)(u:List Use)(aP:Int)(cL:Int)(ah:Int)(iO:Int):Bool:=((aC.L5 (aC.K5 co signed u aP cL ah iO)) co.bO 0)
def aC.L2(cL:Int)(iO:Int)(k:Bool):List aD->Bool
 |[]=>(k )
 |y2::rz2=>((aC.L4 cL iO ((aC.L2 cL iO k rz2 ))) y2.ay.cZ )
def aC.K1(co:Register)(signed:List Int)(u:List Use)(aP:Int)(cL:Int)(ah:Int)(iO:Int):Bool:=((aC.L2 cL iO (aC.K2 co signed u aP cL ah iO)) co.Versions )
def aC.L1(aP:Int)(k:Int->Bool):List av->Int->Bool
 |[],iO=>(k iO)
 |y1::rz1,iO=>(bif(y1.No==aP)then(aC.L1 aP k rz1 y1.At)else(aC.L1 aP k rz1 iO))
def aC(co:Register)(signed:List Int)(u:List Use)(aP:Int)(cL:Int)(ah:Int):Bool:=(bif(!Dd)then false else(bif(!(jp co signed u aP cL ah))then true else(bif((bN co signed u aP cL ah).2.2 != 0)then false else(bif(!((bN co signed u aP cL ah).2.1))then true else((aC.L1 aP (aC.K1 co signed u aP cL ah)) co.bV 0)))))
end
section
theorem Ro:∀{l:List Int}{a b:Int},l.Pairwise (·<·)->(∀x∈l,a<=x/\x<b)->(l.length:Int)<=max 0 (b-a)
 |[],a,b,_,_=>by simp;omega
 |x::l,a,b,hp,h=>by
  have h1:=h x (xB ..)
  have:=Ro (a:=x+1) (b:=b) (List.pairwise_cons.1 hp).2 λy hy=>⟨(List.pairwise_cons.1 hp).1 y hy,(h y (qC _ hy)).2⟩
  simp only[xA];omega
theorem M0{l:List aQ}{p t:Int}(h:(ew l o p t ah).2.2.1=true):∃y∈l,y.dz=p:=by
 refine Classical.byContradiction λhn=>?_
 have hl:∀(s:List aQ),(∀y∈s,y.dz≠p)->s.foldl (lastA t ah ⟨o,p⟩) none=none:=by
  intro s
  induction s with
  |nil=>intro _;rfl
  |cons y s ih=>
   intro hs
   have e:((y.ea==o)&&(y.dz==p))=false:=by
    grind
   simp only[zV,lastA,e,Bool.and_false,cond_false]
   grind
 have h1:mget? (ii l t ah) (YF o p)=none:=by
  have:=OO t ah (YF o p) l []
  exact this.trans (hl l λy hy e=>hn ⟨y,hy,e⟩)
 unfold ew mhas at h
 grind
theorem UM:∀l:List aQ,lI.L1 lI.K1 l=true->∀y∈l,y.dz<=5
 |[],_,_,hy=>(jA hy).elim
 |x::l,h,y,hy=>by
  simp only[lI.L1,Bool.cond_eq_ite,decide_eq_true_eq]at h
  split at h
  .cases h
  .rcases kC.1 hy with rfl|hy
   .omega
   .exact UM l h y hy
theorem O4{r:Register}{t:Int}(h:jp r signed u aP t ah=true)(d:av):(gy r d t ah).length<=6:=by
 have hf:∀y∈r.da,y.dz<=5:=by
  simp only[jp,zB]at h
  have h1:=h.1
  grind [lI,UM]
 obtain⟨_,h2,h3⟩:=Ev r t ah d (zD 64) 0
 have:=Ro (a:=0) (b:=6) h2 λx hx=>by
  grind [M0]
 show(aO.L1 _ _ _ _ _ _ _).length<=6
 omega
def sel:List Bool->List Int->List Int
 |[],_=>[]
 |_,[]=>[]
 |b::bs,x::l=>bif b then x::sel bs l else sel bs l
def bitsM(n m:Nat):List Bool:=(zD n).map λi:Nat=>bitAt (m:Int) ((n:Int)-1-(i:Int))
def bitsS(n size m:Nat):List (List Bool):=bif pop64 (m:Int)==(size:Int)then[bitsM n m]else[]
def downB(f:Nat->List (List Bool)):Nat->List (List Bool)
 |0=>[]
 |j+1=>f j++downB f j
def upB(f:Nat->List (List Bool)):Nat->Nat->List (List Bool)
 |_,0=>[]
 |i,c+1=>f i++upB f (i+1) c
def bitsAll(n:Nat):List (List Bool):=upB (λsize=>downB (bitsS n size) (2 ^ n)) 0 (n+1)
def bLex:List Bool->List Bool->Bool
 |a::l,b::m=>bif a==b then bLex l m else a
 |_,_=>false
def bBef(a b:List Bool):Bool:=decide (a.count true<b.count true)||(a.count true==b.count true&&bLex a b)
def pairB(R:List Bool->List Bool->Bool):List (List Bool)->Bool
 |[]=>true
 |x::l=>l.all (R x)&&pairB R l
theorem Oo{R:List Bool->List Bool->Bool}:∀{l:List (List Bool)},pairB R l=true->l.Pairwise λa b=>R a b=true
 |[],_=>List.Pairwise.nil
 |x::l,h=>by
  simp only[pairB,zB]at h
  exact List.pairwise_cons.2 ⟨λy hy=>zP.1 h.1 y hy,Oo h.2⟩
def boolsN:Nat->List (List Bool)
 |0=>[[]]
 |n+1=>(boolsN n).map (true::·)++(boolsN n).map (false::·)
theorem JU:∀l:List Bool,l∈boolsN l.length
 |[]=>xB ..
 |b::l=>by
  have:=JU l
  simp only[xA,boolsN,kF,xJ]
  cases b with
  |true=>exact .inl ⟨l,this,rfl⟩
  |false=>exact .inr ⟨l,this,rfl⟩
theorem V4:(zD 7).all (λn=>pairB bBef (bitsAll n)&&(boolsN n).all (bitsAll n).contains&&(bitsAll n).all λb=>b.length==n)=true:=by decide +kernel
theorem R9(m:Nat)(p:List Int):setOf p (m:Int)=sel (bitsM p.length m) p:=by
 have h:∀(s pre:List Int)(g:List Int),setOf.L p.length (m:Int) s pre.length g=g++sel (((List.range' pre.length s.length).map λi:Nat=>bitAt (m:Int) ((p.length:Int)-1-(i:Int)))) s:=by
  intro s
  induction s with
  |nil=>intro pre g;simp[setOf.L,sel]
  |cons y s ih=>
   intro pre g
   simp only[setOf.L]
   have:=ih (pre++[y])
   simp only[vA,xA,jB,Nat.zero_add]at this
   rw[this,xA,List.range'_succ,kG]
   grind [sel,bitAt]
 have:=h p [] []
 rw[jB,vD]at this
 unfold setOf bitsM
 rw[this,List.range_eq_range']
theorem R8(p:List Int):iX p=(bitsAll p.length).map λb=>sel b p:=by
 have h1:∀size j,downF (setsM p size) j=(downB (bitsS p.length size) j).map λb=>sel b p:=by
  intro size j
  induction j with
  |zero=>rfl
  |succ j ih=>
   simp only[downF,downB,qW,ih]
   congr 1
   unfold setsM bitsS
   cases pop64 (j:Int)==(size:Int)with
   |false=>rfl
   |true=>simp only[cond_true,kG,xW,R9]
 have h2:∀c i,upF (λsize=>downF (setsM p size) (2 ^ p.length)) i c=(upB (λsize=>downB (bitsS p.length size) (2 ^ p.length)) i c).map λb=>sel b p:=by
  intro c
  induction c with
  |zero=>intro i;rfl
  |succ c ih=>intro i;simp only[upF,upB,qW,←ih,h1]
 exact h2 _ _
theorem Hc:∀(b:List Bool)(p:List Int),b.length=p.length->(sel b p).length=b.count true
 |[],_,_=>by simp[sel]
 |b::bs,[],h=>by simp at h
 |b::bs,x::l,h=>by
  have:=Hc bs l (by simpa using h)
  simp only[sel]
  cases b<;>simp[this]
theorem Mo:∀(b:List Bool)(p:List Int),(sel b p).Sublist p
 |[],p=>by simp[sel]
 |b::bs,[]=>by simp[sel]
 |b::bs,x::l=>by
  have:=Mo bs l
  grind [sel]
theorem Vm{v p:List Int}(h:v.Sublist p):∃b,b.length=p.length/\sel b p=v:=by
 induction h with
 |slnil=>exact⟨[],rfl,rfl⟩
 |cons x _ ih=>obtain⟨b,h1,h2⟩:=ih;exact⟨false::b,by simp[h1],by simp[sel,h2]⟩
 |cons_cons x _ ih=>obtain⟨b,h1,h2⟩:=ih;exact⟨true::b,by simp[h1],by simp[sel,h2]⟩
def lexI:List Int->List Int->Prop
 |x::l,y::m=>x<y\/x=y/\lexI l m
 |_,_=>False
theorem Mp:∀(a b:List Bool)(p:List Int),a.length=p.length->b.length=p.length->p.Pairwise (·<·)->a.count true=b.count true->bLex a b=true->lexI (sel a p) (sel b p)
 |[],_,_,_,_,_,_,h=>by simp[bLex]at h
 |_::_,[],_,ha,hb,_,_,_=>by simp at ha hb;omega
 |_::_,_::_,[],ha,_,_,_,_=>by simp at ha
 |x::a,y::b,z::p,ha,hb,hp,hc,h=>by
  obtain⟨p1,p2⟩:=List.pairwise_cons.1 hp
  simp only[bLex]at h
  cases x with
  |true=>
   cases y with
   |true=>
    simp at h hc ha hb
    simp only[sel,cond_true,lexI]
    exact .inr ⟨by simp,Mp a b p ha hb p2 hc h⟩
   |false=>
    simp at hc ha hb
    simp only[sel,cond_true,cond_false]
    have hl:=Hc b p hb
    cases hs:sel b p with
    |nil=>rw[hs]at hl;simp at hl;omega
    |cons w l=>
     grind [lexI,Mo]
  |false=>
   cases y with
   |true=>simp at h
   |false=>
    simp at h hc ha hb
    simp only[sel,cond_false]
    exact Mp a b p ha hb p2 hc h
theorem O5{p:List Int}(hp:p.length<=6)(hi:p.Pairwise (·<·)){f:List Int->Bool}(h:(iX p).find? f=some w):
  f w=true/\w.Sublist p/\∀v,v.Sublist p->f v=true->v=w\/w.length<v.length\/(w.length=v.length/\lexI w v):=by
 have hb:=zP.1 V4 p.length (Zb.2 (by omega))
 simp only[zB]at hb
 obtain⟨⟨hb1,hb2⟩,hb3⟩:=hb
 have hpw:=Oo hb1
 have hl:∀b∈bitsAll p.length,b.length=p.length:=λb hb=>by simpa using zP.1 hb3 b hb
 rw[R8]at h
 obtain⟨hw,as1,bs,e,hn⟩:=List.find?_eq_some_iff_append.1 h
 obtain⟨l1,l2,e1,e2,e3⟩:=List.map_eq_append_iff.1 e
 obtain⟨b0,l3,e4,e5,e6⟩:=List.map_eq_cons_iff.1 e3
 refine⟨hw,by rw[←e5];exact Mo _ _,λv hv hfv=>?_⟩
 obtain⟨b,h1,h2⟩:=Vm hv
 have hm:b∈bitsAll p.length:=by
  have:=zP.1 hb2 b (by rw[←h1];exact JU b)
  simpa using this
 have hb0:b0∈bitsAll p.length:=by rw[e1,e4];simp
 rw[e1,e4]at hm hpw
 rcases kF.1 hm with hm|hm
 .exfalso
  have:v∈as1:=by rw[←e2,←h2];exact xJ.2 ⟨b,hm,rfl⟩
  have:=hn v this
  simp[hfv]at this
 .rcases kC.1 hm with rfl|hm
  .exact .inl (by rw[←h2,←e5])
  .have hR:=(List.pairwise_cons.1 (List.pairwise_append.1 hpw).2.1).1 b hm
   rw[←e5,←h2,Hc b0 p (hl b0 hb0),Hc b p h1]
   simp only[bBef,kD,zB,decide_eq_true_eq,beq_iff_eq]at hR
   rcases hR with hR|⟨hc,hx⟩
   .exact .inr (.inl hR)
   .exact .inr (.inr ⟨hc,Mp b0 b p (hl b0 hb0) h1 hi hc hx⟩)
theorem Lp{p:ay}{v:Int}{hs:List (List cm)}(h:((eK p k v hs w).1&&((eK p k v hs w).2==0))=true):dQ w=true/\k<(p.dM.length:Int):=by grind [eK,Bool.or_eq_false_iff,decide_eq_false_iff_not]
theorem CJ(hA:c.Register.da.length<=2000000){p:ay}(hp:RX p){a b:List Int}(hab:∀x∈a,x∈b)(hb:dQ a=true->dQ b=true)(h:cT c p a=true):cT c p b=true:=by
 rw[s9]at h ⊢
 obtain⟨h1,h2⟩:=Lp h
 refine Nr (w:=a) (w':=b) hp.sm (λl hl=>?_) (λl _ y _ hy=>hab _ hy) (hb h1) (by rw[hp.rules.1];exact h2) h
 obtain⟨j,_,rfl⟩:=xJ.1 hl
 exact kK (xg _ _ _ _) hA
theorem Ng{r:Register}{t:Int}(hsm:smR r)(hc:dq r=0)(hd:0<=eC r aP)(ht:0<=t/\t<1099511627776)(hk:0<=ah/\ah<1099511627776)(dN:(rCourt r aP t ah).aP.At<=t){w':List Int}(hw:∀x∈w,x∈w')(hr:∀x∈w',0<=x/\x<64)(h:(iT r signed u aP t ah (rCourt r aP t ah).aP).decides w=true):
  (iT r signed u aP t ah (rCourt r aP t ah).aP).decides w'=true:=by
 obtain⟨hco,hno⟩:=wq hc hd ht hk
 have hj:Jdg r.Versions (askJ (rCourt r aP t ah)):=yO hco.vers hco.good.at_ ht hk dN
 rw[JK hc hd ht hk dN,L8]at h ⊢
 have e:fN (askJ (rCourt r aP t ah)).2.1 ((askJ (rCourt r aP t ah)).1.map (mAns (rCourt r aP t ah) w'))=fN (askJ (rCourt r aP t ah)).2.1 ((askJ (rCourt r aP t ah)).1.map (mAns (rCourt r aP t ah) w)):=by
  grind [fN]
 rw[e]
 cases h2:fN (askJ (rCourt r aP t ah)).2.1 ((askJ (rCourt r aP t ah)).1.map (mAns (rCourt r aP t ah) w)) != 0 with
 |true=>rw[h2]at h;cases h
 |false=>
  rw[h2]at h
  refine LQ _ (λno hn ha=>?_) h
  obtain⟨_,hp⟩:=Cc hco.vers (c:=rCourt r aP t ah) rfl (hj.mem no hn)
  have hpo:=si hco hsm hp
  rw[←Qo hp]at hpo
  refine CJ hsm.2.1 hpo (λx hx=>?_) (λhb=>?_) ha
  all_goals grind [BR,Fc]
structure Xb(q:QP):Prop where
 Wh:q.closed=false
 few:q.free.length<=6
 inc:q.free.Pairwise (·<·)
 nd:q.needs.Pairwise (·<·)
 ov:q.over.Pairwise (·<·)
 nl:q.needs.length<=16
 ol:q.over.length<=12
 more:∀w w',(∀x∈w,x∈w')->(∀x∈w',x∈q.free)->q.decides w=true->q.decides w'=true
theorem Xa(q:QP)(w:List Int):kI q w=w.map (eQ.mk 1)++(q.needs.map (eQ.mk 2)++q.over.map (eQ.mk 3)):=by grind [kI,Uf]
theorem yV{l:List ai}(hi:l.Pairwise (λa b=>a.No<b.No)){t:Int}:
  y∈aF l aP t ah↔(y∈l/\cntA aP t ah y=true)/\y.nA=false/\∀w∈l,cntA aP t ah w=true->aW w=aW y->¬gOver (·.At) (·.No) y w:=by
 have hf:(l.filter (cntA aP t ah)).Pairwise (λa b=>a.No<b.No):=hi.sublist List.filter_sublist
 have e:eV l aP t ah=l.filter (cntA aP t ah):=zy aP t ah l
 unfold aF
 rw[QC]
 unfold aF.K1
 rw[QB,vD,e,vH,vH]
 constructor
 .rintro⟨hm,h2⟩
  rw[zB,decide_eq_true_eq,I6 aW (·.At) (·.No) z0A hf (vH.2 hm)]at h2
  exact⟨hm,by simpa using h2.1,λw hw hc hs=>h2.2 w (vH.2 ⟨hw,hc⟩) hs⟩
 .rintro⟨hm,hg,h2⟩
  refine⟨hm,?_⟩
  rw[zB,decide_eq_true_eq,I6 aW (·.At) (·.No) z0A hf (vH.2 hm)]
  exact⟨by rw[hg];rfl,λw hw hs=>h2 w (vH.1 hw).1 (vH.1 hw).2 hs⟩
section
variable {l:List ai} {x:ai} (h:(dG l x).2=0) (hs:∀y∈l,aW y≠aW x) {aP t ah:Int}
include h hs
theorem DD(hy:y∈aF l aP t ah):y∈aF (addL l x) aP t ah:=by
 obtain⟨h1,_,h3,_⟩:=Nq h
 have hi:=(qg h1).2
 rw[yV hi]at hy
 rw[yV (JZ hi h3)]
 refine⟨⟨yx.2 (.inr hy.1.1),hy.1.2⟩,hy.2.1,λw hw hc e=>?_⟩
 rcases yx.1 hw with rfl|hw
 .exact absurd e.symm (hs y hy.1.1)
 .exact hy.2.2 w hw hc e
theorem Ml(hc:cntA aP t ah x=true)(hg:x.nA=false):x∈aF (addL l x) aP t ah:=by
 obtain⟨h1,_,h3,_⟩:=Nq h
 have hi:=(qg h1).2
 rw[yV (JZ hi h3)]
 refine⟨⟨yx.2 (.inl rfl),hc⟩,hg,λw hw _ e=>?_⟩
 rcases yx.1 hw with rfl|hw
 .unfold gOver;omega
 .exact absurd e (hs w hw)
end
theorem U2(l:List ai)(x:ai):(addL l x).length=l.length+1:=by
 have e:=congrArg List.length (List.takeWhile_append_dropWhile (p:=λy:ai=>decide (y.No<x.No)) (l:=l))
 rw[vA]at e
 unfold addL
 rw[vA,xA];omega
theorem V7{l:List ai}(hc:aX l=0)(hr:eu x=true)(hn:∀y∈l,y.No<x.No)(hl:l.length<4096):(dG l x).2=0:=by
 unfold dG
 have h3:l.any (λy=>y.No==x.No)=false:=List.any_eq_false.2 λy hy=>by have:=hn y hy;simp;omega
 have h4:((l.length:Int)==4096)=false:=by simp;omega
 rw[hc,hr,h3,h4];rfl
structure EQ(l0:List ai)(aP db t ah:Int)(n:Nat)(no:Int)(l:List ai)(dn:Int->Int->Prop):Prop where
 chk:aX l=0
 low:∀y∈l,y.No<no
 pos:0<=no
 len:l.length<=n
 old:∀y∈aF l0 aP t ah,y∈aF l aP t ah
 new:∀z o,dn z o->∃y∈aF l aP t ah,y.For=z/\y.By=z/\y.ea=o/\y.At=db
section
variable {l0:List ai} {aP db t ah:Int} (hd:0<=aP/\aP<4096) (hb:0<=db/\db<1099511627776) (dN:db<=t) (hk:0<=ah)
include hd hb dN hk
theorem EQ.step{no:Int}{l:List ai}{dn:Int->Int->Prop}(g:EQ l0 aP db t ah n no l dn)(hn:n<4096)(hz:0<=z/\z<64)(ho:0<=o/\o<32)(hs:∀y∈l,aW y≠aW (ai.mk no db 0 aP z z o false))(hno:no<=1048576):
  (dG l (ai.mk no db 0 aP z z o false)).2=0/\EQ l0 aP db t ah (n+1) (no+1) (dG l (ai.mk no db 0 aP z z o false)).1 (λa b=>dn a b\/(a=z/\b=o)):=by
 have hr:eu (ai.mk no db 0 aP z z o false)=true:=by
  have:=g.pos
  simp only[eu,zB,vj,Hq]
  omega
 have hA:=V7 g.chk hr g.low (Nat.lt_of_le_of_lt g.len hn)
 obtain⟨_,_,_,_,e⟩:=Nq hA
 refine⟨hA,?_⟩
 rw[e]
 refine⟨SM hA,λy hy=>?_,by have:=g.pos;omega,by rw[U2];have:=g.len;omega,λy hy=>DD hA hs (g.old y hy),λa b hab=>?_⟩
 .rcases yx.1 hy with rfl|hy
  .show no<no+1;omega
  .have:=g.low y hy;omega
 .rcases hab with hab|⟨rfl,rfl⟩
  .obtain⟨y,hy,q⟩:=g.new a b hab
   exact⟨y,DD hA hs hy,q⟩
  .refine⟨_,Ml hA hs ?_ rfl,rfl,rfl,rfl,rfl⟩
   show(((aP==aP)&&decide (db<=t))&&decide ((0:Int)<=ah))=true
   simp[dN,hk]
omit hd hb dN hk in
theorem Vl{no db:Int}(h:((((y.Doc==aP)&&(y.By==z))&&(y.For==z))&&(y.ea==o))=false):aW y≠aW (ai.mk no db 0 aP z z o false):=by
 intro e
 have e':eE.mk y.Doc y.By y.For y.ea=eE.mk aP z z o:=e
 injection e' with a b c d
 rw[a,b,c,d]at h
 simp at h
omit hd hb dN hk in
theorem Pr(x:eQ)(i:Nat)(k:Bool):∀l:List ai,((∀y∈l,((((y.Doc==aP)&&(y.By==x.N))&&(y.For==x.N))&&(y.ea==(i:Int)))=false)->k=true)->aC.L12 aP x i k l=true
 |[],h=>h λ_ h=>(jA h).elim
 |y::l,h=>by
  simp only[aC.L12]
  cases hy:((((y.Doc==aP)&&(y.By==x.N))&&(y.For==x.N))&&(y.ea==(i:Int)))with
  |true=>rfl
  |false=>
   refine Pr x i k l λh2=>h λz hz=>?_
   rcases kC.1 hz with rfl|hz
   .exact hy
   .exact h2 z hz
theorem Ps(x:eQ)(hx:0<=x.N/\x.N<64)(k:Int->List ai->Bool):∀(s:List Nat)(i:Nat)(n:Nat)(no:Int)(l:List ai)(dn:Int->Int->Prop),i+s.length<=32->n+s.length<=4096->EQ l0 aP db t ah n no l dn ->
  (∀no' l',EQ l0 aP db t ah (n+s.length) no' l' (λa b=>dn a b\/(a=x.N/\(i:Int)<=b/\b<(i:Int)+(s.length:Nat)))->k no' l'=true) ->
  aC.L10 aP db x k s i no l=true
 |[],i,n,no,l,dn,_,_,g,hk'=>hk' no l ⟨g.chk,g.low,g.pos,g.len,g.old,λa b h=>by rcases h with h|h;exact g.new a b h;simp only[jB]at h;omega⟩
 |y::s,i,n,no,l,dn,hi,hn,g,hk'=>by
  simp only[xA]at hi hn hk'
  simp only[aC.L10]
  refine Pr x i _ l λh=>?_
  have hs:∀y∈l,aW y≠aW (ai.mk no db 0 aP x.N x.N (i:Int) false):=λy hy=>Vl (h y hy)
  by_cases hno:no<=1048576
  .obtain⟨hA,g'⟩:=EQ.step hd hb dN hk g (by omega) hx (o:=(i:Int)) ⟨by omega,by omega⟩ hs hno
   have hwr:vC .i64 (no+1)=no+1:=wrap64 (by have:=g.pos;omega)
   rw[hA,hwr]
   show aC.L10 aP db x k s (i+1) (no+1) _=true
   refine Ps x hx k s (i+1) (n+1) (no+1) _ _ (by omega) (by omega) g' λno' l' q=>hk' no' l' ?_
   refine⟨q.chk,q.low,q.pos,by have:=q.len;omega,q.old,λa b h=>q.new a b ?_⟩
   rcases h with h|⟨h1,h2,h3⟩
   .exact .inl (.inl h)
   .by_cases e:b=(i:Int)
    .exact .inl (.inr ⟨h1,e⟩)
    .exact .inr ⟨h1,by omega,by omega⟩
  .have hr:eu (ai.mk no db 0 aP x.N x.N (i:Int) false)=false:=by
    cases hq:eu (ai.mk no db 0 aP x.N x.N (i:Int) false)with
    |false=>rfl
    |true=>
     simp only[eu,zB,vj]at hq
     omega
   have:(dG l (ai.mk no db 0 aP x.N x.N (i:Int) false)).2=280:=by
    unfold dG;rw[g.chk,hr];rfl
   rw[this]
   show decide (1048576<no)=true
   exact decide_eq_true (by omega)
theorem RP(k:Int->List ai->Bool)(T:List eQ)(hT:T≠[]->∃x s,T=x::s/\x.Kind≠1):∀(w:List Int)(n:Nat)(no:Int)(l:List ai)(dn:Int->Int->Prop),(∀z∈w,0<=z/\z<64)->n+32*w.length<=4096->EQ l0 aP db t ah n no l dn ->
  (T=[]->∀n' no' l',EQ l0 aP db t ah n' no' l' (λa b=>dn a b\/(a∈w/\0<=b/\b<32))->k no' l'=true) ->
  aC.L6 aP db k (w.map (eQ.mk 1)++T) no l=true
 |[],n,no,l,dn,_,_,g,hk'=>by
  by_cases hT0:T=[]
  .subst hT0
   exact hk' rfl n no l ⟨g.chk,g.low,g.pos,g.len,g.old,λa b h=>by rcases h with h|h;exact g.new a b h;exact(jA h.1).elim⟩
  .obtain⟨x,s,rfl,hx⟩:=hT hT0
   rw[xW,vD]
   simp only[aC.L6]
   rw[show(x.Kind != 1)=true from by simpa using hx];rfl
 |z::w,n,no,l,dn,hw,hn,g,hk'=>by
  have hz:=hw z (xB ..)
  simp only[xA]at hn
  rw[kG,jJ]
  simp only[aC.L6]
  rw[show((1:Int) != 1)=false from rfl,show(decide (z<0)||decide (64<=z))=false from by simp;omega,cond_false,cond_false]
  refine Ps hd hb dN hk (eQ.mk 1 z) hz _ (zD 32) 0 n no l dn (by simp) (by simp;omega) g λno' l' q=>?_
  refine RP k T hT w (n+(zD 32).length) no' l' _ (λa ha=>hw a (qC _ ha)) (by simp;omega) q λhT0 n2 no2 l2 q2=>hk' hT0 n2 no2 l2 ?_
  refine⟨q2.chk,q2.low,q2.pos,q2.len,q2.old,λa b h=>q2.new a b ?_⟩
  rcases h with h|⟨h1,h2,h3⟩
  .exact .inl (.inl h)
  .rcases kC.1 h1 with rfl|h1
   .exact .inl (.inr ⟨rfl,by omega,by simp;omega⟩)
   .exact .inr ⟨h1,h2,h3⟩
end
theorem RT(aP:Int)(k:Int->Bool):∀(l:List av)(g:Int),aC.L1 aP k l g=k (l.foldl (λg y=>if y.No=aP then y.At else g) g)
 |[],_=>rfl
 |y::l,g=>by
  simp only[aC.L1,zV,RT aP k l,Bool.cond_eq_ite,beq_iff_eq]
  split<;>rfl
theorem UY{l:List av}(hi:l.Pairwise (λa b=>a.No<b.No)){d:av}(hd:d∈l)(g:Int):l.foldl (λg y=>if y.No=d.No then y.At else g) g=d.At:=by
 have none:∀(s:List av)(g:Int),(∀y∈s,y.No≠d.No)->s.foldl (λg y=>if y.No=d.No then y.At else g) g=g:=by
  intro s
  induction s with
  |nil=>intro g _;rfl
  |cons y s ih=>intro g h;rw[zV,if_neg (h y (xB ..))];exact ih g λz hz=>h z (qC _ hz)
 induction l generalizing g with
 |nil=>exact(jA hd).elim
 |cons y s ih=>
  have hp:=List.pairwise_cons.1 hi
  rw[zV]
  rcases kC.1 hd with rfl|hm
  .rw[if_pos rfl]
   exact none s _ λz hz=>by have:=hp.1 z hz;omega
  .exact ih hp.2 hm _
theorem RR{t b:Int}(hw:vC .i64 (t-b)=t-b)(k:Bool):∀l:List fg,((∀y∈l,y.gf<=t-b)->k=true)->aC.L4 t b k l=true
 |[],h=>h λ_ h=>(jA h).elim
 |y::l,h=>by
  simp only[aC.L4,hw]
  by_cases hy:(t-b)<y.gf
  .rw[decide_eq_true hy];rfl
  .rw[decide_eq_false hy]
   refine RR hw k l λh2=>h λz hz=>?_
   rcases kC.1 hz with rfl|hz
   .omega
   .exact h2 z hz
theorem RS{t b:Int}(hw:vC .i64 (t-b)=t-b)(k:Bool):∀l:List aD,((∀v∈l,∀y∈v.ay.cZ,y.gf<=t-b)->k=true)->aC.L2 t b k l=true
 |[],h=>h λ_ h=>(jA h).elim
 |y::l,h=>by
  simp only[aC.L2]
  refine RR hw _ _ λhy=>RS hw k l λh2=>h λz hz=>?_
  rcases kC.1 hz with rfl|hz
  .exact hy
  .exact h2 z hz
theorem RQ(k:Int->Bool):∀(l:List ai)(g:Int),(∀y∈l,0<=y.No/\y.No<=1048576)->∃g',aC.L5 k l g=k g'/\g<=g'/\∀y∈l,y.No<g'
 |[],g,_=>⟨g,rfl,Int.le_refl _,λ_ h=>(jA h).elim⟩
 |y::l,g,hb=>by
  obtain⟨g',e,h1,h2⟩:=RQ k l (max g (y.No+1)) λz hz=>hb z (qC _ hz)
  have hy:=hb y (xB ..)
  have hw:vC .i64 (y.No+1)=y.No+1:=wrap64 (by omega)
  refine⟨g',by simp only[aC.L5,hw];exact e,by omega,λz hz=>?_⟩
  rcases kC.1 hz with rfl|hz
  .omega
  .exact h2 z hz
theorem LF(r:Register)(t ah:Int)(i1:Nat)(k:Bool->List Int):∀(l:List Nat)(i:Nat)(g:Bool),i+l.length<=32->∃b,aO.L3 r t ah i1 k l i g=k b/\(b=true->g=true\/∃o:Int,(0<=o/\o<32)/\(ew r.da o (i1:Int) t ah).2.2.1=true)
 |[],i,g,_=>⟨g,rfl,λh=>.inl h⟩
 |y::l,i,g,hi=>by
  simp only[xA]at hi
  simp only[aO.L3]
  obtain⟨b,e,hb⟩:=LF r t ah i1 k l (i+1) (g||(ew r.da (i:Int) (i1:Int) t ah).2.2.1) (by omega)
  refine⟨b,e,λh=>?_⟩
  rcases hb h with h|h
  .rcases Bool.or_eq_true_iff.1 h with h|h
   .exact .inl h
   .exact .inr ⟨i,by omega,h⟩
  .exact .inr h
theorem O3(r:Register)(t ah:Int)(d:av):∀(l:List Nat)(i:Nat),∀x∈aO.L1 r t ah d aO.K1 l i,(dc r.dt x d.ju t ah).2.1=false/\∃o:Int,(0<=o/\o<32)/\(ew r.da o x t ah).2.2.1=true
 |[],i,x,hx=>(jA hx).elim
 |y::l,i,x,hx=>by
  have ih:=O3 r t ah d l (i+1) x
  simp only[aO.L1]at hx
  obtain⟨b,e,hb⟩:=LF r t ah i (λzg3_7=>(bif(!zg3_7)then(aO.L1 r t ah d aO.K1 l ((i+1)))else(bif(!((dc r.dt (i:Int) d.ju t ah).2.1))then((i:Int)::(aO.L1 r t ah d aO.K1 l ((i+1))))else(aO.L1 r t ah d aO.K1 l ((i+1)))))) (zD 32) 0 false (by simp)
  rw[e]at hx
  cases b with
  |false=>exact ih hx
  |true=>
   simp only[Bool.not_true,cond_false]at hx
   cases hc:(dc r.dt (i:Int) d.ju t ah).2.1 with
   |true=>rw[hc]at hx;exact ih hx
   |false=>
    rw[hc]at hx
    rcases kC.1 hx with rfl|hx
    .refine⟨hc,?_⟩
     rcases hb rfl with h|h
     .cases h
     .exact h
    .exact ih hx
def withA(r:Register)(l:List ai):Register:=⟨r.da,r.eI,r.dt,r.df,r.Versions,r.bV,l⟩
section
variable {r:Register} {l:List ai} {d:av} {t ah:Int}
theorem FI(hc:dq r=0)(hl:aX l=0):dq (withA r l)=0:=by
 rw[iQ]at hc ⊢
 obtain⟨d1,d2,d3,d4,d5,d6,d7⟩:=hc
 exact⟨d1,d2,d3,d4,d5,d6,hl⟩
theorem Ok(hco:iI ⟨r,d,t,ah⟩)(hl:aX l=0){no:Int}(dN:d.At<=t)(g:EQ r.bO d.No d.At t ah n no l (λa b=>False\/(a∈w/\0<=b/\b<32)))(hw:∀z∈w,(0<=z/\z<64)/\(dc r.dt z d.ju t ah).2.1=false/\∃o:Int,(0<=o/\o<32)/\(ew r.da o z t ah).2.2.1=true){p:ay}(hp:RX p)(hk:d.Kind<(p.dM.length:Int))(hth:∀y∈p.cZ,y.gf<=t-d.At)(hz:z∈cq ⟨r,d,t,ah⟩ p\/z∈w):z∈cq ⟨withA r l,d,t,ah⟩ p:=by
 have hkd:=hco.kind
 have hco':iI ⟨withA r l,d,t,ah⟩:=⟨FI hco.chk hl,hco.aP,hco.time,hco.know⟩
 have hkn:decide ((p.dM.length:Int)<=d.Kind)=false:=decide_eq_false (by omega)
 have hki:0<=d.Kind/\d.Kind<(p.cZ.length:Int):=⟨hkd.1,by rw[hp.rules.1];exact hk⟩
 have hthk:=hth _ (nm hki)
 have hthn:=hp.rules.2 _ (nm hki)
 have hdt:=hco.good.at_
 have hdn:=hco.good.no
 have htt:=hco.time
 have hkk:=hco.know
 have hW:((!(dB 4095 ([d.No])))||(!(dB 1099511627775 ([d.At,(nthI p.cZ d.Kind).gf,t,ah]))))=false:=by
  have e1:dB 4095 [d.No]=true:=vj.2 (by dsimp only at hdn;omega)
  have e2:dB 1099511627775 [d.At,(nthI p.cZ d.Kind).gf,t,ah]=true:=by
   dsimp only at hdt htt hkk
   simp only[dB,containsF,iz,List.any_cons,List.any_nil,Bool.or_false,kE,Bool.or_eq_false_iff,decide_eq_false_iff_not];omega
  rw[e1,e2];rfl
 have hC:∀l',aX l'=0->(ck l' d.No d.At (nthI p.cZ d.Kind).gf t ah).1=(aF l' d.No t ah).filter λy=>!(iq y d.At t (nthI p.cZ d.Kind).gf):=λl' h'=>by
  unfold ck
  rw[h',hW]
  rfl
 have hG:∀y:ai,goodA ⟨withA r l,d,t,ah⟩ y=goodA ⟨r,d,t,ah⟩ y:=λy=>rfl
 rw[yp,(BR _).2,xJ,Ce]
 show ∃a∈(bif decide ((p.dM.length:Int)<=d.Kind)then[]else((ck l d.No d.At ((nthI p.cZ d.Kind).gf) t ah).1).filter (goodA ⟨withA r l,d,t,ah⟩)),a.For=z
 rw[hkn,cond_false,hC l hl]
 rcases hz with hz|hz
 .rw[yp,(BR _).2,xJ,Ce]at hz
  obtain⟨y,hy,e⟩:=hz
  have hy':y∈(bif decide ((p.dM.length:Int)<=d.Kind)then[]else((ck r.bO d.No d.At ((nthI p.cZ d.Kind).gf) t ah).1).filter (goodA ⟨r,d,t,ah⟩)):=hy
  rw[hkn,cond_false,hC _ ((iQ _).1 hco.chk).2.2.2.2.2.2,vH,vH]at hy'
  refine⟨y,?_,e⟩
  rw[vH,vH]
  exact⟨⟨g.old y hy'.1.1,hy'.1.2⟩,hy'.2⟩
 .obtain⟨h1,h2,o,h3,h4⟩:=hw z hz
  obtain⟨y,hy,e1,e2,e3,e4⟩:=g.new z o (.inr ⟨hz,h3⟩)
  refine⟨y,?_,e1⟩
  rw[vH,vH]
  refine⟨⟨hy,?_⟩,?_⟩
  .have hwr:vC .i64 (t-y.At)=t-y.At:=by
    rw[e4];dsimp only at hdt htt;exact wrap64 (by omega)
   unfold iq
   rw[hwr,e4]
   rw[show decide (d.At<d.At)=false from decide_eq_false (Int.lt_irrefl _),show decide ((t-d.At)<(nthI p.cZ d.Kind).gf)=false from decide_eq_false (by omega)]
   rfl
  .have h0:lm r.eI y.For y.By (cn.mk y.ea d.Kind d.Value t ah)=0:=by
    have h7:=hco.good.value
    have e2':∀z:Int,0<=z/\z<64->ip z=true:=λz hz=>by simp only[ip,dw,zB,decide_eq_true_eq];omega
    have e3':∀z:Int,0<=z/\z<1099511627776->i8 z=true:=λz hz=>by simp only[i8,dw,zB,decide_eq_true_eq];omega
    have e4':dw y.ea 0 31=true:=by rw[e3];simp only[dw,zB,decide_eq_true_eq];omega
    have e5:dw d.Kind 0 15=true:=by dsimp only at hkd;simp only[dw,zB,decide_eq_true_eq];omega
    have e6:dw d.Value 0 1099511627776=true:=by dsimp only at h7;simp only[dw,zB,decide_eq_true_eq];omega
    unfold lm
    rw[((iQ _).1 hco.chk).2.1,e1,e2,e2' z h1,e3' _ htt,e3' _ hkk,e4',e5,e6];rfl
   have hch:(aH r.eI y.For y.By y.ea d.Kind d.Value t ah).2.1=true:=(Qy h0).2 ⟨0,by decide,by rw[e1,e2];rfl⟩
   show((((ew r.da y.ea y.For t ah).2.2.1&&(aH r.eI y.For y.By y.ea d.Kind d.Value t ah).2.1)&&(!((dc r.dt y.For d.ju t ah).2.1)))&&(!((dc r.dt y.By d.ju t ah).2.1)))=true
   rw[hch,e1,e2,e3,h4,h2];rfl
end
section
variable {r:Register} (hsm:smR r) {signed:List Int} {u:List Use} {aP t ah:Int} (hr:jp r signed u aP t ah=true)
include hsm hr
end
section
variable {r:Register} (hsm:smR r) {signed:List Int} {u:List Use} {aP t ah:Int} (hr:jp r signed u aP t ah=true)
include hsm hr
theorem WW:bN r signed u aP t ah=mT aP (iT r signed u aP t ah (rCourt r aP t ah).aP) 0/\∀l,ma r signed u aP t ah l=nM (iT r signed u aP t ah (rCourt r aP t ah).aP) 0 l:=by
 have hg:=(ym hr).1
 obtain⟨hc,hd,_⟩:=BU hsm hg
 have hJ:=(FQ hsm hg).2
 have hq:im r signed u aP t ah=(iT r signed u aP t ah (rCourt r aP t ah).aP,0):=by
  grind [im,Wm]
 grind [bN,ma]
theorem Og:(iT r signed u aP t ah (rCourt r aP t ah).aP).closed=fq (rCourt r aP t ah) signed:=by
 have hJ:=(FQ hsm (ym hr).1).2
 show((aZ r signed u aP t ah).1.State==1)=_
 rw[hJ]
 unfold judgeC
 cases fq (rCourt r aP t ah) signed with
 |true=>rfl
 |false=>cases io (rCourt r aP t ah) signed<;>cases gl (rCourt r aP t ah)<;>cases(judgeRoom (rCourt r aP t ah) r u t ah).2.1<;>rfl
theorem VA(ho:fq (rCourt r aP t ah) signed=false):Xb (iT r signed u aP t ah (rCourt r aP t ah).aP):=by
 have hg:=(ym hr).1
 obtain⟨hc,hd,ht,hk,_,_⟩:=BU hsm hg
 obtain⟨hco,_⟩:=wq hc hd ht hk
 have hfr:(iT r signed u aP t ah (rCourt r aP t ah).aP).free=gy r (rCourt r aP t ah).aP t ah:=BM _
 obtain⟨_,f2,f3⟩:=Ev r t ah (rCourt r aP t ah).aP (zD 64) 0
 have hneed:(iT r signed u aP t ah (rCourt r aP t ah).aP).needs=(rCourt r aP t ah).aP.e9.filter λy=>!(fu (bp r.bV signed t).1 y):=IK _ _ []
 have hbc:=((iQ r).1 hc).2.2.2.1
 have hbi:r.df.Pairwise (λa b=>a.No<b.No):=by
  grind [bC,budgetsP,oL]
 have hst:(ek r.df (rCourt r aP t ah).aP.Kind t ah).1.Sublist r.df:=by
  unfold ek
  simp only[Bool.cond_eq_ite]
  grind [xY]
 have hov:(iT r signed u aP t ah (rCourt r aP t ah).aP).over=((ek r.df (rCourt r aP t ah).aP.Kind t ah).1.filter λb=>!((aL [b] u (rCourt r aP t ah).aP.Kind (rCourt r aP t ah).aP.Value t ah).2.1)).map (·.No):=MJ _ _ _ _ _ []
 have hb12:r.df.length<=12:=by
  have h1:=hg
  simp only[nX,zB]at h1
  have h2:=h1.1.1.1
  simp only[lJ,Bool.cond_eq_ite]at h2
  grind
 refine⟨(Og hsm hr).trans ho,by rw[hfr];exact O4 hr _,by rw[hfr];exact f2,?_,?_,?_,?_,λw w' h1 h2 h3=>?_⟩
 .rw[hneed];exact hco.good.needs.1.2.sublist List.filter_sublist
 .grind
 .rw[hneed];exact kK (List.length_filter_le _ _) hco.good.needs.2
 .grind
 .refine Ng hsm hc hd ht hk (Fz ho) h1 (λx hx=>?_) h3
  have hx2:=h2 x hx
  rw[hfr]at hx2
  have:=f3 x hx2
  rw[List.length_range]at this
  omega
theorem QA:aC r signed u aP t ah=true:=by
 obtain⟨hM,_⟩:=WW hsm hr
 have hcl:=Og hsm hr
 have hg:=(ym hr).1
 obtain⟨hc,hd,ht,hk,hsg,hrm⟩:=BU hsm hg
 obtain⟨hco,hno⟩:=wq hc hd ht hk
 have hfr:(iT r signed u aP t ah (rCourt r aP t ah).aP).free=gy r (rCourt r aP t ah).aP t ah:=BM _
 have hF:=VA hsm hr
 unfold aC
 rw[show Dd=true from rfl,hr]
 simp only[Bool.not_true,cond_false]
 unfold mT at hM
 rw[show decide (12<(((iT r signed u aP t ah (rCourt r aP t ah).aP).free.length:Nat):Int))=false from by rw[hfr];have:=O4 hr (rCourt r aP t ah).aP;exact decide_eq_false (by omega),hcl]at hM
 simp only[bne_self_eq_false,cond_false]at hM
 cases hclosed:fq (rCourt r aP t ah) signed with
 |true=>rw[hclosed]at hM;rw[hM];rfl
 |false=>
  have g:=hF hclosed
  have dN:(rCourt r aP t ah).aP.At<=t:=Fz hclosed
  have hdec:=JK (signed:=signed) (u:=u) hc hd ht hk dN
  rw[hclosed]at hM
  simp only[cond_false]at hM
  have hneed:(iT r signed u aP t ah (rCourt r aP t ah).aP).needs=(rCourt r aP t ah).aP.e9.filter λy=>!(fu (bp r.bV signed t).1 y):=IK _ _ []
  have hov:=Sf (d:=(rCourt r aP t ah).aP) hrm ((iQ _).1 hc).2.2.2.1 hco.good.kind hco.good.value ht hk
  have hovq:(iT r signed u aP t ah (rCourt r aP t ah).aP).over=iH u (rCourt r aP t ah).aP t ah (ek r.df (rCourt r aP t ah).aP.Kind t ah).1 []:=rfl
  rw[←hovq]at hov
  generalize iT r signed u aP t ah (rCourt r aP t ah).aP=q at *
  cases hf:(iX q.free).find? q.decides with
  |none=>rw[hf]at hM;rw[hM];rfl
  |some w=>
   rw[hf]at hM
   obtain⟨hdw,hsub,_⟩:=O5 g.few g.inc hf
   have hw:∀z∈w,(0<=z/\z<64)/\(dc r.dt z (rCourt r aP t ah).aP.ju t ah).2.1=false/\∃o:Int,(0<=o/\o<32)/\(ew r.da o z t ah).2.2.1=true:=λz hz=>by
    have hm:z∈aO.L1 r t ah (rCourt r aP t ah).aP aO.K1 (zD 64) 0:=by
     have:=hsub.subset hz
     rw[hfr]at this
     exact this
    have h1:=(Ev r t ah (rCourt r aP t ah).aP (zD 64) 0).2.2 z hm
    rw[List.length_range]at h1
    exact⟨by omega,O3 r t ah (rCourt r aP t ah).aP (zD 64) 0 z hm⟩
   have hwl:w.length<=6:=kK hsub.length_le g.few
   rw[RT]
   have hdm:(rCourt r aP t ah).aP∈r.bV:=hco.aP
   have hbeg:=UY (JF ((iQ _).1 hc).2.2.2.2.2.1) hdm 0
   rw[hno]at hbeg
   rw[hbeg]
   have hMM:(bN r signed u aP t ah).2.2=0/\(bN r signed u aP t ah).2.1=true/\(bN r signed u aP t ah).1=kI q w:=by rw[hM];exact⟨rfl,rfl,rfl⟩
   rw[hMM.1,hMM.2.1]
   simp only[bne_self_eq_false,cond_false,Bool.not_true]
   unfold aC.K1
   have hwr:vC .i64 (t-(rCourt r aP t ah).aP.At)=t-(rCourt r aP t ah).aP.At:=wrap64 (by have:=hco.good.at_;omega)
   refine RS hwr _ _ λhth=>?_
   unfold aC.K2
   obtain⟨n0,e0,hp0,hlow⟩:=RQ (aC.K5 r signed u aP t ah (rCourt r aP t ah).aP.At) r.bO 0 (λy hy=>by
    have:=wA ((iQ _).1 hc).2.2.2.2.2.2 y hy
    simp only[eu,zB,vj]at this
    exact this.1.1.1.1)
   rw[e0]
   unfold aC.K5
   rw[hMM.2.2,Xa]
   have hal:r.bO.length<=100:=by
    have h1:=hg
    simp only[nX,zB]at h1
    have h2:=h1.1.1.1
    simp only[lJ,Bool.cond_eq_ite]at h2
    split at h2
    .cases h2
    .next hq=>simp only[kD,not_or,decide_eq_true_eq]at hq;omega
   have hac:=((iQ _).1 hc).2.2.2.2.2.2
   refine RP (l0:=r.bO) (aP:=aP) (db:=(rCourt r aP t ah).aP.At) (t:=t) (ah:=ah) (by have:=hco.good.no;rw[hno]at this;exact this) hco.good.at_ dN hk.1 _ _ (λhT=>?_) w 100 n0 r.bO (λ_ _=>False) (λz hz=>(hw z hz).1) (by omega) ⟨hac,hlow,hp0,hal,λ_ h=>h,λ_ _ h=>h.elim⟩ λhT n' no' l' gr=>?_
   .cases hn:q.needs with
    |cons y s=>exact⟨eQ.mk 2 y,s.map (eQ.mk 2)++q.over.map (eQ.mk 3),by rw[kG,jJ],λh=>absurd (show(2:Int)=1 from h) (by decide)⟩
    |nil=>
     cases hv:q.over with
     |cons y s=>exact⟨eQ.mk 3 y,s.map (eQ.mk 3),by rw[xW,kG,vD],λh=>absurd (show(3:Int)=1 from h) (by decide)⟩
     |nil=>rw[hn,hv]at hT;exact absurd rfl hT
   ·
    obtain⟨hn,hv⟩:=List.append_eq_nil_iff.1 hT
    rw[aAy]at hn hv
    unfold aC.K6
    have hc':dq (withA r l')=0:=FI hc gr.chk
    have ho:=Hh (r:=withA r l') (aP:=aP) hd ht hk
    have hi:(bp r.bV signed 0).2=0:=Bq ((iQ r).1 hc).2.2.2.2.2.1 hsg ⟨Int.le_refl _,by decide⟩
    have hJ:aZ (withA r l') signed u aP t ah=(judgeC ⟨withA r l',(rCourt r aP t ah).aP,t,ah⟩ (withA r l') signed u t ah,0):=by
     unfold aZ
     rw[hc',ho]
     rw[show(bp (withA r l').bV signed 0).2=0 from hi,show(aL (withA r l').df u 0 0 0 0).2.2=0 from hrm]
     rfl
    show(((aZ (withA r l') signed u aP t ah).2==0)&&(((aZ (withA r l') signed u aP t ah).1).State==0))=true
    rw[hJ]
    have hlk:io ⟨withA r l',(rCourt r aP t ah).aP,t,ah⟩ signed=false:=by
     show io (rCourt r aP t ah) signed=false
     have:io (rCourt r aP t ah) signed=((rCourt r aP t ah).aP.e9.any λy=>!(fu (bp r.bV signed t).1 y)):=containsF _ _
     rw[this,List.any_eq_false]
     rw[hneed,List.filter_eq_nil_iff]at hn
     exact hn
    have hcl':fq ⟨withA r l',(rCourt r aP t ah).aP,t,ah⟩ signed=false:=hclosed
    have hrr:(judgeRoom ⟨withA r l',(rCourt r aP t ah).aP,t,ah⟩ (withA r l') u t ah).2.1=true:=by
     show(aL r.df u (rCourt r aP t ah).aP.Kind (rCourt r aP t ah).aP.Value t ah).2.1=true
     cases hx:(aL r.df u (rCourt r aP t ah).aP.Kind (rCourt r aP t ah).aP.Value t ah).2.1 with
     |true=>rfl
     |false=>have:=hov.2 hx;rw[hv]at this;exact(jA this).elim
    have hask:gl ⟨withA r l',(rCourt r aP t ah).aP,t,ah⟩=true:=by
     have hj:Jdg r.Versions (askJ (rCourt r aP t ah)):=yO hco.vers hco.good.at_ ht hk dN
     have h:=hdec w
     rw[hdw]at h
     have h:=h.symm
     unfold gl
     rw[show askJ ⟨withA r l',(rCourt r aP t ah).aP,t,ah⟩=askJ (rCourt r aP t ah)from rfl]
     cases h1:(askJ (rCourt r aP t ah)).2.1==0 with
     |true=>
      have:(askJ (rCourt r aP t ah)).1=[]:=by
       by_cases h2:(askJ (rCourt r aP t ah)).1=[]
       .exact h2
       .have:=hj.mode h2;simp at h1;omega
      rw[this,xW,J9]at h
      cases h
     |false=>
      rw[cond_false]
      rw[L8]at h ⊢
      have e:fN (askJ (rCourt r aP t ah)).2.1 ((askJ (rCourt r aP t ah)).1.map (askAns ⟨withA r l',(rCourt r aP t ah).aP,t,ah⟩))=fN (askJ (rCourt r aP t ah)).2.1 ((askJ (rCourt r aP t ah)).1.map (mAns (rCourt r aP t ah) w)):=by
       unfold fN;rw[List.length_map,List.length_map]
      rw[e]
      cases h2:fN (askJ (rCourt r aP t ah)).2.1 ((askJ (rCourt r aP t ah)).1.map (mAns (rCourt r aP t ah) w)) != 0 with
      |true=>rw[h2]at h;cases h
      |false=>
       rw[h2]at h
       refine LQ _ (λno hn ha=>?_) h
       obtain⟨v,hvm,hvn⟩:=hj.mem no hn
       obtain⟨_,hp⟩:=Cc hco.vers (c:=rCourt r aP t ah) rfl (hj.mem no hn)
       have hpo:=si hco hsm hp
       have hpe:=Qo hp
       rw[←hpe]at hpo
       obtain⟨v',hv',_,hve⟩:=Ln hp
       unfold mAns at ha
       have ha':=ha
       rw[s9]at ha'
       have hkl:=(Lp ha').2
       have hb:=Oj (c:=⟨withA r l',(rCourt r aP t ah).aP,t,ah⟩) hc' (askP (rCourt r aP t ah) no)
       have hb2:cT (rCourt r aP t ah) (askP (rCourt r aP t ah) no) (cq ⟨withA r l',(rCourt r aP t ah).aP,t,ah⟩ (askP (rCourt r aP t ah) no))=true:=by
        refine CJ hsm.2.1 hpo (λx hx=>?_) (λ_=>hb) ha
        rw[(BR _).2,kF]at hx
        have hno2:(rCourt r aP t ah).aP.No=aP:=hno
        refine Ok (r:=r) (d:=(rCourt r aP t ah).aP) (t:=t) (ah:=ah) (l:=l') (w:=w) hco gr.chk dN (by rw[hno2];exact gr) hw hpo hkl (λy hy=>hth v' hv' y ?_) hx
        rw[hve]
        have hy':y∈(exD (fI (rCourt r aP t ah) no)).cZ:=hy
        rw[hpe]at hy'
        exact hy'
       show cT ⟨withA r l',(rCourt r aP t ah).aP,t,ah⟩ (askP (rCourt r aP t ah) no) (cq ⟨withA r l',(rCourt r aP t ah).aP,t,ah⟩ (askP (rCourt r aP t ah) no))=true
       rw[s9]at hb2 ⊢
       exact hb2
    unfold judgeC
    rw[hcl',hlk,hask,hrr]
    rfl
end
theorem came_true{r:Register}(hsm:smR r){t:Int}:aC r signed u aP t ah=true:=by
 cases hr:jp r signed u aP t ah with
 |true=>exact QA hsm hr
 |false=>unfold aC;rw[hr];rfl
end
variable {S:List Nat}{e':Env}
section
section
variable {P:Program} {b:Frame} {n:Nat} {k:List Item} {F:List Frame->(Machine->Prop)->Prop} {e:Env} {ds:List Deferred} {X:Cx} {h:HF} {L:LH}
variable {ops:Array Oper} {l:List Oper} {d:Nat} {ty:TypeId} {pos:String} {af:Array Edge} {g:Option (Nat×Bool)}
def memN:List Nat->Nat->Bool
 |[],_=>false
 |a::l,s=>bif Yu s a then true else memN l s
def mix(S:List Nat)(e' e:Env):Env:=λs=>bif memN S s then e' s else e s
def subN:List Nat->List Nat->Bool
 |[],_=>true
 |a::l,S=>memN S a&&subN l S
def Agr(S:List Nat)(e e':Env):Prop:=∀s,memN S s=false->e' s=e s
theorem so{e:Env}:Agr S e e:=λ_ _=>rfl
theorem uW{e:Env}{d:Nat}{w:Value}(hd:memN S d=true)(h:Agr S e e'):Agr S e (upd e' d w):=λs hs=>by
 unfold upd
 cases hb:Yu s d with
 |true=>rw[vM hb,hd]at hs;cases hs
 |false=>exact h s hs
theorem Ud{T:List Nat}(h:subN T S=true){s:Nat}(hs:memN S s=false):memN T s=false:=by
 induction T with
 |nil=>rfl
 |cons a T ih=>
  simp only[subN,zB]at h
  simp only[memN]
  cases hb:Yu s a with
  |true=>rw[vM hb,h.1]at hs;cases hs
  |false=>exact ih h.2
theorem uX{T:List Nat}{e e2:Env}(hT:subN T S=true)(h:Agr S e e'):Agr S e (mix T e2 e'):=λs hs=>by
 unfold mix
 rw[Ud hT hs];exact h s hs
theorem QY(m:Nat)(S:List Nat)(d:Nat)(v:Value)(t':(∀e',e' d=v->(ha:Agr S e e':=by repeat (first|exact so|refine uW rfl ?_|refine uX rfl ?_))->TO P b n ops (l.drop m) k F e' ds X h L)->TO P b n ops l k F e ds X h L)(hk:∀e'',TO P b n ops (l.drop m) k F (upd (mix S e'' e) d v) ds X h L):TO P b n ops l k F e ds X h L:=
 t' λe' hv ha=>by
  have e1:upd (mix S e' e) d v=e':=funext λs=>by
   unfold upd
   cases hb:Yu s d with
   |true=>rw[vM hb];exact hv.symm
   |false=>
    show mix S e' e s=e' s
    unfold mix
    cases hm:memN S s with
    |true=>rfl
    |false=>exact(ha s hm).symm
  have:=hk e'
  rw[e1]at this
  exact this
theorem cQ{x y z:α}{c:Bool}{o:Operand}{p q:Code}(hs:x=bif c then y else z)(hx:e.ev o=.bool c)(t1:c=true->x=y->TT P b n (.code p::k) F e ds X h L)(t2:c=false->x=z->TT P b n (.code q::k) F e ds X h L):TT P b n (.code (.cond o p q)::k) F e ds X h L:=
 ld hx (λe'=>t1 e' (hs.trans (by rw[e'];rfl))) (λe'=>t2 e' (hs.trans (by rw[e'];rfl)))
end
end
variable {l:List Oper}{op:Op}{ops:Array Oper}{v:Go.Value}
section
inductive Qs
 |tt (k:List Item) (e:Env)
 |to (ops:Array Oper) (l:List Oper) (k:List Item) (e:Env)
@[reducible] def Qs.holds (P:Program) (b:Frame) (n:Nat) (F:List Frame->(Machine->Prop)->Prop) (ds:List Deferred) (X:Cx) (h:HF) (L:LH):Qs->Prop
 |.tt k e=>TT P b n k F e ds X h L
 |.to ops l k e=>TO P b n ops l k F e ds X h L
def opQ(e:Env):Op->Option Value
 |.move x=>some (e.ev x)
 |.assign x=>some (e.ev x)
 |.pick c x y=>match e.ev c with
  |.bool s=>some (bif s then e.ev x else e.ev y)
  |_=>none
 |.extract x i=>match e.ev x with
  |.tuple ⟨vs⟩=>nth vs i
  |_=>none
 |.unOp .not _ x=>match e.ev x with
  |.bool s=>some (.bool !s)
  |_=>none
 |.binOp op _ x y _=>binV op (e.ev x) (e.ev y)
 |_=>none
def qstepO(n:Nat)(ops:Array Oper)(l:List Oper)(k:List Item)(e:Env):Option Qs:=
 match l with
 |[]=>some (.tt k e)
 |⟨some d,op,ty,pos,af,g⟩::l=>
  match qJ d n with
  |false=>none
  |true=>match guardB ops e ⟨some d,op,ty,pos,af,g⟩with
   |false=>some (.to ops l k (upd e d undef))
   |true=>match opQ e op with
    |some v=>some (.to ops l k (upd e d v))
    |none=>none
 |_=>none
def qstepT(k:List Item)(e:Env):Option Qs:=
 match k with
 |.code .skip::k=>some (.tt k e)
 |.code (.seq x y)::k=>some (.tt (.code x::.code y::k) e)
 |.code (.block id c)::k=>some (.tt (.code c::.inBlock id::k) e)
 |.inBlock _::k=>some (.tt k e)
 |.code (.exit id)::k=>match exitTo id k with
  |some k'=>some (.tt k' e)
  |none=>none
 |.code (.cond c x y)::k=>match e.ev c with
  |.bool true=>some (.tt (.code x::k) e)
  |.bool false=>some (.tt (.code y::k) e)
  |_=>none
 |.code (.region _ ⟨l⟩ false)::k=>some (.to ⟨l⟩ l k e)
 |_=>none
def runQ(n:Nat):Nat->Qs->Option Qs
 |0,s=>some s
 |m+1,.tt k e=>match qstepT k e with
  |some s=>runQ n m s
  |none=>none
 |m+1,.to ops l k e=>match qstepO n ops l k e with
  |some s=>runQ n m s
  |none=>none
section
variable {P:Program} {b:Frame} {n:Nat} {k:List Item} {F:List Frame->(Machine->Prop)->Prop} {e:Env} {ds:List Deferred} {X:Cx} {h:HF} {L:LH}
theorem Fd(hv:opQ e op=some v):noDefer op=true/\∀(d:Option Nat)(ty:TypeId)(pos:String)(af:Array Edge)(g:Option (Nat×Bool))w,(execOp e.ev ⟨d,op,ty,pos,af,g⟩).run P w=.ok (.value v) w:=by
 unfold opQ at hv
 split at hv
 .cases hv;exact⟨rfl,λ_ _ _ _ _ w=>by simp[execOp]⟩
 .cases hv;exact⟨rfl,λ_ _ _ _ _ w=>by simp[execOp]⟩
 .split at hv
  .next s hc=>cases hv;exact⟨rfl,λ_ _ _ _ _ w=>by cases s<;>simp[execOp,hc,asBool]⟩
  .cases hv
 .split at hv
  .next vs hx=>exact⟨rfl,λ_ _ _ _ _ w=>by rw[hZ]at hv;simp[execOp,hx,Instr.extract,hv]⟩
  .cases hv
 .split at hv
  .next s hx=>cases hv;exact⟨rfl,λ_ _ _ _ _ w=>by simp[execOp,hx,Op.unary]⟩
  .cases hv
 .next op t x y u=>
  exact⟨rfl,λ_ _ _ _ _ w=>by
   have:=H5 (P:=P) (t:=t) (x:=x) (y:=y) hv w
   simp only[execOp,Sem.run_bind]at this ⊢
   simp[this]⟩
 .cases hv
theorem Sm{s:Qs}(hs:qstepO n ops l k e=some s)(t:s.holds P b n F ds X h L):TO P b n ops l k F e ds X h L:=by
 unfold qstepO at hs
 split at hs
 .cases hs;exact bM t
 .split at hs
  .cases hs
  .next hd=>
   split at hs
   .next hg=>cases hs;exact IH t hd hg
   .next hg=>
    split at hs
    .next v hv=>
     cases hs
     obtain⟨h1,h2⟩:=Fd (P:=P) hv
     exact sA v h1 (λw _=>h2 _ _ _ _ _ w) hd hg t
    .cases hs
 .cases hs
theorem Lm{s:Qs}(hs:qstepT k e=some s)(t:s.holds P b n F ds X h L):TT P b n k F e ds X h L:=by
 unfold qstepT at hs
 split at hs
 .cases hs;exact iL t
 .cases hs;exact dZ t
 .cases hs;exact nf t
 .cases hs;exact fP t
 .split at hs
  .next hx=>cases hs;exact jZ hx t
  .cases hs
 .split at hs
  .next hc=>cases hs;exact rD hc t
  .next hc=>cases hs;exact oy hc t
  .cases hs
 .cases hs;exact bS t
 .cases hs
theorem Hd:∀(m:Nat)(a:Qs){s:Qs},runQ n m a=some s->s.holds P b n F ds X h L->a.holds P b n F ds X h L
 |0,_,_,hr,t=>by cases hr;exact t
 |m+1,.tt k e,s,hr,t=>by
  unfold runQ at hr
  split at hr
  .next s' hs=>exact Lm hs (Hd m s' hr t)
  .cases hr
 |m+1,.to ops l k e,s,hr,t=>by
  unfold runQ at hr
  split at hr
  .next s' hs=>exact Sm hs (Hd m s' hr t)
  .cases hr
theorem qT(m:Nat){s:Qs}(hr:runQ n m (.tt k e)=some s)(t:s.holds P b n F ds X h L):TT P b n k F e ds X h L:=Hd m (.tt k e) hr t
theorem qO(m:Nat){s:Qs}(hr:runQ n m (.to ops l k e)=some s)(t:s.holds P b n F ds X h L):TO P b n ops l k F e ds X h L:=Hd m (.to ops l k e) hr t
end
end
variable {P:Program}{a:Bool}{args:List Go.Value}{f:FuncId}{fn:Func}{id:Nat}{x0:ρ}{γ:Type}
section
section
variable {P:Program} {b:Frame} {n:Nat} {k:List Item} {F:List Frame->(Machine->Prop)->Prop} {e:Env} {ds:List Deferred} {X:Cx} {h:HF} {L:LH}
theorem rds(h:p:=by repeat (first|exact trivial|refine⟨rfl,?_⟩)):p:=h
theorem sws(h:p:=by first|exact λw hw=>hw|(intro w hw;first|simpa only[List.append_assoc,List.cons_append,List.nil_append,List.append_nil]using hw|(simp only[List.append_assoc,List.cons_append,List.nil_append,List.append_nil]at hw ⊢;exact hw))):p:=h
theorem ndA(h:p:=by(intro i g hd hf hx e;refine dZ (bS (gE (v':=.bool false) rfl (congrArg Value.bool hf) (bM (dZ (oy rfl (jZ rfl (hx _ ?_)))))));exact rds)):p:=h
theorem ndB(h:p:=by(intro i hd hf hx e;refine dZ (bS (gE (v':=.bool false) rfl (congrArg Value.bool hf) (bM (dZ (oy rfl (jZ rfl (hx _ ?_)))))));exact rds)):p:=h
theorem lpG{c:Code}(xs:List α)(sl:Nat->γ->List (Nat×Value))(hh:γ->HF)(LL:γ->LH)(J:Nat->γ->Prop)(Lf:List α->Nat->γ->ρ)(g0:γ)(hb:xs.length<=9223372036854775807)(hs:x0=Lf xs 0 g0)(hJ:J 0 g0)(h0:fy e (sl 0 g0))(hw:∀w,St X h L w->St X (hh g0) (LL g0) w)(after:∀i g,i<=xs.length->x0=Lf [] i g->J i g->∀e',TT P b n k F (upds e' (sl i g)) ds X (hh g) (LL g))(cons:∀i g y r,xs.drop i=y::r->decide ((i:Int)<(xs.length:Int))=true->xs[i]? = some y->i<xs.length->xs.length<=9223372036854775807->x0=Lf (y::r) i g->J i g ->
   (∀i' g' {e'},x0=Lf [] i' g'->J i' g'->i'<=xs.length->fy e' (sl i' g')->TT P b n k F e' ds X (hh g') (LL g')) ->
   (∀g' {e'},x0=Lf r (i+1) g'->J (i+1) g'->fy e' (sl (i+1) g')->TT P b n (.inLoop c::.inBlock id::k) F e' ds X (hh g') (LL g')) ->
   ∀e',TT P b n (.code c::.inLoop c::.inBlock id::k) F (upds e' (sl i g)) ds X (hh g) (LL g))(nil:∀i g,xs.drop i=[]->decide ((i:Int)<(xs.length:Int))=false->(∀e',fy e' (sl i g)->TT P b n k F e' ds X (hh g) (LL g)) ->
   ∀e',TT P b n (.code c::.inLoop c::.inBlock id::k) F (upds e' (sl i g)) ds X (hh g) (LL g)):
  TT P b n (.code (.block id (.loop c))::k) F e ds X h L:=by
 refine fZ (ι:=Nat×γ) (λi=>sl i.1 i.2) (λi=>hh i.2) (λi=>LL i.2) (λi=>i.1<=xs.length/\x0=Lf [] i.1 i.2/\J i.1 i.2) ?_ (λhx=>?_)
 .grind
 .refine i9 (ι:=Nat×γ×List α) (λi=>sl i.1 i.2.1) (λi=>hh i.2.1) (λi=>LL i.2.1) (λi=>xs.drop i.1=i.2.2/\i.1<=xs.length/\x0=Lf i.2.2 i.1 i.2.1/\J i.1 i.2.1) (λi=>i.2.2.length) (0,g0,xs) h0 hw ⟨rfl,jH _,hs,hJ⟩ ?_
  rintro⟨i,g,s⟩ ⟨hd,hi,hs,hJ⟩ ag e'
  dsimp only at hd hi hs hJ
  rcases s with _|⟨y,r⟩
  .exact nil i g hd (oW hd) (λe'' hr=>hx (i,g) e'' ⟨hi,hs,hJ⟩ hr) e'
  .exact cons i g y r hd (wp hd) (ui hd) (iy hd) hb hs hJ (λi' g' e'' a b c d=>hx (i',g') e'' ⟨c,a,b⟩ d)
    (λg' e'' a b hr=>ag (i+1,g',r) e'' (Nat.lt_succ_self _) ⟨ll hd,iy hd,a,b⟩ hr) e'
theorem lp2{c:Code}(xs:List α)(sl:Nat->γ->List (Nat×Value))(hh:γ->HF)(LL:γ->LH)(J:Nat->γ->Prop)(Lf:List α->Nat->γ->ρ)(g0:γ)(hb:xs.length<=9223372036854775807)(hs:x0=Lf xs 0 g0)(hJ:J 0 g0)(after:∀i g,i<=xs.length->x0=Lf [] i g->J i g->∀e',TT P b n k F (upds e' (sl i g)) ds X (hh g) (LL g))(cons:∀i g y r,xs.drop i=y::r->decide ((i:Int)<(xs.length:Int))=true->xs[i]? = some y->i<xs.length->xs.length<=9223372036854775807->x0=Lf (y::r) i g->J i g ->
   (∀i' g' {e'},x0=Lf [] i' g'->J i' g'->(hi:i'<=xs.length:=by omega)->(hr:fy e' (sl i' g'):=by exact rds)->TT P b n k F e' ds X (hh g') (LL g')) ->
   (∀g' {e'},x0=Lf r (i+1) g'->J (i+1) g'->(hr:fy e' (sl (i+1) g'):=by exact rds)->TT P b n (.inLoop c::.inBlock id::k) F e' ds X (hh g') (LL g')) ->
   ∀e',TT P b n (.code c::.inLoop c::.inBlock id::k) F (upds e' (sl i g)) ds X (hh g) (LL g))(nil:∀i g,xs.drop i=[]->decide ((i:Int)<(xs.length:Int))=false->(∀e',fy e' (sl i g)->TT P b n k F e' ds X (hh g) (LL g)) ->
   ∀e',TT P b n (.code c::.inLoop c::.inBlock id::k) F (upds e' (sl i g)) ds X (hh g) (LL g):=by exact ndA)(h0:fy e (sl 0 g0):=by exact rds)(hw:∀w,St X h L w->St X (hh g0) (LL g0) w:=by exact sws):
  TT P b n (.code (.block id (.loop c))::k) F e ds X h L:=
 lpG xs sl hh LL J Lf g0 hb hs hJ h0 hw after cons nil
theorem lp1{c:Code}(xs:List α)(sl:Nat->γ->List (Nat×Value))(L':LH)(Lf:List α->Nat->γ->ρ)(g0:γ)(hb:xs.length<=9223372036854775807)(hs:x0=Lf xs 0 g0)(after:∀i g,i<=xs.length->x0=Lf [] i g->∀e',TT P b n k F (upds e' (sl i g)) ds X h L')(cons:∀i g y r,xs.drop i=y::r->decide ((i:Int)<(xs.length:Int))=true->xs[i]? = some y->i<xs.length->xs.length<=9223372036854775807->x0=Lf (y::r) i g ->
   (∀i' g' {e'},x0=Lf [] i' g'->(hi:i'<=xs.length:=by omega)->(hr:fy e' (sl i' g'):=by exact rds)->TT P b n k F e' ds X h L') ->
   (∀g' {e'},x0=Lf r (i+1) g'->(hr:fy e' (sl (i+1) g'):=by exact rds)->TT P b n (.inLoop c::.inBlock id::k) F e' ds X h L') ->
   ∀e',TT P b n (.code c::.inLoop c::.inBlock id::k) F (upds e' (sl i g)) ds X h L')(nil:∀i g,xs.drop i=[]->decide ((i:Int)<(xs.length:Int))=false->(∀e',fy e' (sl i g)->TT P b n k F e' ds X h L') ->
   ∀e',TT P b n (.code c::.inLoop c::.inBlock id::k) F (upds e' (sl i g)) ds X h L':=by exact ndA)(h0:fy e (sl 0 g0):=by exact rds)(hw:∀w,St X h L w->St X h L' w:=by exact sws):
  TT P b n (.code (.block id (.loop c))::k) F e ds X h L:=
 lpG xs sl (λ_=>h) (λ_=>L') (λ_ _=>True) Lf g0 hb hs trivial h0 hw (λi g a b _=>after i g a b) (λi g y r a1 a2 a3 a4 a5 a6 _ hx ag=>cons i g y r a1 a2 a3 a4 a5 a6 (λi' g' _ a hi hr=>hx i' g' a trivial hi hr) (λg' _ a hr=>ag g' a trivial hr)) nil
theorem lp0{c:Code}(xs:List α)(sl:Nat->List (Nat×Value))(L':LH)(Lf:List α->Nat->ρ)(hb:xs.length<=9223372036854775807)(hs:x0=Lf xs 0)(after:∀i,i<=xs.length->x0=Lf [] i->∀e',TT P b n k F (upds e' (sl i)) ds X h L')(cons:∀i y r,xs.drop i=y::r->decide ((i:Int)<(xs.length:Int))=true->xs[i]? = some y->i<xs.length->xs.length<=9223372036854775807->x0=Lf (y::r) i ->
   (∀i' {e'},x0=Lf [] i'->(hi:i'<=xs.length:=by omega)->(hr:fy e' (sl i'):=by exact rds)->TT P b n k F e' ds X h L') ->
   (∀{e'},x0=Lf r (i+1)->(hr:fy e' (sl (i+1)):=by exact rds)->TT P b n (.inLoop c::.inBlock id::k) F e' ds X h L') ->
   ∀e',TT P b n (.code c::.inLoop c::.inBlock id::k) F (upds e' (sl i)) ds X h L')(nil:∀i,xs.drop i=[]->decide ((i:Int)<(xs.length:Int))=false->(∀e',fy e' (sl i)->TT P b n k F e' ds X h L') ->
   ∀e',TT P b n (.code c::.inLoop c::.inBlock id::k) F (upds e' (sl i)) ds X h L':=by exact ndB)(h0:fy e (sl 0):=by exact rds)(hw:∀w,St X h L w->St X h L' w:=by exact sws):
  TT P b n (.code (.block id (.loop c))::k) F e ds X h L:=
 lpG (γ:=Unit) xs (λi _=>sl i) (λ_=>h) (λ_=>L') (λ_ _=>True) (λl i _=>Lf l i) () hb hs trivial h0 hw (λi _ a b _=>after i a b) (λi _ y r a1 a2 a3 a4 a5 a6 _ hx ag=>cons i y r a1 a2 a3 a4 a5 a6 (λi' _ a hi hr=>hx i' () a trivial hi hr) (λa hr=>ag () a trivial hr)) (λi _=>nil i)
theorem nH(m:Nat)(S:List Nat)(s d:Nat)(y:Bool){x:Bool}(hx:e s=.bool x)(t':x=false->(∀e',e' d=.bool y->(ha:Agr S e e':=by repeat (first|exact so|refine uW rfl ?_|refine uX rfl ?_))->TO P b n ops (l.drop m) k F e' ds X h L)->TO P b n ops l k F (upd e s (.bool false)) ds X h L)(hk:∀e'',TO P b n ops (l.drop m) k F (upd (mix S e'' e) d (.bool (x||y))) ds X h L)(hq:∃e2,runQ n m (.to ops l k (upd e s (.bool true)))=some (.to ops (l.drop m) k e2)/\e2 d=.bool true/\Agr S e e2:=by exact⟨_,rfl,rfl,by repeat (first|exact so|refine uW rfl ?_|refine uX rfl ?_)⟩):TO P b n ops l k F e ds X h L:=by
 refine QY m S d (.bool (x||y)) (λhj=>?_) hk
 refine vo s hx (λc=>?_) (λc=>t' c (λe' he ha=>hj e' (he.trans (by rw[c];rfl)) ha))
 grind [qO]
theorem nY(m:Nat)(S:List Nat)(s d:Nat)(y:Bool){x:Bool}(hx:e s=.bool x)(t':x=true->(∀e',e' d=.bool y->(ha:Agr S e e':=by repeat (first|exact so|refine uW rfl ?_|refine uX rfl ?_))->TO P b n ops (l.drop m) k F e' ds X h L)->TO P b n ops l k F (upd e s (.bool true)) ds X h L)(hk:∀e'',TO P b n ops (l.drop m) k F (upd (mix S e'' e) d (.bool (x&&y))) ds X h L)(hq:∃e2,runQ n m (.to ops l k (upd e s (.bool false)))=some (.to ops (l.drop m) k e2)/\e2 d=.bool false/\Agr S e e2:=by exact⟨_,rfl,rfl,by repeat (first|exact so|refine uW rfl ?_|refine uX rfl ?_)⟩):TO P b n ops l k F e ds X h L:=by
 refine QY m S d (.bool (x&&y)) (λhj=>?_) hk
 refine vo s hx (λc=>t' c (λe' he ha=>hj e' (he.trans (by rw[c];rfl)) ha)) (λc=>?_)
 grind [qO]
theorem We(s:Nat)(v:Value)(hv:e s=v)(t:TO P b n ops l k F (upd e s v) ds X h L):TO P b n ops l k F e ds X h L:=by grind [yg]
end
def look3:List (Nat×Nat×Nat)->Nat->Nat->Option Nat
 |[],_,_=>none
 |(a,b,c)::l,s,i=>bif Yu a s&&Yu b i then some c else look3 l s i
def tabOk(P:Program)(tF:List (Nat×Nat×Nat))(tY tS:List Nat):Bool:=
 tF.all (λx=>fldOf P x.1 x.2.1==some x.2.2)&&tY.all (λt=>tySz P t==some (1,false))&&tS.all (λt=>match P.underlying t with|some (.slice _)=>true|_=>false)
def V9:List (Nat×Nat)->Prop
 |[]=>True
 |(a,b)::q=>a=b/\V9 q
def runL(tF:List (Nat×Nat×Nat))(tY tS:List Nat)(n:Nat)(L:LH):Nat->List Nat->Qs->Option (Qs×List (Nat×Nat))
 |0,_,s=>some (s,[])
 |m+1,is,.tt k e=>match qstepT k e with
  |some s=>runL tF tY tS n L m is s
  |none=>none
 |m+1,is,.to ops [] k e=>runL tF tY tS n L m is (.tt k e)
 |m+1,is,.to ops (⟨some d,op,ty,pos,af,g⟩::l) k e=>match qJ d n with
  |false=>none
  |true=>match guardB ops e ⟨some d,op,ty,pos,af,g⟩with
   |false=>runL tF tY tS n L m is (.to ops l k (upd e d undef))
   |true=>match op with
    |.fieldAddr s x i=>match e.ev x,look3 tF s i with
     |.pointer (some a),some off=>runL tF tY tS n L m is (.to ops l k (upd e d (.pointer (some (a.add off)))))
     |_,_=>none
    |.load t x=>match e.ev x,is with
     |.pointer (some ⟨bk,off,none⟩),i::is=>match nth L i with
      |some (bk',.cells ⟨cl⟩ _ _)=>match nth cl off,memN tY t with
       |some v,true=>match runL tF tY tS n L m is (.to ops l k (upd e d v))with
        |some (s,q)=>some (s,(bk,bk')::q)
        |none=>none
       |_,_=>none
      |_=>none
     |_,_=>none
    |.call ⟨.builtin .len,⟨[x]⟩,⟨[t]⟩⟩=>match e.ev x,memN tS t with
     |.slice _ m' _,true=>runL tF tY tS n L m is (.to ops l k (upd e d (.int .i64 (m':Int))))
     |_,_=>none
    |op=>match opQ e op with
     |some v=>runL tF tY tS n L m is (.to ops l k (upd e d v))
     |none=>none
 |_+1,_,.to _ _ _ _=>none
theorem IR:∀{l:List Nat}{a:Nat},memN l a=true->a∈l
 |[],_,h=>by cases h
 |b::l,a,h=>by
  unfold memN at h
  cases hb:Yu a b with
  |true=>rw[vM hb];exact xB ..
  |false=>rw[hb]at h;exact qC _ (IR h)
theorem Cb:∀{l:List (Nat×Nat×Nat)}{s i o:Nat},look3 l s i=some o->(s,i,o)∈l
 |[],_,_,_,h=>by cases h
 |(a,b,c)::l,s,i,o,h=>by
  unfold look3 at h
  cases hb:Yu a s&&Yu b i with
  |true=>
   rw[hb]at h;cases h
   simp only[zB]at hb
   rw[vM hb.1,vM hb.2];exact xB ..
  |false=>rw[hb]at h;exact qC _ (Cb h)
section
variable {P:Program} {b:Frame} {n:Nat} {k:List Item} {F:List Frame->(Machine->Prop)->Prop} {e:Env} {ds:List Deferred} {X:Cx} {h:HF} {L:LH}
theorem uG{tF:List (Nat×Nat×Nat)}{tY tS:List Nat}(hT:tabOk P tF tY tS=true):∀(m:Nat)(is:List Nat)(a:Qs){s:Qs}{q:List (Nat×Nat)},runL tF tY tS n L m is a=some (s,q)->V9 q->s.holds P b n F ds X h L->a.holds P b n F ds X h L
 |0,is,a,s,q,hr,hq,t=>by
  simp only[runL,kP,ZU]at hr;rw[hr.1];exact t
 |m+1,is,.tt k e,s,q,hr,hq,t=>by
  unfold runL at hr
  split at hr
  .next hs=>exact Lm hs (uG hT m _ _ hr hq t)
  .cases hr
 |m+1,is,.to ops [] k e,s,q,hr,hq,t=>by
  unfold runL at hr
  exact bM (uG hT m _ _ hr hq t)
 |m+1,is,.to ops (⟨none,op,ty,pos,af,g⟩::l) k e,s,q,hr,hq,t=>by
  unfold runL at hr
  cases hr
 |m+1,is,.to ops (⟨some d,op,ty,pos,af,g⟩::l) k e,s,q,hr,hq,t=>by
  have hT':=hT
  simp only[tabOk,zB,zP]at hT'
  obtain⟨⟨h1,h2⟩,h3⟩:=hT'
  unfold runL at hr
  split at hr
  .cases hr
  .next hd=>
   split at hr
   .next hg=>exact IH (uG hT m _ _ hr hq t) hd hg
   .next hg=>
    split at hr
    .split at hr
     .next hx hl=>exact lj (by simpa using h1 _ (Cb hl)) hx (uG hT m _ _ hr hq t) hd hg
     .cases hr
    .split at hr
     .next hx=>
      split at hr
      .next hn=>
       split at hr
       .next hv hm=>
        split at hr
        .next hr2=>
         cases hr
         obtain⟨e1,hq⟩:=hq
         subst e1
         exact pJ _ (by simpa using h2 _ (IR hm)) hx hn hv (uG hT m _ _ hr2 hq t) hd hg
        .cases hr
       .cases hr
      .cases hr
     .cases hr
    .split at hr
     .next hx hm=>
      have:=h3 _ (IR hm)
      split at this
      .next hu=>exact F0 hu hx (uG hT m _ _ hr hq t) hd hg
      .cases this
     .cases hr
    .split at hr
     .next v hv=>
      obtain⟨g1,g2⟩:=Fd (P:=P) hv
      exact sA v g1 (λw _=>g2 _ _ _ _ _ w) hd hg (uG hT m _ _ hr hq t)
     .cases hr
end
theorem sT{c:Code}{h:HF}{A:LH}{R:Ending->HF->LH->Prop}(hf:P.funcs[f]? = some fn)(hb:fn.body=some c)(hn:fn.ntmps=n)(dN:Nat.ble args.length n=true)(t:∀X:Cx,X.M=A.map (·.1)->X.h0=h->P.funcs[f]? = some fn->TT P (bodyFrame f) n [.code c] (kU P X R) (envArgs args) [] X h A):oX P f args.toArray h A R:=by grind [dL]
def SVv(p:Prop):Prop:=p
theorem gSv{p:Prop}(q:p):SVv p:=q
theorem sVv{c:Code}{h:HF}{A:LH}{R:Ending->HF->LH->Prop}(hf:P.funcs[f]? = some fn)(hn:fn.ntmps=n)(t:SVv (∀X:Cx,X.M=A.map (·.1)->X.h0=h->P.funcs[f]? = some fn->TT P (bodyFrame f) n [.code c] (kU P X R) (envArgs args) [] X h A))(hb:fn.body=some c:=by rfl)(hc:Nat.ble args.length n=true:=by rfl):oX P f args.toArray h A R:=sT hf hb hn hc t
section
variable {P:Program} {f:FuncId} {n:Nat} {k:List Item} {e:Env} {X:Cx} {h:HF} {L:LH} {fn:Func} {rs:List ResultVar} {φ : Value->HF->Prop}
theorem nretP{hh:HF}(vs:List Value)(hvv:retVal vs=v)(hf:P.funcs[f]? = some fn:=by assumption)(hr:fn.results=rs.toArray:=by rfl)(hX:X.h0=hh:=by assumption)(hv:qj P e L rs vs:=by exact rds):
  TT P (bodyFrame f) n (.code .ret::k) (kU P X (λx h' B=>x=.returned v/\h'=hh/\B=[])) e [] X h L:=wQ vs hf hr hX hv hvv
theorem nretH(vs:List Value)(hφ : φ (retVal vs) h)(hf:P.funcs[f]? = some fn:=by assumption)(hr:fn.results=rs.toArray:=by rfl)(hv:qj P e L rs vs:=by exact rds):
  TT P (bodyFrame f) n (.code .ret::k) (kU P X (λx h' B=>B=[]/\∃v,x=.returned v/\φ v h')) e [] X h L:=lD vs hf hr hv hφ
end
section grows
variable {P:Program} {b:Frame} {n:Nat} {ops:Array Oper} {F:List Frame->(Machine->Prop)->Prop} {e:Env} {ds:List Deferred} {X:Cx} {h:HF} {L:LH} {K:Env->HF->LH->Prop} {d:Option Nat} {ty:TypeId} {pos:String} {af:Array Edge} {g:Option (Nat×Bool)}
variable {α : Type} {R:Rp α} {E:TypeId} {xs:List α} {base:Option Addr} {cap bk:Nat} {G:LH}
theorem E0{α:Type}{R:Rp α}{C:α->ρ->List Value}{ok:HF->α->ρ->Prop}{t E:TypeId}{x ix:Operand}{base:Option Addr}{cap:Nat}{xs:List α}{y:α}(hT:P.underlying t=some (.slice E))(hS:tySz P E=some (R.sz,a))(hR:SlB R h base xs)(hz:0<=z/\z<(xs.length:Int))(hj:xs[z.toNat]? = some y)(hx:e.ev x=.slice base m cap)(hm:m=xs.length)(hix:e.ev ix=.int .i64 z)(hC:∀h cs y,R.rep h cs y->∃r,cs=C y r/\ok h y r)(t':∀q r,At h q (C y r)->ok h y r->K (pute e d (.pointer (some q))) h L)(hg:guardB ops e ⟨d,.indexAddr t x ix,ty,pos,af,g⟩=true:=by rfl):Stp P b n ops F ds X ⟨d,.indexAddr t x ix,ty,pos,af,g⟩ e h L K:=
 Q4 hT hS hR hz hj hx hm hix (λq cs A ln rr=>by obtain⟨r,e1,o1⟩:=hC _ _ _ rr;subst e1;exact t' q r A o1) hg
theorem DP(A0 G Q:LH)(LL:LH->LH){ys:List α}{ass:Array Operand}{ats:Array TypeId}{vs:List Value}(hc:∀args w,(callFunc f args).run P w=.ok (.enter f args) w)(hs:oX P f vs.toArray h G (λr h' G'=>∃b c,h'=h/\r=.returned (.slice b ys.length c)/\cI R E h ys b c G'))(hL:L=A0++(G++Q))(hLL:∀G,A0++(G++Q)=LL G)(hvs:ass.toList.map e.ev=vs)(t':∀b c G',cI R E h ys b c G'->K (pute e d (.slice b ys.length c)) h (LL G'))(hg:guardB ops e ⟨d,.call ⟨.value (.func f),ass,ats⟩,ty,pos,af,g⟩=true:=by rfl):
  Stp P b n ops F ds X ⟨d,.call ⟨.value (.func f),ass,ats⟩,ty,pos,af,g⟩ e h L K:=by
 unfold Stp
 rw[if_pos hg]
 intro w hw
 subst hL
 have hp:∀G:LH,(A0++(G++Q)).Perm (G++(A0++Q)):=λG=>by
  rw[←zC,←zC];exact List.Perm.append_right Q jF
 have hw':=hw.perm (hp G)
 have harr:ass.map e.ev=vs.toArray:=Array.ext' (by simp[←hvs])
 have hr:(execOp e.ev ⟨d,.call ⟨.value (.func f),ass,ats⟩,ty,pos,af,g⟩).run P w=.ok (.enter f vs.toArray) w:=by
  simp[execOp,resolve,Env.ev,Deferred.ofValue,invoke,harr,hc]
 rw[hr]
 refine mn (by simp) (j8 (sK.mono (hs w hw'.pre.left) ?_))
 rintro x w' ⟨h',B,hst,bb,cc,rfl,rfl,hG⟩
 exact⟨h',_,hLL B▸(St.after (A:=G) (F:=A0++Q) hw' hst).perm (hp B).symm,t' bb cc B hG⟩
end grows
end
variable {K:LH}{R:Rp α}{af:Array Edge}{dn dn':List Nat}{e:Env}{m':Nat}{pos:String}{ty:TypeId}
section
theorem U.{u}{α : Sort u}{a:α}:a=a:=rfl
abbrev zSN:Go.Value:=.slice none 0 0
abbrev zAD(b:Nat):Option Addr:=some ⟨b,0,none⟩
theorem kr(h:p:=by kernel_rfl):p:=h
theorem ob(h:p:=by first|assumption|omega|(simp only[] ;assumption)|(simp only[decide_eq_true_eq,decide_eq_false_iff_not,Bool.and_eq_true,Bool.or_eq_true,Bool.not_eq_true',Bool.not_eq_false',Bool.and_eq_false_iff,Bool.or_eq_false_iff,beq_iff_eq,beq_eq_false_iff_ne,bne_iff_ne,bne_eq_false_iff_eq,List.length_append,List.length_cons,List.length_nil,List.length_drop]at *;omega)):p:=h
theorem lo(h:p:=by simp only[List.length_append,List.length_cons,List.length_nil,List.length_take,List.length_drop];omega):p:=h
theorem ap(h:p:=by first|rfl|(simp only[List.append_assoc,List.cons_append,List.nil_append,List.append_nil];done)|(simp only[List.append_assoc,List.cons_append,List.nil_append,List.append_nil];rfl)|(rw[List.append_nil]<;>rfl)|(simp only[dropNth,List.append_assoc,List.cons_append,List.nil_append,List.append_nil];done)):p:=h
theorem lc(h:p:=by first|omega|(simp only[List.length_nil,List.length_cons]at *;omega)):p:=h
theorem rd(h:p:=by repeat (first|exact trivial|refine⟨rfl,?_⟩)):p:=h
theorem jn{h:HF}{L:LH}(hs:K.Sublist L:=by repeat (first|exact List.Sublist.refl _|exact List.nil_sublist _|exact List.sublist_append_left _ _|refine List.Sublist.cons_cons _ ?_|refine List.Sublist.cons _ ?_)):Jst h K h L:=Eb hs
theorem js{L:LH}(hs:K.Sublist L:=by repeat (first|exact List.Sublist.refl _|exact List.nil_sublist _|exact List.sublist_append_left _ _|refine List.Sublist.cons_cons _ ?_|refine List.Sublist.cons _ ?_)):K.Sublist L:=hs
theorem mh{G L:LH}(h:∀p∈G,p∈L:=by intro p hp;simp only[List.mem_append,List.mem_cons,hp,true_or,or_true]):∀p∈G,p∈L:=h
theorem ei{enc:α->List Value}(h:∀h cs x,R.rep h cs x->cs=enc x:=by exact λ_ _ _ e=>e):∀h cs x,R.rep h cs x->cs=enc x:=h
theorem lf{h:HF}:h.le h:=HF.le_refl h
theorem xf(h:p:=by first|exact λ_ _ _ h=>h.elim|exact λ_ _ _ _ h=>h.elim):p:=h
theorem cb{b:Bool}(h:a=b):jV a=jV b:=congrArg jV h
theorem cs{b:Bool}(h:a=b):jV b=jV a:=congrArg jV h.symm
theorem ci{a b:Int}(h:a=b):jC .i64 b=jC .i64 a:=congrArg (jC .i64) h.symm
abbrev O(l:List Value)(t:Nat):Obj:=zH l.toArray t (0,0)
abbrev Y(x:Int):Value:=.int .u8 x
abbrev Q(b:Nat):Value:=.pointer (some ⟨b,0,none⟩)
abbrev I(x:Int):Value:=.int .i64 x
theorem HF.le.t{a b c:HF}(x:a.le b)(y:b.le c):a.le c:=HF.le_trans x y
section
variable {P:Program} {b:Frame} {n:Nat} {k:List Item} {F:List Frame->(Machine->Prop)->Prop} {ds:List Deferred} {X:Cx}
theorem tf(i:Nat){h1:HF}{d:Nat}{oi:Oper}{h:HF}{L:LH}(hi:nth l i=some oi)(hd:oi.dst=some d)(hr:∀h' L',Jst h1 K h' L'->∀w,St X h' L' w->(execOp e.ev oi).run P w=.ok (.value v) w)(t:TA P b n l.toArray k F ds X (Jst h1 K) m (i::dn) (upd e d v) h L)(hsep:sepAll l.toArray=true:=by assumption)(hJ:Jst h1 K h L:=by exact jn)(hn:(nexts l.toArray dn).contains i=true:=by kernel_rfl)(hg:guardB l.toArray e oi=true:=by rfl):TA P b n l.toArray k F ds X (Jst h1 K) (m+1) dn e h L:=
 ic i hsep hJ hi hd hn hg hr t
theorem tm(i:Nat){h1:HF}{d:Nat}{x:Operand}{g:Option (Nat×Bool)}{h:HF}{L:LH}(hi:nth l i=some ⟨some d,.move x,ty,pos,af,g⟩)(t:TA P b n l.toArray k F ds X (Jst h1 K) m (i::dn) (upd e d (e.ev x)) h L)(hsep:sepAll l.toArray=true:=by assumption)(hJ:Jst h1 K h L:=by exact jn)(hn:(nexts l.toArray dn).contains i=true:=by kernel_rfl)(hg:guardB l.toArray e ⟨some d,.move x,ty,pos,af,g⟩=true:=by rfl):TA P b n l.toArray k F ds X (Jst h1 K) (m+1) dn e h L:=
 ic i hsep hJ hi rfl hn hg (λ_ _ _=>ku) t
theorem tk(i:Nat){h1:HF}{d:Nat}{oi:Oper}{h:HF}{L:LH}(hi:nth l i=some oi)(hd:oi.dst=some d)(t:TA P b n l.toArray k F ds X (Jst h1 K) m (i::dn) (upd e d undef) h L)(hsep:sepAll l.toArray=true:=by assumption)(hJ:Jst h1 K h L:=by exact jn)(hn:(nexts l.toArray dn).contains i=true:=by kernel_rfl)(hg:guardB l.toArray e oi=false:=by rfl):TA P b n l.toArray k F ds X (Jst h1 K) (m+1) dn e h L:=
 nB i hsep hJ hi hd hn hg t
theorem tn(i:Nat){h1:HF}{oi:Oper}{h:HF}{L:LH}(hi:nth l i=some oi)(t:Stp P b n l.toArray F ds X oi e h L λe' h' L'=>Jst h1 K h' L'/\TA P b n l.toArray k F ds X (Jst h1 K) m (i::dn) e' h' L')(hn:nexts l.toArray dn=[i]:=by kernel_rfl):TA P b n l.toArray k F ds X (Jst h1 K) (m+1) dn e h L:=
 Tv i hn hi t
theorem sr{y:Code}{h:HF}{L:LH}(t:TO P b n l.toArray l (.code y::k) F e ds X h L):TT P b n (.code (.seq (.region id l.toArray false) y)::k) F e ds X h L:=dZ (bS t)
theorem an{d:Nat}{x:Operand}{g:Option (Nat×Bool)}{h:HF}{L:LH}(t:TT P b n k F (upd e d (e.ev x)) ds X h L)(hd:Nat.blt d n=true:=by rfl)(hg:guardB ops e ⟨some d,.assign x,ty,pos,af,g⟩=true:=by rfl):TO P b n ops [⟨some d,.assign x,ty,pos,af,g⟩] k F e ds X h L:=iB (bM t) hd hg
theorem kq{d d':Nat}{op':Op}{ty':TypeId}{pos':String}{af':Array Edge}{g g':Option (Nat×Bool)}{h:HF}{L:LH}(t:TO P b n ops l k F (upd (upd e d undef) d' undef) ds X h L)(hd:Nat.blt d n=true:=by rfl)(hg:guardB ops e ⟨some d,op,ty,pos,af,g⟩=false:=by rfl)(hd':Nat.blt d' n=true:=by rfl)(hg':guardB ops (upd e d undef) ⟨some d',op',ty',pos',af',g'⟩=false:=by rfl):TO P b n ops (⟨some d,op,ty,pos,af,g⟩::⟨some d',op',ty',pos',af',g'⟩::l) k F e ds X h L:=IH (IH t hd' hg') hd hg
def runA(l:List Oper):List Nat->Nat->List Nat->Env->Option (Nat×List Nat×Env)
 |[],m,dn,e=>some (m,dn,e)
 |i::is,m,dn,e=>match m with
  |0=>none
  |m+1=>match nth l i with
   |some ⟨some d,op,ty,pos,af,g⟩=>match guardB l.toArray e ⟨some d,op,ty,pos,af,g⟩with
    |false=>runA l is m (i::dn) (upd e d undef)
    |true=>match opQ e op with
     |some v=>runA l is m (i::dn) (upd e d v)
     |none=>none
   |_=>none
def allNext(l:List Oper):List Nat->List Nat->Bool
 |[],_=>true
 |i::is,dn=>(nexts l.toArray dn).contains i&&allNext l is (i::dn)
theorem He{l:List Oper}{h1:HF}{K:LH}{h:HF}{L:LH}(hsep:sepAll l.toArray=true)(hJ:Jst h1 K h L):∀(is:List Nat)(m:Nat)(dn:List Nat)(e:Env){m':Nat}{dn':List Nat}{e':Env},runA l is m dn e=some (m',dn',e')->allNext l is dn=true->TA P b n l.toArray k F ds X (Jst h1 K) m' dn' e' h L->TA P b n l.toArray k F ds X (Jst h1 K) m dn e h L
 |[],m,dn,e,_,_,_,hr,_,t=>by cases hr;exact t
 |i::is,0,dn,e,_,_,_,hr,_,_=>by simp[runA]at hr
 |i::is,m+1,dn,e,_,_,_,hr,hn,t=>by
  simp only[allNext,zB]at hn
  simp only[runA]at hr
  split at hr
  .next hi=>
   split at hr
   .next hg=>exact nB i hsep hJ hi rfl hn.1 hg (He hsep hJ is m _ _ hr hn.2 t)
   .next hg=>
    split at hr
    .next v hv=>exact ic i hsep hJ hi rfl hn.1 hg (λ_ _ _ w _=>(Fd hv).2 _ _ _ _ _ w) (He hsep hJ is m _ _ hr hn.2 t)
    .cases hr
  .cases hr
theorem qA(is:List Nat){h1:HF}{h:HF}{L:LH}(hr:runA l is m dn e=some (m',dn',e'))(t:TA P b n l.toArray k F ds X (Jst h1 K) m' dn' e' h L)(hsep:sepAll l.toArray=true:=by assumption)(hJ:Jst h1 K h L:=by exact jn)(hn:allNext l is dn=true:=by kernel_rfl):TA P b n l.toArray k F ds X (Jst h1 K) m dn e h L:=He hsep hJ is m dn e hr hn t
theorem qR(a c:Nat){h1:HF}{h:HF}{L:LH}(hr:runA l (List.range' a c) m dn e=some (m',dn',e'))(t:TA P b n l.toArray k F ds X (Jst h1 K) m' dn' e' h L)(hsep:sepAll l.toArray=true:=by assumption)(hJ:Jst h1 K h L:=by exact jn)(hn:allNext l (List.range' a c) dn=true:=by kernel_rfl):TA P b n l.toArray k F ds X (Jst h1 K) m dn e h L:=He hsep hJ _ m dn e hr hn t
def opB(tF:List (Nat×Nat×Nat))(e:Env):Op->Option Value
 |.fieldAddr s x i=>match e.ev x,look3 tF s i with
  |.pointer (some a),some off=>some (.pointer (some (a.add off)))
  |_,_=>none
 |op=>opQ e op
theorem WP{tF:List (Nat×Nat×Nat)}(hT:(tF.all λx=>fldOf P x.1 x.2.1==some x.2.2)=true)(hv:opB tF e op=some v)(h:HF)(L:LH)(d:Option Nat)(ty:TypeId)(pos:String)(af:Array Edge)(g:Option (Nat×Bool)):∀w,St X h L w->(execOp e.ev ⟨d,op,ty,pos,af,g⟩).run P w=.ok (.value v) w:=by
 unfold opB at hv
 split at hv
 .split at hv
  .next hx hl=>
   cases hv
   exact DZ (by simpa using(zP.1 hT) _ (Cb hl)) hx
  .cases hv
 .exact λw _=>(Fd hv).2 _ _ _ _ _ w
def runB(tF:List (Nat×Nat×Nat))(l:List Oper):List Nat->Nat->List Nat->Env->Option (Nat×List Nat×Env)
 |[],m,dn,e=>some (m,dn,e)
 |i::is,m,dn,e=>match m with
  |0=>none
  |m+1=>match nth l i with
   |some ⟨some d,op,ty,pos,af,g⟩=>match guardB l.toArray e ⟨some d,op,ty,pos,af,g⟩with
    |false=>runB tF l is m (i::dn) (upd e d undef)
    |true=>match opB tF e op with
     |some v=>runB tF l is m (i::dn) (upd e d v)
     |none=>none
   |_=>none
theorem Mu{tF:List (Nat×Nat×Nat)}(hT:(tF.all λx=>fldOf P x.1 x.2.1==some x.2.2)=true){l:List Oper}{h1:HF}{K:LH}{h:HF}{L:LH}(hsep:sepAll l.toArray=true)(hJ:Jst h1 K h L):∀(is:List Nat)(m:Nat)(dn:List Nat)(e:Env){m':Nat}{dn':List Nat}{e':Env},runB tF l is m dn e=some (m',dn',e')->allNext l is dn=true->TA P b n l.toArray k F ds X (Jst h1 K) m' dn' e' h L->TA P b n l.toArray k F ds X (Jst h1 K) m dn e h L
 |[],m,dn,e,_,_,_,hr,_,t=>by cases hr;exact t
 |i::is,0,dn,e,_,_,_,hr,_,_=>by simp[runB]at hr
 |i::is,m+1,dn,e,_,_,_,hr,hn,t=>by
  simp only[allNext,zB]at hn
  simp only[runB]at hr
  split at hr
  .next hi=>
   split at hr
   .next hg=>exact nB i hsep hJ hi rfl hn.1 hg (Mu hT hsep hJ is m _ _ hr hn.2 t)
   .next hg=>
    split at hr
    .next v hv=>exact ic i hsep hJ hi rfl hn.1 hg (λh' L' _ w hw=>WP hT hv h' L' _ _ _ _ _ w hw) (Mu hT hsep hJ is m _ _ hr hn.2 t)
    .cases hr
  .cases hr
theorem tu{h1 h2:HF}(dN:h1.le h2){h:HF}{L:LH}(t:TA P b n ops k F ds X (Jst h2 K) m dn e h L):TA P b n ops k F ds X (Jst h1 K) m dn e h L:=NN dN (λ_ hp=>hp) t
end
theorem jl{h h2:HF}{L:LH}(dN:h.le h2)(hs:K.Sublist L:=by repeat (first|exact List.Sublist.refl _|exact List.nil_sublist _|exact List.sublist_append_left _ _|refine List.Sublist.cons_cons _ ?_|refine List.Sublist.cons _ ?_)):Jst h K h2 L:=⟨dN,λ_ hp=>hs.subset hp⟩
theorem sw(h:p:=by first|exact λw hw=>hw|(intro w hw;first|simpa only[List.append_assoc,List.cons_append,List.nil_append,List.append_nil]using hw|(simp only[List.append_assoc,List.cons_append,List.nil_append,List.append_nil]at hw ⊢;exact hw))):p:=h
section
variable {P:Program} {b:Frame} {n:Nat} {k:List Item} {F:List Frame->(Machine->Prop)->Prop} {ds:List Deferred} {X:Cx} {ops:Array Oper} {l:List Oper} {d:Nat} {op:BinOp} {t u ty:TypeId} {x y:Operand} {pos:String} {af:Array Edge} {g:Option (Nat×Bool)} {e:Env} {h:HF} {L:LH}
theorem oi(i:Nat)(hv:binV op (e.ev x) (e.ev y)=some (.int .i64 (IntKind.i64.wrap ((i:Int)+1))))(t':TO P b n ops l k F (upd e d (.int .i64 (((i+1):Nat):Int))) ds X h L)(hb:i<9223372036854775807:=by exact ob)(hd:Nat.blt d n=true:=by rfl)(hg:guardB ops e ⟨some d,.binOp op t x y u,ty,pos,af,g⟩=true:=by rfl):
  TO P b n ops (⟨some d,.binOp op t x y u,ty,pos,af,g⟩::l) k F e ds X h L:=gE hv (mO hb) t' hd hg
theorem tO(ha:a=true)(hv:binV op (e.ev x) (e.ev y)=some (.bool a))(t':TO P b n ops l k F (upd e d (.bool true)) ds X h L)(hd:Nat.blt d n=true:=by rfl)(hg:guardB ops e ⟨some d,.binOp op t x y u,ty,pos,af,g⟩=true:=by rfl):
  TO P b n ops (⟨some d,.binOp op t x y u,ty,pos,af,g⟩::l) k F e ds X h L:=gE hv (cb ha) t' hd hg
theorem fO(ha:a=false)(hv:binV op (e.ev x) (e.ev y)=some (.bool a))(t':TO P b n ops l k F (upd e d (.bool false)) ds X h L)(hd:Nat.blt d n=true:=by rfl)(hg:guardB ops e ⟨some d,.binOp op t x y u,ty,pos,af,g⟩=true:=by rfl):
  TO P b n ops (⟨some d,.binOp op t x y u,ty,pos,af,g⟩::l) k F e ds X h L:=gE hv (cb ha) t' hd hg
end
section
variable {P:Program} {d:Option Nat} {ty t:TypeId} {pos:String} {af:Array Edge} {g:Option (Nat×Bool)} {x:Operand} {m bk off T:Nat} {fz:Nat×Nat} {cl cs:List Value} {v:Value} {e:Env} {X:Cx} {h1:HF} {K:LH} {q:Addr}
theorem rj(i:Nat)(hT:tySz P t=some (m,false))(hx:e.ev x=.pointer (some ⟨bk,off,none⟩))(hi:nth K i=some (bk,zH cl.toArray T fz))(hv:nth cl off=some v):∀h' L',Jst h1 K h' L'->∀w,St X h' L' w->(execOp e.ev ⟨d,.load t x,ty,pos,af,g⟩).run P w=.ok (.value v) w:=λ_ _ hj=>wM hT hx (hj.nth hi) hv
theorem rh(hT:tySz P t=some (m,false))(ha:At h1 q (v::cs))(hx:e.ev x=.pointer (some q)):∀h' L',Jst h1 K h' L'->∀w,St X h' L' w->(execOp e.ev ⟨d,.load t x,ty,pos,af,g⟩).run P w=.ok (.value v) w:=λ_ _ hj=>TQ hT (ha.mono hj.1) hx
theorem rH(j:Nat)(hT:tySz P t=some (m,false))(ha:At h1 q cs)(hx:e.ev x=.pointer (some (q.add j)))(hv:nth cs j=some v):∀h' L',Jst h1 K h' L'->∀w,St X h' L' w->(execOp e.ev ⟨d,.load t x,ty,pos,af,g⟩).run P w=.ok (.value v) w:=λ_ _ hj=>TR j hT (ha.mono hj.1) hx hv
end
section
variable {P:Program} {b:Frame} {n:Nat} {ops:Array Oper} {F:List Frame->(Machine->Prop)->Prop} {ds:List Deferred} {X:Cx} {e:Env} {h:HF} {L:LH} {d:Option Nat} {ty:TypeId} {pos:String} {af:Array Edge} {g:Option (Nat×Bool)} {K:Env->HF->LH->Prop} {α : Type} {R:Rp α} {t E:TypeId} {x ix:Operand} {a:Bool} {base:Option Addr} {m cap:Nat} {xs:List α} {y:α} {i:Nat}
theorem iF(enc:α->List Value)(hT:P.underlying t=some (.slice E))(hS:tySz P E=some (R.sz,a))(hR:SlB R h base xs)(hj:xs[i]? = some y)(hx:e.ev x=.slice base m cap)(hm:m=xs.length)(hix:e.ev ix=.int .i64 (i:Int))(t':∀q,At h q (enc y)->K (pute e d (.pointer (some q))) h L)(hR':∀h cs x,R.rep h cs x->cs=enc x:=by exact λ_ _ _ e=>e)(hg:guardB ops e ⟨d,.indexAddr t x ix,ty,pos,af,g⟩=true:=by rfl):Stp P b n ops F ds X ⟨d,.indexAddr t x ix,ty,pos,af,g⟩ e h L K:=vy hR' hT hS hR (nthZ hj) (kz hj) hx hm hix t' hg
theorem iG(hT:P.underlying t=some (.slice E))(hS:tySz P E=some (R.sz,a))(hR:SlB R h base xs)(hj:xs[i]? = some y)(hx:e.ev x=.slice base m cap)(hm:m=xs.length)(hix:e.ev ix=.int .i64 (i:Int))(t':∀q cs,At h q cs->cs.length=R.sz->R.rep h cs y->K (pute e d (.pointer (some q))) h L)(hg:guardB ops e ⟨d,.indexAddr t x ix,ty,pos,af,g⟩=true:=by rfl):Stp P b n ops F ds X ⟨d,.indexAddr t x ix,ty,pos,af,g⟩ e h L K:=Q4 hT hS hR (nthZ hj) (kz hj) hx hm hix t' hg
theorem iR{C:α->ρ->List Value}{ok:HF->α->ρ->Prop}(hT:P.underlying t=some (.slice E))(hS:tySz P E=some (R.sz,a))(hR:SlB R h base xs)(hj:xs[i]? = some y)(hx:e.ev x=.slice base m cap)(hm:m=xs.length)(hix:e.ev ix=.int .i64 (i:Int))(hC:∀h cs y,R.rep h cs y->∃r,cs=C y r/\ok h y r)(t':∀q r,At h q (C y r)->ok h y r->K (pute e d (.pointer (some q))) h L)(hg:guardB ops e ⟨d,.indexAddr t x ix,ty,pos,af,g⟩=true:=by rfl):Stp P b n ops F ds X ⟨d,.indexAddr t x ix,ty,pos,af,g⟩ e h L K:=E0 hT hS hR (nthZ hj) (kz hj) hx hm hix hC t' hg
end
theorem cE(y:α){h:HF}{cs:List Value}(hl:cs.length=R.sz)(hr:R.rep h cs y):dC R h cs [y]:=⟨cs,[],by simp,hl,hr,rfl⟩
end
section
open Go.Proofs
abbrev fa := @Tryz.underlying31
abbrev nz := @Tryz.underlying3
abbrev oT := @Tryz.underlying28
abbrev uB := @Tryz.underlying57
abbrev Dt := @Tryz.underlying44
abbrev EU := @Tryz.underlying27
abbrev Kc := @Tryz.func6
abbrev Hu := @Tryz.underlying56
abbrev Ht := @Tryz.underlying26
abbrev Hs := @Tryz.underlying168
abbrev CG := @Tryz.call29
abbrev Dv := @Tryz.underlying183
abbrev Yg := @Tryz.underlying4
abbrev Du := @Tryz.call60
abbrev NH := @Tryz.underlying198
abbrev Hy := @Tryz.call363
abbrev Hx := @Tryz.func28
abbrev Hw := @Tryz.underlying133
abbrev Hv := @Tryz.func31
abbrev KX := @Tryz.func368
abbrev KW := @Tryz.func305
abbrev KV := @Tryz.call59
abbrev NF := @Tryz.underlying24
abbrev NE := @Tryz.call306
abbrev ND := @Tryz.underlying391
abbrev NC := @Tryz.ntmps28
abbrev NB := @Tryz.call28
abbrev NA := @Tryz.underlying238
abbrev Nz := @Tryz.func108
abbrev Ny := @Tryz.underlying97
abbrev Nv := @Tryz.call233
abbrev QU := @Tryz.underlying61
abbrev QT := @Tryz.underlying55
abbrev QS := @Tryz.underlying325
abbrev Yf := @Tryz.func161
abbrev QR := @Tryz.call379
abbrev QQ := @Tryz.call110
abbrev QO := @Tryz.func237
abbrev QN := @Tryz.underlying326
abbrev QM := @Tryz.func254
abbrev QL := @Tryz.func23
abbrev QK := @Tryz.call273
abbrev QJ := @Tryz.func142
abbrev QI := @Tryz.call61
abbrev Ye := @Tryz.underlying5
abbrev Tl := @Tryz.underlying67
abbrev Tk := @Tryz.underlying23
abbrev Tj := @Tryz.underlying25
abbrev Ti := @Tryz.underlying400
abbrev tz_49 := @Tryz.underlying0
abbrev Wd := @Tryz.underlying351
abbrev Th := @Tryz.call99
abbrev Tg := @Tryz.call128
abbrev Tf := @Tryz.underlying20
abbrev Te := @Tryz.func362
abbrev Td := @Tryz.func329
abbrev Tc := @Tryz.func336
abbrev Tb := @Tryz.underlying280
abbrev Ta := @Tryz.func388
abbrev S9 := @Tryz.func261
abbrev S8 := @Tryz.func262
abbrev S7 := @Tryz.func338
abbrev S6 := @Tryz.underlying94
abbrev S5 := @Tryz.func235
abbrev S4 := @Tryz.func150
abbrev S3 := @Tryz.call63
abbrev S2 := @Tryz.call16
abbrev S1 := @Tryz.func88
end
variable {E T:TypeId}{H:Type}{fuel:Nat}{ps:List MemPlace}
section
open Go.Proofs Go.Proofs.Tryz
set_option maxHeartbeats 2000000
def hOf(w:World):HF:=λb=>w.heap[b]?
theorem pre_hOf(w:World):Pre (hOf w) [] w:=⟨λ_ _ h=>h,λ_ hp=>(jA hp).elim,Yx,λ_ hp=>(jA hp).elim⟩
theorem RO{w:World}{a:Addr}(h:w.cell? a=some v):a.spot=none/\∃c T fz,w.heap[a.block]? = some (.cells c T fz)/\c[a.off]? = some v:=by
 unfold World.cell? at h
 split at h
 .next c T fz e=>
  split at h
  .cases h
  .next hs=>exact⟨by simpa using hs,c,T,fz,e,h⟩
 .cases h
theorem OG{α β : Type}{f:α->Option β}:∀{l:List α}{r:List β},l.mapM f=some r->l.length=r.length/\∀(j:Nat)(x:α),l[j]? = some x->f x=r[j]?
 |[],r,h=>by simp at h;subst h;exact⟨rfl,λj x hj=>by simp at hj⟩
 |a::l,r,h=>by
  rw[List.mapM_cons]at h
  simp only[Option.bind_eq_bind,Option.bind_eq_some_iff,Option.pure_def,kP]at h
  obtain⟨b,hb,r',hr,rfl⟩:=h
  obtain⟨h1,h2⟩:=OG hr
  grind
theorem UU{w:World}{base:Nat}{a:Addr}{cs:List Value}(hn:0<n)(h:w.cells? base a n=some cs):At (hOf w) a cs/\cs.length=n:=by
 unfold World.cells? at h
 split at h
 .obtain⟨h1,h2⟩:=OG h
  rw[List.length_range]at h1
  have hc:∀j v,cs[j]? = some v->w.cell? (a.add j)=some v:=λj v hv=>by
   grind
  obtain⟨v,hv⟩:∃v,cs[0]? = some v:=⟨cs[0],List.getElem?_eq_getElem (by omega)⟩
  obtain⟨s1,c,T,fz,s2,s3⟩:=RO (hc 0 v hv)
  have hsp:a.spot=none:=by simpa[xP]using s1
  have hbl:∀j,(a.add j).block=a.block/\(a.add j).off=a.off+j:=λj=>by
   grind [xP]
  refine⟨⟨c,T,fz,?_,hsp,λj u hu=>?_⟩,h1.symm⟩
  .rw[(hbl 0).1]at s2;exact s2
  .obtain⟨_,c',T',fz',t2,t3⟩:=RO (hc j u hu)
   grind
 .cases h
def szL{α : Type}(f:α->Nat):List α->Nat
 |[]=>0
 |x::xs=>f x+szL f xs
theorem HP{α : Type}(f:α->Nat):∀(l r:List α),szL f (l++r)=szL f l+szL f r
 |[],r=>by simp[szL]
 |x::l,r=>by simp[szL,HP f l r,Nat.add_assoc]
theorem szL_len{α : Type}{f:α->Nat}(hf:∀x,1<=f x):∀(l:List α),l.length<=szL f l
 |[]=>xE _
 |x::l=>by have:=szL_len hf l;have:=hf x;simp[szL];omega
theorem Mh{α : Type}{f:α->Nat}{x:α}:∀{l:List α},x∈l->f x<=szL f l
 |y::l,h=>by
  rcases kC.1 h with rfl|h
  .simp[szL]
  .have:=Mh (f:=f) h;simp[szL];omega
theorem QZ:∀(l:List ao),szL ao.dep l=ao.depL l
 |[]=>rfl
 |y::l=>by simp[szL,ao.depL,QZ l]
open YtknehchipcogdaaGreatDoor.Rows in
theorem bulk_one(d:DataW H):1<=uptoBulk d:=by
 cases d with
 |lit l=>cases l<;>simp[uptoBulk]
 |nil=>simp[uptoBulk]
 |ptr d=>simp[uptoBulk]
 |slice elems spare=>simp[uptoBulk]
 |agg parts=>simp[uptoBulk]
 |iface t d=>simp[uptoBulk]
 |map entries=>simp[uptoBulk]
 |held h=>simp[uptoBulk]
open YtknehchipcogdaaGreatDoor.Rows in
theorem Pu(l r:List (DataW H)):uptoBulkAll (l++r)=uptoBulkAll l+uptoBulkAll r:=by
 induction l with
 |nil=>simp[uptoBulkAll]
 |cons x l ih=>simp only[jJ,uptoBulkAll,ih];omega
section opn
open YtknehchipcogdaaGreatDoor.Rows
variable {H:Type} {enc:TypeId×Value->H} {P:Program} {w:World} {base:Nat} {sp:Nat->Bool} {held:Bool}
def Opn(enc:TypeId×Value->H)(P:Program)(w:World)(base:Nat)(sp:Nat->Bool)(held:Bool){α : Type}(T:TypeId)(R:Rp α)(sz:α->Nat)(fuel:Nat):Prop:=
 ∀cs d ps,DataW.trod enc P w base sp held fuel T cs=some (d,ps)->∃x,R.rep (hOf w) cs x/\sz x<=uptoBulk d
theorem opn_slice{sz:α->Nat}(ht:P.underlying T=some (.slice E))(hc:P.cellsOf E=R.sz)(hp:0<R.sz)(he:∀n,fuel=n+1->Opn enc P w base sp held E R sz n){cs:List Value}{d:DataW H}(h:DataW.trod enc P w base sp held fuel T cs=some (d,ps)):∃b c xs,cs=[.slice b (List.length xs) c]/\SlC R (hOf w) b c xs/\szL sz xs+1<=uptoBulk d:=by
 rcases DataW.trod_slice ht h with⟨rfl,e⟩|⟨a,len,cap,elems,rest,n,hn,rfl,hx,h1,h2,h3,h4,h5,_,_⟩
 .cases e
  exact⟨none,0,[],rfl,SlC.nil,by simp[szL,uptoBulk]⟩
 .cases hx
  have key:∀k,k<=len->∃xs:List α,xs.length=k/\(∀i x,xs[i]? = some x->∃cs',At (hOf w) (a.add (i*R.sz)) cs'/\cs'.length=R.sz/\R.rep (hOf w) cs' x)/\szL sz xs<=uptoBulkAll ((elems.take k).map (·.1)):=by
   intro k
   induction k with
   |zero=>exact λ_=>⟨[],rfl,λi x hx=>by simp at hx,by simp[szL]⟩
   |succ k ih=>
    intro hk
    obtain⟨xs,e1,e2,e3⟩:=ih (by omega)
    have hkl:k<elems.length:=by omega
    have c0:=h5 k (by omega)
    rw[List.getElem?_eq_getElem hkl]at c0
    obtain⟨cs',c1,c2⟩:=Option.bind_eq_some_iff.1 c0
    rw[hc]at c1
    obtain⟨x,x1,x2⟩:=he n hn _ _ _ c2
    obtain⟨k1,k2⟩:=UU hp c1
    refine⟨xs++[x],by simp[e1],λi y hy=>?_,?_⟩
    .grind
    .rw[HP,List.take_add_one,qW,Pu,List.getElem?_eq_getElem hkl]
     all_goals grind [szL,Option.toList_some,uptoBulkAll]
  obtain⟨xs,e1,e2,e3⟩:=key len (xE _)
  refine⟨some a,cap,xs,by rw[e1],⟨⟨?_,λi x hx=>?_⟩,by omega⟩,?_⟩
  .have:maxLen<=9223372036854775807:=by decide
   omega
  all_goals grind [uptoBulk]
theorem opn_int(ht:P.underlying T=some (.int .i64))(n:Nat):Opn enc P w base sp held T Rp.int (λ_=>1) n:=by
 intro cs d ps h
 refine(?_:∃x,Rp.int.rep (hOf w) cs x).imp λ_ h=>⟨h,bulk_one d⟩
 cases n with
 |zero=>simp[DataW.trod]at h
 |succ n=>
  unfold DataW.trod at h
  rw[ht]at h
  split at h<;>simp_all
  next k k' z e=>
   obtain⟨⟨h1,_⟩,h2,_⟩:=h
   subst h1
   exact⟨z,by first|rfl|(subst e;rfl)|(cases e;rfl)⟩
theorem WO(ht:P.underlying T=some (.int .u8))(n:Nat):Opn enc P w base sp held T ⟨1,λ_ cs(x:Int)=>cs=[.int .u8 x]⟩ (λ_=>1) n:=by
 intro cs d ps h
 refine(?_:∃x:Int,cs=[.int .u8 x]).imp λ_ h=>⟨h,bulk_one d⟩
 cases n with
 |zero=>simp[DataW.trod]at h
 |succ n=>
  unfold DataW.trod at h
  rw[ht]at h
  split at h<;>simp_all
theorem yq(ht:P.underlying T=some .bool)(n:Nat):Opn enc P w base sp held T Rp.bool (λ_=>1) n:=by
 intro cs d ps h
 obtain⟨b,rfl,_⟩:=DataW.trod_bool ht h
 exact⟨b,rfl,bulk_one d⟩
theorem D3(ht:P.underlying T=some .string)(n:Nat):Opn enc P w base sp held T Rp.str (λ_=>1) n:=by
 intro cs d ps h
 refine(?_:∃x,Rp.str.rep (hOf w) cs x).imp λ_ h=>⟨h,bulk_one d⟩
 cases n with
 |zero=>simp[DataW.trod]at h
 |succ n=>
  unfold DataW.trod at h
  rw[ht]at h
  split at h<;>simp_all
  all_goals exact⟨_,rfl⟩
def TrF(enc:TypeId×Value->H)(P:Program)(w:World)(base:Nat)(sp:Nat->Bool)(held:Bool)(fuel:Nat):List TypeId->List Value->List (DataW H)->Prop
 |[],cs,ds=>cs=[]/\ds=[]
 |t::ts,cs,ds=>∃c cs' d ds' p,cs=c++cs'/\ds=d::ds'/\DataW.trod enc P w base sp held fuel t c=some (d,p)/\TrF enc P w base sp held fuel ts cs' ds'
def contig(P:Program):List Field->Nat->Option Nat
 |[],o=>some o
 |f::fs,o=>if f.offset=o then contig P fs (o+P.cellsOf f.type)else none
theorem Tp{n:Nat}{cs:List Value}:∀(fs:List Field)(xs:List (DataW H×List MemPlace))(o:Nat),xs.length=fs.length->contig P fs o=some cs.length ->
  (∀(i:Nat)(f:Field),fs[i]? = some f->DataW.trod enc P w base sp held n f.type ((cs.drop f.offset).take (P.cellsOf f.type))=xs[i]?)->TrF enc P w base sp held n (fs.map (·.type)) (cs.drop o) (xs.map (·.1))
 |[],xs,o,hl,hc,_=>by
  simp only[contig,kP]at hc
  subst hc
  rw[jB,List.length_eq_zero_iff]at hl
  subst hl
  exact⟨by simp,rfl⟩
 |f::fs,[],o,hl,hc,hx=>by simp at hl
 |f::fs,x::xs,o,hl,hc,hx=>by
  unfold contig at hc
  split at hc
  .next ho=>
   have h0:=hx 0 f rfl
   rw[ho]at h0
   simp only[List.getElem?_cons_zero]at h0
   refine⟨(cs.drop o).take (P.cellsOf f.type),cs.drop (o+P.cellsOf f.type),x.1,xs.map (·.1),x.2,?_,rfl,h0,Tp fs xs _ (by simpa using hl) hc (λi g hg=>by simpa using hx (i+1) g (by simpa using hg))⟩
   rw[←List.drop_drop,List.take_append_drop]
  .cases hc
theorem m8{fs:Array Field}{cs:List Value}{d:DataW H}(ht:P.underlying T=some (.struct fs))(hk:contig P fs.toList 0=some (P.cellsOf T))(h:DataW.trod enc P w base sp held fuel T cs=some (d,ps)):
  ∃n ds,fuel=n+1/\d=.agg ds/\TrF enc P w base sp held n (fs.toList.map (·.type)) cs ds:=by
 obtain⟨xs,n,hn,hx,hl,hlen,hf⟩:=DataW.trod_struct ht h
 cases hx
 refine⟨n,_,hn,rfl,?_⟩
 have:=Tp (enc:=enc) (w:=w) (base:=base) (sp:=sp) (held:=held) (n:=n) (cs:=cs) fs.toList xs 0 (by simpa using hlen) (by rw[hk,hl]) (λi f hi=>hf i f (by simpa using hi))
 simpa using this
theorem Sn(ht:P.underlying T=some (.array m E))(hE:P.underlying E=some (.int .u8))(hc:P.cellsOf E=1)(hcT:P.cellsOf T=m){cs:List Value}{d:DataW H}(h:DataW.trod enc P w base sp held n T cs=some (d,ps)):∃f:Nat->Int,cs=(zD m).map λi=>jC .u8 (f i):=by
 obtain⟨xs,k,hk,hx,hl,hlen,hf⟩:=DataW.trod_array ht h
 rw[hcT]at hl
 have h1:∀i,∃z:Int,i<m->cs[i]? = some (.int .u8 z):=by
  intro i
  rcases zK i m with hi|hi
  .have h0:=hf i hi
   rw[hc,Nat.mul_one,List.getElem?_eq_getElem (by omega)]at h0
   obtain⟨z,hz,_⟩:=WO (enc:=enc) (w:=w) (base:=base) (sp:=sp) (held:=held) hE k _ _ _ h0
   refine⟨z,λ_=>?_⟩
   have hz':(cs.drop i).take 1=[.int .u8 z]:=hz
   have:=congrArg (·[0]?) hz'
   simpa using this
  .exact⟨0,λh=>by omega⟩
 obtain⟨f,hf'⟩:=Classical.axiomOfChoice h1
 refine⟨f,Zg λi=>?_⟩
 grind
end opn
section openings
variable {H:Type} {enc:TypeId×Value->H} {w:World} {base:Nat} {sp:Nat->Bool} {held:Bool}
theorem Ou(n:Nat):Opn enc prog w base sp held 76 aQ.rp (λ_=>1) n:=by
 intro cs d ps h
 obtain⟨m,ds,rfl,rfl,c0,_,d0,_,p0,rfl,rfl,h0,c1,_,d1,_,p1,rfl,rfl,h1,c2,_,d2,_,p2,rfl,rfl,h2,c3,_,d3,_,p3,rfl,rfl,h3,c4,_,d4,_,p4,rfl,rfl,h4,c5,_,d5,_,p5,rfl,rfl,h5,c6,_,d6,_,p6,rfl,rfl,h6,rfl,rfl⟩:=m8 (fs:=_) underlying76 (by kernel_rfl) h
 obtain⟨x0,rfl,_⟩:=(opn_int (by kernel_rfl)) m _ _ _ h0
 obtain⟨x1,rfl,_⟩:=(opn_int (by kernel_rfl)) m _ _ _ h1
 obtain⟨x2,rfl,_⟩:=(opn_int (by kernel_rfl)) m _ _ _ h2
 obtain⟨x3,rfl,_⟩:=(opn_int (by kernel_rfl)) m _ _ _ h3
 obtain⟨x4,rfl,_⟩:=(opn_int (by kernel_rfl)) m _ _ _ h4
 obtain⟨x5,rfl,_⟩:=(opn_int (by kernel_rfl)) m _ _ _ h5
 obtain⟨x6,rfl,_⟩:=(yq (by kernel_rfl)) m _ _ _ h6
 exact⟨⟨x0,x1,x2,x3,x4,x5,x6⟩,rfl,bulk_one _⟩
theorem P1(n:Nat):Opn enc prog w base sp held 150 bj.rp (λ_=>1) n:=by
 intro cs d ps h
 obtain⟨m,ds,rfl,rfl,c0,_,d0,_,p0,rfl,rfl,h0,c1,_,d1,_,p1,rfl,rfl,h1,c2,_,d2,_,p2,rfl,rfl,h2,c3,_,d3,_,p3,rfl,rfl,h3,c4,_,d4,_,p4,rfl,rfl,h4,c5,_,d5,_,p5,rfl,rfl,h5,c6,_,d6,_,p6,rfl,rfl,h6,c7,_,d7,_,p7,rfl,rfl,h7,c8,_,d8,_,p8,rfl,rfl,h8,c9,_,d9,_,p9,rfl,rfl,h9,rfl,rfl⟩:=m8 (fs:=_) underlying150 (by kernel_rfl) h
 obtain⟨x0,rfl,_⟩:=(opn_int (by kernel_rfl)) m _ _ _ h0
 obtain⟨x1,rfl,_⟩:=(opn_int (by kernel_rfl)) m _ _ _ h1
 obtain⟨x2,rfl,_⟩:=(opn_int (by kernel_rfl)) m _ _ _ h2
 obtain⟨x3,rfl,_⟩:=(opn_int (by kernel_rfl)) m _ _ _ h3
 obtain⟨x4,rfl,_⟩:=(opn_int (by kernel_rfl)) m _ _ _ h4
 obtain⟨x5,rfl,_⟩:=(opn_int (by kernel_rfl)) m _ _ _ h5
 obtain⟨x6,rfl,_⟩:=(opn_int (by kernel_rfl)) m _ _ _ h6
 obtain⟨x7,rfl,_⟩:=(opn_int (by kernel_rfl)) m _ _ _ h7
 obtain⟨x8,rfl,_⟩:=(opn_int (by kernel_rfl)) m _ _ _ h8
 obtain⟨x9,rfl,_⟩:=(yq (by kernel_rfl)) m _ _ _ h9
 exact⟨⟨x0,x1,x2,x3,x4,x5,x6,x7,x8,x9⟩,rfl,bulk_one _⟩
theorem MK(n:Nat):Opn enc prog w base sp held 78 aG.rp (λ_=>1) n:=by
 intro cs d ps h
 obtain⟨m,ds,rfl,rfl,c0,_,d0,_,p0,rfl,rfl,h0,c1,_,d1,_,p1,rfl,rfl,h1,c2,_,d2,_,p2,rfl,rfl,h2,c3,_,d3,_,p3,rfl,rfl,h3,c4,_,d4,_,p4,rfl,rfl,h4,c5,_,d5,_,p5,rfl,rfl,h5,c6,_,d6,_,p6,rfl,rfl,h6,rfl,rfl⟩:=m8 (fs:=_) underlying78 (by kernel_rfl) h
 obtain⟨x0,rfl,_⟩:=(opn_int (by kernel_rfl)) m _ _ _ h0
 obtain⟨x1,rfl,_⟩:=(opn_int (by kernel_rfl)) m _ _ _ h1
 obtain⟨x2,rfl,_⟩:=(opn_int (by kernel_rfl)) m _ _ _ h2
 obtain⟨x3,rfl,_⟩:=(opn_int (by kernel_rfl)) m _ _ _ h3
 obtain⟨x4,rfl,_⟩:=(opn_int (by kernel_rfl)) m _ _ _ h4
 obtain⟨x5,rfl,_⟩:=(yq (by kernel_rfl)) m _ _ _ h5
 obtain⟨x6,rfl,_⟩:=(yq (by kernel_rfl)) m _ _ _ h6
 exact⟨⟨x0,x1,x2,x3,x4,x5,x6⟩,rfl,bulk_one _⟩
theorem P2(n:Nat):Opn enc prog w base sp held 81 Budget.rp (λ_=>1) n:=by
 intro cs d ps h
 obtain⟨m,ds,rfl,rfl,c0,_,d0,_,p0,rfl,rfl,h0,c1,_,d1,_,p1,rfl,rfl,h1,c2,_,d2,_,p2,rfl,rfl,h2,c3,_,d3,_,p3,rfl,rfl,h3,c4,_,d4,_,p4,rfl,rfl,h4,c5,_,d5,_,p5,rfl,rfl,h5,c6,_,d6,_,p6,rfl,rfl,h6,c7,_,d7,_,p7,rfl,rfl,h7,rfl,rfl⟩:=m8 (fs:=_) underlying81 (by kernel_rfl) h
 obtain⟨x0,rfl,_⟩:=(opn_int (by kernel_rfl)) m _ _ _ h0
 obtain⟨x1,rfl,_⟩:=(opn_int (by kernel_rfl)) m _ _ _ h1
 obtain⟨x2,rfl,_⟩:=(opn_int (by kernel_rfl)) m _ _ _ h2
 obtain⟨x3,rfl,_⟩:=(opn_int (by kernel_rfl)) m _ _ _ h3
 obtain⟨x4,rfl,_⟩:=(opn_int (by kernel_rfl)) m _ _ _ h4
 obtain⟨x5,rfl,_⟩:=(opn_int (by kernel_rfl)) m _ _ _ h5
 obtain⟨x6,rfl,_⟩:=(opn_int (by kernel_rfl)) m _ _ _ h6
 obtain⟨x7,rfl,_⟩:=(yq (by kernel_rfl)) m _ _ _ h7
 exact⟨⟨x0,x1,x2,x3,x4,x5,x6,x7⟩,rfl,bulk_one _⟩
abbrev ao.hold(x:ao):Nat:=x.dep
theorem Ot(n:Nat):Opn enc prog w base sp held 59 ao.rp ao.hold n:=by
 induction n using Nat.strongRecOn with
 |_ n ih=>
 intro cs d ps h
 obtain⟨m,ds,rfl,rfl,c0,_,d0,_,p0,rfl,rfl,h0,c1,_,d1,_,p1,rfl,rfl,h1,c2,_,d2,_,p2,rfl,rfl,h2,c3,_,d3,_,p3,rfl,rfl,h3,c4,_,d4,_,p4,rfl,rfl,h4,rfl,rfl⟩:=m8 (fs:=_) underlying59 (by kernel_rfl) h
 obtain⟨x0,rfl,_⟩:=(opn_int (by kernel_rfl)) m _ _ _ h0
 obtain⟨x1,rfl,_⟩:=(opn_int (by kernel_rfl)) m _ _ _ h1
 obtain⟨x2,rfl,_⟩:=(opn_int (by kernel_rfl)) m _ _ _ h2
 obtain⟨x3,rfl,_⟩:=(D3 (by kernel_rfl)) m _ _ _ h3
 obtain⟨b4,k4,x4,rfl,o4,q4⟩:=opn_slice uB (by kernel_rfl) (by decide) (λk hk=>ih k (by omega)) h4
 refine⟨ao.mk x0 x1 x2 x3 x4,⟨⟨b4,k4⟩,rfl,ao.ok.of o4⟩,?_⟩
 rw[QZ]at q4
 simp only[ao.hold,ao.dep,YtknehchipcogdaaGreatDoor.Rows.uptoBulk,YtknehchipcogdaaGreatDoor.Rows.uptoBulkAll]at *
 omega
def fg.hold(x:fg):Nat:=ao.hold x.ao+1
theorem T3(n:Nat):Opn enc prog w base sp held 65 fg.rp fg.hold n:=by
 intro cs d ps h
 obtain⟨m,ds,rfl,rfl,c0,_,d0,_,p0,rfl,rfl,h0,c1,_,d1,_,p1,rfl,rfl,h1,c2,_,d2,_,p2,rfl,rfl,h2,c3,_,d3,_,p3,rfl,rfl,h3,rfl,rfl⟩:=m8 (fs:=_) underlying65 (by kernel_rfl) h
 obtain⟨x0,rfl,_⟩:=(D3 (by kernel_rfl)) m _ _ _ h0
 obtain⟨x1,rfl,_⟩:=(opn_int (by kernel_rfl)) m _ _ _ h1
 obtain⟨x2,rfl,_⟩:=(opn_int (by kernel_rfl)) m _ _ _ h2
 obtain⟨x3,⟨r3,rfl,o3⟩,q3⟩:=Ot m _ _ _ h3
 refine⟨⟨x0,x1,x2,x3⟩,⟨⟨r3⟩,rfl,⟨o3⟩⟩,?_⟩
 simp only[fg.hold,YtknehchipcogdaaGreatDoor.Rows.uptoBulk,YtknehchipcogdaaGreatDoor.Rows.uptoBulkAll]
 omega
def ay.hold(x:ay):Nat:=szL (λ_=>1) x.dM+szL (λ_=>1) x.aB+szL fg.hold x.cZ+ao.hold x.aS+1
theorem P0(n:Nat):Opn enc prog w base sp held 61 ay.rp ay.hold n:=by
 intro cs d ps h
 obtain⟨m,ds,rfl,rfl,c0,_,d0,_,p0,rfl,rfl,h0,c1,_,d1,_,p1,rfl,rfl,h1,c2,_,d2,_,p2,rfl,rfl,h2,c3,_,d3,_,p3,rfl,rfl,h3,c4,_,d4,_,p4,rfl,rfl,h4,c5,_,d5,_,p5,rfl,rfl,h5,rfl,rfl⟩:=m8 (fs:=_) QU (by kernel_rfl) h
 obtain⟨x0,rfl,_⟩:=(D3 (by kernel_rfl)) m _ _ _ h0
 obtain⟨b1,k1,x1,rfl,o1,q1⟩:=opn_slice QT (by kernel_rfl) (by decide) (λk _=>(D3 (by kernel_rfl)) k) h1
 obtain⟨b2,k2,x2,rfl,o2,q2⟩:=opn_slice QT (by kernel_rfl) (by decide) (λk _=>(D3 (by kernel_rfl)) k) h2
 obtain⟨b3,k3,x3,rfl,o3,q3⟩:=opn_slice Hu (by kernel_rfl) (by decide) (λk _=>T3 k) h3
 obtain⟨x4,⟨r4,rfl,o4⟩,q4⟩:=Ot m _ _ _ h4
 obtain⟨x5,rfl,_⟩:=(opn_int (by kernel_rfl)) m _ _ _ h5
 refine⟨⟨x0,x1,x2,x3,x4,x5⟩,⟨⟨b1,k1,b2,k2,b3,k3,r4⟩,rfl,⟨o1,o2,o3,o4⟩⟩,?_⟩
 simp only[ay.hold,YtknehchipcogdaaGreatDoor.Rows.uptoBulk,YtknehchipcogdaaGreatDoor.Rows.uptoBulkAll]
 omega
def aD.hold(x:aD):Nat:=ay.hold x.ay+1
theorem Oq(n:Nat):Opn enc prog w base sp held 63 aD.rp aD.hold n:=by
 intro cs d ps h
 obtain⟨m,ds,rfl,rfl,c0,_,d0,_,p0,rfl,rfl,h0,c1,_,d1,_,p1,rfl,rfl,h1,c2,_,d2,_,p2,rfl,rfl,h2,c3,_,d3,_,p3,rfl,rfl,h3,rfl,rfl⟩:=m8 (fs:=_) underlying63 (by kernel_rfl) h
 obtain⟨x0,rfl,_⟩:=(opn_int (by kernel_rfl)) m _ _ _ h0
 obtain⟨x1,rfl,_⟩:=(opn_int (by kernel_rfl)) m _ _ _ h1
 obtain⟨x2,rfl,_⟩:=(opn_int (by kernel_rfl)) m _ _ _ h2
 obtain⟨x3,⟨r3,rfl,o3⟩,q3⟩:=P0 m _ _ _ h3
 refine⟨⟨x0,x1,x2,x3⟩,⟨⟨r3⟩,rfl,⟨o3⟩⟩,?_⟩
 simp only[aD.hold,YtknehchipcogdaaGreatDoor.Rows.uptoBulk,YtknehchipcogdaaGreatDoor.Rows.uptoBulkAll]
 omega
def av.hold(x:av):Nat:=szL (λ_=>1) x.ju+szL (λ_=>1) x.fF+szL (λ_=>1) x.e9+1
theorem ML(n:Nat):Opn enc prog w base sp held 54 av.rp av.hold n:=by
 intro cs d ps h
 obtain⟨m,ds,rfl,rfl,c0,_,d0,_,p0,rfl,rfl,h0,c1,_,d1,_,p1,rfl,rfl,h1,c2,_,d2,_,p2,rfl,rfl,h2,c3,_,d3,_,p3,rfl,rfl,h3,c4,_,d4,_,p4,rfl,rfl,h4,c5,_,d5,_,p5,rfl,rfl,h5,c6,_,d6,_,p6,rfl,rfl,h6,c7,_,d7,_,p7,rfl,rfl,h7,c8,_,d8,_,p8,rfl,rfl,h8,c9,_,d9,_,p9,rfl,rfl,h9,rfl,rfl⟩:=m8 (fs:=_) underlying54 (by kernel_rfl) h
 obtain⟨x0,rfl,_⟩:=(opn_int (by kernel_rfl)) m _ _ _ h0
 obtain⟨x1,rfl,_⟩:=(opn_int (by kernel_rfl)) m _ _ _ h1
 obtain⟨x2,rfl,_⟩:=(opn_int (by kernel_rfl)) m _ _ _ h2
 obtain⟨x3,rfl,_⟩:=(opn_int (by kernel_rfl)) m _ _ _ h3
 obtain⟨x4,rfl,_⟩:=(opn_int (by kernel_rfl)) m _ _ _ h4
 obtain⟨x5,rfl,_⟩:=(opn_int (by kernel_rfl)) m _ _ _ h5
 obtain⟨b6,k6,x6,rfl,o6,q6⟩:=opn_slice fa (by kernel_rfl) (by decide) (λk _=>(opn_int (by kernel_rfl)) k) h6
 obtain⟨b7,k7,x7,rfl,o7,q7⟩:=opn_slice fa (by kernel_rfl) (by decide) (λk _=>(opn_int (by kernel_rfl)) k) h7
 obtain⟨b8,k8,x8,rfl,o8,q8⟩:=opn_slice fa (by kernel_rfl) (by decide) (λk _=>(opn_int (by kernel_rfl)) k) h8
 obtain⟨x9,rfl⟩:=Sn underlying52 Ye (by kernel_rfl) (by kernel_rfl) h9
 refine⟨⟨x0,x1,x2,x3,x4,x5,x6,x7,x8,x9⟩,⟨⟨b6,k6,b7,k7,b8,k8⟩,rfl,⟨o6,o7,o8⟩⟩,?_⟩
 simp only[av.hold,YtknehchipcogdaaGreatDoor.Rows.uptoBulk,YtknehchipcogdaaGreatDoor.Rows.uptoBulkAll]
 omega
theorem MM(n:Nat):Opn enc prog w base sp held 67 ai.rp (λ_=>1) n:=by
 intro cs d ps h
 obtain⟨m,ds,rfl,rfl,c0,_,d0,_,p0,rfl,rfl,h0,c1,_,d1,_,p1,rfl,rfl,h1,c2,_,d2,_,p2,rfl,rfl,h2,c3,_,d3,_,p3,rfl,rfl,h3,c4,_,d4,_,p4,rfl,rfl,h4,c5,_,d5,_,p5,rfl,rfl,h5,c6,_,d6,_,p6,rfl,rfl,h6,c7,_,d7,_,p7,rfl,rfl,h7,rfl,rfl⟩:=m8 (fs:=_) Tl (by kernel_rfl) h
 obtain⟨x0,rfl,_⟩:=(opn_int (by kernel_rfl)) m _ _ _ h0
 obtain⟨x1,rfl,_⟩:=(opn_int (by kernel_rfl)) m _ _ _ h1
 obtain⟨x2,rfl,_⟩:=(opn_int (by kernel_rfl)) m _ _ _ h2
 obtain⟨x3,rfl,_⟩:=(opn_int (by kernel_rfl)) m _ _ _ h3
 obtain⟨x4,rfl,_⟩:=(opn_int (by kernel_rfl)) m _ _ _ h4
 obtain⟨x5,rfl,_⟩:=(opn_int (by kernel_rfl)) m _ _ _ h5
 obtain⟨x6,rfl,_⟩:=(opn_int (by kernel_rfl)) m _ _ _ h6
 obtain⟨x7,rfl,_⟩:=(yq (by kernel_rfl)) m _ _ _ h7
 exact⟨⟨x0,x1,x2,x3,x4,x5,x6,x7⟩,rfl,bulk_one _⟩
def Register.hold(x:Register):Nat:=szL (λ_=>1) x.da+szL (λ_=>1) x.eI+szL (λ_=>1) x.dt+szL (λ_=>1) x.df+szL aD.hold x.Versions+szL av.hold x.bV+szL (λ_=>1) x.bO+1
theorem opn_Register(n:Nat):Opn enc prog w base sp held 30 Register.rp Register.hold n:=by
 intro cs d ps h
 obtain⟨m,ds,rfl,rfl,c0,_,d0,_,p0,rfl,rfl,h0,c1,_,d1,_,p1,rfl,rfl,h1,c2,_,d2,_,p2,rfl,rfl,h2,c3,_,d3,_,p3,rfl,rfl,h3,c4,_,d4,_,p4,rfl,rfl,h4,c5,_,d5,_,p5,rfl,rfl,h5,c6,_,d6,_,p6,rfl,rfl,h6,rfl,rfl⟩:=m8 (fs:=_) underlying30 (by kernel_rfl) h
 obtain⟨b0,k0,x0,rfl,o0,q0⟩:=opn_slice underlying22 (by kernel_rfl) (by decide) (λk _=>Ou k) h0
 obtain⟨b1,k1,x1,rfl,o1,q1⟩:=opn_slice Tk (by kernel_rfl) (by decide) (λk _=>P1 k) h1
 obtain⟨b2,k2,x2,rfl,o2,q2⟩:=opn_slice NF (by kernel_rfl) (by decide) (λk _=>MK k) h2
 obtain⟨b3,k3,x3,rfl,o3,q3⟩:=opn_slice Tj (by kernel_rfl) (by decide) (λk _=>P2 k) h3
 obtain⟨b4,k4,x4,rfl,o4,q4⟩:=opn_slice Ht (by kernel_rfl) (by decide) (λk _=>Oq k) h4
 obtain⟨b5,k5,x5,rfl,o5,q5⟩:=opn_slice EU (by kernel_rfl) (by decide) (λk _=>ML k) h5
 obtain⟨b6,k6,x6,rfl,o6,q6⟩:=opn_slice oT (by kernel_rfl) (by decide) (λk _=>MM k) h6
 refine⟨⟨x0,x1,x2,x3,x4,x5,x6⟩,⟨⟨b0,k0,b1,k1,b2,k2,b3,k3,b4,k4,b5,k5,b6,k6⟩,rfl,⟨o0,o1,o2,o3,o4,o5,o6⟩⟩,?_⟩
 simp only[Register.hold,YtknehchipcogdaaGreatDoor.Rows.uptoBulk,YtknehchipcogdaaGreatDoor.Rows.uptoBulkAll]
 omega
theorem opn_Use(n:Nat):Opn enc prog w base sp held 226 Use.rp (λ_=>1) n:=by
 intro cs d ps h
 obtain⟨m,ds,rfl,rfl,c0,_,d0,_,p0,rfl,rfl,h0,c1,_,d1,_,p1,rfl,rfl,h1,c2,_,d2,_,p2,rfl,rfl,h2,c3,_,d3,_,p3,rfl,rfl,h3,c4,_,d4,_,p4,rfl,rfl,h4,rfl,rfl⟩:=m8 (fs:=_) underlying226 (by kernel_rfl) h
 obtain⟨x0,rfl,_⟩:=(opn_int (by kernel_rfl)) m _ _ _ h0
 obtain⟨x1,rfl,_⟩:=(opn_int (by kernel_rfl)) m _ _ _ h1
 obtain⟨x2,rfl,_⟩:=(opn_int (by kernel_rfl)) m _ _ _ h2
 obtain⟨x3,rfl,_⟩:=(opn_int (by kernel_rfl)) m _ _ _ h3
 obtain⟨x4,rfl,_⟩:=(opn_int (by kernel_rfl)) m _ _ _ h4
 exact⟨⟨x0,x1,x2,x3,x4⟩,rfl,bulk_one _⟩
end openings
theorem WD{p:ay}(h:ay.hold p<=1048576):smP p:=by
 unfold ay.hold ao.hold at h
 have h1:=szL_len (f:=λ_:ByteArray=>1) (λ_=>xE _) p.dM
 have h2:=szL_len (f:=λ_:ByteArray=>1) (λ_=>xE _) p.aB
 have h3:=szL_len (f:=fg.hold) (λx=>by unfold fg.hold;omega) p.cZ
 refine⟨by omega,λr hr=>?_,by omega,by omega,by omega⟩
 have h4:=Mh (f:=fg.hold) hr
 unfold fg.hold ao.hold at h4
 have:szL (λx=>fg.hold x) p.cZ=szL fg.hold p.cZ:=rfl
 unfold fg.hold ao.hold at this h
 omega
theorem WC{l:List aD}(h:szL aD.hold l<=1048576):smV l:=by
 have h1:=szL_len (f:=aD.hold) (λx=>by unfold aD.hold;omega) l
 refine⟨by omega,λv hv=>WD ?_⟩
 grind [aD.hold,Mh,ay.hold]
theorem smR_of{r:Register}(h:Register.hold r<=1048576):smR r:=by
 unfold Register.hold at h
 have h1:=szL_len (f:=λ_:aQ=>1) (λ_=>xE _) r.da
 have h2:=szL_len (f:=λ_:bj=>1) (λ_=>xE _) r.eI
 have h3:=szL_len (f:=λ_:aG=>1) (λ_=>xE _) r.dt
 have h4:=szL_len (f:=λ_:Budget=>1) (λ_=>xE _) r.df
 have h5:=szL_len (f:=av.hold) (λx=>by unfold av.hold;omega) r.bV
 have h6:=szL_len (f:=λ_:ai=>1) (λ_=>xE _) r.bO
 exact⟨WC (by omega),by omega,by omega,by omega,by omega,by omega,by omega⟩
end
variable {h:HF}
section
def XH(P:Program)(f:FuncId)(X:Cx)(v:Value)(cs:List Frame)(Φ : Machine->Prop):Prop:=
 X.M=[]/\∀fr w',aAA X.w0.heap.size X.w0 w'->fr.fn=f->fr.leaving P w' (.returned v)->To P Φ (lone fr cs w')
theorem Pt{c:Code}{w:World}(hp:Pre h [] w)(hf:P.funcs[f]? = some fn)(hb:fn.body=some c)(hn:fn.ntmps=n)(dN:Nat.ble args.length n=true)(t:∀X:Cx,X.M=([]:LH).map (·.1)->X.h0=h->TT P (bodyFrame f) n [.code c] (XH P f X v) (envArgs args) [] X h []):Calls P f args.toArray w λe w'=>e=.returned v/\aAA w.heap.size w w':=by
 intro cs
 have dN:=Nat.le_of_ble_eq_true dN
 have henter:qS P f args.toArray .normal=(bodyFrame f).atR { tmps:=args.toArray++YK (n-args.length) undef,defers:=[] } [.code c]:=by
  simp[qS,Frame.atR,hf,hb,hn,bodyFrame]
 obtain⟨m',s,w',fr,rfl,h1,h2,h3⟩:=t ⟨w,h,[]⟩ rfl rfl w (St.start hp) { tmps:=args.toArray++YK (n-args.length) undef,defers:=[] } cs
  (λm=>∃w' fr,m=lone fr cs w'/\aAA w.heap.size w w'/\fr.fn=f/\fr.leaving P w' (.returned v)) (by simp;omega) (qU _ _) rfl
  ⟨rfl,λfr w' hb hfn hl=>.now ⟨w',fr,rfl,hb,hfn,hl⟩⟩
 refine⟨.returned v,w',fr,⟨rfl,h1⟩,?_,h2,h3⟩
 rw[henter];exact s
section ending
variable {P:Program} {f:FuncId} {n:Nat} {k:List Item} {e:Env} {X:Cx} {h:HF} {L:LH} {fn:Func}
theorem pU{rs:List ResultVar}{hh:HF}(vs:List Value)(hf:P.funcs[f]? = some fn)(hr:fn.results=rs.toArray)(_:X.h0=hh)(hv:qj P e L rs vs)(hvv:retVal vs=v):
  TT P (bodyFrame f) n (.code .ret::k) (XH P f X v) e [] X h L:=by
 intro w hw a cs Φ hn he hds hF
 exact .step (stepR_ret rfl) (hF.2 _ w (hw.below hF.1) rfl ⟨rfl,hds,rfl,fn,hf,hvv▸o9 hr hv a he w hw⟩)
end ending
end
variable {sp:Nat->Bool}
section
open Go.Proofs Go.Proofs.Tryz
theorem Sz{w:World}{ps rs:Array TypeId}{vd:Bool}{c:List Value}{b:UInt8}{r:List UInt8}{p:List MemPlace}(hE:P.underlying E=some (.func ps rs vd))(h:DataW.trod (funcToken P) P w 0 sp true m E c=some (.held (b::r),p)):∃f fn,c=[.func (.func f) #[] #[]]/\P.funcs[f]? = some fn/\P.funcNamed fn.name=some f/\fn.name.toUTF8.data.toList=b::r:=by
 cases m with
 |zero=>simp[DataW.trod]at h
 |succ m=>
  unfold DataW.trod at h
  rw[hE]at h
  split at h<;>try (simp_all;done)
  next fn fi ca _ _=>
   simp only[if_true,kP,ZU,DataW.held.injEq]at h
   obtain⟨f,g,e,h1,h2,h3⟩:=funcToken_tells h.1
   exact⟨f,g,by rw[e],h1,h2,h3⟩
theorem VM{k:FuncId}{g:Func}{l:List UInt8}(hg:P.funcNamed g.name=some k)(hl:g.name.toUTF8.data.toList=l)(h2:P.funcNamed fn.name=some f)(h3:fn.name.toUTF8.data.toList=l):f=k:=by
 have:fn.name=g.name:=bytes_inj (h3.trans hl.symm)
 rw[this,hg]at h2
 exact(Option.some.inj h2).symm
theorem Tt{l:List α}{x:α}(h:(l.drop i).take 1=[x]):l[i]? = some x:=by
 have:=congrArg (·[0]?) h
 simpa using this
theorem kinds_of{W:World}(hL:laidMetH prog YtknehchipcogdaaGreatDoor.Rows.missingCameUptoRow.laid W):dM (hOf W):=by
 obtain⟨d, hd⟩ : ∃d, (YtknehchipcogdaaGreatDoor.Rows.laid_signatory_policies_kinds : DataW Unit) = .iface "func table" d := ⟨_, rfl⟩
 obtain⟨g,t,cs,fuel,p,hg,ht,hv,hr⟩:=hL.funcs (d:=d) (by rw[←hd];exact xB ..)
 unfold World.var? at hv
 rw[hg]at hv
 obtain rfl:g=0:=Option.some.inj (hg.symm.trans (by kernel_rfl))
 obtain rfl:t=381:=Option.some.inj (ht.symm.trans (by kernel_rfl))
 obtain⟨xs,m,_,hx,hl,hlen,hf⟩:=DataW.trod_array (n:=5) (e:=293) (by kernel_rfl) hr
 rw[show prog.cellsOf 381=5 by kernel_rfl]at hl
 rw[show prog.cellsOf 293=1 by kernel_rfl]at hf
 unfold YtknehchipcogdaaGreatDoor.Rows.laid_signatory_policies_kinds at hd
 cases hd
 simp only[DataW.funcsOut,DataW.funcsOutAll,ZU]at hx
 match xs,hlen with
 |[x0,x1,x2,x3,x4],_=>
  simp only[kG,xW,beq_self_eq_true,if_true,DataW.agg.injEq,List.cons.injEq,and_true]at hx
  have key:∀(i:Nat)(x:DataW (List UInt8)×List MemPlace)(b:UInt8)(r:List UInt8)(k:FuncId)(fk:Func),i<5->[x0,x1,x2,x3,x4][i]? = some x->DataW.held (b::r)=x.1->prog.funcNamed fk.name=some k->fk.name.toUTF8.data.toList=b::r->cs.toList[i]? = some (.func (.func k) #[] #[]):=by
   intro i x b r k fk hi hxi hb hk hn
   have h0:=hf i hi
   rw[hxi,Nat.mul_one]at h0
   obtain⟨f,fn,e,_,h2,h3⟩:=Sz (P:=prog) (E:=293) underlying293 (h0.trans (show some x=some (DataW.held (b::r),x.2) by rw[hb]))
   obtain rfl:=VM hk hn h2 h3
   exact Tt e
  obtain⟨⟨e0,e1,e2,e3,e4⟩,_⟩:=hx
  have k0:=key 0 x0 _ _ 442 Tryz.f442 (by omega) rfl e0 (by kernel_rfl) (by kernel_rfl)
  have k1:=key 1 x1 _ _ 443 Tryz.f443 (by omega) rfl e1 (by kernel_rfl) (by kernel_rfl)
  have k2:=key 2 x2 _ _ 444 Tryz.f444 (by omega) rfl e2 (by kernel_rfl) (by kernel_rfl)
  have k3:=key 3 x3 _ _ 445 Tryz.f445 (by omega) rfl e3 (by kernel_rfl) (by kernel_rfl)
  have k4:=key 4 x4 _ _ 446 Tryz.f446 (by omega) rfl e4 (by kernel_rfl) (by kernel_rfl)
  have hcs:cs=kindsC.toArray:=by
   apply Array.toList_inj.1
   apply Zg
   intro i
   match i with
   |0=>exact k0
   |1=>exact k1
   |2=>exact k2
   |3=>exact k3
   |4=>exact k4
   |i+5=>rw[List.getElem?_eq_none (by omega)];rfl
  simp only[Option.bind_some]at hv
  split at hv
  .next c T fz e=>
   cases hv
   exact⟨T,fz,by rw[←hcs];exact e⟩
  .cases hv
end
section
open Go.ChangeShapes Go.WideShapes Go.RowKit
variable {H:Type} {enc:TypeId×Value->H} {P:Program}
theorem post_below{f:Func}{s:ChangeSpec}{apart fresh handsOn again:Bool}{W W':World}{args:Array Value}{ds gs:List (DataW H)}{before pa pv:List MemPlace}(hW:DataW.Whole enc P f.params.toList s.vars apart W args.toList ds gs before)(hres:∀(b:Nat)(sp:Nat->Bool)(hd:Bool),DataW.TrodAll enc P W' b sp hd f.resultTypes.toList (v.resultList f.resultTypes.size) (s.fn H (ds++gs)).results [])(hargs:∀sp:Nat->Bool,(∀p∈before,sp p.block=true)->DataW.TrodAll enc P W' 0 sp true f.params.toList args.toList (s.fn H (ds++gs)).args pa)(hvars:∀sp:Nat->Bool,(∀p∈before,sp p.block=true)->DataW.TrodVars enc P W' sp s.vars (s.fn H (ds++gs)).vars pv)(hps:before=pa++pv)(hb:Below W.heap.size W W')(hok:∀(j:Nat)(t:TypeId)(r:Value),f.resultTypes[j]? = some t->(v.resultList f.resultTypes.size)[j]? = some r->Value.okWide P W' .any 0 t r):
  s.post enc P f apart fresh handsOn again W args v W':=by
 have hlt:=hW.lt
 have hold:∀p∈before,(λb=>decide (b<W.heap.size)) p.block=true:=λp hp=>by simpa using hlt p hp
 refine⟨ds,gs,before,[],pa,pv,hW,hres _ _ _,hargs _ hold,hvars _ hold,World.keptBut_mono (λp hp=>⟨hp,?_⟩) (hb.frame (·∈before)),λ_=>?_⟩
 .rw[hps,kF]at hp
  exact Or.inr hp
 .obtain⟨_,_,_,_,_,hz,hn⟩:=hW
  refine⟨hok,_,_,([]++pa)++pv,⟨[]++pa,pv,trodAll_append (hargs _ (λ_ _=>rfl)) (hres _ _ _),hvars _ (λ_ _=>rfl),rfl,?_,?_⟩,?_⟩
  .intro b off hp
   have hp':MemPlace.cell b off∈before:=by rw[hps];simpa using hp
   rw[hb.frozen (p:=⟨b,off,none⟩) (hlt _ hp')]
   exact hz b off hp'
  .intro ha
   have:=hn ha
   rw[hps]at this
   simpa using this
  .intro p hp _
   rw[hps]
   simpa using hp
theorem stays{t:TypeId}(hl:laidOutB P=true)(hr:P.readableRec t=true)(hrow:decide (t<P.types.size)=true){W W':World}{d:DataW H}{before:List MemPlace}(h:DataW.Trod enc P W 0 (λ_=>true) true t v d ps)(hb:Below W.heap.size W W')(hlt:∀x∈before,x.block<W.heap.size)(hm:∀x∈ps,x∈before)(hsp:∀p∈before,sp p.block=true):DataW.Trod enc P W' 0 sp true t v d ps:=
 WideElems.Trod_stays hl hr (of_decide_eq_true hrow) h (λx hx=>hb.same (hlt x (hm x hx))) (λx hx=>hsp _ (hm x hx))
end
section
def agB(ops:Array Oper)(o:Oper)(t:Nat):Bool:=ops.toList.all λo'=>(o'.dst != some t)||(zD ops.size).all λi=>match ops[i]? with
 |some oi=>(oi.dst != o.dst)||o'.after.toList.any λed=>Region.binds .any ed&&ed.on==i
 |none=>true
theorem AgE.at_{o:Oper}(h:AgE ops o e e')(t:Nat)(hb:agB ops o t=true:=by rfl):e' t=e t:=by
 refine h t λo' ho' hd i hi=>?_
 have h1:=zP.1 hb o' (by simpa using ho')
 simp only[hd,bne_self_eq_false,Bool.false_or]at h1
 have h2:=zP.1 h1 i (Zb.2 (Array.getElem?_eq_some_iff.1 hi).1)
 simp only[hi,bne_self_eq_false,Bool.false_or,List.any_eq_true,zB,beq_iff_eq]at h2
 obtain⟨ed,h3,h4,h5⟩:=h2
 exact⟨ed,by simpa using h3,h4,h5⟩
end
section
theorem dC.rep{α : Type}{R:Rp α}{h:HF}{z:Value}{x:α}(h1:R.sz=1)(hr:R.rep h [z] x):∀m,dC R h (List.replicate m z) (List.replicate m x)
 |0=>rfl
 |m+1=>⟨[z],List.replicate m z,by simp[List.replicate_succ],h1.symm▸rfl,hr,dC.rep h1 hr m⟩
section
variable {P:Program} {b:Frame} {n:Nat} {ops:Array Oper} {F:List Frame->(Machine->Prop)->Prop} {e:Env} {ds:List Deferred} {X:Cx} {h:HF} {L:LH} {K:Env->HF->LH->Prop}
variable {d:Option Nat} {ty:TypeId} {pos:String} {af:Array Edge} {g:Option (Nat×Bool)}
theorem HX{x0:α}(LL:LH->LH){t:TypeId}{ln cp:Operand}{uy:Nat}{z:Value}(h1:R.sz=1)(hr:R.rep h [z] x0)(hLL:∀G,L++G=LL G)(hT:P.underlying t=some (.slice E))(hz:zeroC P E=some [z])(hS:tySz P E=some (1,a))(hby:bytesOf P E=some uy)(hl:e.ev ln=.int .i64 (m:Nat))(hc:e.ev cp=.int .i64 (m:Nat))(hb:uy*m<=281474976710656)(h63:m<=9223372036854775807)(t':∀bk G,cI R E h (List.replicate m x0) (some ⟨bk,0,none⟩) m G->K (pute e d (.slice (some ⟨bk,0,none⟩) (List.replicate m x0).length m)) h (LL G))(hg:guardB ops e ⟨d,.makeSlice t ln cp,ty,pos,af,g⟩=true:=by rfl):Stp P b n ops F ds X ⟨d,.makeSlice t ln cp,ty,pos,af,g⟩ e h L K:=
 gZ hg λw hw=>by
  obtain⟨i,hi,hby'⟩:∃i,P.info? E=some i/\i.bytes=uy:=by
   unfold bytesOf at hby
   cases hi:P.info? E with
   |none=>simp[hi]at hby
   |some i=>exact⟨i,rfl,by simpa[hi]using hby⟩
  have hsz:i.size=1:=by
   have:=eW hS w
   simpa[sizeOf,typeInfo,hi]using this
  obtain⟨zv,hzz,hzc⟩:∃zv,i.zero=some zv/\zv.cells=#[z]:=by
   unfold zeroC at hz
   cases hzz:i.zero with
   |none=>simp[hi,hzz]at hz
   |some zv=>exact⟨zv,rfl,by simp[hi,hzz]at hz;rw[mR,hz]⟩
  have hr':=run_make (P:=P) w t E i zv hT hi hzz .i64 .i64 (m:Int) (m:Int) (by omega) (Int.le_refl _) (by rw[hby'];omega) (by omega)
  have hcells:madeCells zv.cells ((m:Int).toNat*i.size)=(List.replicate m z).toArray:=by
   rw[hzc,hsz]
   apply Array.ext
   .simp[madeCells]
   .intro j h1 h2;simp[madeCells,Nat.mod_one]
  rw[hcells]at hr'
  simp only[Int.toNat_natCast]at hr'
  have hG:cI R E h (List.replicate m x0) (some ⟨w.heap.size,0,none⟩) m [(w.heap.size,.cells (List.replicate m z).toArray E (0,0))]:=cI.lit (dC.rep h1 hr m) (by simp) (by simp;omega)
  have ht:=t' w.heap.size _ hG
  rw[←hLL,show(List.replicate m x0).length=m from List.length_replicate]at ht
  refine⟨_,_,h,_,?_,(hw.alloc (.cells (List.replicate m z).toArray E (0,0))).perm (jF (l₁:=[_])),ht⟩
  have e1:w.alloc (.cells (List.replicate m z).toArray E)={ w with heap:=w.heap.push (.cells (List.replicate m z).toArray E (0,0)) }:=rfl
  rw[e1]at hr'
  simp[execOp,hl,hc,hr']
end
theorem RJ{N:Nat}(h:i<N)(hb:N<=9223372036854775807):jC .i64 (IntKind.i64.wrap ((((N-i:Nat):Int)-1)-1))=.int .i64 (((N-(i+1):Nat):Int)-1):=by
 rw[kW (by omega)]
 congr 1;omega
section
variable {P:Program} {b:Frame} {n:Nat} {k:List Item} {F:List Frame->(Machine->Prop)->Prop} {e:Env} {ds:List Deferred} {X:Cx} {h:HF} {L:LH}
theorem lp4{c:Code}(xs:List α)(sl:Nat->γ->List (Nat×Value))(hh:γ->HF)(LL:γ->LH)(J JX:Nat->γ->Prop)(hJX:∀i g,i=xs.length->J i g->JX i g)(Lf:List α->Nat->γ->ρ)(g0:γ)(hb:xs.length<=9223372036854775807)(hs:x0=Lf xs 0 g0)(hJ:J 0 g0)(after:∀i g,i<=xs.length->x0=Lf [] i g->JX i g->∀e',TT P b n k F (upds e' (sl i g)) ds X (hh g) (LL g))(cons:∀i g y r,xs.drop i=y::r->decide ((i:Int)<(xs.length:Int))=true->xs[i]? = some y->i<xs.length->xs.length<=9223372036854775807->x0=Lf (y::r) i g->J i g ->
   (∀i' g' {e'},x0=Lf [] i' g'->JX i' g'->(hi:i'<=xs.length:=by omega)->(hr:fy e' (sl i' g'):=by exact rds)->TT P b n k F e' ds X (hh g') (LL g')) ->
   (∀g' {e'},x0=Lf r (i+1) g'->J (i+1) g'->(hr:fy e' (sl (i+1) g'):=by exact rds)->TT P b n (.inLoop c::.inBlock id::k) F e' ds X (hh g') (LL g')) ->
   ∀e',TT P b n (.code c::.inLoop c::.inBlock id::k) F (upds e' (sl i g)) ds X (hh g) (LL g))(nil:∀i g,xs.drop i=[]->decide ((i:Int)<(xs.length:Int))=false->(∀e',fy e' (sl i g)->TT P b n k F e' ds X (hh g) (LL g)) ->
   ∀e',TT P b n (.code c::.inLoop c::.inBlock id::k) F (upds e' (sl i g)) ds X (hh g) (LL g):=by exact ndA)(h0:fy e (sl 0 g0):=by exact rds)(hw:∀w,St X h L w->St X (hh g0) (LL g0) w:=by exact sws):
  TT P b n (.code (.block id (.loop c))::k) F e ds X h L:=by
 refine fZ (ι:=Nat×γ) (λi=>sl i.1 i.2) (λi=>hh i.2) (λi=>LL i.2) (λi=>i.1<=xs.length/\x0=Lf [] i.1 i.2/\JX i.1 i.2) ?_ (λhx=>?_)
 .rintro⟨i,g⟩ ⟨h1,h2,h3⟩ e'
  exact after i g h1 h2 h3 e'
 .refine i9 (ι:=Nat×γ×List α) (λi=>sl i.1 i.2.1) (λi=>hh i.2.1) (λi=>LL i.2.1) (λi=>xs.drop i.1=i.2.2/\i.1<=xs.length/\x0=Lf i.2.2 i.1 i.2.1/\J i.1 i.2.1) (λi=>i.2.2.length) (0,g0,xs) h0 hw ⟨rfl,jH _,hs,hJ⟩ ?_
  rintro⟨i,g,s⟩ ⟨hd,hi,hs,hJ⟩ ag e'
  dsimp only at hd hi hs hJ
  rcases s with _|⟨y,r⟩
  .exact nil i g hd (oW hd) (λe'' hr=>hx (i,g) e'' ⟨hi,hs,hJX _ _ (Nat.le_antisymm hi (by rcases zK i xs.length with q|q;(rw[List.drop_eq_getElem_cons q]at hd;cases hd);exact q)) hJ⟩ hr) e'
  .exact cons i g y r hd (wp hd) (ui hd) (iy hd) hb hs hJ (λi' g' e'' a b c d=>hx (i',g') e'' ⟨c,a,b⟩ d)
    (λg' e'' a b hr=>ag (i+1,g',r) e'' (Nat.lt_succ_self _) ⟨ll hd,iy hd,a,b⟩ hr) e'
end
end
end Go.Sg
