import Derived.KernelRfl
import Derived.Test.YtafbfagbjekhhaaGreatDoorProg
import Derived.ChangeArms
import Derived.OpenShut
import Derived.Test.YtafbfagbjekhhaaGreatDoorRows
import Derived.LaidHandle
import Derived.WordedOn
import Derived.ChangeSame
import Derived.Carry
import Derived.Test.YtafbfagbjekhhaaGreatDoorL3
/- A part of the proof of MissingLeast. -/
set_option linter.unusedVariables false
set_option linter.unusedSimpArgs false
set_option maxRecDepth 100000
open List renaming length_cons→zA,length_append→jA,not_mem_nil→kA,length_nil→zB,toArray→xB,mem_cons_self→vB,mem_cons_of_mem→xC,mem_singleton→jC,range→vD,mem_cons→kD,append_assoc→jE,nil_append→vF,map_cons→kG,mem_append→qH,mem_map→qJ,cons_append→xL,all_eq_true→jM,map_append→Wx,map_nil→WI,mem_filter→WM,mem_range→WX,foldl_cons→WZ,ext_getElem?→Xj
open Bool renaming and_eq_true→qC,or_eq_true→zE,not_eq_true'→xF,eq_iff_iff→zM
open Go.Value renaming int→zC,bool→vV
open Nat renaming le_refl→kE,zero_le→zH,blt→zJ,le_trans→kL,eq_of_beq_eq_true→qM,lt_or_ge→kM,beq→jW
open Go.Sg.OSeat renaming cells→qF,enc→qV,mk→xV
open Go.Obj renaming cells→jG
open Option.some renaming injEq→zP
open Go.Addr renaming add→zQ
open Go.Frame renaming enter→kR
open Go.Sg.Lack renaming mk→vT
open Array renaming replicate→WL
open Go.Sg.Budget renaming mk→Xo
open Prod.mk renaming injEq→XT
open List.cons renaming injEq→XW
open Go.RowKit renaming Below→Yy

namespace Go.Sg
variable {aV ah:Int}{c:bU}{m n:Nat}{p:Prop}{signed w:List Int}{u:List Use}{α ρ:Type}{y:α}
section
theorem Hg{B:Int->Bool}{k:Bool}{L:List Int}(hB:∀y∈L,B y=false)(hL:L.Pairwise (·<·))(hk:k=true):∀(l pre:List Int),L=pre++l->refLs B L k l pre.length=true
 |[],_,_=>hk
 |y::l,pre,h=>by
  have hlast:(decide (0<(pre.length:Int))&&decide (y<=nthI L ((pre.length:Int)-1)))=false:=by
   rcases List.eq_nil_or_concat pre with rfl|⟨a,x,e⟩
   .rfl
   .rw[List.concat_eq_append]at e
    subst e
    have hx:nthI L (((a++[x]).length:Int)-1)=x:=by
     rw[show(((a++[x]).length:Int)-1)=(a.length:Int)from by simp]
     exact ou (by rw[h];simp)
    grind
  have ih:=Hg hB hL hk l (pre++[y]) (by rw[h];simp)
  rw[jA,zA,zB,Nat.zero_add]at ih
  have hy:y∈L:=by rw[h];simp
  simp only[refLs,hB y hy,hlast,Bool.or_self,cond_false]
  exact ih
theorem CA{l:List Int}{dL:Int}(h:((∀x∈l,0<=x/\x<dL)/\l.Pairwise (·<·))/\l.length<=16):gu l dL=true:=by
 have e:∀(L l:List Int)i,gu.L1 L dL (gu.K1 L) l i=refLs (λy=>decide (y<0)||decide (dL<=y)) L (gu.K1 L) l i:=by
  intro L l
  induction l with
  |nil=>intro i;rfl
  |cons y l ih=>intro i;simp only[gu.L1,refLs,ih]
 unfold gu
 rw[e]
 refine Hg (λy hy=>?_) h.1.2 ?_ l [] rfl
 all_goals grind [gu.K1,Bool.or_eq_false_iff,decide_eq_false_iff_not]
theorem Kz(no:Int):∀(l:List ao)(i:Nat),(l.any λd=>d.No==no)=true->0<=gQ.L1 no gQ.K1 l i
 |[],i,h=>by cases h
 |y::l,i,h=>by
  simp only[gQ.L1,Bool.cond_eq_ite]
  split
  .omega
  .next hc=>
   rw[List.any_cons,Bool.eq_false_iff.2 hc,Bool.false_or]at h
   exact Kz no l (i+1) h
theorem GN(L:List ao):∀nos:List Int,(∀x∈nos,(L.any λd=>d.No==x)=true)->gr.L1 L gr.K1 nos=true
 |[],_=>rfl
 |y::nos,h=>by
  have h1:=Kz y L 0 (h y (vB ..))
  have:decide (gQ L y<0)=false:=by unfold gQ;simp;omega
  simp only[gr.L1,this,cond_false]
  exact GN L nos λx hx=>h x (xC _ hx)
theorem SK{L:List ao}{d:ao}(h:kt (aJ L) d=true):gr L d.fe=true/\gr L d.fp=true:=by
 have hs:=(Dk L L 0 []).2
 have key:∀nos:List Int,eF nos (λel=>iU el (aJ L))=false->gr L nos=true:=by
  intro nos hn
  rw[containsF,List.any_eq_false]at hn
  refine GN L nos λx hx=>?_
  have h1:=hn x hx
  unfold iU at h1
  have e:mhas (aJ L).at_ x=(mhas [] x||L.any λd=>d.No==x):=hs x
  rw[e]at h1
  simpa[mhas,mget?]using h1
 unfold kt at h
 grind
theorem IJ{l:List ao}(h:aZ l=0):et l=0:=by
 have L:∀(L l:List ao)(i:Nat),aZ.L1 L aZ.K1 l i=0->et.L1 L et.K1 l i=0:=by
  intro L l
  induction l with
  |nil=>intros;rfl
  |cons y l ih=>
   intro i h
   simp only[aZ.L1,Bool.cond_eq_ite]at h
   split at h
   .omega
   .next hc=>
    simp only[zE,not_or,xF,Bool.not_eq_false,Bool.not_eq_true]at hc
    obtain⟨⟨c1,c2⟩,c3⟩:=hc
    obtain⟨t1,t2⟩:=SK c3
    have hR:na y=true:=by
     simp only[mB,qC,decide_eq_true_eq,jt]at c1
     obtain⟨⟨⟨⟨⟨⟨⟨⟨⟨⟨⟨⟨p1,p2⟩,p3⟩,p4⟩,p5⟩,p6⟩,p7⟩,p8⟩,p9⟩,p10⟩,p11⟩,p12⟩,p13⟩:=c1
     unfold na
     rw[Bool.cond_eq_ite,if_neg]
     .rw[CA ((Gs _ _).1 p11),CA ((Gs _ _).1 p12),CA ((Gs _ _).1 p13)]
      grind
     .simp only[o9,zE,decide_eq_true_eq,xF,Bool.and_eq_false_iff,decide_eq_false_iff_not,not_or]
      omega
    simp only[et.L1,hR,c2,t1,t2,Bool.not_true,Bool.or_false,Bool.or_self,cond_false]
    exact ih (i+1) h
 grind [aZ,et]
theorem judge30{r:Register}(hs:smR r):dM r=0↔nJ r=0:=by
 constructor
 .intro h
  obtain⟨d1,d2,d3,d4,d5,d6,d7⟩:=(lF r).1 h
  simp only[nJ,(Fj r.dF).symm.trans d1,(Ec r.ga).symm.trans d2,(Cf r.er).symm.trans d3,(Bj r.dH).symm.trans d4,JD hs.vers d5,IJ d6,(Cn r.dC).symm.trans d7]
  rfl
 .intro h
  obtain⟨c1,c2,c3,c4,c5,c6,c7⟩:=N0 h
  exact(lF r).2 ⟨(Fj r.dF).trans c1,(Ec _).trans c2,(Cf r.er).trans c3,(Bj _).trans c4,N3 hs.vers c5,Jz c6,(Cn _).trans c7⟩
def sKey(y:aG):dZ:=dZ.mk y.cM y.iH y.Of
def sCnt(t ah:Int)(y:aG):Prop:=y.At<=t/\y.dY<=ah
def sOver(z w:aG):Prop:=z.At<w.At\/(w.At=z.At/\z.No<w.No)
structure Wr(t ah:Int)(pre:List aG)(m:List (dZ×aG)):Prop where
 some:∀k z,mget? m k=some z->z∈pre/\sKey z=k/\sCnt t ah z/\∀w∈pre,sKey w=k->sCnt t ah w->¬sOver z w
 none:∀k,mget? m k=none->∀w∈pre,sKey w=k->¬sCnt t ah w
structure ChL(l:List Int):Prop where
 inc:l.Pairwise (·<·)
 zero:∃l',l=0::l'
 tm:∀x∈l,0<=x/\x<1099511627776
theorem QF(l:List ao){d:ao}(hd:d∈l):mhas (aJ l).at_ d.No=true:=by
 have:=(Dk l l 0 []).2 d.No
 show mhas (aJ.L1 (aJ.K1 l) l 0 []).at_ d.No=true
 grind
theorem KB{t:Int}(h:0<=t/\t<1099511627776):jt t=true:=by
 simp only[jt,qC,decide_eq_true_eq];exact h
theorem Fq{l:List ao}{t:Int}(hc:aZ l=0)(hs:cD l signed=true)(ht:0<=t/\t<1099511627776):(bD l signed t).2=0:=by
 unfold bD
 rw[hc,hs,KB ht]
 simp only[bne_self_eq_false,cond_false,Bool.not_true,Bool.or_false]
 have:∀(s:List ao)(i:Nat)(g:List Int),(bD.L1 l signed t bD.K1 s i g).2=0:=by
  intro s
  induction s with
  |nil=>intro i g;rfl
  |cons y s ih=>intro i g;simp only[bD.L1,Bool.cond_eq_ite];split<;>exact ih _ _
 exact this _ _ _
theorem Tx{l:List ao}{t:Int}{d:ao}(hc:aZ l=0)(hs:cD l signed=true)(ht:0<=t/\t<1099511627776)(hd:d∈l):(gZ l signed d.No t).2.2=0:=by grind [gZ,KB,yz,QF]
theorem Uc{l:List ao}{f:ao->Bool}{d:ao}(hd:d∈l)(hf:f d=true):0<=ai l f/\ai l f<(l.length:Int):=by grind [ai,jA,zA,H9]
theorem R1{l:List ao}(h:cD l signed=true):signed.length=l.length:=by
 simp only[cD,qC,beq_iff_eq]at h
 have:=h.1
 omega
section
variable {c:bU} (h:jw c)
include h
theorem jw.docs:aZ c.Register.cd=0:=((lF _).1 h.chk).2.2.2.2.2.1
theorem JA(hs:cD c.Register.cd signed=true):(bD c.Register.cd signed c.at_).2=0:=Fq h.docs hs h.time
theorem Q7{d:ao}(hs:cD c.Register.cd signed=true)(hd:d∈c.Register.cd):(gZ c.Register.cd signed d.No c.at_).2.2=0:=Tx h.docs hs h.time hd
theorem KC(hs:cD c.Register.cd signed=true):0<=ai c.Register.cd (λel=>cA el c)/\ai c.Register.cd (λel=>cA el c)<(signed.length:Int):=by
 rw[R1 hs]
 exact Uc h.aV (by simp[cA])
end
theorem Iq_:∀(xs out:List Int),out.Pairwise (·<·)->(∀a∈out,∀y∈xs,a<=y)->xs.Pairwise (·<=·) ->
  (xs.foldl compStep out).Pairwise (·<·)/\∀z,z∈xs.foldl compStep out↔z∈out\/z∈xs
 |[],out,h1,_,_=>⟨h1,λz=>by simp⟩
 |x::xs,out,h1,h2,h3=>by
  rw[List.pairwise_cons]at h3
  simp only[WZ]
  by_cases hx:out.getLast? = some x
  .have e:compStep out x=out:=by simp[compStep,hx]
   rw[e]
   obtain⟨a,b⟩:=Iq_ xs out h1 (λa ha y hy=>h2 a ha y (xC _ hy)) h3.2
   grind
  .have e:compStep out x=out++[x]:=by simp[compStep,hx]
   rw[e]
   have hlt:∀a∈out,a<x:=by
    intro a ha
    have de:=h2 a ha x (vB ..)
    rcases Int.lt_or_eq_of_le de with h|h
    .exact h
    .exfalso
     subst h
     obtain⟨pre,post,hp⟩:=List.append_of_mem ha
     cases post with
     |nil=>exact hx (by rw[hp];simp)
     |cons p post=>
      rw[hp,List.pairwise_append]at h1
      have h4:=(List.pairwise_cons.1 h1.2.1).1 p (vB ..)
      have h5:=h2 p (by rw[hp];simp) a (vB ..)
      omega
   obtain⟨a,b⟩:=Iq_ xs (out++[x]) (by
     rw[List.pairwise_append]
     exact⟨h1,List.pairwise_singleton _ _,λa ha y hy=>by rw[jC.1 hy];exact hlt a ha⟩) (λa ha y hy=>by
     rcases qH.1 ha with ha|ha
     .grind
     .rw[jC.1 ha];exact h3.1 y hy) h3.2
   grind
def setI(xs:List Int):List Int:=compI (sortI xs)
theorem TR(xs:List Int):(setI xs).Pairwise (·<·)/\∀z,z∈setI xs↔z∈xs:=by
 obtain⟨a,b⟩:=Iq_ (sortI xs) [] List.Pairwise.nil (λ_ h=>(kA h).elim) (pm xs)
 refine⟨a,λz=>(b z).trans ?_⟩
 rw[(nS xs).mem_iff]
 simp
theorem SF{l:List ao}{f:ao->Bool}(h:0<=ai l f):∃a y b,l=a++y::b/\nthI l (ai l f)=y/\f y=true/\∀x∈a,f x=false:=by
 unfold ai at h ⊢
 rcases H9 f l 0 with⟨h1,_⟩|⟨a,y,b,h1,h2,h3,h4⟩
 .omega
 .refine⟨a,y,b,h1,?_,h3,h4⟩
  rw[h2,Nat.zero_add]
  exact ou (by rw[h1];simp)
theorem Gr{r:Register}{t:Int}(hc:dM r=0)(h:n0 r aV t ah=.ok c):
  c=⟨r,c.aV,t,ah⟩/\jw c/\c.aV.No=aV/\∃a b,r.cd=a++c.aV::b/\∀x∈a,x.No≠aV:=by
 unfold n0 at h
 rw[Bool.cond_eq_ite]at h
 split at h
 .cases h
 .next hn=>
  simp only[zE,not_or,decide_eq_true_eq]at hn
  obtain⟨⟨h1,h2⟩,h3⟩:=hn
  cases h
  obtain⟨a,y,b,e1,e2,e3,e4⟩:=SF (by omega:0<=ai r.cd (λel=>bI el aV))
  rw[e2]
  refine⟨rfl,⟨hc,by rw[e1];simp,?_,?_⟩,?_,a,b,e1,λx hx=>?_⟩
  .show 0<=t/\t<1099511627776;omega
  .grind
  .simpa[bI]using e3
  .simpa[bI]using e4 x hx
theorem Ny(f:aE->Bool):∀(l:List aE)(i:Nat),(bx.L1 f bx.K1 l i=-1/\∀x∈l,f x=false) \/
  ∃a y b,l=a++y::b/\bx.L1 f bx.K1 l i=((i+a.length:Nat):Int)/\f y=true/\∀x∈a,f x=false
 |[],i=>.inl ⟨rfl,λ_ h=>(kA h).elim⟩
 |y::l,i=>by
  simp only[bx.L1]
  cases hy:f y with
  |true=>exact .inr ⟨[],y,l,rfl,by simp,hy,λ_ h=>(kA h).elim⟩
  |false=>
   rcases Ny f l (i+1)with⟨h1,h2⟩|⟨a,z,b,rfl,h2,h3,h4⟩
   all_goals grind
theorem yy(c:bU)(no:Int):(fX c no=.error 1/\∀v∈c.Register.Versions,v.No≠no)\/∃a v b,c.Register.Versions=a++v::b/\fX c no=.ok v.aw/\v.No=no/\∀x∈a,x.No≠no:=by
 unfold fX bx
 rcases Ny (λel=>eW el no) c.Register.Versions 0 with⟨h1,h2⟩|⟨a,v,b,h1,h2,h3,h4⟩
 .left
  rw[h1]
  exact⟨rfl,λv hv=>by simpa[eW]using h2 v hv⟩
 .right
  refine⟨a,v,b,h1,?_,by simpa[eW]using h3,λx hx=>by simpa[eW]using h4 x hx⟩
  rw[h2,show decide (((0+a.length:Nat):Int)<0)=false from decide_eq_false (by omega),cond_false,Nat.zero_add,ou (x:=v) (by rw[h1];simp)]
theorem QQ{no:Int}{p:aw}(h:fX c no=.ok p):∃v∈c.Register.Versions,v.No=no/\v.aw=p:=by grind [yy]
theorem Lh{no:Int}(h:∃v∈c.Register.Versions,v.No=no):exOk (fX c no):=by
 obtain⟨v,hv,hn⟩:=h
 rcases yy c no with⟨_,h2⟩|⟨_,_,_,_,h2,_⟩
 .exact absurd hn (h2 v hv)
 .rw[h2];trivial
structure Tp(p:aw):Prop where
 sm:smP p
 off:p.aA.length<=32
 rules:p.dp.length=p.dN.length/\∀y∈p.dp,0<=y.iV/\y.iV<=1099511627775
theorem us(h:jw c)(hs:smR c.Register){no:Int}{p:aw}(hp:fX c no=.ok p):Tp p:=by
 obtain⟨v,hv,_,rfl⟩:=QQ hp
 have hg:=(h.vers.each v hv).2.2.2
 exact⟨hs.1.2 v hv,(BC hg).2.1,(BC hg).1,(IS hg).2.2⟩
theorem S7[Inhabited ρ]{x:Except Int ρ}{p:ρ}(h:x=.ok p):exD x=p:=by subst h;rfl
theorem Rc(l:List ay)(aV bq ah:Int):(fZ l aV bq ah).length<=l.length:=by
 show(cf.L1 aV bq ah cf.K1 l).length<=l.length
 induction l with
 |nil=>exact kE _
 |cons y l ih=>simp only[cf.L1,Bool.cond_eq_ite];split<;>simp only[zA]<;>omega
theorem Q9(l:List ay)(aV bq ah:Int):(aN l aV bq ah).length<=l.length:=by
 have h2:∀(g:List (fL×ay))(s acc:List ay),(aN.L2 g aN.K2 s acc).length<=acc.length+s.length:=by
  intro g s
  induction s with
  |nil=>intro acc;exact kE _
  |cons y s ih=>
   intro acc
   simp only[aN.L2,Bool.cond_eq_ite]
   grind
 have h1:∀(s:List ay)(g:List (fL×ay)),(aN.L1 (aN.K1 l aV bq ah) s g).length<=l.length:=by
  intro s
  induction s with
  |nil=>
   intro g
   have h3:=h2 g (fZ l aV bq ah) []
   have h4:=Rc l aV bq ah
   show(aN.L2 g aN.K2 (fZ l aV bq ah) []).length<=l.length
   simp only[zB]at h3;omega
  |cons y s ih=>intro g;simp only[aN.L1,Bool.cond_eq_ite];split<;>exact ih _
 exact h1 _ _
theorem yM(l:List ay)(d b th t k:Int):(db l d b th t k).1.length<=l.length:=by
 unfold db
 simp only[Bool.cond_eq_ite]
 split
 .exact zH _
 .split
  .exact zH _
  .exact kL (List.length_filter_le _ _) (Q9 _ _ _ _)
def goodA(c:bU)(y:ay):Bool:=(((eQ c.Register.dF y.eD y.For c.at_ c.ah).2.2.1&&(aP c.Register.ga y.For y.By y.eD c.aV.Kind c.aV.Value c.at_ c.ah).2.1)&&(!(j4 c y.For)))&&(!(j4 c y.By))
theorem P5(c:bU):∀l:List ay,cR.L1 c cR.K1 l=l.filter (goodA c)
 |[]=>rfl
 |y::l=>by
  simp only[cR.L1,List.filter_cons,P5 c l,Bool.cond_eq_ite]
  rfl
theorem LD(c:bU)(p:aw):hY c p=bif decide ((p.dN.length:Int)<=c.aV.Kind)then[]else((db c.Register.dC c.aV.No c.aV.At ((nthI p.dp c.aV.Kind).iV) c.at_ c.ah).1).filter (goodA c):=by
 show cR c p=_
 unfold cR
 rw[P5]
theorem Ki(c:bU)(p:aw):dj c p=setI ((hY c p).map (·.For)):=by
 have:∀(s:List ay)(g:List Int),dj.L1 dj.K1 s g=setI (g++s.map (·.For)):=by
  intro s
  induction s with
  |nil=>intro g;simp[dj.L1,dj.K1,setI,slices_Compact_int]
  |cons y s ih=>intro g;simp only[dj.L1,ih,kG,jE,xL,vF]
 have h:=this (hY c p) []
 rw[vF]at h
 exact h
theorem IQ:∀(xs out:List Int),(xs.foldl compStep out).length<=out.length+xs.length
 |[],out=>kE _
 |x::xs,out=>by
  simp only[WZ,zA]
  have h1:=IQ xs (compStep out x)
  grind [compStep]
theorem SL(hs:smR c.Register)(p:aw):(hY c p).length<=2000000:=by
 rw[LD,Bool.cond_eq_ite]
 have h3:=hs.2.2.2.2.2.2
 grind [yM]
theorem HM(hs:smR c.Register)(p:aw):(dj c p).length<=2000000:=by
 rw[Ki]
 have h1:=IQ (sortI ((hY c p).map (·.For))) []
 rw[iW,List.length_map]at h1
 have h2:(hY c p).length<=c.Register.dC.length:=by
  grind [LD,yM]
 have h3:=hs.2.2.2.2.2.2
 show(compI _).length<=_
 grind [compI,zB]
theorem K5(u:List Use)(v t k:Int):∀s:List Budget,(bM.L1 u v t k bM.K1 s).2.2=0
 |[]=>rfl
 |y::s=>by
  simp only[bM.L1]
  have:∀(l:List Int)(a b:Int),(bM.L3 (λzg3_b6_0 zg3_b5_0=>(bif(decide (y.Count<zg3_b5_0)||decide (y.Value<zg3_b6_0))then(y.No,false,0)else(bM.L1 u v t k bM.K1 s))) l a b).2.2=0:=by
   intro l
   induction l with
   |nil=>intro a b;simp only[bM.L3,Bool.cond_eq_ite];split;rfl;exact K5 u v t k s
   |cons z l ih=>intro a b;simp only[bM.L3];exact ih _ _
  exact this _ _ _
theorem tg{a b z:Int}:cg a b [z]=true↔a<=z/\z<=b:=by
 simp only[cg,containsF,lI,List.any_cons,List.any_nil,Bool.or_false,xF,Bool.or_eq_false_iff,decide_eq_false_iff_not];omega
theorem FL{a b y z:Int}:cg a b [y,z]=true↔(a<=y/\y<=b)/\(a<=z/\z<=b):=by
 simp only[cg,containsF,lI,List.any_cons,List.any_nil,Bool.or_false,xF,Bool.or_eq_false_iff,decide_eq_false_iff_not];omega
theorem Sb{l:List Budget}(h:(bM l u 0 0 0 0).2.2=0){k v t n:Int}(hk:0<=k/\k<16)(hv:0<=v/\v<=1099511627776)(ht:0<=t/\t<1099511627776)(hn:0<=n/\n<1099511627776):(bM l u k v t n).2.2=0:=by
 unfold bM at h ⊢
 cases h1:(bX l) != 0 with
 |true=>
  grind
 |false=>
  rw[h1,cond_false]at h
  rw[cond_false]
  cases h2:decide (4096<(u.length:Int))with
  |true=>rw[h2,cond_true]at h;cases h
  |false=>
   rw[h2,cond_false]at h
   rw[cond_false]
   cases h3:iC u with
   |false=>rw[h3]at h;cases h
   |true=>
    rw[tg.2 (show(0:Int)<=k/\k<=15 by omega),tg.2 hv,FL.2 (show((0:Int)<=t/\t<=1099511627775)/\(0<=n/\n<=1099511627775) by omega)]
    exact K5 _ _ _ _ _
theorem LA{l:List ao}{t:Int}(h:(bD l signed t).2=0):cD l signed=true:=by grind [bD]
theorem KE(h:fK c signed=false):c.aV.At<=c.at_:=by grind [fK,Bool.or_eq_false_iff,decide_eq_false_iff_not]
theorem NR(no:Int):∀(l:List ao)(i:Nat),eR.L1 no eR.K1 l i=ai.L1 (λel=>bI el no) ai.K1 l i
 |[],i=>rfl
 |y::l,i=>by
  simp only[eR.L1,ai.L1,bI,Bool.cond_eq_ite]
  split
  .rfl
  .exact NR no l (i+1)
theorem Lq{r:Register}{t:Int}(hd:0<=eR r aV)(ht:0<=t/\t<1099511627776)(hk:0<=ah/\ah<1099511627776):n0 r aV t ah=.ok ⟨r,nthI r.cd (eR r aV),t,ah⟩:=by
 have e:ai r.cd (λel=>bI el aV)=eR r aV:=(NR aV r.cd 0).symm
 grind [n0]
theorem DC{l:List Int}{n:Int}{k:Nat}{i:Int}(h:∀x∈l,0<=x/\x<n)(hi:0<=i/\i<n):∀x∈(l.take k++[i])++l.drop k,0<=x/\x<n:=by grind
theorem T8{l:List Int}{n:Int}(h:∀x∈l,0<=x/\x<n)(hn:0<n)(i:Int):0<=nthI l i/\nthI l i<n:=
 DF (P:=λx:Int=>0<=x/\x<n) h ⟨Int.le_refl _,hn⟩ i
theorem Jg{n:Int}:∀{l:List Int},gL l n=true->n∈l:=by
 have h:∀l:List Int,gL.L1 n (gL.K1) l=true->n∈l:=by
  intro l
  induction l with
  |nil=>intro h;simp[gL.L1,gL.K1]at h
  |cons y l ih=>
   intro h
   simp only[gL.L1,Bool.cond_eq_ite]at h
   grind
 intro l;exact h l
theorem Ic{l:List Int}{i:Int}(h:∀x∈l,0<=x/\x<(n:Int))(e:m=n)(c:(!(gL l i))=false):0<=i/\i<(m:Int):=by
 subst e;exact h i (Jg (by simpa using c))
theorem uF(signed:List Int)(t:Int):∀x∈cq signed t,0<=x/\x<(signed.length:Int):=by
 have h3:∀(y1:Int)(g:List Int)(k:Nat->List Int)(P:List Int->Prop),(∀i,P (k i))->∀(s:List Nat)(i:Nat),P (cq.L3 signed y1 g k s i):=by
  intro y1 g k P hk s
  induction s with
  |nil=>intro i;exact hk i
  |cons y s ih=>intro i;simp only[cq.L3,Bool.cond_eq_ite];split;exact ih _;exact hk _
 have h1:∀(s:List Int)(i:Nat)(g:List Int),i+s.length=signed.length->(∀x∈g,0<=x/\x<(signed.length:Int)) ->
   ∀x∈cq.L1 signed t (cq.K1) s i g,0<=x/\x<(signed.length:Int):=by
  intro s
  induction s with
  |nil=>intro i g _ hg;exact hg
  |cons y s ih=>
   intro i g hi hg
   simp only[zA]at hi
   simp only[cq.L1,Bool.cond_eq_ite]
   split
   .exact ih _ _ (by omega) hg
   .exact h3 _ _ _ (λr=>∀x∈r,0<=x/\x<(signed.length:Int)) (λk=>ih _ _ (by omega) (DC hg (by omega))) _ _
 exact h1 signed 0 [] (by omega) (λx hx=>(kA hx).elim)
theorem yQ{l:List ao}(h:fu l signed=true):signed.length=l.length:=by
 have h1:∀s:List Int,fu.L1 (fu.K1 l signed) s=true->fu.K1 l signed=true:=by
  intro s
  induction s with
  |nil=>intro h;exact h
  |cons y s ih=>
   intro h
   simp only[fu.L1,Bool.cond_eq_ite]at h
   split at h
   .cases h
   .exact ih h
 have h2:=h1 signed h
 simp only[fu.K1,beq_iff_eq]at h2
 omega
theorem Re(l:List ao)(signed:List Int)(t:Int)(hsg:signed.length=l.length):(ct l signed t).length=l.length:=by
 have h4:∀(i2:Nat)(y2:Int)(g:List Bool)(k:List Int->List Int)(P:List Int->Prop)(n:Nat),(∀r:List Int,r.length=n->P (k r)) ->
   ∀(s:List Nat)(i:Nat)(r:List Int),r.length=n->P (ct.L4 l signed t i2 y2 g k s i r):=by
  intro i2 y2 g k P n hk s
  induction s with
  |nil=>intro i r hr;exact hk r hr
  |cons y s ih=>
   intro i r hr
   simp only[ct.L4,Bool.cond_eq_ite]
   grind
 have h2:∀(s:List Int)(i:Nat)(g:List Bool)(r:List Int),(ct.L2 l signed t (ct.K2) s i g r).length=r.length:=by
  intro s
  induction s with
  |nil=>intro i g r;rfl
  |cons y s ih=>
   intro i g r
   simp only[ct.L2]
   exact h4 _ _ _ _ (λx=>x.length=r.length) r.length (λq hq=>by rw[ih];exact hq) _ _ _ rfl
 have h1:∀(s:List ao)(g:List Int),(ct.L1 (ct.K1 l signed t) s g).length=g.length+s.length:=by
  intro s
  induction s with
  |nil=>intro g;simp only[ct.L1,ct.K1];rw[h2];rfl
  |cons y s ih=>intro g;simp only[ct.L1];rw[ih];simp only[jA,zA,zB];omega
 have:=h1 l []
 simpa[ct]using this
theorem N1{l:List ao}(h:((et l) != 0)=false):∀d∈l,d.fp.length<=16:=by
 intro d hd
 have h0:et l=0:=by simpa using h
 exact(Fa ((Tg h0).2 d hd)).needs.2
theorem CE{l:List Budget}{n t:Int}{x:Budget}(h:x∈fI l n t ah):x∈l:=by
 have h1:∀(s:List Budget)(i:Nat)(g:List Budget),x∈fI.L1 l n t ah (fI.K1) s i g->x∈g\/x∈s:=by
  intro s
  induction s with
  |nil=>intro i g h;exact .inl h
  |cons y s ih=>
   intro i g h
   simp only[fI.L1,Bool.cond_eq_ite]at h
   grind
 rcases h1 l 0 [] h with h|h
 .exact(kA h).elim
 .exact h
theorem Lb{l:List Budget}{n t:Int}{x:Budget}(h:gq l=0)(hx:x∈fI l n t ah):x.e8≠0:=by
 have h2:bX l=0:=(Bj l).trans h
 grind [Ci,ye,CE]
def bstM(kind t ah:Int):List Budget->List (gl×Budget)->List (gl×Budget)
 |[],m=>m
 |y::l,m=>bif((decide (t<y.At)||decide (ah<y.dY))||((y.Kind != (-1))&&(y.Kind != kind)))then bstM kind t ah l m else bif((!(mhas m (gl.mk y.Kind y.e8)))||decide ((mgetD m (gl.mk y.Kind y.e8) (Xo 0 0 0 0 0 0 0 false)).At<=y.At))then bstM kind t ah l (mput m (gl.mk y.Kind y.e8) y)else bstM kind t ah l m
theorem Tj(kind t ah:Int)(k:List (gl×Budget)->List Budget):∀(l:List Budget)m,ba.L1 kind t ah k l m=k (bstM kind t ah l m)
 |[],m=>rfl
 |y::l,m=>by
  simp only[ba.L1,bstM,Tj kind t ah k l,Bool.cond_eq_ite]
  repeat' split
  all_goals rfl
theorem Ti(v:List (gl×Budget)):∀(l g:List Budget),ba.L2 v ba.K2 l g=g++l.filter λy=>(!y.nj)&&decide ((mgetD v (gl.mk y.Kind y.e8) (Xo 0 0 0 0 0 0 0 false))=y)
 |[],g=>by simp[ba.L2,ba.K2]
 |y::l,g=>by
  simp only[ba.L2,List.filter_cons,Ti v l]
  grind
theorem QE{l:List ao}{sg:List Int}:cD l sg=true↔sg.length=l.length/\∀x∈sg,mj x=false:=by
 unfold cD
 rw[qC,beq_iff_eq,containsF]
 grind
theorem QK{l:List Budget}(hc:bX l=0)(hl:u.length<=4096)(hu:iC u=true):(bM l u 0 0 0 0).2.2=0:=by
 unfold bM
 have c1:decide (4096<(u.length:Int))=false:=by simp;omega
 rw[hc,c1,hu]
 have c2:(((!(cg 0 15 ([0])))||(!(cg 0 1099511627776 ([0]))))||(!(cg 0 1099511627775 ([0,0]))))=false:=by decide
 rw[c2]
 exact K5 u 0 0 0 _
section
variable {r:Register} {d:ao} {t ah:Int} {signed:List Int} {u:List Use} (hco:jw ⟨r,d,t,ah⟩) (hs:cD r.cd signed=true) (hr:(bM r.dH u 0 0 0 0).2.2=0)
include hco hs hr
end
theorem uses18(h:gP u=true):iC u=true:=by
 have h3:∀(y:Use)(k:Bool)(s:List Nat)(j:Nat),gP.L3 u y k s j=true->k=true/\∀q:Nat,j<=q->q<j+s.length->(nthI u (q:Int)).Doc≠y.Doc:=by
  intro y k s
  induction s with
  |nil=>intro j h;exact⟨h,λq h1 h2=>by simp at h2;omega⟩
  |cons z s ih=>
   intro j h
   simp only[gP.L3,Bool.cond_eq_ite]at h
   split at h
   .cases h
   .next hc=>
    obtain⟨h1,h2⟩:=ih _ h
    grind
 have h1:∀(s:List Use)(i:Nat)(m:List (Int×Bool)),u.drop i=s->(∀x,mgetD m x false=true->∃q:Nat,q<i/\(nthI u (q:Int)).Doc=x)->gP.L1 u (gP.K1) s i=true->iC.L1 iC.K1 s m=true:=by
  intro s
  induction s with
  |nil=>intro i m _ _ _;rfl
  |cons y s ih=>
   intro i m hd hm h
   simp only[gP.L1,Bool.cond_eq_ite]at h
   split at h
   .cases h
   .next hc=>
    simp only[zE,not_or,Bool.not_eq_true,Bool.not_eq_false',jU,u0,kY,qC,decide_eq_true_eq]at hc
    obtain⟨⟨⟨⟨c1,c2⟩,c3⟩,c4⟩,c5⟩:=hc
    obtain⟨h4,h5⟩:=h3 _ _ _ _ h
    have e0:mgetD m y.Doc false=false:=by
     grind
    simp only[iC.L1,e0,(tg (a:=0) (b:=4095) (z:=y.Doc)).2 ⟨by omega,by omega⟩,(tg (a:=0) (b:=15) (z:=y.Kind)).2 ⟨by omega,by omega⟩,(tg (a:=0) (b:=1099511627776) (z:=y.Value)).2 ⟨by omega,by omega⟩,(FL (a:=0) (b:=1099511627775) (y:=y.At) (z:=y.dY)).2 ⟨⟨by omega,by omega⟩,⟨by omega,by omega⟩⟩,Bool.not_true,Bool.or_false,cond_false]
    refine ih (i+1) _ (kx hd) (λx hx=>?_) h4
    unfold mgetD at hx
    rw[uC]at hx
    split at hx
    .next e=>exact⟨i,Nat.lt_succ_self _,by rw[e,ou (rJ hd)]⟩
    .obtain⟨q,hq,he⟩:=hm x hx;exact⟨q,by omega,he⟩
 exact h1 u 0 [] rfl (λx hx=>by cases hx) h
theorem signs17{l:List ao}(h:fu l signed=true):cD l signed=true:=by
 rw[QE]
 refine⟨yQ h,?_⟩
 have h1:∀s:List Int,fu.L1 (fu.K1 l signed) s=true->∀x∈s,mj x=false:=by
  intro s
  induction s with
  |nil=>intro _ x hx;exact(kA hx).elim
  |cons y s ih=>
   intro h x hx
   simp only[fu.L1,Bool.cond_eq_ite]at h
   split at h
   .cases h
   .next hc=>
    rcases kD.1 hx with rfl|hx
    .exact Bool.eq_false_iff.2 hc
    .exact ih h x hx
 exact h1 signed h
abbrev rCourt(r:Register)(aV t ah:Int):bU:=⟨r,nthI r.cd (eR r aV),t,ah⟩
section
variable {α κ : Type} [DecidableEq κ] (key:α->κ) (at_ no:α->Int) (z0:α)
def gOver(z w:α):Prop:=at_ z<at_ w\/(at_ w=at_ z/\no z<no w)
structure Ww(pre:List α)(m:List (κ×α)):Prop where
 some:∀k z,mget? m k=some z->z∈pre/\key z=k/\∀w∈pre,key w=k->¬gOver at_ no z w
 none:∀k,mget? m k=none->∀w∈pre,key w≠k
end
def walkN(E:List bA)(b:Int):Nat->Int->Prop
 |0,a=>a=b
 |n+1,a=>∃x∈E,x.From=a/\walkN E b n x.To
structure Far(E:List bA)(b:Int)(i:Nat)(g:List (Int×Int)):Prop where
 sound:∀p v,mget? g p=some v->∃m:Nat,v=(m:Int)/\m<=i/\walkN E b m p
 start:mget? g b=some 0
 closed:∀x∈E,∀m:Nat,mget? g x.To=some (m:Int)->m<i->∃m':Nat,mget? g x.From=some (m':Int)/\m'<=m+1
structure Ws(E:List bA)(b:Int)(i:Nat)(g0:List (Int×Int))(done:List bA)(g:List (Int×Int)):Prop where
 keep:∀p v,mget? g0 p=some v->mget? g p=some v
 new:∀p v,mget? g p=some v->mget? g0 p=some v\/(v=((i+1:Nat):Int)/\walkN E b (i+1) p)
 met:∀x∈done,mget? g0 x.To=some (i:Int)->∃v,mget? g x.From=some v
def saneN:Register:={ cH [1,2]with Versions:=[] }
def saneF:Register:={ cH [1,2]with dH:=[⟨7,0,0,-1,100,0,0,false⟩] }
theorem dk[Decidable p](h:decide p=true:=by kernel_rfl):p:=of_decide_eq_true h
theorem smk{r:Register}(a:r.Versions.length<=2000000/\(∀v∈r.Versions,v.aw.dp.length<=2000000/\(∀y∈v.aw.dp,y.aj.dep<=1500000)/\v.aw.aO.dep<=1500000/\v.aw.aA.length<=2000000/\v.aw.dN.length<=2000000)/\r.dF.length<=2000000/\r.ga.length<=2000000/\r.er.length<=2000000/\r.dH.length<=2000000/\r.cd.length<=2000000/\r.dC.length<=2000000):smR r:=⟨⟨a.1,a.2.1⟩,a.2.2⟩
theorem VW:smP lszp:=by unfold smP;exact dk
theorem VX:smR saneN:=smk dk
theorem VY:smR saneF:=smk dk
theorem UA:smR (cH [1,2]):=smk dk
theorem UW:smR (cH [2]):=smk dk
theorem UX:smR (cH []):=smk dk
theorem V4:vU saneN 5 9 9:=⟨dk,dk,dk,dk,dk,dk,dk,dk⟩
theorem V5:vU saneF 5 9 9:=⟨dk,dk,dk,dk,dk,dk,dk,dk⟩
theorem UE:vU (cH [1,2]) 5 9 9:=⟨dk,dk,dk,dk,dk,dk,dk,dk⟩
theorem Va:vU (cH [2]) 5 9 9:=⟨dk,dk,dk,dk,dk,dk,dk,dk⟩
theorem VH:vU (cH []) 5 9 9:=⟨dk,dk,dk,dk,dk,dk,dk,dk⟩
theorem V7:(bF (cH []) [-1] [] 6 9 9).2=0->vU (cH []) 6 9 9:=λh=>absurd h (dk (p:=¬(bF (cH []) [-1] [] 6 9 9).2=0))
theorem V6:(bF (cH []) [] [] 5 9 9).2=0->vU (cH []) 5 9 9:=λ_=>VH
theorem sane1:aY saneN [-1] [] 5 9 9=([],false,0):=by kernel_rfl
theorem sane2:dS (cH [2]) [-1] [] 5 9 9 [⟨1,3⟩]=(true,0):=by kernel_rfl
theorem sane3:dS (cH [2]) [-1] [] 5 9 9 [⟨1,4⟩]=(false,0):=by kernel_rfl
theorem sane4:aY (cH []) [] [] 5 9 9=([],false,1):=by kernel_rfl
theorem sane5:dS (cH []) [-1] [] 6 9 9 []=(false,1):=by kernel_rfl
theorem sane6:vl (cH [1,2]) (-1) []=true:=by kernel_rfl
theorem sane7:vl (cH [1,2]) 3 [⟨4,5⟩]=true:=by kernel_rfl
theorem sane8:vl (cH [2]) (-1) [⟨1,1⟩]=true:=by kernel_rfl
theorem sane9:vl (cH []) (-1) [⟨1,1⟩,⟨1,2⟩]=true:=by kernel_rfl
theorem saneA:vl saneF (-1) [⟨3,7⟩]=true:=by kernel_rfl
def qv(r:Register)(signed:List Int)(u:List Use)(aV t ah:Int):Bool:=(((mr r&&decide ((signed.length:Int)<=40))&&decide ((u.length:Int)<=30))&&((oY r signed u aV t ah)==0))
theorem Al{r:Register}{t:Int}(h:gV r signed u aV t ah=true):qv r signed u aV t ah=true/\r.cd.length<20/\signed.length<=20/\u.length<=30:=by
 simp only[gV,qC]at h
 obtain⟨h1,h2⟩:=h
 unfold lK at h1
 cases hc:((!(mr r))||decide (20<(signed.length:Int)))||decide (30<(u.length:Int))with
 |true=>rw[hc]at h1;cases h1
 |false=>
  simp only[Bool.or_eq_false_iff,Bool.not_eq_false',decide_eq_false_iff_not]at hc
  have hd:r.cd.length<20:=by
   have h3:=hc.1.1
   simp only[mr,Bool.cond_eq_ite]at h3
   grind
  grind [qv]
theorem uW{r:Register}{t:Int}(h:gV r signed u aV t ah=true):r.cd.length<20:=(Al h).2.1
theorem Br{r:Register}(hsm:smR r){t:Int}(hg:qv r signed u aV t ah=true):
  dM r=0/\0<=eR r aV/\(0<=t/\t<1099511627776)/\(0<=ah/\ah<1099511627776)/\cD r.cd signed=true/\(bM r.dH u 0 0 0 0).2.2=0:=by
 simp only[qv,qC,beq_iff_eq]at hg
 have he:=hg.2
 unfold oY at he
 simp only[Bool.cond_eq_ite]at he
 split at he
 .cases he
 .next e1=>
  split at he
  .grind
  .next e2=>
   split at he
   .grind
   .next e3=>
    split at he
    .cases he
    .next e4=>
     have c1:nJ r=0:=by simpa using e1
     have c2:(fR r.cd signed 0).2=0:=by simpa using e2
     have c3:(iv r.dH u 0 0 0 0).2.2=0:=by simpa using e3
     simp only[zE,not_or,Bool.not_eq_true,Bool.not_eq_false',decide_eq_true_eq,nV,qC]at e4
     obtain⟨⟨h4,h5⟩,h6⟩:=e4
     have hc:=(judge30 hsm).2 c1
     have hs:cD r.cd signed=true:=by
      refine signs17 ?_
      unfold fR at c2
      grind
     have hu:u.length<=4096/\iC u=true:=by
      unfold iv at c3
      cases q1:gq r.dH != 0 with
      |true=>rw[q1]at c3;simp only[cond_true]at c3;rw[c3]at q1;cases q1
      |false=>
       grind [uses18]
     grind [QK,lF]
theorem Fb{r:Register}(hsm:smR r){t:Int}(hg:qv r signed u aV t ah=true):
  jw (rCourt r aV t ah)/\bF r signed u aV t ah=(judgeC (rCourt r aV t ah) r signed u t ah,0):=by
 obtain⟨hc,hd,ht,hk,hs,hr⟩:=Br hsm hg
 have ho:=Lq hd ht hk
 obtain⟨_,hco,_,_⟩:=Gr hc ho
 grind [bF,lF,Fq]
theorem KA{f:Nat->List (List Int)}{w:List Int}:∀{j:Nat},w∈downF f j->∃m,m<j/\w∈f m
 |0,h=>by simp[downF]at h
 |j+1,h=>by
  rcases qH.1 h with h|h
  .exact⟨j,Nat.lt_succ_self j,h⟩
  .obtain⟨m,a,b⟩:=KA h;exact⟨m,Nat.lt_succ_of_lt a,b⟩
theorem J5(n:Nat)(m:Int):∀(l:List Int)(i:Nat)(g:List Int),(setOf.L n m l i g).length<=g.length+l.length
 |[],i,g=>by simp[setOf.L]
 |y::s,i,g=>by
  have h1:=J5 n m s (i+1) (bif bitAt m ((n:Int)-1-(i:Int))then g++[y]else g)
  grind [setOf.L,bitAt]
theorem Pc{f:Nat->List (List Int)}{w:List Int}:∀{c i:Nat},w∈upF f i c->∃s,w∈f s
 |0,_,h=>by simp[upF]at h
 |c+1,i,h=>by
  rcases qH.1 h with h|h
  .exact⟨i,h⟩
  .exact Pc h
theorem MF{p:List Int}(h:w∈iB p):w.length<=p.length:=by
 obtain⟨s,h⟩:=Pc h
 grind [setsM,KA,pop64,J5,setOf]
theorem wE(l:List Int):ew l=l:=by
 have h:∀(s g:List Int),dI.L1 dI.K1 s g=g++s:=by
  intro s
  induction s with
  |nil=>intro g;simp[dI.L1,dI.K1]
  |cons y s ih=>intro g;simp only[dI.L1];rw[ih];simp
 exact h l []
theorem N7{f:α->Int}{l a b:List α}(hl:l=a++y::b)(hp:l.Pairwise λx z=>f x<f z):bsPos f l (f y)=a.length:=by
 subst hl
 obtain⟨h1,h2,h3⟩:=List.pairwise_append.1 hp
 have e1:a.countP (λx=>decide (f x<f y))=a.length:=List.countP_eq_length.2 λx hx=>by simpa using h3 x hx y (vB ..)
 have e2:(y::b).countP (λx=>decide (f x<f y))=0:=List.countP_eq_zero.2 λx hx=>by
  rcases kD.1 hx with rfl|hx
  .simp
  .have:=(List.pairwise_cons.1 h2).1 x hx;simp;omega
 grind [bsPos]
theorem KF[Inhabited α]{f:α->Int}{l:List α}(hp:l.Pairwise λx z=>f x<f z)(hy:y∈l):bsPos f l (f y)<l.length/\nthI l ((bsPos f l (f y):Nat):Int)=y:=by
 obtain⟨a,b,rfl⟩:=List.append_of_mem hy
 rw[N7 rfl hp]
 exact⟨by simp,ou (by simp)⟩
theorem FF(l0:List ao):∀(l pre:List ao),l0=pre++l->aZ.L1 l0 0 l pre.length=0->(pre≠[]->∀y∈l.head?,(nthI l0 ((pre.length:Int)-1)).No<y.No)/\l.Pairwise (λa b=>a.No<b.No)
 |[],_,_,_=>⟨λ_ _ h=>(by simp at h),List.Pairwise.nil⟩
 |y::l,pre,h0,h=>by
  simp only[aZ.L1,Bool.cond_eq_ite]at h
  split at h
  .omega
  .next hc=>
   simp only[zE,not_or,Bool.not_eq_true,Bool.and_eq_false_iff,decide_eq_false_iff_not]at hc
   obtain⟨i1,i2⟩:=FF l0 l (pre++[y]) (by rw[h0];simp) (by simpa using h)
   have hy:nthI l0 (((pre++[y]).length:Nat)-1:Int)=y:=by
    have:(((pre++[y]).length:Nat)-1:Int)=(pre.length:Int):=by simp
    rw[this];exact ou (by rw[h0];simp)
   rw[hy]at i1
   refine⟨λhne z hz=>?_,?_⟩
   .cases hz
    have:0<pre.length:=List.length_pos_iff.2 hne
    rcases hc.1.2 with h'|h'<;>omega
   .cases l with
    |nil=>simp
    |cons z l=>
     have hyz:=i1 (by simp) z rfl
     rw[List.pairwise_cons]
     refine⟨λw hw=>?_,i2⟩
     rcases kD.1 hw with rfl|hw
     .exact hyz
     .have:=(List.pairwise_cons.1 i2).1 w hw;omega
theorem NQ{l:List ao}(h:aZ l=0):l.Pairwise (λa b=>a.No<b.No):=by
 unfold aZ aZ.K1 at h
 rw[Bool.cond_eq_ite]at h
 split at h
 .omega
 .exact(FF l l [] rfl h).2
section
variable {r:Register} {aV:Int} (hc:dM r=0) (hd:0<=eR r aV)
include hc hd
theorem UJ:fq r aV=nthI r.cd (eR r aV)/\bsPos ao.No r.cd aV<r.cd.length:=by
 obtain⟨_,h2,h3⟩:=T3 (r:=r) (no:=aV) hd
 have:=KF (NQ ((lF r).1 hc).2.2.2.2.2.1) h2
 rw[h3]at this
 exact⟨this.2,this.1⟩
end
theorem O9{l:List aE}(g:FM l){dU t:Int}{no:Int}(h:no∈(aM l dU t ah).1):∃v∈l,v.No=no:=by
 by_cases hb:fP dU=true/\fP t=true/\fP ah=true/\dU<=t
 .have f:∀{x},fP x=true->0<=x/\x<1099511627776:=λh=>by simpa[fP]using h
  exact(BF g (f hb.1) (f hb.2.1) (f hb.2.2.1) hb.2.2.2).mem no h
 .exfalso
  unfold aM at h
  grind
theorem EM{r:Register}(g:FM r.Versions)(hr:c.Register=r){no:Int}(h:∃v∈r.Versions,v.No=no):
  bsPos aE.No r.Versions no<r.Versions.length/\fX c no=.ok (nthI r.Versions ((bsPos aE.No r.Versions no:Nat):Int)).aw:=by
 obtain⟨v,hv,rfl⟩:=h
 obtain⟨h1,h2⟩:=KF g.inc hv
 refine⟨h1,?_⟩
 rw[h2]
 rcases yy c v.No with⟨_,h0⟩|⟨a,w,b,e1,e2,e3,_⟩
 .grind
 .have hw:w∈r.Versions:=by rw[←hr,e1];simp
  rw[e2,P2 g.inc hw hv e3]
theorem Qf(r:Register)(at_ ah:Int)(i1:Nat)(k:Bool->List Int):∀(l:List Nat)(i:Nat)(g:Bool),∃b,aU.L3 r at_ ah i1 k l i g=k b/\(b=true->g=true\/∃o:Nat,(eQ r.dF (o:Int) (i1:Int) at_ ah).2.2.1=true)
 |[],i,g=>⟨g,rfl,λh=>.inl h⟩
 |y::l,i,g=>by
  simp only[aU.L3]
  obtain⟨b,e,hb⟩:=Qf r at_ ah i1 k l (i+1) (g||(eQ r.dF (i:Int) (i1:Int) at_ ah).2.2.1)
  grind
theorem D5(r:Register)(at_ ah:Int)(d:ao):∀(l:List Nat)(i:Nat),(aU.L1 r at_ ah d aU.K1 l i).length<=l.length/\(aU.L1 r at_ ah d aU.K1 l i).Pairwise (·<·)/\∀x∈aU.L1 r at_ ah d aU.K1 l i,(i:Int)<=x/\x<i+l.length/\∃o:Nat,(eQ r.dF (o:Int) x at_ ah).2.2.1=true
 |[],i=>⟨kE _,List.Pairwise.nil,λx hx=>(kA hx).elim⟩
 |y::l,i=>by
  obtain⟨h1,h2,h3⟩:=D5 r at_ ah d l (i+1)
  simp only[aU.L1]
  obtain⟨b,e,hb⟩:=Qf r at_ ah i (λzg3_7=>(bif(!zg3_7)then(aU.L1 r at_ ah d aU.K1 l ((i+1)))else(bif(!((dV r.er (i:Int) d.lh at_ ah).2.1))then((i:Int)::(aU.L1 r at_ ah d aU.K1 l ((i+1))))else(aU.L1 r at_ ah d aU.K1 l ((i+1)))))) (vD 32) 0 false
  rw[e]
  have h3':∀x∈aU.L1 r at_ ah d aU.K1 l (i+1),(i:Int)<=x/\x<(i:Int)+((y::l).length:Nat)/\∃o:Nat,(eQ r.dF (o:Int) x at_ ah).2.2.1=true:=λx hx=>by
   grind
  cases b with
  |false=>exact⟨by simp only[Bool.not_false,cond_true,zA];omega,h2,h3'⟩
  |true=>
   simp only[Bool.not_true,cond_false]
   cases(!((dV r.er (i:Int) d.lh at_ ah).2.1))with
   |false=>exact⟨by simp only[cond_false,zA];omega,h2,h3'⟩
   |true=>
    simp only[cond_true,zA]
    refine⟨by omega,List.pairwise_cons.2 ⟨λx hx=>by have:=(h3 x hx).1;omega,h2⟩,λx hx=>?_⟩
    grind
theorem MX(c:bU)(k:List (List bW)->Bool):∀(s:List ByteArray)(i:Nat)(g:List (List bW)),dt.L1 c k s i g=k (g++(vD s.length).map λj=>ig c.Register c.at_ c.ah (i+j))
 |[],i,g=>by simp[dt.L1]
 |y::s,i,g=>by
  simp only[dt.L1,MX c k s,jE,zA,List.range_succ_eq_map,kG,List.map_map,xL,vF]
  congr 3
  apply List.map_congr_left
  grind
theorem Ca(c:bU)(p:aw)(kU:List Int):dt c p kU=dt.K1 c p kU ((vD p.aA.length).map (ig c.Register c.at_ c.ah)):=by grind [dt,MX]
theorem OA(h:jw c)(p:aw):(dj c p).length<=4096:=by
 rw[Ki]
 have h1:=IQ (sortI ((hY c p).map (·.For))) []
 rw[iW,List.length_map]at h1
 have h2:(hY c p).length<=c.Register.dC.length:=by
  grind [LD,yM]
 have h3:c.Register.dC.length<=4096:=by
  have:=((lF _).1 h.chk).2.2.2.2.2.2
  unfold cj at this
  grind
 show(compI _).length<=_
 grind [compI,zB]
theorem xe(l:List Budget)(kind t ah:Int):(ba l kind t ah).Sublist l:=by
 unfold ba
 rw[Tj]
 unfold ba.K1
 rw[Ti,vF]
 exact List.filter_sublist
section
variable {r:Register} {aV t ah:Int} (hc:dM r=0) (hd:0<=eR r aV) (ht:0<=t/\t<1099511627776) (hk:0<=ah/\ah<1099511627776)
include hc hd ht hk
theorem yd:jw (rCourt r aV t ah)/\(rCourt r aV t ah).aV.No=aV:=by
 obtain⟨_,h1,h2,_⟩:=Gr hc (Lq hd ht hk)
 exact⟨h1,h2⟩
theorem I0{no:Int}(h:∃v∈r.Versions,v.No=no):fT r aV no t ah=(askWho (rCourt r aV t ah) no,0)/\askP (rCourt r aV t ah) no=(nthI r.Versions ((bsPos aE.No r.Versions no:Nat):Int)).aw:=by
 have hco:=(yd hc hd ht hk).1
 obtain⟨_,hp⟩:=EM hco.vers (c:=rCourt r aV t ah) rfl h
 have e:=S7 hp
 refine⟨?_,e⟩
 unfold fT
 rw[hc,Lq hd ht hk]
 simp only[bne_self_eq_false,cond_false]
 grind [askWho,askP,nthI,bsPos]
theorem Vu(hsm:smR r)(hdl:r.dH.length<=1000000):vU r aV t ah:=by
 obtain⟨hco,hno⟩:=yd hc hd ht hk
 obtain⟨e1,e2⟩:=UJ hc hd
 have hg:=hco.good
 refine⟨NQ hco.docs,e2,hco.vers.inc,λno hn=>?_,?_,?_,?_,?_⟩
 .have hv:=O9 hco.vers hn
  obtain⟨i1,i2⟩:=EM hco.vers (c:=rCourt r aV t ah) rfl hv
  refine⟨i1,?_,?_⟩
  .exact kL (us hco hsm i2).off (by decide)
  .rw[e1,show(nthI r.cd (eR r aV)).No=aV from hno,(I0 hc hd ht hk hv).1]
   exact kL (OA hco (askP (rCourt r aV t ah) no)) (by decide)
 .have:=C8 r.Versions (fq r aV).At t ah
  have h2:=hco.vers.len
  grind
 .have:=(D5 r t ah (fq r aV) (vD 64) 0).1
  rw[List.length_range]at this
  show(aU.L1 _ _ _ _ _ _ _).length<=_
  omega
 .rw[e1]
  have:=hg.needs.2
  grind
 .have h1:=(xe r.dH (fq r aV).Kind t ah).length_le
  unfold ep
  grind
end
theorem xn{r:Register}(hsm:smR r){t:Int}(h:gV r signed u aV t ah=true):vU r aV t ah:=by
 obtain⟨hc,hd,ht,hk,_,_⟩:=Br hsm (Al h).1
 refine Vu hc hd ht hk hsm ?_
 have:=((lF _).1 hc).2.2.2.1
 unfold bX at this
 grind
theorem HQ(f:List Int):∀(l g:List Int),je f l g=g++l.filter λy=>!(gH f y)
 |[],g=>by simp[je]
 |y::s,g=>by
  simp only[je,HQ f s,List.filter_cons]
  cases(!gH f y)<;>simp
theorem Lk(u:List Use)(d:ao)(t ah:Int):∀(l:List Budget)(g:List Int),jX u d t ah l g=g++(l.filter λb=>!((bM [b] u d.Kind d.Value t ah).2.1)).map (·.No)
 |[],g=>by simp[jX]
 |b::s,g=>by
  simp only[jX,Lk u d t ah s,List.filter_cons]
  grind
theorem DM(k:Int)(l:List Int):bu k l=l.map (vT k):=by
 have h:∀(l:List Int)(g:List Lack),bu.L1 k bu.K1 l g=g++l.map (vT k):=by
  intro l
  induction l with
  |nil=>intro g;simp[bu.L1,bu.K1]
  |cons y l ih=>intro g;simp only[bu.L1,ih];simp
 have:=h l []
 rwa [vF]at this
def mAns(c:bU)(w:List Int)(no:Int):Bool:=dt c (askP c no) (setI (askWho c no++w))
section
variable {r:Register} {aV t ah:Int} {signed:List Int} {u:List Use} (hc:dM r=0) (hd:0<=eR r aV) (ht:0<=t/\t<1099511627776) (hk:0<=ah/\ah<1099511627776)
include hc hd ht hk
theorem Tl{no:Int}(h:∃v∈r.Versions,v.No=no)(w:List Int):j8 r (rCourt r aV t ah).aV no t ah w=mAns (rCourt r aV t ah) w no:=by
 obtain⟨hco,hno⟩:=yd hc hd ht hk
 obtain⟨e1,e2⟩:=I0 hc hd ht hk h
 unfold j8 mAns
 rw[Ca,e2,hno,e1]
 rfl
theorem O3(de:(rCourt r aV t ah).aV.At<=t)(w:List Int):(iN r signed u aV t ah (rCourt r aV t ah).aV).decides w=(gf (askJ (rCourt r aV t ah)).2.1 ((askJ (rCourt r aV t ah)).1.map (mAns (rCourt r aV t ah) w))).1:=by
 obtain⟨hco,hno⟩:=yd hc hd ht hk
 have hj:Jdg r.Versions (aM r.Versions (rCourt r aV t ah).aV.At t ah):=BF hco.vers hco.good.at_ ht hk de
 show oE w _ _ _=_
 unfold oE
 rw[hj.err]
 simp only[bne_self_eq_false,cond_false,List.map_map]
 have e:((aM r.Versions (rCourt r aV t ah).aV.At t ah).1.map ((λf=>f w)∘λno=>j8 r (rCourt r aV t ah).aV no t ah))=(askJ (rCourt r aV t ah)).1.map (mAns (rCourt r aV t ah) w):=by
  apply List.map_congr_left
  intro no hno'
  exact Tl hc hd ht hk (hj.mem no hno') w
 rw[e]
 show((gf (askJ (rCourt r aV t ah)).2.1 _).1&&((gf (askJ (rCourt r aV t ah)).2.1 _).2==0))=_
 cases hn:(askJ (rCourt r aV t ah)).1 with
 |nil=>rw[WI,Pa];rfl
 |cons x l=>
  have hm:=hj.mode (by rw[show(aM r.Versions (rCourt r aV t ah).aV.At t ah).1=x::l from hn];simp)
  have hl:((x::l).map (mAns (rCourt r aV t ah) w)).length<=256:=by rw[←hn,List.length_map];exact kL (C8 _ _ _ _) hco.vers.len
  have:=I4 (mode:=(askJ (rCourt r aV t ah)).2.1) hm hl
  rw[this]
  simp
end
end
section
def eA.K1(cK:Register)(signed:List Int)(u:List Use)(aV:Int)(cy:Int)(ah:Int)(other:List Lack):Bool:=(((dS cK signed u aV cy ah ((aY cK signed u aV cy ah).1++other)).2==0)&&(dS cK signed u aV cy ah ((aY cK signed u aV cy ah).1++other)).1)
def eA.L1(cK:Register)(signed:List Int)(u:List Use)(aV:Int)(cy:Int)(ah:Int)(k:Bool):List Lack->Nat->Bool
 |[],i1=>(k )
 |y1::rz1,i1=>(bif(((dS cK signed u aV cy ah ((((aY cK signed u aV cy ah).1).take (((i1:Int):Int)).toNat)++(((aY cK signed u aV cy ah).1).drop (((((i1+1):Nat):Int):Int)).toNat))).2 != 0)||(dS cK signed u aV cy ah ((((aY cK signed u aV cy ah).1).take (((i1:Int):Int)).toNat)++(((aY cK signed u aV cy ah).1).drop (((((i1+1):Nat):Int):Int)).toNat))).1)then false else(eA.L1 cK signed u aV cy ah k rz1 ((i1+1))))
def eA(cK:Register)(signed:List Int)(u:List Use)(aV:Int)(cy:Int)(ah:Int)(other:List Lack):Bool:=(bif(!CO)then false else(bif((!(gV cK signed u aV cy ah))||decide (40<(other.length:Int)))then true else(bif(((((((aY cK signed u aV cy ah).2.2 != 0)||((dS cK signed u aV cy ah ((aY cK signed u aV cy ah).1)).2 != 0))||((dS cK signed u aV cy ah other).2 != 0))||(!((dS cK signed u aV cy ah ((aY cK signed u aV cy ah).1)).1==(aY cK signed u aV cy ah).2.1)))||(!(em ((aY cK signed u aV cy ah).1))))||decide (100<(((aY cK signed u aV cy ah).1).length:Int)))then false else(bif((dS cK signed u aV cy ah other).1&&((!((aY cK signed u aV cy ah).2.1))||((em other)&&(fa other ((aY cK signed u aV cy ah).1)))))then false else(bif(!((aY cK signed u aV cy ah).2.1))then true else((eA.L1 cK signed u aV cy ah (eA.K1 cK signed u aV cy ah other)) ((aY cK signed u aV cy ah).1) 0))))))
end
variable {f:List Int->Bool}{q:QP}
section
theorem P3:∀{l:List Int}{a b:Int},l.Pairwise (·<·)->(∀x∈l,a<=x/\x<b)->(l.length:Int)<=max 0 (b-a)
 |[],a,b,_,_=>by simp;omega
 |x::l,a,b,hp,h=>by
  have h1:=h x (vB ..)
  have:=P3 (a:=x+1) (b:=b) (List.pairwise_cons.1 hp).2 λy hy=>⟨(List.pairwise_cons.1 hp).1 y hy,(h y (xC _ hy)).2⟩
  simp only[zA];omega
theorem LC{l:List aK}{o p t:Int}(h:(eQ l o p t ah).2.2.1=true):∃y∈l,y.cM=p:=by
 refine Classical.byContradiction λhn=>?_
 have hl:∀(s:List aK),(∀y∈s,y.cM≠p)->s.foldl (lastA t ah ⟨o,p⟩) none=none:=by
  intro s
  induction s with
  |nil=>intro _;rfl
  |cons y s ih=>
   intro hs
   have e:((y.eD==o)&&(y.cM==p))=false:=by
    grind
   simp only[WZ,lastA,e,Bool.and_false,cond_false]
   grind
 have h1:mget? (dK l t ah) (xV o p)=none:=by
  have:=Nq t ah (xV o p) l []
  exact this.trans (hl l λy hy e=>hn ⟨y,hy,e⟩)
 unfold eQ mhas at h
 grind
theorem S5:∀l:List aK,lK.L1 lK.K1 l=true->∀y∈l,y.cM<=5
 |[],_,_,hy=>(kA hy).elim
 |x::l,h,y,hy=>by
  simp only[lK.L1,Bool.cond_eq_ite,decide_eq_true_eq]at h
  split at h
  .cases h
  .rcases kD.1 hy with rfl|hy
   .omega
   .exact S5 l h y hy
theorem NK{r:Register}{t:Int}(h:gV r signed u aV t ah=true)(d:ao):(gC r d t ah).length<=6:=by
 have hf:∀y∈r.dF,y.cM<=5:=by
  simp only[gV,qC]at h
  have h1:=h.1
  grind [lK,S5]
 obtain⟨_,h2,h3⟩:=D5 r t ah d (vD 64) 0
 have:=P3 (a:=0) (b:=6) h2 λx hx=>by
  grind [LC]
 show(aU.L1 _ _ _ _ _ _ _).length<=6
 omega
theorem Qt(q:QP)(w:List Int):(eV q w).length=w.length+(q.needs.length+q.over.length):=by grind [eV,DM,jA,List.length_map]
theorem JF{l:List Budget}(hc:bX l=0)(k t n:Int):(ep l k t n).1.length<=4096:=by
 have h1:=(xe l k t n).length_le
 have h2:l.length<=4096:=by
  grind [bX]
 unfold ep
 grind
def sel:List Bool->List Int->List Int
 |[],_=>[]
 |_,[]=>[]
 |b::bs,x::l=>bif b then x::sel bs l else sel bs l
def bitsM(n m:Nat):List Bool:=(vD n).map λi:Nat=>bitAt (m:Int) ((n:Int)-1-(i:Int))
def bitsS(n size m:Nat):List (List Bool):=bif pop64 (m:Int)==(size:Int)then[bitsM n m]else[]
def downB(f:Nat->List (List Bool)):Nat->List (List Bool)
 |0=>[]
 |j+1=>f j++downB f j
def upB(f:Nat->List (List Bool)):Nat->Nat->List (List Bool)
 |_,0=>[]
 |i,c+1=>f i++upB f (i+1) c
def bitsAll(n:Nat):List (List Bool):=upB (λsize=>downB (bitsS n size) (2 ^ n)) 0 (n+1)
def bLex:List Bool->List Bool->Bool
 |a::l,b::m=>bif a==b then bLex l m else a
 |_,_=>false
def bBef(a b:List Bool):Bool:=decide (a.count true<b.count true)||(a.count true==b.count true&&bLex a b)
def pairB(R:List Bool->List Bool->Bool):List (List Bool)->Bool
 |[]=>true
 |x::l=>l.all (R x)&&pairB R l
theorem M1{R:List Bool->List Bool->Bool}:∀{l:List (List Bool)},pairB R l=true->l.Pairwise λa b=>R a b=true
 |[],_=>List.Pairwise.nil
 |x::l,h=>by
  simp only[pairB,qC]at h
  exact List.pairwise_cons.2 ⟨λy hy=>jM.1 h.1 y hy,M1 h.2⟩
def boolsN:Nat->List (List Bool)
 |0=>[[]]
 |n+1=>(boolsN n).map (true::·)++(boolsN n).map (false::·)
theorem C3:∀l:List Bool,l∈boolsN l.length
 |[]=>vB ..
 |b::l=>by
  have:=C3 l
  simp only[zA,boolsN,qH,qJ]
  cases b with
  |true=>exact .inl ⟨l,this,rfl⟩
  |false=>exact .inr ⟨l,this,rfl⟩
theorem Qr:(vD 7).all (λn=>pairB bBef (bitsAll n)&&(boolsN n).all (bitsAll n).contains&&(bitsAll n).all λb=>b.length==n)=true:=by decide +kernel
theorem QG(m:Nat)(p:List Int):setOf p (m:Int)=sel (bitsM p.length m) p:=by
 have h:∀(s pre:List Int)(g:List Int),setOf.L p.length (m:Int) s pre.length g=g++sel (((List.range' pre.length s.length).map λi:Nat=>bitAt (m:Int) ((p.length:Int)-1-(i:Int)))) s:=by
  intro s
  induction s with
  |nil=>intro pre g;simp[setOf.L,sel]
  |cons y s ih=>
   intro pre g
   simp only[setOf.L]
   have:=ih (pre++[y])
   simp only[jA,zA,zB,Nat.zero_add]at this
   rw[this,zA,List.range'_succ,kG]
   grind [sel,bitAt]
 have:=h p [] []
 rw[zB,vF]at this
 unfold setOf bitsM
 rw[this,List.range_eq_range']
theorem J4(p:List Int):iB p=(bitsAll p.length).map λb=>sel b p:=by
 have h1:∀size j,downF (setsM p size) j=(downB (bitsS p.length size) j).map λb=>sel b p:=by
  intro size j
  induction j with
  |zero=>rfl
  |succ j ih=>
   simp only[downF,downB,Wx,ih]
   congr 1
   unfold setsM bitsS
   cases pop64 (j:Int)==(size:Int)with
   |false=>rfl
   |true=>simp only[cond_true,kG,WI,QG]
 have h2:∀c i,upF (λsize=>downF (setsM p size) (2 ^ p.length)) i c=(upB (λsize=>downB (bitsS p.length size) (2 ^ p.length)) i c).map λb=>sel b p:=by
  intro c
  induction c with
  |zero=>intro i;rfl
  |succ c ih=>intro i;simp only[upF,upB,Wx,←ih,h1]
 exact h2 _ _
theorem Gk:∀(b:List Bool)(p:List Int),b.length=p.length->(sel b p).length=b.count true
 |[],_,_=>by simp[sel]
 |b::bs,[],h=>by simp at h
 |b::bs,x::l,h=>by
  have:=Gk bs l (by simpa using h)
  simp only[sel]
  cases b<;>simp[this]
theorem KX:∀(b:List Bool)(p:List Int),(sel b p).Sublist p
 |[],p=>by simp[sel]
 |b::bs,[]=>by simp[sel]
 |b::bs,x::l=>by
  have:=KX bs l
  grind [sel]
theorem PE{v p:List Int}(h:v.Sublist p):∃b,b.length=p.length/\sel b p=v:=by
 induction h with
 |slnil=>exact⟨[],rfl,rfl⟩
 |cons x _ ih=>obtain⟨b,h1,h2⟩:=ih;exact⟨false::b,by simp[h1],by simp[sel,h2]⟩
 |cons_cons x _ ih=>obtain⟨b,h1,h2⟩:=ih;exact⟨true::b,by simp[h1],by simp[sel,h2]⟩
def lexI:List Int->List Int->Prop
 |x::l,y::m=>x<y\/x=y/\lexI l m
 |_,_=>False
theorem KY:∀(a b:List Bool)(p:List Int),a.length=p.length->b.length=p.length->p.Pairwise (·<·)->a.count true=b.count true->bLex a b=true->lexI (sel a p) (sel b p)
 |[],_,_,_,_,_,_,h=>by simp[bLex]at h
 |_::_,[],_,ha,hb,_,_,_=>by simp at ha hb;omega
 |_::_,_::_,[],ha,_,_,_,_=>by simp at ha
 |x::a,y::b,z::p,ha,hb,hp,hc,h=>by
  obtain⟨p1,p2⟩:=List.pairwise_cons.1 hp
  simp only[bLex]at h
  cases x with
  |true=>
   cases y with
   |true=>
    simp at h hc ha hb
    simp only[sel,cond_true,lexI]
    exact .inr ⟨by simp,KY a b p ha hb p2 hc h⟩
   |false=>
    simp at hc ha hb
    simp only[sel,cond_true,cond_false]
    have hl:=Gk b p hb
    cases hs:sel b p with
    |nil=>rw[hs]at hl;simp at hl;omega
    |cons w l=>
     grind [lexI,KX]
  |false=>
   cases y with
   |true=>simp at h
   |false=>
    simp at h hc ha hb
    simp only[sel,cond_false]
    exact KY a b p ha hb p2 hc h
theorem NM{p:List Int}(hp:p.length<=6)(hi:p.Pairwise (·<·))(h:(iB p).find? f=some w):
  f w=true/\w.Sublist p/\∀v,v.Sublist p->f v=true->v=w\/w.length<v.length\/(w.length=v.length/\lexI w v):=by
 have hb:=jM.1 Qr p.length (WX.2 (by omega))
 simp only[qC]at hb
 obtain⟨⟨hb1,hb2⟩,hb3⟩:=hb
 have hpw:=M1 hb1
 have hl:∀b∈bitsAll p.length,b.length=p.length:=λb hb=>by simpa using jM.1 hb3 b hb
 rw[J4]at h
 obtain⟨hw,as1,bs,e,hn⟩:=List.find?_eq_some_iff_append.1 h
 obtain⟨l1,l2,e1,e2,e3⟩:=List.map_eq_append_iff.1 e
 obtain⟨b0,l3,e4,e5,e6⟩:=List.map_eq_cons_iff.1 e3
 refine⟨hw,by rw[←e5];exact KX _ _,λv hv hfv=>?_⟩
 obtain⟨b,h1,h2⟩:=PE hv
 have hm:b∈bitsAll p.length:=by
  have:=jM.1 hb2 b (by rw[←h1];exact C3 b)
  simpa using this
 have hb0:b0∈bitsAll p.length:=by rw[e1,e4];simp
 rw[e1,e4]at hm hpw
 rcases qH.1 hm with hm|hm
 .exfalso
  have:v∈as1:=by rw[←e2,←h2];exact qJ.2 ⟨b,hm,rfl⟩
  have:=hn v this
  simp[hfv]at this
 .rcases kD.1 hm with rfl|hm
  .exact .inl (by rw[←h2,←e5])
  .have hR:=(List.pairwise_cons.1 (List.pairwise_append.1 hpw).2.1).1 b hm
   rw[←e5,←h2,Gk b0 p (hl b0 hb0),Gk b p h1]
   simp only[bBef,zE,qC,decide_eq_true_eq,beq_iff_eq]at hR
   rcases hR with hR|⟨hc,hx⟩
   .exact .inr (.inl hR)
   .exact .inr (.inr ⟨hc,KY b0 b p (hl b0 hb0) h1 hi hc hx⟩)
theorem OE{p:List Int}(hp:p.length<=6)(h:(iB p).find? f=none){v:List Int}(hv:v.Sublist p):f v=false:=by
 have hb:=jM.1 Qr p.length (WX.2 (by omega))
 simp only[qC]at hb
 grind [PE,bitsAll,C3,J4]
theorem QR{p:aw}{k v:Int}{hs:List (List bW)}(h:((eh p k v hs w).1&&((eh p k v hs w).2==0))=true):ef w=true/\k<(p.dN.length:Int):=by grind [eh,Bool.or_eq_false_iff,decide_eq_false_iff_not]
theorem Jo(hA:c.Register.dF.length<=2000000){p:aw}(hp:Tp p){a b:List Int}(hab:∀x∈a,x∈b)(hb:ef a=true->ef b=true)(h:dt c p a=true):dt c p b=true:=by
 rw[Ca]at h ⊢
 obtain⟨h1,h2⟩:=QR h
 refine LY (w:=a) (w':=b) hp.sm (λl hl=>?_) (λl _ y _ hy=>hab _ hy) (hb h1) (by rw[hp.rules.1];exact h2) h
 obtain⟨j,_,rfl⟩:=qJ.1 hl
 exact kL (Bm _ _ _ _) hA
theorem LR{r:Register}{t:Int}(hsm:smR r)(hc:dM r=0)(hd:0<=eR r aV)(ht:0<=t/\t<1099511627776)(hk:0<=ah/\ah<1099511627776)(de:(rCourt r aV t ah).aV.At<=t){w':List Int}(hw:∀x∈w,x∈w')(hr:∀x∈w',0<=x/\x<64)(h:(iN r signed u aV t ah (rCourt r aV t ah).aV).decides w=true):
  (iN r signed u aV t ah (rCourt r aV t ah).aV).decides w'=true:=by
 obtain⟨hco,hno⟩:=yd hc hd ht hk
 have hj:Jdg r.Versions (askJ (rCourt r aV t ah)):=BF hco.vers hco.good.at_ ht hk de
 rw[O3 hc hd ht hk de,Rg]at h ⊢
 have e:iX (askJ (rCourt r aV t ah)).2.1 ((askJ (rCourt r aV t ah)).1.map (mAns (rCourt r aV t ah) w'))=iX (askJ (rCourt r aV t ah)).2.1 ((askJ (rCourt r aV t ah)).1.map (mAns (rCourt r aV t ah) w)):=by
  grind [iX]
 rw[e]
 cases h2:iX (askJ (rCourt r aV t ah)).2.1 ((askJ (rCourt r aV t ah)).1.map (mAns (rCourt r aV t ah) w)) != 0 with
 |true=>rw[h2]at h;cases h
 |false=>
  rw[h2]at h
  refine Q6 _ (λno hn ha=>?_) h
  obtain⟨_,hp⟩:=EM hco.vers (c:=rCourt r aV t ah) rfl (hj.mem no hn)
  have hpo:=us hco hsm hp
  rw[←S7 hp]at hpo
  refine Jo hsm.2.1 hpo (λx hx=>?_) (λhb=>?_) ha
  all_goals grind [TR,Kh]
def lkLt(a b:Lack):Prop:=a.Kind<b.Kind\/a.Kind=b.Kind/\a.N<b.N
theorem HW{a:Lack}(h:lkLt a a):False:=by unfold lkLt at h;omega
theorem OH{a b:Lack}(h:lkLt a b)(h':lkLt b a):False:=by unfold lkLt at h h';omega
theorem OG{a b c:Lack}(h:lkLt a b)(h':lkLt b c):lkLt a c:=by unfold lkLt at *;omega
theorem Gt{α : Type}{R:α->α->Prop}(irr:∀a,¬R a a)(asy:∀a b,R a b->¬R b a):∀{O V:List α},O.Pairwise R->V.Pairwise R->(∀x∈V,x∈O)->V.Sublist O
 |O,[],_,_,_=>List.nil_sublist O
 |[],v::vs,_,_,h=>(kA (h v (vB ..))).elim
 |o::os,v::vs,ho,hv,h=>by
  obtain⟨o1,o2⟩:=List.pairwise_cons.1 ho
  obtain⟨v1,v2⟩:=List.pairwise_cons.1 hv
  rcases kD.1 (h v (vB ..))with rfl|hm
  .refine(Gt irr asy o2 v2 λx hx=>?_).cons_cons v
   grind
  .refine(Gt irr asy o2 hv λx hx=>?_).cons o
   grind
theorem TM{O V:List Int}(ho:O.Pairwise (·<·))(hv:V.Pairwise (·<·))(h:∀x∈V,x∈O):V.Sublist O:=Gt (λa=>Int.lt_irrefl a) (λa b h=>by omega) ho hv h
theorem IV(a b:Lack):fa [a] [b]=true↔lkLt a b:=by
 show fa.L1 [b] fa.K1 [a] 0=true↔_
 grind [fa.L1,fa.K1,lkLt,nthI]
theorem H6(L:List Lack):∀(s pre:List Lack)(x:Lack),L=pre++x::s->(em.L1 L em.K1 s (pre.length+1)=true↔(x::s).Pairwise lkLt)
 |[],pre,x,_=>by simp[em.L1,em.K1]
 |y::s,pre,x,h=>by
  have ih:=H6 L s (pre++[x]) y (by rw[h];simp)
  simp only[jA,zA,zB,Nat.zero_add]at ih
  have hx:nthI L (((pre.length+1:Nat):Int)-1)=x:=by
   rw[show(((pre.length+1:Nat):Int)-1)=(pre.length:Int)from by omega]
   exact ou (by rw[h];simp)
  simp only[em.L1,hx,Bool.cond_eq_ite,xF]
  split
  .next hb=>
   constructor
   .intro h;cases h
   .intro hp
    have:=(IV x y).2 ((List.pairwise_cons.1 hp).1 y (vB ..))
    rw[this]at hb;cases hb
  .next hb=>
   have hxy:=(IV x y).1 (by simpa using hb)
   rw[ih]
   constructor
   .intro hp
    refine List.pairwise_cons.2 ⟨λz hz=>?_,hp⟩
    rcases kD.1 hz with rfl|hz
    .exact hxy
    .exact OG hxy ((List.pairwise_cons.1 hp).1 z hz)
   .grind
theorem wy(l:List Lack):em l=true↔l.Pairwise lkLt:=by
 cases l with
 |nil=>simp[em,em.L1,em.K1]
 |cons x s=>exact H6 (x::s) s [] x rfl
theorem KG(B:List Lack):∀(a b pre:List Lack),B=pre++b->a.length=b.length->fa.L1 B fa.K1 a pre.length=true->∃p x y a' b',a=p++x::a'/\b=p++y::b'/\lkLt x y
 |[],_,_,_,_,h=>by cases h
 |x::a,[],_,_,hl,_=>by simp at hl
 |x::a,y::b,pre,hB,hl,h=>by
  have hy:nthI B (pre.length:Int)=y:=ou (by rw[hB];simp)
  simp only[fa.L1,hy]at h
  by_cases hxy:x=y
  .subst hxy
   simp only[decide_true,Bool.not_true,cond_false]at h
   obtain⟨p,x',y',a',b',e1,e2,e3⟩:=KG B a b (pre++[x]) (by rw[hB];simp) (by simpa using hl) (by simpa using h)
   grind
  .refine⟨[],x,y,a,b,rfl,rfl,?_⟩
   simp only[hxy,decide_false,Bool.not_false,cond_true,zE,qC,decide_eq_true_eq,beq_iff_eq]at h
   exact h
theorem Vg{v:List Int}(hl:w.length=v.length){T:List Lack}(hlex:v=w\/lexI w v){p a b:List Lack}{x y:Lack}(e1:v.map (vT 1)++T=p++x::a)(e2:w.map (vT 1)++T=p++y::b)(h:lkLt x y):False:=by
 induction w generalizing v p with
 |nil=>
  have:v=[]:=List.length_eq_zero_iff.1 (by simpa using hl.symm)
  subst this
  rw[WI,vF]at e1 e2
  rw[e1]at e2
  have:=List.append_cancel_left e2
  cases this
  exact HW h
 |cons m w ih=>
  cases v with
  |nil=>simp at hl
  |cons n v=>
   cases p with
   |nil=>
    grind [lkLt,XW,lexI]
   |cons q p=>
    grind [XW,lexI]
def enF(q:QP)(l:List Lack):Bool:=((q.needs.all λn=>decide (vT 2 n∈l))&&(q.over.all λn=>decide (vT 3 n∈l)))&&q.decides (q.free.filter λp=>decide (vT 1 p∈l))
theorem containsL(l:List Lack)(v:Lack):mg l v=decide (v∈l):=by
 have h:∀(l:List Lack)(i:Nat),decide (0<=fF.L1 v fF.K1 l i)=decide (v∈l):=by
  intro l
  induction l with
  |nil=>intro i;simp[fF.L1,fF.K1]
  |cons y l ih=>
   intro i
   simp only[fF.L1,kD]
   grind
 exact h l 0
theorem Wj(hcl:q.closed=false)(l:List Lack):mt q 0 l=(enF q l,0):=by
 have hb:∀k s,kw l k s=!(s.all λn=>decide (vT k n∈l)):=λk s=>by
  grind [kw,nC,eT,containsL,List.not_all_eq_any_not,containsF]
 unfold mt enF
 rw[hcl,hb,hb,←Bool.not_and]
 have hd:fy q.free (λp=>jy p (λn=>eT n l 1))=q.free.filter λp=>decide (vT 1 p∈l):=by
  unfold fy
  apply List.filter_congr
  intro p _
  simp only[jy,eT,containsL,Bool.not_not]
 grind
structure IZ(q:QP):Prop where
 PM:q.closed=false
 few:q.free.length<=6
 inc:q.free.Pairwise (·<·)
 nd:q.needs.Pairwise (·<·)
 ov:q.over.Pairwise (·<·)
 nl:q.needs.length<=16
 ol:q.over.length<=12
 more:∀w w',(∀x∈w,x∈w')->(∀x∈w',x∈q.free)->q.decides w=true->q.decides w'=true
theorem LX(q:QP)(w:List Int):eV q w=w.map (vT 1)++(q.needs.map (vT 2)++q.over.map (vT 3)):=by grind [eV,DM]
theorem wx{x:Lack}:x∈eV q w↔(∃y∈w,x=⟨1,y⟩)\/(∃y∈q.needs,x=⟨2,y⟩)\/∃y∈q.over,x=⟨3,y⟩:=by
 rw[LX];simp only[qH,qJ,eq_comm]
theorem Lz{k:Int}{l:List Int}(h:l.Pairwise (·<·)):(l.map (vT k)).Pairwise lkLt:=by
 rw[List.pairwise_map];exact h.imp λh=>.inr ⟨rfl,h⟩
theorem LW(g:IZ q)(hw:w.Pairwise (·<·)):(eV q w).Pairwise lkLt:=by
 rw[LX,List.pairwise_append,List.pairwise_append]
 refine⟨Lz hw,⟨Lz g.nd,Lz g.ov,λa ha b hb=>?_⟩,λa ha b hb=>?_⟩
 .obtain⟨x,_,rfl⟩:=qJ.1 ha
  obtain⟨y,_,rfl⟩:=qJ.1 hb
  exact .inl (by simp only;omega)
 .obtain⟨x,_,rfl⟩:=qJ.1 ha
  rcases qH.1 hb with hb|hb<;>obtain⟨y,_,rfl⟩:=qJ.1 hb<;>exact .inl (by simp only;omega)
theorem O1{l:List Lack}(h:enF q l=true):(∀x∈eV q (q.free.filter λp=>decide (vT 1 p∈l)),x∈l)/\q.decides (q.free.filter λp=>decide (vT 1 p∈l))=true:=by
 simp only[enF,qC,jM,decide_eq_true_eq]at h
 refine⟨λx hx=>?_,h.2⟩
 rcases wx.1 hx with⟨y,hy,rfl⟩|⟨y,hy,rfl⟩|⟨y,hy,rfl⟩
 all_goals grind
theorem S8(g:IZ q)(hw:w.Sublist q.free){l:List Lack}(hl:∀x∈eV q w,x∈l)(hd:q.decides w=true):enF q l=true:=by
 simp only[enF,qC,jM,decide_eq_true_eq]
 refine⟨⟨λy hy=>hl _ (wx.2 (.inr (.inl ⟨y,hy,rfl⟩))),λy hy=>hl _ (wx.2 (.inr (.inr ⟨y,hy,rfl⟩)))⟩,g.more w _ (λx hx=>?_) (λx hx=>(WM.1 hx).1) hd⟩
 exact WM.2 ⟨hw.subset hx,by simpa using hl _ (wx.2 (.inl ⟨x,hx,rfl⟩))⟩
theorem Ut(g:IZ q)(hw:w.Sublist q.free)(hm:∀v,v.Sublist q.free->q.decides v=true->v=w\/w.length<v.length\/(w.length=v.length/\lexI w v)){A B:List Lack}{x:Lack}(e:eV q w=A++x::B):enF q (A++B)=false:=by
 have hwi:=g.inc.sublist hw
 have hp:=LW g hwi
 rw[e]at hp
 obtain⟨_,p2,p3⟩:=List.pairwise_append.1 hp
 have hx:x∉A++B:=λh=>by
  grind [HW]
 cases hf:enF q (A++B)with
 |false=>rfl
 |true=>
  exfalso
  obtain⟨h1,h2⟩:=O1 hf
  rcases wx.1 (by rw[e];simp:x∈eV q w)with⟨y,hy,rfl⟩|⟨y,hy,rfl⟩|⟨y,hy,rfl⟩
  .have hs:(q.free.filter λp=>decide (vT 1 p∈A++B)).Sublist w:=by
    refine TM hwi (g.inc.sublist List.filter_sublist) λz hz=>?_
    have hz2:vT 1 z∈A++B:=by simpa using(WM.1 hz).2
    have:vT 1 z∈eV q w:=by
     grind
    rcases wx.1 this with⟨y,hy,e⟩|⟨y,hy,e⟩|⟨y,hy,e⟩
    .cases e;exact hy
    .simp at e
    .simp at e
   have hy':y∉q.free.filter λp=>decide (vT 1 p∈A++B):=λh=>hx (by simpa using(WM.1 h).2)
   have hlt:(q.free.filter λp=>decide (vT 1 p∈A++B)).length<w.length:=by
    grind
   rcases hm _ List.filter_sublist h2 with h|h|h
   .rw[h]at hlt;omega
   .omega
   .omega
  .exact hx (h1 _ (wx.2 (.inr (.inl ⟨y,hy,rfl⟩))))
  .exact hx (h1 _ (wx.2 (.inr (.inr ⟨y,hy,rfl⟩))))
theorem Q4(g:IZ q)(hw:w.Sublist q.free)(hm:∀v,v.Sublist q.free->q.decides v=true->v=w\/w.length<v.length\/(w.length=v.length/\lexI w v)){l:List Lack}(he:enF q l=true)(ho:em l=true):fa l (eV q w)=false:=by
 obtain⟨h1,h2⟩:=O1 he
 have hvs:(q.free.filter λp=>decide (vT 1 p∈l)).Sublist q.free:=List.filter_sublist
 have hv:=hm _ hvs h2
 generalize (q.free.filter λp=>decide (vT 1 p∈l))=v at *
 have hs:(eV q v).Sublist l:=Gt (λ_=>HW) (λ_ _ h h'=>OH h h') ((wy l).1 ho) (LW g (g.inc.sublist hvs)) h1
 have hlen:=Qt q
 have de:=hs.length_le
 rw[hlen]at de
 have hwv:w.length<=v.length:=by rcases hv with rfl|h|h<;>omega
 cases hb:fa l (eV q w)with
 |false=>rfl
 |true=>
  exfalso
  unfold fa at hb
  rw[hlen]at hb
  by_cases hq:l.length=w.length+(q.needs.length+q.over.length)
  .have hl:l=eV q v:=(hs.eq_of_length_le (by rw[hlen];omega)).symm
   rw[hq]at hb
   simp only[bne_self_eq_false,cond_false]at hb
   obtain⟨p,x,y,a,b,e1,e2,e3⟩:=KG (eV q w) l (eV q w) [] rfl (by rw[hq,hlen]) hb
   grind [LX,Vg]
  .grind
theorem Nk{r:Register}{signed:List Int}{u:List Use}{aV t ah:Int}(k:Bool){L:List Lack}(hL:(aY r signed u aV t ah).1=L)(he:∀A x B,L=A++x::B->dS r signed u aV t ah (A++B)=(false,0)):∀(s pre:List Lack),L=pre++s->eA.L1 r signed u aV t ah k s pre.length=k
 |[],_,_=>rfl
 |x::s,pre,h=>by
  have ih:=Nk k hL he s (pre++[x]) (by rw[h];simp)
  simp only[jA,zA,zB,Nat.zero_add]at ih
  simp only[eA.L1,hL,ih]
  have e:L.take ((pre.length:Int)).toNat++L.drop ((((pre.length+1:Nat):Int))).toNat=pre++s:=by
   rw[Int.toNat_natCast,Int.toNat_natCast,h,List.take_left,show pre.length+1=pre.length+1 from rfl,List.drop_append]
   simp
  rw[e,he pre x s h]
  rfl
section
variable {r:Register} (hsm:smR r) {signed:List Int} {u:List Use} {aV t ah:Int} (hr:gV r signed u aV t ah=true)
include hsm hr
theorem Vf:aY r signed u aV t ah=lW aV (iN r signed u aV t ah (rCourt r aV t ah).aV) 0/\∀l,dS r signed u aV t ah l=mt (iN r signed u aV t ah (rCourt r aV t ah).aV) 0 l:=by
 have hg:=(Al hr).1
 obtain⟨hc,hd,_⟩:=Br hsm hg
 have hJ:=(Fb hsm hg).2
 have hq:io r signed u aV t ah=(iN r signed u aV t ah (rCourt r aV t ah).aV,0):=by
  grind [io,UJ]
 grind [aY,dS]
theorem MV:(iN r signed u aV t ah (rCourt r aV t ah).aV).closed=fK (rCourt r aV t ah) signed:=by
 have hJ:=(Fb hsm (Al hr).1).2
 show((bF r signed u aV t ah).1.State==1)=_
 rw[hJ]
 unfold judgeC
 cases fK (rCourt r aV t ah) signed with
 |true=>rfl
 |false=>cases jY (rCourt r aV t ah) signed<;>cases iz (rCourt r aV t ah)<;>cases(judgeRoom (rCourt r aV t ah) r u t ah).2.1<;>rfl
theorem T5(ho:fK (rCourt r aV t ah) signed=false):IZ (iN r signed u aV t ah (rCourt r aV t ah).aV):=by
 have hg:=(Al hr).1
 obtain⟨hc,hd,ht,hk,_,_⟩:=Br hsm hg
 obtain⟨hco,_⟩:=yd hc hd ht hk
 have hfr:(iN r signed u aV t ah (rCourt r aV t ah).aV).free=gC r (rCourt r aV t ah).aV t ah:=wE _
 obtain⟨_,f2,f3⟩:=D5 r t ah (rCourt r aV t ah).aV (vD 64) 0
 have hneed:(iN r signed u aV t ah (rCourt r aV t ah).aV).needs=(rCourt r aV t ah).aV.fp.filter λy=>!(gH (bD r.cd signed t).1 y):=HQ _ _ []
 have hbc:=((lF r).1 hc).2.2.2.1
 have hbi:r.dH.Pairwise (λa b=>a.No<b.No):=by
  grind [bX,budgetsP,Bt]
 have hst:(ep r.dH (rCourt r aV t ah).aV.Kind t ah).1.Sublist r.dH:=by
  unfold ep
  simp only[Bool.cond_eq_ite]
  grind [xe]
 have hov:(iN r signed u aV t ah (rCourt r aV t ah).aV).over=((ep r.dH (rCourt r aV t ah).aV.Kind t ah).1.filter λb=>!((bM [b] u (rCourt r aV t ah).aV.Kind (rCourt r aV t ah).aV.Value t ah).2.1)).map (·.No):=Lk _ _ _ _ _ []
 have hb12:r.dH.length<=12:=by
  have h1:=hg
  simp only[qv,qC]at h1
  have h2:=h1.1.1.1
  simp only[mr,Bool.cond_eq_ite]at h2
  grind
 refine⟨(MV hsm hr).trans ho,by rw[hfr];exact NK hr _,by rw[hfr];exact f2,?_,?_,?_,?_,λw w' h1 h2 h3=>?_⟩
 .rw[hneed];exact hco.good.needs.1.2.sublist List.filter_sublist
 .grind
 .rw[hneed];exact kL (List.length_filter_le _ _) hco.good.needs.2
 .grind
 .refine LR hsm hc hd ht hk (KE ho) h1 (λx hx=>?_) h3
  have hx2:=h2 x hx
  rw[hfr]at hx2
  have:=f3 x hx2
  rw[List.length_range]at this
  omega
theorem Nj(other:List Lack)(hl:other.length<=40):eA r signed u aV t ah other=true:=by
 obtain⟨hM,hE⟩:=Vf hsm hr
 have hcl:=MV hsm hr
 have hfr:(iN r signed u aV t ah (rCourt r aV t ah).aV).free.length<=6:=by
  have:(iN r signed u aV t ah (rCourt r aV t ah).aV).free=gC r (rCourt r aV t ah).aV t ah:=wE _
  rw[this];exact NK hr _
 unfold eA
 rw[show CO=true from rfl,hr,show decide (40<(other.length:Int))=false from decide_eq_false (by omega)]
 simp only[Bool.not_true,Bool.or_false,cond_false]
 have hF:=T5 hsm hr
 have hL1:=Nk (r:=r) (signed:=signed) (u:=u) (aV:=aV) (t:=t) (ah:=ah) (eA.K1 r signed u aV t ah other) rfl
 generalize iN r signed u aV t ah (rCourt r aV t ah).aV=q at *
 unfold lW at hM
 rw[show decide (12<(q.free.length:Int))=false from decide_eq_false (by omega)]at hM
 simp only[bne_self_eq_false,cond_false]at hM
 cases hc:fK (rCourt r aV t ah) signed with
 |true=>
  rw[hc]at hcl
  rw[hcl]at hM
  have hE':∀l,dS r signed u aV t ah l=(false,0):=λl=>by rw[hE];unfold mt;rw[hcl];rfl
  rw[hM]
  simp only[hE',cond_true,DM,kG,WI,(wy [vT 4 aV]).2 (List.pairwise_singleton _ _)]
  rfl
 |false=>
  have g:=hF hc
  have hE':∀l,dS r signed u aV t ah l=(enF q l,0):=λl=>(hE l).trans (Wj g.PM l)
  rw[g.PM]at hM
  simp only[cond_false]at hM
  cases hf:(iB q.free).find? q.decides with
  |none=>
   rw[hf]at hM
   have hn:∀l,enF q l=false:=λl=>by
    cases h:enF q l with
    |false=>rfl
    |true=>have:=OE g.few hf (v:=q.free.filter λp=>decide (vT 1 p∈l)) List.filter_sublist;rw[(O1 h).2]at this;cases this
   rw[hM]
   simp only[hE',hn,(wy []).2 List.Pairwise.nil]
   rfl
  |some w=>
   rw[hf]at hM
   obtain⟨h1,h2,h3⟩:=NM g.few g.inc hf
   have hen:=S8 g h2 (l:=eV q w) (λ_ h=>h) h1
   have hin:=(wy _).2 (LW g (g.inc.sublist h2))
   have hlen:(eV q w).length<=100:=by
    rw[LX];simp only[jA,List.length_map]
    have:=h2.length_le;have:=g.few;have:=g.nl;have:=g.ol
    omega
   have hL:=hL1 (λA x B e=>by rw[hM]at e;rw[hE',Ut g h2 h3 e]) (aY r signed u aV t ah).1 [] rfl
   rw[zB]at hL
   rw[hL,hM]
   unfold eA.K1
   grind [S8,enF,Q4]
end
theorem SA(r:Register)(signed:List Int)(u:List Use)(aV t ah:Int):(aY r signed u aV t ah).1.length<=1000000:=by
 have hfree:∀d,(ew (gC r d t ah)).length<=64:=λd=>by
  rw[wE]
  have:=(D5 r t ah d (vD 64) 0).1
  rw[List.length_range]at this
  exact this
 unfold aY io
 cases hJ:(bF r signed u aV t ah).2 != 0 with
 |true=>
  grind [lW]
 |false=>
  have hc:dM r=0:=by
   grind [bF]
  have hd:(fq r aV).fp.length<=16:=by
   show(nthI r.cd ((bsPos ao.No r.cd aV:Nat):Int)).fp.length<=16
   by_cases hb:bsPos ao.No r.cd aV<r.cd.length
   .exact(EZ ((lF r).1 hc).2.2.2.2.2.1 _ (ow ⟨by omega,by omega⟩)).needs.2
   .have:nthI r.cd ((bsPos ao.No r.cd aV:Nat):Int)=default:=by
     grind [nthI]
    rw[this];exact zH _
  rw[cond_false]
  have hq1:(iN r signed u aV t ah (fq r aV)).needs.length<=16:=by
   show(je _ _ []).length<=16
   grind [HQ]
  have hq2:(iN r signed u aV t ah (fq r aV)).over.length<=4096:=by
   show(jX _ _ _ _ _ []).length<=4096
   grind [Lk,JF,lF]
  have hq3:(iN r signed u aV t ah (fq r aV)).free.length<=64:=hfree _
  generalize iN r signed u aV t ah (fq r aV)=q at *
  unfold lW
  rw[show((0:Int) != 0)=false from rfl,cond_false]
  cases decide (12<(q.free.length:Int))with
  |true=>simp
  |false=>
   cases q.closed with
   |true=>simp[DM]
   |false=>
    simp only[cond_false]
    cases hf:(iB q.free).find? q.decides with
    |none=>simp
    |some w=>
     have:=MF (List.mem_of_find?_eq_some hf)
     grind [Qt]
theorem least_true{r:Register}(hsm:smR r){t:Int}{other:List Lack}:eA r signed u aV t ah other=true:=by
 cases hr:gV r signed u aV t ah with
 |true=>
  by_cases hl:other.length<=40
  .exact Nj hsm hr other hl
  .unfold eA
   rw[show decide (40<(other.length:Int))=true from decide_eq_true (by omega),Bool.or_true,cond_true]
   rfl
 |false=>unfold eA;rw[hr];rfl
end
variable {S:List Nat}{e':Env}
section
section
variable {P:Program} {b:Frame} {n:Nat} {k:List Item} {F:List Frame->(Machine->Prop)->Prop} {e:Env} {ds:List Deferred} {X:Cx} {h:HF} {L:LH}
variable {ops:Array Oper} {l:List Oper} {d:Nat} {ty:TypeId} {pos:String} {af:Array Edge} {g:Option (Nat×Bool)}
def memN:List Nat->Nat->Bool
 |[],_=>false
 |a::l,s=>bif jW s a then true else memN l s
def mix(S:List Nat)(e' e:Env):Env:=λs=>bif memN S s then e' s else e s
def subN:List Nat->List Nat->Bool
 |[],_=>true
 |a::l,S=>memN S a&&subN l S
def Agr(S:List Nat)(e e':Env):Prop:=∀s,memN S s=false->e' s=e s
theorem rL{e:Env}:Agr S e e:=λ_ _=>rfl
theorem uu{e:Env}{d:Nat}{w:Value}(hd:memN S d=true)(h:Agr S e e'):Agr S e (upd e' d w):=λs hs=>by
 unfold upd
 cases hb:jW s d with
 |true=>rw[qM hb,hd]at hs;cases hs
 |false=>exact h s hs
theorem SC{T:List Nat}(h:subN T S=true){s:Nat}(hs:memN S s=false):memN T s=false:=by
 induction T with
 |nil=>rfl
 |cons a T ih=>
  simp only[subN,qC]at h
  simp only[memN]
  cases hb:jW s a with
  |true=>rw[qM hb,h.1]at hs;cases hs
  |false=>exact ih h.2
theorem uv{T:List Nat}{e e2:Env}(hT:subN T S=true)(h:Agr S e e'):Agr S e (mix T e2 e'):=λs hs=>by
 unfold mix
 rw[SC hT hs];exact h s hs
theorem PC(m:Nat)(S:List Nat)(d:Nat)(v:Value)(t':(∀e',e' d=v->(ha:Agr S e e':=by repeat (first|exact rL|refine uu rfl ?_|refine uv rfl ?_))->TO P b n ops (l.drop m) k F e' ds X h L)->TO P b n ops l k F e ds X h L)(hk:∀e'',TO P b n ops (l.drop m) k F (upd (mix S e'' e) d v) ds X h L):TO P b n ops l k F e ds X h L:=
 t' λe' hv ha=>by
  have e1:upd (mix S e' e) d v=e':=funext λs=>by
   unfold upd
   cases hb:jW s d with
   |true=>rw[qM hb];exact hv.symm
   |false=>
    show mix S e' e s=e' s
    unfold mix
    cases hm:memN S s with
    |true=>rfl
    |false=>exact(ha s hm).symm
  have:=hk e'
  rw[e1]at this
  exact this
theorem aH{x z:α}{c:Bool}{o:Operand}{p q:Code}(hs:x=bif c then y else z)(hx:e.ev o=.bool c)(t1:c=true->x=y->TT P b n (.code p::k) F e ds X h L)(t2:c=false->x=z->TT P b n (.code q::k) F e ds X h L):TT P b n (.code (.cond o p q)::k) F e ds X h L:=
 ly hx (λe'=>t1 e' (hs.trans (by rw[e'];rfl))) (λe'=>t2 e' (hs.trans (by rw[e'];rfl)))
end
end
variable {l:List Oper}{op:Op}{ops:Array Oper}{v:Go.Value}
section
inductive Qs
 |tt (k:List Item) (e:Env)
 |to (ops:Array Oper) (l:List Oper) (k:List Item) (e:Env)
@[reducible] def Qs.holds (P:Program) (b:Frame) (n:Nat) (F:List Frame->(Machine->Prop)->Prop) (ds:List Deferred) (X:Cx) (h:HF) (L:LH):Qs->Prop
 |.tt k e=>TT P b n k F e ds X h L
 |.to ops l k e=>TO P b n ops l k F e ds X h L
def opQ(e:Env):Op->Option Value
 |.move x=>some (e.ev x)
 |.assign x=>some (e.ev x)
 |.pick c x y=>match e.ev c with
  |.bool s=>some (bif s then e.ev x else e.ev y)
  |_=>none
 |.extract x i=>match e.ev x with
  |.tuple ⟨vs⟩=>nth vs i
  |_=>none
 |.unOp .not _ x=>match e.ev x with
  |.bool s=>some (.bool !s)
  |_=>none
 |.binOp op _ x y _=>binV op (e.ev x) (e.ev y)
 |_=>none
def qstepO(n:Nat)(ops:Array Oper)(l:List Oper)(k:List Item)(e:Env):Option Qs:=
 match l with
 |[]=>some (.tt k e)
 |⟨some d,op,ty,pos,af,g⟩::l=>
  match zJ d n with
  |false=>none
  |true=>match guardB ops e ⟨some d,op,ty,pos,af,g⟩with
   |false=>some (.to ops l k (upd e d undef))
   |true=>match opQ e op with
    |some v=>some (.to ops l k (upd e d v))
    |none=>none
 |_=>none
def qstepT(k:List Item)(e:Env):Option Qs:=
 match k with
 |.code .skip::k=>some (.tt k e)
 |.code (.seq x y)::k=>some (.tt (.code x::.code y::k) e)
 |.code (.block id c)::k=>some (.tt (.code c::.inBlock id::k) e)
 |.inBlock _::k=>some (.tt k e)
 |.code (.exit id)::k=>match exitTo id k with
  |some k'=>some (.tt k' e)
  |none=>none
 |.code (.cond c x y)::k=>match e.ev c with
  |.bool true=>some (.tt (.code x::k) e)
  |.bool false=>some (.tt (.code y::k) e)
  |_=>none
 |.code (.region _ ⟨l⟩ false)::k=>some (.to ⟨l⟩ l k e)
 |_=>none
def runQ(n:Nat):Nat->Qs->Option Qs
 |0,s=>some s
 |m+1,.tt k e=>match qstepT k e with
  |some s=>runQ n m s
  |none=>none
 |m+1,.to ops l k e=>match qstepO n ops l k e with
  |some s=>runQ n m s
  |none=>none
section
variable {P:Program} {b:Frame} {n:Nat} {k:List Item} {F:List Frame->(Machine->Prop)->Prop} {e:Env} {ds:List Deferred} {X:Cx} {h:HF} {L:LH}
theorem ED(hv:opQ e op=some v):noDefer op=true/\∀(d:Option Nat)(ty:TypeId)(pos:String)(af:Array Edge)(g:Option (Nat×Bool))w,(execOp e.ev ⟨d,op,ty,pos,af,g⟩).run P w=.ok (.value v) w:=by
 unfold opQ at hv
 split at hv
 .cases hv;exact⟨rfl,λ_ _ _ _ _ w=>by simp[execOp]⟩
 .cases hv;exact⟨rfl,λ_ _ _ _ _ w=>by simp[execOp]⟩
 .split at hv
  .next s hc=>cases hv;exact⟨rfl,λ_ _ _ _ _ w=>by cases s<;>simp[execOp,hc,asBool]⟩
  .cases hv
 .split at hv
  .next vs hx=>exact⟨rfl,λ_ _ _ _ _ w=>by rw[i9]at hv;simp[execOp,hx,Instr.extract,hv]⟩
  .cases hv
 .split at hv
  .next s hx=>cases hv;exact⟨rfl,λ_ _ _ _ _ w=>by simp[execOp,hx,Op.unary]⟩
  .cases hv
 .next op t x y u=>
  exact⟨rfl,λ_ _ _ _ _ w=>by
   have:=Hb (P:=P) (t:=t) (x:=x) (y:=y) hv w
   simp only[execOp,Sem.run_bind]at this ⊢
   simp[this]⟩
 .cases hv
theorem QO{s:Qs}(hs:qstepO n ops l k e=some s)(t:s.holds P b n F ds X h L):TO P b n ops l k F e ds X h L:=by
 unfold qstepO at hs
 split at hs
 .cases hs;exact bo t
 .split at hs
  .cases hs
  .next hd=>
   split at hs
   .next hg=>cases hs;exact HO t hd hg
   .next hg=>
    split at hs
    .next v hv=>
     cases hs
     obtain⟨h1,h2⟩:=ED (P:=P) hv
     exact rQ v h1 (λw _=>h2 _ _ _ _ _ w) hd hg t
    .cases hs
 .cases hs
theorem Kf{s:Qs}(hs:qstepT k e=some s)(t:s.holds P b n F ds X h L):TT P b n k F e ds X h L:=by
 unfold qstepT at hs
 split at hs
 .cases hs;exact bL t
 .cases hs;exact ea t
 .cases hs;exact m7 t
 .cases hs;exact fW t
 .split at hs
  .next hx=>cases hs;exact kW hx t
  .cases hs
 .split at hs
  .next hc=>cases hs;exact mC hc t
  .next hc=>cases hs;exact ot hc t
  .cases hs
 .cases hs;exact bJ t
 .cases hs
theorem Gm:∀(m:Nat)(a:Qs){s:Qs},runQ n m a=some s->s.holds P b n F ds X h L->a.holds P b n F ds X h L
 |0,_,_,hr,t=>by cases hr;exact t
 |m+1,.tt k e,s,hr,t=>by
  unfold runQ at hr
  split at hr
  .next s' hs=>exact Kf hs (Gm m s' hr t)
  .cases hr
 |m+1,.to ops l k e,s,hr,t=>by
  unfold runQ at hr
  split at hr
  .next s' hs=>exact QO hs (Gm m s' hr t)
  .cases hr
theorem qT(m:Nat){s:Qs}(hr:runQ n m (.tt k e)=some s)(t:s.holds P b n F ds X h L):TT P b n k F e ds X h L:=Gm m (.tt k e) hr t
theorem qO(m:Nat){s:Qs}(hr:runQ n m (.to ops l k e)=some s)(t:s.holds P b n F ds X h L):TO P b n ops l k F e ds X h L:=Gm m (.to ops l k e) hr t
end
end
variable {P:Program}{a:Bool}{args:List Go.Value}{fn:Func}{id:Nat}{x:Operand}{x0:ρ}{γ:Type}
section
section
variable {P:Program} {b:Frame} {n:Nat} {k:List Item} {F:List Frame->(Machine->Prop)->Prop} {e:Env} {ds:List Deferred} {X:Cx} {h:HF} {L:LH}
theorem rds(h:p:=by repeat (first|exact trivial|refine⟨rfl,?_⟩)):p:=h
theorem sws(h:p:=by first|exact λw hw=>hw|(intro w hw;first|simpa only[List.append_assoc,List.cons_append,List.nil_append,List.append_nil]using hw|(simp only[List.append_assoc,List.cons_append,List.nil_append,List.append_nil]at hw ⊢;exact hw))):p:=h
theorem ndA(h:p:=by(intro i g hd hf hx e;refine ea (bJ (i8 (v':=.bool false) rfl (congrArg Value.bool hf) (bo (ea (ot rfl (kW rfl (hx _ ?_)))))));exact rds)):p:=h
theorem ndB(h:p:=by(intro i hd hf hx e;refine ea (bJ (i8 (v':=.bool false) rfl (congrArg Value.bool hf) (bo (ea (ot rfl (kW rfl (hx _ ?_)))))));exact rds)):p:=h
theorem lpG{c:Code}(xs:List α)(sl:Nat->γ->List (Nat×Value))(hh:γ->HF)(LL:γ->LH)(J:Nat->γ->Prop)(Lf:List α->Nat->γ->ρ)(g0:γ)(hb:xs.length<=9223372036854775807)(hs:x0=Lf xs 0 g0)(hJ:J 0 g0)(h0:iD e (sl 0 g0))(hw:∀w,St X h L w->St X (hh g0) (LL g0) w)(after:∀i g,i<=xs.length->x0=Lf [] i g->J i g->∀e',TT P b n k F (upds e' (sl i g)) ds X (hh g) (LL g))(cons:∀i g y r,xs.drop i=y::r->decide ((i:Int)<(xs.length:Int))=true->xs[i]? = some y->i<xs.length->xs.length<=9223372036854775807->x0=Lf (y::r) i g->J i g ->
   (∀i' g' {e'},x0=Lf [] i' g'->J i' g'->i'<=xs.length->iD e' (sl i' g')->TT P b n k F e' ds X (hh g') (LL g')) ->
   (∀g' {e'},x0=Lf r (i+1) g'->J (i+1) g'->iD e' (sl (i+1) g')->TT P b n (.inLoop c::.inBlock id::k) F e' ds X (hh g') (LL g')) ->
   ∀e',TT P b n (.code c::.inLoop c::.inBlock id::k) F (upds e' (sl i g)) ds X (hh g) (LL g))(nil:∀i g,xs.drop i=[]->decide ((i:Int)<(xs.length:Int))=false->(∀e',iD e' (sl i g)->TT P b n k F e' ds X (hh g) (LL g)) ->
   ∀e',TT P b n (.code c::.inLoop c::.inBlock id::k) F (upds e' (sl i g)) ds X (hh g) (LL g)):
  TT P b n (.code (.block id (.loop c))::k) F e ds X h L:=by
 refine gB (ι:=Nat×γ) (λi=>sl i.1 i.2) (λi=>hh i.2) (λi=>LL i.2) (λi=>i.1<=xs.length/\x0=Lf [] i.1 i.2/\J i.1 i.2) ?_ (λhx=>?_)
 .grind
 .refine ju (ι:=Nat×γ×List α) (λi=>sl i.1 i.2.1) (λi=>hh i.2.1) (λi=>LL i.2.1) (λi=>xs.drop i.1=i.2.2/\i.1<=xs.length/\x0=Lf i.2.2 i.1 i.2.1/\J i.1 i.2.1) (λi=>i.2.2.length) (0,g0,xs) h0 hw ⟨rfl,zH _,hs,hJ⟩ ?_
  rintro⟨i,g,s⟩ ⟨hd,hi,hs,hJ⟩ ag e'
  dsimp only at hd hi hs hJ
  rcases s with _|⟨y,r⟩
  .exact nil i g hd (nF hd) (λe'' hr=>hx (i,g) e'' ⟨hi,hs,hJ⟩ hr) e'
  .exact cons i g y r hd (tc hd) (rJ hd) (ip hd) hb hs hJ (λi' g' e'' a b c d=>hx (i',g') e'' ⟨c,a,b⟩ d)
    (λg' e'' a b hr=>ag (i+1,g',r) e'' (Nat.lt_succ_self _) ⟨kx hd,ip hd,a,b⟩ hr) e'
theorem lp2{c:Code}(xs:List α)(sl:Nat->γ->List (Nat×Value))(hh:γ->HF)(LL:γ->LH)(J:Nat->γ->Prop)(Lf:List α->Nat->γ->ρ)(g0:γ)(hb:xs.length<=9223372036854775807)(hs:x0=Lf xs 0 g0)(hJ:J 0 g0)(after:∀i g,i<=xs.length->x0=Lf [] i g->J i g->∀e',TT P b n k F (upds e' (sl i g)) ds X (hh g) (LL g))(cons:∀i g y r,xs.drop i=y::r->decide ((i:Int)<(xs.length:Int))=true->xs[i]? = some y->i<xs.length->xs.length<=9223372036854775807->x0=Lf (y::r) i g->J i g ->
   (∀i' g' {e'},x0=Lf [] i' g'->J i' g'->(hi:i'<=xs.length:=by omega)->(hr:iD e' (sl i' g'):=by exact rds)->TT P b n k F e' ds X (hh g') (LL g')) ->
   (∀g' {e'},x0=Lf r (i+1) g'->J (i+1) g'->(hr:iD e' (sl (i+1) g'):=by exact rds)->TT P b n (.inLoop c::.inBlock id::k) F e' ds X (hh g') (LL g')) ->
   ∀e',TT P b n (.code c::.inLoop c::.inBlock id::k) F (upds e' (sl i g)) ds X (hh g) (LL g))(nil:∀i g,xs.drop i=[]->decide ((i:Int)<(xs.length:Int))=false->(∀e',iD e' (sl i g)->TT P b n k F e' ds X (hh g) (LL g)) ->
   ∀e',TT P b n (.code c::.inLoop c::.inBlock id::k) F (upds e' (sl i g)) ds X (hh g) (LL g):=by exact ndA)(h0:iD e (sl 0 g0):=by exact rds)(hw:∀w,St X h L w->St X (hh g0) (LL g0) w:=by exact sws):
  TT P b n (.code (.block id (.loop c))::k) F e ds X h L:=
 lpG xs sl hh LL J Lf g0 hb hs hJ h0 hw after cons nil
theorem lp1{c:Code}(xs:List α)(sl:Nat->γ->List (Nat×Value))(L':LH)(Lf:List α->Nat->γ->ρ)(g0:γ)(hb:xs.length<=9223372036854775807)(hs:x0=Lf xs 0 g0)(after:∀i g,i<=xs.length->x0=Lf [] i g->∀e',TT P b n k F (upds e' (sl i g)) ds X h L')(cons:∀i g y r,xs.drop i=y::r->decide ((i:Int)<(xs.length:Int))=true->xs[i]? = some y->i<xs.length->xs.length<=9223372036854775807->x0=Lf (y::r) i g ->
   (∀i' g' {e'},x0=Lf [] i' g'->(hi:i'<=xs.length:=by omega)->(hr:iD e' (sl i' g'):=by exact rds)->TT P b n k F e' ds X h L') ->
   (∀g' {e'},x0=Lf r (i+1) g'->(hr:iD e' (sl (i+1) g'):=by exact rds)->TT P b n (.inLoop c::.inBlock id::k) F e' ds X h L') ->
   ∀e',TT P b n (.code c::.inLoop c::.inBlock id::k) F (upds e' (sl i g)) ds X h L')(nil:∀i g,xs.drop i=[]->decide ((i:Int)<(xs.length:Int))=false->(∀e',iD e' (sl i g)->TT P b n k F e' ds X h L') ->
   ∀e',TT P b n (.code c::.inLoop c::.inBlock id::k) F (upds e' (sl i g)) ds X h L':=by exact ndA)(h0:iD e (sl 0 g0):=by exact rds)(hw:∀w,St X h L w->St X h L' w:=by exact sws):
  TT P b n (.code (.block id (.loop c))::k) F e ds X h L:=
 lpG xs sl (λ_=>h) (λ_=>L') (λ_ _=>True) Lf g0 hb hs trivial h0 hw (λi g a b _=>after i g a b) (λi g y r a1 a2 a3 a4 a5 a6 _ hx ag=>cons i g y r a1 a2 a3 a4 a5 a6 (λi' g' _ a hi hr=>hx i' g' a trivial hi hr) (λg' _ a hr=>ag g' a trivial hr)) nil
theorem lp0{c:Code}(xs:List α)(sl:Nat->List (Nat×Value))(L':LH)(Lf:List α->Nat->ρ)(hb:xs.length<=9223372036854775807)(hs:x0=Lf xs 0)(after:∀i,i<=xs.length->x0=Lf [] i->∀e',TT P b n k F (upds e' (sl i)) ds X h L')(cons:∀i y r,xs.drop i=y::r->decide ((i:Int)<(xs.length:Int))=true->xs[i]? = some y->i<xs.length->xs.length<=9223372036854775807->x0=Lf (y::r) i ->
   (∀i' {e'},x0=Lf [] i'->(hi:i'<=xs.length:=by omega)->(hr:iD e' (sl i'):=by exact rds)->TT P b n k F e' ds X h L') ->
   (∀{e'},x0=Lf r (i+1)->(hr:iD e' (sl (i+1)):=by exact rds)->TT P b n (.inLoop c::.inBlock id::k) F e' ds X h L') ->
   ∀e',TT P b n (.code c::.inLoop c::.inBlock id::k) F (upds e' (sl i)) ds X h L')(nil:∀i,xs.drop i=[]->decide ((i:Int)<(xs.length:Int))=false->(∀e',iD e' (sl i)->TT P b n k F e' ds X h L') ->
   ∀e',TT P b n (.code c::.inLoop c::.inBlock id::k) F (upds e' (sl i)) ds X h L':=by exact ndB)(h0:iD e (sl 0):=by exact rds)(hw:∀w,St X h L w->St X h L' w:=by exact sws):
  TT P b n (.code (.block id (.loop c))::k) F e ds X h L:=
 lpG (γ:=Unit) xs (λi _=>sl i) (λ_=>h) (λ_=>L') (λ_ _=>True) (λl i _=>Lf l i) () hb hs trivial h0 hw (λi _ a b _=>after i a b) (λi _ y r a1 a2 a3 a4 a5 a6 _ hx ag=>cons i y r a1 a2 a3 a4 a5 a6 (λi' _ a hi hr=>hx i' () a trivial hi hr) (λa hr=>ag () a trivial hr)) (λi _=>nil i)
theorem gy(m:Nat)(S:List Nat)(s d:Nat)(y:Bool){x:Bool}(hx:e s=.bool x)(t':x=false->(∀e',e' d=.bool y->(ha:Agr S e e':=by repeat (first|exact rL|refine uu rfl ?_|refine uv rfl ?_))->TO P b n ops (l.drop m) k F e' ds X h L)->TO P b n ops l k F (upd e s (.bool false)) ds X h L)(hk:∀e'',TO P b n ops (l.drop m) k F (upd (mix S e'' e) d (.bool (x||y))) ds X h L)(hq:∃e2,runQ n m (.to ops l k (upd e s (.bool true)))=some (.to ops (l.drop m) k e2)/\e2 d=.bool true/\Agr S e e2:=by exact⟨_,rfl,rfl,by repeat (first|exact rL|refine uu rfl ?_|refine uv rfl ?_)⟩):TO P b n ops l k F e ds X h L:=by
 refine PC m S d (.bool (x||y)) (λhj=>?_) hk
 refine uO s hx (λc=>?_) (λc=>t' c (λe' he ha=>hj e' (he.trans (by rw[c];rfl)) ha))
 grind [qO]
theorem kI(m:Nat)(S:List Nat)(s d:Nat)(y:Bool){x:Bool}(hx:e s=.bool x)(t':x=true->(∀e',e' d=.bool y->(ha:Agr S e e':=by repeat (first|exact rL|refine uu rfl ?_|refine uv rfl ?_))->TO P b n ops (l.drop m) k F e' ds X h L)->TO P b n ops l k F (upd e s (.bool true)) ds X h L)(hk:∀e'',TO P b n ops (l.drop m) k F (upd (mix S e'' e) d (.bool (x&&y))) ds X h L)(hq:∃e2,runQ n m (.to ops l k (upd e s (.bool false)))=some (.to ops (l.drop m) k e2)/\e2 d=.bool false/\Agr S e e2:=by exact⟨_,rfl,rfl,by repeat (first|exact rL|refine uu rfl ?_|refine uv rfl ?_)⟩):TO P b n ops l k F e ds X h L:=by
 refine PC m S d (.bool (x&&y)) (λhj=>?_) hk
 refine uO s hx (λc=>t' c (λe' he ha=>hj e' (he.trans (by rw[c];rfl)) ha)) (λc=>?_)
 grind [qO]
theorem Uz(s:Nat)(v:Value)(hv:e s=v)(t:TO P b n ops l k F (upd e s v) ds X h L):TO P b n ops l k F e ds X h L:=by grind [xg]
end
def look3:List (Nat×Nat×Nat)->Nat->Nat->Option Nat
 |[],_,_=>none
 |(a,b,c)::l,s,i=>bif jW a s&&jW b i then some c else look3 l s i
def tabOk(P:Program)(tF:List (Nat×Nat×Nat))(tY tS:List Nat):Bool:=
 tF.all (λx=>fldOf P x.1 x.2.1==some x.2.2)&&tY.all (λt=>tySz P t==some (1,false))&&tS.all (λt=>match P.underlying t with|some (.slice _)=>true|_=>false)
def Uw:List (Nat×Nat)->Prop
 |[]=>True
 |(a,b)::q=>a=b/\Uw q
def runL(tF:List (Nat×Nat×Nat))(tY tS:List Nat)(n:Nat)(L:LH):Nat->List Nat->Qs->Option (Qs×List (Nat×Nat))
 |0,_,s=>some (s,[])
 |m+1,is,.tt k e=>match qstepT k e with
  |some s=>runL tF tY tS n L m is s
  |none=>none
 |m+1,is,.to ops [] k e=>runL tF tY tS n L m is (.tt k e)
 |m+1,is,.to ops (⟨some d,op,ty,pos,af,g⟩::l) k e=>match zJ d n with
  |false=>none
  |true=>match guardB ops e ⟨some d,op,ty,pos,af,g⟩with
   |false=>runL tF tY tS n L m is (.to ops l k (upd e d undef))
   |true=>match op with
    |.fieldAddr s x i=>match e.ev x,look3 tF s i with
     |.pointer (some a),some off=>runL tF tY tS n L m is (.to ops l k (upd e d (.pointer (some (a.add off)))))
     |_,_=>none
    |.load t x=>match e.ev x,is with
     |.pointer (some ⟨bk,off,none⟩),i::is=>match nth L i with
      |some (bk',.cells ⟨cl⟩ _ _)=>match nth cl off,memN tY t with
       |some v,true=>match runL tF tY tS n L m is (.to ops l k (upd e d v))with
        |some (s,q)=>some (s,(bk,bk')::q)
        |none=>none
       |_,_=>none
      |_=>none
     |_,_=>none
    |.call ⟨.builtin .len,⟨[x]⟩,⟨[t]⟩⟩=>match e.ev x,memN tS t with
     |.slice _ m' _,true=>runL tF tY tS n L m is (.to ops l k (upd e d (.int .i64 (m':Int))))
     |_,_=>none
    |op=>match opQ e op with
     |some v=>runL tF tY tS n L m is (.to ops l k (upd e d v))
     |none=>none
 |_+1,_,.to _ _ _ _=>none
theorem HV:∀{l:List Nat}{a:Nat},memN l a=true->a∈l
 |[],_,h=>by cases h
 |b::l,a,h=>by
  unfold memN at h
  cases hb:jW a b with
  |true=>rw[qM hb];exact vB ..
  |false=>rw[hb]at h;exact xC _ (HV h)
theorem Bz:∀{l:List (Nat×Nat×Nat)}{s i o:Nat},look3 l s i=some o->(s,i,o)∈l
 |[],_,_,_,h=>by cases h
 |(a,b,c)::l,s,i,o,h=>by
  unfold look3 at h
  cases hb:jW a s&&jW b i with
  |true=>
   rw[hb]at h;cases h
   simp only[qC]at hb
   rw[qM hb.1,qM hb.2];exact vB ..
  |false=>rw[hb]at h;exact xC _ (Bz h)
section
variable {P:Program} {b:Frame} {n:Nat} {k:List Item} {F:List Frame->(Machine->Prop)->Prop} {e:Env} {ds:List Deferred} {X:Cx} {h:HF} {L:LH}
theorem uf{tF:List (Nat×Nat×Nat)}{tY tS:List Nat}(hT:tabOk P tF tY tS=true):∀(m:Nat)(is:List Nat)(a:Qs){s:Qs}{q:List (Nat×Nat)},runL tF tY tS n L m is a=some (s,q)->Uw q->s.holds P b n F ds X h L->a.holds P b n F ds X h L
 |0,is,a,s,q,hr,hq,t=>by
  simp only[runL,zP,XT]at hr;rw[hr.1];exact t
 |m+1,is,.tt k e,s,q,hr,hq,t=>by
  unfold runL at hr
  split at hr
  .next hs=>exact Kf hs (uf hT m _ _ hr hq t)
  .cases hr
 |m+1,is,.to ops [] k e,s,q,hr,hq,t=>by
  unfold runL at hr
  exact bo (uf hT m _ _ hr hq t)
 |m+1,is,.to ops (⟨none,op,ty,pos,af,g⟩::l) k e,s,q,hr,hq,t=>by
  unfold runL at hr
  cases hr
 |m+1,is,.to ops (⟨some d,op,ty,pos,af,g⟩::l) k e,s,q,hr,hq,t=>by
  have hT':=hT
  simp only[tabOk,qC,jM]at hT'
  obtain⟨⟨h1,h2⟩,h3⟩:=hT'
  unfold runL at hr
  split at hr
  .cases hr
  .next hd=>
   split at hr
   .next hg=>exact HO (uf hT m _ _ hr hq t) hd hg
   .next hg=>
    split at hr
    .split at hr
     .next hx hl=>exact lD (by simpa using h1 _ (Bz hl)) hx (uf hT m _ _ hr hq t) hd hg
     .cases hr
    .split at hr
     .next hx=>
      split at hr
      .next hn=>
       split at hr
       .next hv hm=>
        split at hr
        .next hr2=>
         cases hr
         obtain⟨e1,hq⟩:=hq
         subst e1
         exact py _ (by simpa using h2 _ (HV hm)) hx hn hv (uf hT m _ _ hr2 hq t) hd hg
        .cases hr
       .cases hr
      .cases hr
     .cases hr
    .split at hr
     .next hx hm=>
      have:=h3 _ (HV hm)
      split at this
      .next hu=>exact Fk hu hx (uf hT m _ _ hr hq t) hd hg
      .cases this
     .cases hr
    .split at hr
     .next v hv=>
      obtain⟨g1,g2⟩:=ED (P:=P) hv
      exact rQ v g1 (λw _=>g2 _ _ _ _ _ w) hd hg (uf hT m _ _ hr hq t)
     .cases hr
end
theorem sT{f:FuncId}{c:Code}{h:HF}{A:LH}{R:Ending->HF->LH->Prop}(hf:P.funcs[f]? = some fn)(hb:fn.body=some c)(hn:fn.ntmps=n)(de:Nat.ble args.length n=true)(t:∀X:Cx,X.M=A.map (·.1)->X.h0=h->P.funcs[f]? = some fn->TT P (bodyFrame f) n [.code c] (mV P X R) (envArgs args) [] X h A):pJ P f args.toArray h A R:=by grind [cX]
section
variable {P:Program} {f:FuncId} {n:Nat} {k:List Item} {e:Env} {X:Cx} {h:HF} {L:LH} {fn:Func} {rs:List ResultVar} {φ : Value->HF->Prop}
theorem nretP{hh:HF}(vs:List Value)(hvv:retVal vs=v)(hf:P.funcs[f]? = some fn:=by assumption)(hr:fn.results=rs.toArray:=by rfl)(hX:X.h0=hh:=by assumption)(hv:tl P e L rs vs:=by exact rds):
  TT P (bodyFrame f) n (.code .ret::k) (mV P X (λx h' B=>x=.returned v/\h'=hh/\B=[])) e [] X h L:=wd vs hf hr hX hv hvv
theorem nretH(vs:List Value)(hφ : φ (retVal vs) h)(hf:P.funcs[f]? = some fn:=by assumption)(hr:fn.results=rs.toArray:=by rfl)(hv:tl P e L rs vs:=by exact rds):
  TT P (bodyFrame f) n (.code .ret::k) (mV P X (λx h' B=>B=[]/\∃v,x=.returned v/\φ v h')) e [] X h L:=lL vs hf hr hv hφ
end
section grows
variable {P:Program} {b:Frame} {n:Nat} {ops:Array Oper} {F:List Frame->(Machine->Prop)->Prop} {e:Env} {ds:List Deferred} {X:Cx} {h:HF} {L:LH} {K:Env->HF->LH->Prop} {d:Option Nat} {ty:TypeId} {pos:String} {af:Array Edge} {g:Option (Nat×Bool)}
variable {α : Type} {R:Rp α} {E:TypeId} {xs:List α} {base:Option Addr} {cap bk:Nat} {G:LH}
theorem yv{α:Type}{R:Rp α}{C:α->ρ->List Value}{ok:HF->α->ρ->Prop}{t E:TypeId}{ix:Operand}{base:Option Addr}{cap:Nat}{xs:List α}{y:α}{z:Int}(hT:P.underlying t=some (.slice E))(hS:tySz P E=some (R.sz,a))(hR:SlB R h base xs)(hz:0<=z/\z<(xs.length:Int))(hj:xs[z.toNat]? = some y)(hx:e.ev x=.slice base m cap)(hm:m=xs.length)(hix:e.ev ix=.int .i64 z)(hC:∀h cs y,R.rep h cs y->∃r,cs=C y r/\ok h y r)(t':∀q r,At h q (C y r)->ok h y r->K (pute e d (.pointer (some q))) h L)(hg:guardB ops e ⟨d,.indexAddr t x ix,ty,pos,af,g⟩=true:=by rfl):Stp P b n ops F ds X ⟨d,.indexAddr t x ix,ty,pos,af,g⟩ e h L K:=
 MJ hT hS hR hz hj hx hm hix (λq cs A ln rr=>by obtain⟨r,e1,o1⟩:=hC _ _ _ rr;subst e1;exact t' q r A o1) hg
end grows
end
variable {K:LH}{R:Rp α}{af:Array Edge}{dn dn':List Nat}{e:Env}{g:Option (Nat×Bool)}{m':Nat}{pos:String}{ty:TypeId}
section
theorem U.{u}{α : Sort u}{a:α}:a=a:=rfl
abbrev zSN:Go.Value:=.slice none 0 0
abbrev zAD(b:Nat):Option Addr:=some ⟨b,0,none⟩
theorem kr(h:p:=by kernel_rfl):p:=h
theorem ob(h:p:=by first|assumption|omega|(simp only[] ;assumption)|(simp only[decide_eq_true_eq,decide_eq_false_iff_not,Bool.and_eq_true,Bool.or_eq_true,Bool.not_eq_true',Bool.not_eq_false',Bool.and_eq_false_iff,Bool.or_eq_false_iff,beq_iff_eq,beq_eq_false_iff_ne,bne_iff_ne,bne_eq_false_iff_eq,List.length_append,List.length_cons,List.length_nil,List.length_drop]at *;omega)):p:=h
theorem lo(h:p:=by simp only[List.length_append,List.length_cons,List.length_nil,List.length_take,List.length_drop];omega):p:=h
theorem ap(h:p:=by first|rfl|(simp only[List.append_assoc,List.cons_append,List.nil_append,List.append_nil];done)|(simp only[List.append_assoc,List.cons_append,List.nil_append,List.append_nil];rfl)|(rw[List.append_nil]<;>rfl)|(simp only[dropNth,List.append_assoc,List.cons_append,List.nil_append,List.append_nil];done)):p:=h
theorem lc(h:p:=by first|omega|(simp only[List.length_nil,List.length_cons]at *;omega)):p:=h
theorem rd(h:p:=by repeat (first|exact trivial|refine⟨rfl,?_⟩)):p:=h
theorem jn{h:HF}{L:LH}(hs:K.Sublist L:=by repeat (first|exact List.Sublist.refl _|exact List.nil_sublist _|exact List.sublist_append_left _ _|refine List.Sublist.cons_cons _ ?_|refine List.Sublist.cons _ ?_)):Jst h K h L:=DN hs
theorem js{L:LH}(hs:K.Sublist L:=by repeat (first|exact List.Sublist.refl _|exact List.nil_sublist _|exact List.sublist_append_left _ _|refine List.Sublist.cons_cons _ ?_|refine List.Sublist.cons _ ?_)):K.Sublist L:=hs
theorem mh{G L:LH}(h:∀p∈G,p∈L:=by intro p hp;simp only[List.mem_append,List.mem_cons,hp,true_or,or_true]):∀p∈G,p∈L:=h
theorem ei{enc:α->List Value}(h:∀h cs x,R.rep h cs x->cs=enc x:=by exact λ_ _ _ e=>e):∀h cs x,R.rep h cs x->cs=enc x:=h
theorem lf{h:HF}:h.le h:=HF.le_refl h
theorem xf(h:p:=by first|exact λ_ _ _ h=>h.elim|exact λ_ _ _ _ h=>h.elim):p:=h
theorem cb{b:Bool}(h:a=b):vV a=vV b:=congrArg vV h
theorem cs{b:Bool}(h:a=b):vV b=vV a:=congrArg vV h.symm
theorem ci{a b:Int}(h:a=b):zC .i64 b=zC .i64 a:=congrArg (zC .i64) h.symm
abbrev O(l:List Value)(t:Nat):Obj:=jG l.toArray t (0,0)
abbrev Y(x:Int):Value:=.int .u8 x
abbrev Q(b:Nat):Value:=.pointer (some ⟨b,0,none⟩)
abbrev I(x:Int):Value:=.int .i64 x
theorem HF.le.t{a b c:HF}(x:a.le b)(y:b.le c):a.le c:=HF.le_trans x y
section
variable {P:Program} {b:Frame} {n:Nat} {k:List Item} {F:List Frame->(Machine->Prop)->Prop} {ds:List Deferred} {X:Cx}
theorem tf(i:Nat){h1:HF}{d:Nat}{oi:Oper}{h:HF}{L:LH}(hi:nth l i=some oi)(hd:oi.dst=some d)(hr:∀h' L',Jst h1 K h' L'->∀w,St X h' L' w->(execOp e.ev oi).run P w=.ok (.value v) w)(t:TA P b n l.toArray k F ds X (Jst h1 K) m (i::dn) (upd e d v) h L)(hsep:sepAll l.toArray=true:=by assumption)(hJ:Jst h1 K h L:=by exact jn)(hn:(nexts l.toArray dn).contains i=true:=by kernel_rfl)(hg:guardB l.toArray e oi=true:=by rfl):TA P b n l.toArray k F ds X (Jst h1 K) (m+1) dn e h L:=
 ki i hsep hJ hi hd hn hg hr t
theorem tm(i:Nat){h1:HF}{d:Nat}{h:HF}{L:LH}(hi:nth l i=some ⟨some d,.move x,ty,pos,af,g⟩)(t:TA P b n l.toArray k F ds X (Jst h1 K) m (i::dn) (upd e d (e.ev x)) h L)(hsep:sepAll l.toArray=true:=by assumption)(hJ:Jst h1 K h L:=by exact jn)(hn:(nexts l.toArray dn).contains i=true:=by kernel_rfl)(hg:guardB l.toArray e ⟨some d,.move x,ty,pos,af,g⟩=true:=by rfl):TA P b n l.toArray k F ds X (Jst h1 K) (m+1) dn e h L:=
 ki i hsep hJ hi rfl hn hg (λ_ _ _=>nX) t
theorem tk(i:Nat){h1:HF}{d:Nat}{oi:Oper}{h:HF}{L:LH}(hi:nth l i=some oi)(hd:oi.dst=some d)(t:TA P b n l.toArray k F ds X (Jst h1 K) m (i::dn) (upd e d undef) h L)(hsep:sepAll l.toArray=true:=by assumption)(hJ:Jst h1 K h L:=by exact jn)(hn:(nexts l.toArray dn).contains i=true:=by kernel_rfl)(hg:guardB l.toArray e oi=false:=by rfl):TA P b n l.toArray k F ds X (Jst h1 K) (m+1) dn e h L:=
 np i hsep hJ hi hd hn hg t
theorem tn(i:Nat){h1:HF}{oi:Oper}{h:HF}{L:LH}(hi:nth l i=some oi)(t:Stp P b n l.toArray F ds X oi e h L λe' h' L'=>Jst h1 K h' L'/\TA P b n l.toArray k F ds X (Jst h1 K) m (i::dn) e' h' L')(hn:nexts l.toArray dn=[i]:=by kernel_rfl):TA P b n l.toArray k F ds X (Jst h1 K) (m+1) dn e h L:=
 RY i hn hi t
theorem sr{y:Code}{h:HF}{L:LH}(t:TO P b n l.toArray l (.code y::k) F e ds X h L):TT P b n (.code (.seq (.region id l.toArray false) y)::k) F e ds X h L:=ea (bJ t)
theorem an{d:Nat}{h:HF}{L:LH}(t:TT P b n k F (upd e d (e.ev x)) ds X h L)(hd:Nat.blt d n=true:=by rfl)(hg:guardB ops e ⟨some d,.assign x,ty,pos,af,g⟩=true:=by rfl):TO P b n ops [⟨some d,.assign x,ty,pos,af,g⟩] k F e ds X h L:=iu (bo t) hd hg
theorem kq{d d':Nat}{op':Op}{ty':TypeId}{pos':String}{af':Array Edge}{g':Option (Nat×Bool)}{h:HF}{L:LH}(t:TO P b n ops l k F (upd (upd e d undef) d' undef) ds X h L)(hd:Nat.blt d n=true:=by rfl)(hg:guardB ops e ⟨some d,op,ty,pos,af,g⟩=false:=by rfl)(hd':Nat.blt d' n=true:=by rfl)(hg':guardB ops (upd e d undef) ⟨some d',op',ty',pos',af',g'⟩=false:=by rfl):TO P b n ops (⟨some d,op,ty,pos,af,g⟩::⟨some d',op',ty',pos',af',g'⟩::l) k F e ds X h L:=HO (HO t hd' hg') hd hg
def runA(l:List Oper):List Nat->Nat->List Nat->Env->Option (Nat×List Nat×Env)
 |[],m,dn,e=>some (m,dn,e)
 |i::is,m,dn,e=>match m with
  |0=>none
  |m+1=>match nth l i with
   |some ⟨some d,op,ty,pos,af,g⟩=>match guardB l.toArray e ⟨some d,op,ty,pos,af,g⟩with
    |false=>runA l is m (i::dn) (upd e d undef)
    |true=>match opQ e op with
     |some v=>runA l is m (i::dn) (upd e d v)
     |none=>none
   |_=>none
def allNext(l:List Oper):List Nat->List Nat->Bool
 |[],_=>true
 |i::is,dn=>(nexts l.toArray dn).contains i&&allNext l is (i::dn)
theorem Gp{l:List Oper}{h1:HF}{K:LH}{h:HF}{L:LH}(hsep:sepAll l.toArray=true)(hJ:Jst h1 K h L):∀(is:List Nat)(m:Nat)(dn:List Nat)(e:Env){m':Nat}{dn':List Nat}{e':Env},runA l is m dn e=some (m',dn',e')->allNext l is dn=true->TA P b n l.toArray k F ds X (Jst h1 K) m' dn' e' h L->TA P b n l.toArray k F ds X (Jst h1 K) m dn e h L
 |[],m,dn,e,_,_,_,hr,_,t=>by cases hr;exact t
 |i::is,0,dn,e,_,_,_,hr,_,_=>by simp[runA]at hr
 |i::is,m+1,dn,e,_,_,_,hr,hn,t=>by
  simp only[allNext,qC]at hn
  simp only[runA]at hr
  split at hr
  .next hi=>
   split at hr
   .next hg=>exact np i hsep hJ hi rfl hn.1 hg (Gp hsep hJ is m _ _ hr hn.2 t)
   .next hg=>
    split at hr
    .next v hv=>exact ki i hsep hJ hi rfl hn.1 hg (λ_ _ _ w _=>(ED hv).2 _ _ _ _ _ w) (Gp hsep hJ is m _ _ hr hn.2 t)
    .cases hr
  .cases hr
theorem qA(is:List Nat){h1:HF}{h:HF}{L:LH}(hr:runA l is m dn e=some (m',dn',e'))(t:TA P b n l.toArray k F ds X (Jst h1 K) m' dn' e' h L)(hsep:sepAll l.toArray=true:=by assumption)(hJ:Jst h1 K h L:=by exact jn)(hn:allNext l is dn=true:=by kernel_rfl):TA P b n l.toArray k F ds X (Jst h1 K) m dn e h L:=Gp hsep hJ is m dn e hr hn t
theorem qR(a c:Nat){h1:HF}{h:HF}{L:LH}(hr:runA l (List.range' a c) m dn e=some (m',dn',e'))(t:TA P b n l.toArray k F ds X (Jst h1 K) m' dn' e' h L)(hsep:sepAll l.toArray=true:=by assumption)(hJ:Jst h1 K h L:=by exact jn)(hn:allNext l (List.range' a c) dn=true:=by kernel_rfl):TA P b n l.toArray k F ds X (Jst h1 K) m dn e h L:=Gp hsep hJ _ m dn e hr hn t
def opB(tF:List (Nat×Nat×Nat))(e:Env):Op->Option Value
 |.fieldAddr s x i=>match e.ev x,look3 tF s i with
  |.pointer (some a),some off=>some (.pointer (some (a.add off)))
  |_,_=>none
 |op=>opQ e op
theorem U8{tF:List (Nat×Nat×Nat)}(hT:(tF.all λx=>fldOf P x.1 x.2.1==some x.2.2)=true)(hv:opB tF e op=some v)(h:HF)(L:LH)(d:Option Nat)(ty:TypeId)(pos:String)(af:Array Edge)(g:Option (Nat×Bool)):∀w,St X h L w->(execOp e.ev ⟨d,op,ty,pos,af,g⟩).run P w=.ok (.value v) w:=by
 unfold opB at hv
 split at hv
 .split at hv
  .next hx hl=>
   cases hv
   exact yZ (by simpa using(jM.1 hT) _ (Bz hl)) hx
  .cases hv
 .exact λw _=>(ED hv).2 _ _ _ _ _ w
def runB(tF:List (Nat×Nat×Nat))(l:List Oper):List Nat->Nat->List Nat->Env->Option (Nat×List Nat×Env)
 |[],m,dn,e=>some (m,dn,e)
 |i::is,m,dn,e=>match m with
  |0=>none
  |m+1=>match nth l i with
   |some ⟨some d,op,ty,pos,af,g⟩=>match guardB l.toArray e ⟨some d,op,ty,pos,af,g⟩with
    |false=>runB tF l is m (i::dn) (upd e d undef)
    |true=>match opB tF e op with
     |some v=>runB tF l is m (i::dn) (upd e d v)
     |none=>none
   |_=>none
theorem Gn{tF:List (Nat×Nat×Nat)}(hT:(tF.all λx=>fldOf P x.1 x.2.1==some x.2.2)=true){l:List Oper}{h1:HF}{K:LH}{h:HF}{L:LH}(hsep:sepAll l.toArray=true)(hJ:Jst h1 K h L):∀(is:List Nat)(m:Nat)(dn:List Nat)(e:Env){m':Nat}{dn':List Nat}{e':Env},runB tF l is m dn e=some (m',dn',e')->allNext l is dn=true->TA P b n l.toArray k F ds X (Jst h1 K) m' dn' e' h L->TA P b n l.toArray k F ds X (Jst h1 K) m dn e h L
 |[],m,dn,e,_,_,_,hr,_,t=>by cases hr;exact t
 |i::is,0,dn,e,_,_,_,hr,_,_=>by simp[runB]at hr
 |i::is,m+1,dn,e,_,_,_,hr,hn,t=>by
  simp only[allNext,qC]at hn
  simp only[runB]at hr
  split at hr
  .next hi=>
   split at hr
   .next hg=>exact np i hsep hJ hi rfl hn.1 hg (Gn hT hsep hJ is m _ _ hr hn.2 t)
   .next hg=>
    split at hr
    .next v hv=>exact ki i hsep hJ hi rfl hn.1 hg (λh' L' _ w hw=>U8 hT hv h' L' _ _ _ _ _ w hw) (Gn hT hsep hJ is m _ _ hr hn.2 t)
    .cases hr
  .cases hr
theorem tu{h1 h2:HF}(de:h1.le h2){h:HF}{L:LH}(t:TA P b n ops k F ds X (Jst h2 K) m dn e h L):TA P b n ops k F ds X (Jst h1 K) m dn e h L:=qm de (λ_ hp=>hp) t
end
theorem jl{h h2:HF}{L:LH}(de:h.le h2)(hs:K.Sublist L:=by repeat (first|exact List.Sublist.refl _|exact List.nil_sublist _|exact List.sublist_append_left _ _|refine List.Sublist.cons_cons _ ?_|refine List.Sublist.cons _ ?_)):Jst h K h2 L:=⟨de,λ_ hp=>hs.subset hp⟩
theorem sw(h:p:=by first|exact λw hw=>hw|(intro w hw;first|simpa only[List.append_assoc,List.cons_append,List.nil_append,List.append_nil]using hw|(simp only[List.append_assoc,List.cons_append,List.nil_append,List.append_nil]at hw ⊢;exact hw))):p:=h
section
variable {P:Program} {b:Frame} {n:Nat} {k:List Item} {F:List Frame->(Machine->Prop)->Prop} {ds:List Deferred} {X:Cx} {ops:Array Oper} {l:List Oper} {d:Nat} {op:BinOp} {t u ty:TypeId} {x y:Operand} {pos:String} {af:Array Edge} {g:Option (Nat×Bool)} {e:Env} {h:HF} {L:LH}
theorem oi(i:Nat)(hv:binV op (e.ev x) (e.ev y)=some (.int .i64 (IntKind.i64.wrap ((i:Int)+1))))(t':TO P b n ops l k F (upd e d (.int .i64 (((i+1):Nat):Int))) ds X h L)(hb:i<9223372036854775807:=by exact ob)(hd:Nat.blt d n=true:=by rfl)(hg:guardB ops e ⟨some d,.binOp op t x y u,ty,pos,af,g⟩=true:=by rfl):
  TO P b n ops (⟨some d,.binOp op t x y u,ty,pos,af,g⟩::l) k F e ds X h L:=i8 hv (nH hb) t' hd hg
theorem tO(ha:a=true)(hv:binV op (e.ev x) (e.ev y)=some (.bool a))(t':TO P b n ops l k F (upd e d (.bool true)) ds X h L)(hd:Nat.blt d n=true:=by rfl)(hg:guardB ops e ⟨some d,.binOp op t x y u,ty,pos,af,g⟩=true:=by rfl):
  TO P b n ops (⟨some d,.binOp op t x y u,ty,pos,af,g⟩::l) k F e ds X h L:=i8 hv (cb ha) t' hd hg
theorem fO(ha:a=false)(hv:binV op (e.ev x) (e.ev y)=some (.bool a))(t':TO P b n ops l k F (upd e d (.bool false)) ds X h L)(hd:Nat.blt d n=true:=by rfl)(hg:guardB ops e ⟨some d,.binOp op t x y u,ty,pos,af,g⟩=true:=by rfl):
  TO P b n ops (⟨some d,.binOp op t x y u,ty,pos,af,g⟩::l) k F e ds X h L:=i8 hv (cb ha) t' hd hg
end
section
variable {P:Program} {d:Option Nat} {ty t:TypeId} {pos:String} {af:Array Edge} {g:Option (Nat×Bool)} {x:Operand} {m bk off T:Nat} {fz:Nat×Nat} {cl cs:List Value} {v:Value} {e:Env} {X:Cx} {h1:HF} {K:LH} {q:Addr}
theorem rj(i:Nat)(hT:tySz P t=some (m,false))(hx:e.ev x=.pointer (some ⟨bk,off,none⟩))(hi:nth K i=some (bk,jG cl.toArray T fz))(hv:nth cl off=some v):∀h' L',Jst h1 K h' L'->∀w,St X h' L' w->(execOp e.ev ⟨d,.load t x,ty,pos,af,g⟩).run P w=.ok (.value v) w:=λ_ _ hj=>vX hT hx (hj.nth hi) hv
theorem rh(hT:tySz P t=some (m,false))(ha:At h1 q (v::cs))(hx:e.ev x=.pointer (some q)):∀h' L',Jst h1 K h' L'->∀w,St X h' L' w->(execOp e.ev ⟨d,.load t x,ty,pos,af,g⟩).run P w=.ok (.value v) w:=λ_ _ hj=>Sd hT (ha.mono hj.1) hx
theorem rH(j:Nat)(hT:tySz P t=some (m,false))(ha:At h1 q cs)(hx:e.ev x=.pointer (some (q.add j)))(hv:nth cs j=some v):∀h' L',Jst h1 K h' L'->∀w,St X h' L' w->(execOp e.ev ⟨d,.load t x,ty,pos,af,g⟩).run P w=.ok (.value v) w:=λ_ _ hj=>Se j hT (ha.mono hj.1) hx hv
end
section
variable {P:Program} {b:Frame} {n:Nat} {ops:Array Oper} {F:List Frame->(Machine->Prop)->Prop} {ds:List Deferred} {X:Cx} {e:Env} {h:HF} {L:LH} {d:Option Nat} {ty:TypeId} {pos:String} {af:Array Edge} {g:Option (Nat×Bool)} {K:Env->HF->LH->Prop} {α : Type} {R:Rp α} {t E:TypeId} {x ix:Operand} {a:Bool} {base:Option Addr} {m cap:Nat} {xs:List α} {y:α} {i:Nat}
theorem iF(enc:α->List Value)(hT:P.underlying t=some (.slice E))(hS:tySz P E=some (R.sz,a))(hR:SlB R h base xs)(hj:xs[i]? = some y)(hx:e.ev x=.slice base m cap)(hm:m=xs.length)(hix:e.ev ix=.int .i64 (i:Int))(t':∀q,At h q (enc y)->K (pute e d (.pointer (some q))) h L)(hR':∀h cs x,R.rep h cs x->cs=enc x:=by exact λ_ _ _ e=>e)(hg:guardB ops e ⟨d,.indexAddr t x ix,ty,pos,af,g⟩=true:=by rfl):Stp P b n ops F ds X ⟨d,.indexAddr t x ix,ty,pos,af,g⟩ e h L K:=tx hR' hT hS hR (nthZ hj) (gI hj) hx hm hix t' hg
theorem iG(hT:P.underlying t=some (.slice E))(hS:tySz P E=some (R.sz,a))(hR:SlB R h base xs)(hj:xs[i]? = some y)(hx:e.ev x=.slice base m cap)(hm:m=xs.length)(hix:e.ev ix=.int .i64 (i:Int))(t':∀q cs,At h q cs->cs.length=R.sz->R.rep h cs y->K (pute e d (.pointer (some q))) h L)(hg:guardB ops e ⟨d,.indexAddr t x ix,ty,pos,af,g⟩=true:=by rfl):Stp P b n ops F ds X ⟨d,.indexAddr t x ix,ty,pos,af,g⟩ e h L K:=MJ hT hS hR (nthZ hj) (gI hj) hx hm hix t' hg
theorem iR{C:α->ρ->List Value}{ok:HF->α->ρ->Prop}(hT:P.underlying t=some (.slice E))(hS:tySz P E=some (R.sz,a))(hR:SlB R h base xs)(hj:xs[i]? = some y)(hx:e.ev x=.slice base m cap)(hm:m=xs.length)(hix:e.ev ix=.int .i64 (i:Int))(hC:∀h cs y,R.rep h cs y->∃r,cs=C y r/\ok h y r)(t':∀q r,At h q (C y r)->ok h y r->K (pute e d (.pointer (some q))) h L)(hg:guardB ops e ⟨d,.indexAddr t x ix,ty,pos,af,g⟩=true:=by rfl):Stp P b n ops F ds X ⟨d,.indexAddr t x ix,ty,pos,af,g⟩ e h L K:=yv hT hS hR (nthZ hj) (gI hj) hx hm hix hC t' hg
end
theorem cE(y:α){h:HF}{cs:List Value}(hl:cs.length=R.sz)(hr:R.rep h cs y):cS R h cs [y]:=⟨cs,[],by simp,hl,hr,rfl⟩
end
section
open Go.Proofs
abbrev eP := @Tryz.underlying31
abbrev nI := @Tryz.underlying3
abbrev nR := @Tryz.underlying35
abbrev qI := @Tryz.underlying57
abbrev xh := @Tryz.underlying27
abbrev Cr := @Tryz.underlying26
abbrev Cq := @Tryz.call329
abbrev Et := @Tryz.underlying136
abbrev Es := @Tryz.call25
abbrev GB := @Tryz.underlying56
abbrev Ac := @Tryz.underlying28
abbrev BW := @Tryz.call309
abbrev Vz := @Tryz.underlying4
abbrev GH := @Tryz.func4
abbrev Dd := @Tryz.underlying25
abbrev Dc := @Tryz.call83
abbrev Db := @Tryz.underlying43
abbrev Da := @Tryz.call16
abbrev JU := @Tryz.underlying32
abbrev GG := @Tryz.underlying24
abbrev GF := @Tryz.underlying105
abbrev GE := @Tryz.func28
abbrev GD := @Tryz.func322
abbrev GC := @Tryz.func24
abbrev JS := @Tryz.underlying23
abbrev JQ := @Tryz.call145
abbrev JP := @Tryz.func314
abbrev RP := @Tryz.underlying9
abbrev JO := @Tryz.func281
abbrev RO := @Tryz.underlying139
abbrev JN := @Tryz.call15
abbrev JM := @Tryz.call11
abbrev Mo := @Tryz.underlying252
abbrev Mn := @Tryz.call282
abbrev Pz := @Tryz.underlying306
abbrev Mm := @Tryz.func155
abbrev Ml := @Tryz.underlying186
abbrev Mk := @Tryz.func65
abbrev Mj := @Tryz.underlying358
abbrev Mi := @Tryz.func264
abbrev Mh := @Tryz.underlying190
abbrev Mg := @Tryz.ntmps24
abbrev Mf := @Tryz.call24
abbrev Me := @Tryz.underlying101
abbrev Md := @Tryz.call105
abbrev Py := @Tryz.underlying61
abbrev Px := @Tryz.underlying55
abbrev Pw := @Tryz.underlying226
abbrev Pv := @Tryz.underlying301
abbrev Pu := @Tryz.underlying367
abbrev Pt := @Tryz.call188
abbrev Ps := @Tryz.call283
abbrev Pr := @Tryz.func279
abbrev Pq := @Tryz.func280
abbrev Wm := @Tryz.func98
abbrev Pp := @Tryz.underlying249
abbrev Po := @Tryz.func123
abbrev Pl := @Tryz.func326
abbrev Pk := @Tryz.call94
abbrev Pj := @Tryz.call319
abbrev Pi := @Tryz.func126
abbrev Ph := @Tryz.underlying254
abbrev Pg := @Tryz.func224
abbrev Pf := @Tryz.func134
abbrev Pe := @Tryz.func52
abbrev Pd := @Tryz.call17
abbrev Wl := @Tryz.underlying5
abbrev RN := @Tryz.underlying22
abbrev RM := @Tryz.underlying45
abbrev RL := @Tryz.underlying36
abbrev RK := @Tryz.underlying20
abbrev RJ := @Tryz.func308
abbrev RI := @Tryz.func217
abbrev tz_73 := @Tryz.underlying0
abbrev RH := @Tryz.func287
abbrev RG := @Tryz.func223
abbrev RF := @Tryz.underlying221
abbrev RE := @Tryz.func266
abbrev RD := @Tryz.underlying264
abbrev RC := @Tryz.func305
abbrev RB := @Tryz.func195
abbrev RA := @Tryz.func331
abbrev Rz := @Tryz.func289
abbrev Ry := @Tryz.underlying191
abbrev Rx := @Tryz.func268
abbrev Rw := @Tryz.func328
abbrev Rv := @Tryz.func272
abbrev Ru := @Tryz.call206
abbrev Rt := @Tryz.underlying98
abbrev Rs := @Tryz.func124
abbrev Rr := @Tryz.func69
abbrev Rq := @Tryz.call21
abbrev Ro := @Tryz.call8
abbrev Rn := @Tryz.call177
end
variable {E T:TypeId}{H:Type}{fuel:Nat}{ps:List MemPlace}
section
open Go.Proofs Go.Proofs.Tryz
set_option maxHeartbeats 2000000
def hOf(w:World):HF:=λb=>w.heap[b]?
theorem pre_hOf(w:World):Pre (hOf w) [] w:=⟨λ_ _ h=>h,λ_ hp=>(kA hp).elim,List.nodup_nil,λ_ hp=>(kA hp).elim⟩
theorem Qq{w:World}{a:Addr}(h:w.cell? a=some v):a.spot=none/\∃c T fz,w.heap[a.block]? = some (.cells c T fz)/\c[a.off]? = some v:=by
 unfold World.cell? at h
 split at h
 .next c T fz e=>
  split at h
  .cases h
  .next hs=>exact⟨by simpa using hs,c,T,fz,e,h⟩
 .cases h
theorem Ng{α β : Type}{f:α->Option β}:∀{l:List α}{r:List β},l.mapM f=some r->l.length=r.length/\∀(j:Nat)(x:α),l[j]? = some x->f x=r[j]?
 |[],r,h=>by simp at h;subst h;exact⟨rfl,λj x hj=>by simp at hj⟩
 |a::l,r,h=>by
  rw[List.mapM_cons]at h
  simp only[Option.bind_eq_bind,Option.bind_eq_some_iff,Option.pure_def,zP]at h
  obtain⟨b,hb,r',hr,rfl⟩:=h
  obtain⟨h1,h2⟩:=Ng hr
  grind
theorem Tf{w:World}{base:Nat}{a:Addr}{cs:List Value}(hn:0<n)(h:w.cells? base a n=some cs):At (hOf w) a cs/\cs.length=n:=by
 unfold World.cells? at h
 split at h
 .obtain⟨h1,h2⟩:=Ng h
  rw[List.length_range]at h1
  have hc:∀j v,cs[j]? = some v->w.cell? (a.add j)=some v:=λj v hv=>by
   grind
  obtain⟨v,hv⟩:∃v,cs[0]? = some v:=⟨cs[0],List.getElem?_eq_getElem (by omega)⟩
  obtain⟨s1,c,T,fz,s2,s3⟩:=Qq (hc 0 v hv)
  have hsp:a.spot=none:=by simpa[zQ]using s1
  have hbl:∀j,(a.add j).block=a.block/\(a.add j).off=a.off+j:=λj=>by
   grind [zQ]
  refine⟨⟨c,T,fz,?_,hsp,λj u hu=>?_⟩,h1.symm⟩
  .rw[(hbl 0).1]at s2;exact s2
  .obtain⟨_,c',T',fz',t2,t3⟩:=Qq (hc j u hu)
   grind
 .cases h
def szL{α : Type}(f:α->Nat):List α->Nat
 |[]=>0
 |x::xs=>f x+szL f xs
theorem GO{α : Type}(f:α->Nat):∀(l r:List α),szL f (l++r)=szL f l+szL f r
 |[],r=>by simp[szL]
 |x::l,r=>by simp[szL,GO f l r,Nat.add_assoc]
theorem szL_len{α : Type}{f:α->Nat}(hf:∀x,1<=f x):∀(l:List α),l.length<=szL f l
 |[]=>kE _
 |x::l=>by have:=szL_len hf l;have:=hf x;simp[szL];omega
theorem KR{α : Type}{f:α->Nat}{x:α}:∀{l:List α},x∈l->f x<=szL f l
 |y::l,h=>by
  rcases kD.1 h with rfl|h
  .simp[szL]
  .have:=KR (f:=f) h;simp[szL];omega
theorem PD:∀(l:List aj),szL aj.dep l=aj.depL l
 |[]=>rfl
 |y::l=>by simp[szL,aj.depL,PD l]
open YtafbfagbjekhhaaGreatDoor.Rows in
theorem bulk_one(d:DataW H):1<=uptoBulk d:=by
 cases d with
 |lit l=>cases l<;>simp[uptoBulk]
 |nil=>simp[uptoBulk]
 |ptr d=>simp[uptoBulk]
 |slice elems spare=>simp[uptoBulk]
 |agg parts=>simp[uptoBulk]
 |iface t d=>simp[uptoBulk]
 |map entries=>simp[uptoBulk]
 |held h=>simp[uptoBulk]
open YtafbfagbjekhhaaGreatDoor.Rows in
theorem N6(l r:List (DataW H)):uptoBulkAll (l++r)=uptoBulkAll l+uptoBulkAll r:=by
 induction l with
 |nil=>simp[uptoBulkAll]
 |cons x l ih=>simp only[xL,uptoBulkAll,ih];omega
section opn
open YtafbfagbjekhhaaGreatDoor.Rows
variable {H:Type} {enc:TypeId×Value->H} {P:Program} {w:World} {base:Nat} {sp:Nat->Bool} {held:Bool}
def Opn(enc:TypeId×Value->H)(P:Program)(w:World)(base:Nat)(sp:Nat->Bool)(held:Bool){α : Type}(T:TypeId)(R:Rp α)(sz:α->Nat)(fuel:Nat):Prop:=
 ∀cs d ps,DataW.trod enc P w base sp held fuel T cs=some (d,ps)->∃x,R.rep (hOf w) cs x/\sz x<=uptoBulk d
theorem opn_slice{sz:α->Nat}(ht:P.underlying T=some (.slice E))(hc:P.cellsOf E=R.sz)(hp:0<R.sz)(he:∀n,fuel=n+1->Opn enc P w base sp held E R sz n){cs:List Value}{d:DataW H}(h:DataW.trod enc P w base sp held fuel T cs=some (d,ps)):∃b c xs,cs=[.slice b (List.length xs) c]/\SlC R (hOf w) b c xs/\szL sz xs+1<=uptoBulk d:=by
 rcases DataW.trod_slice ht h with⟨rfl,e⟩|⟨a,len,cap,elems,rest,n,hn,rfl,hx,h1,h2,h3,h4,h5,_,_⟩
 .cases e
  exact⟨none,0,[],rfl,SlC.nil,by simp[szL,uptoBulk]⟩
 .cases hx
  have key:∀k,k<=len->∃xs:List α,xs.length=k/\(∀i x,xs[i]? = some x->∃cs',At (hOf w) (a.add (i*R.sz)) cs'/\cs'.length=R.sz/\R.rep (hOf w) cs' x)/\szL sz xs<=uptoBulkAll ((elems.take k).map (·.1)):=by
   intro k
   induction k with
   |zero=>exact λ_=>⟨[],rfl,λi x hx=>by simp at hx,by simp[szL]⟩
   |succ k ih=>
    intro hk
    obtain⟨xs,e1,e2,e3⟩:=ih (by omega)
    have hkl:k<elems.length:=by omega
    have c0:=h5 k (by omega)
    rw[List.getElem?_eq_getElem hkl]at c0
    obtain⟨cs',c1,c2⟩:=Option.bind_eq_some_iff.1 c0
    rw[hc]at c1
    obtain⟨x,x1,x2⟩:=he n hn _ _ _ c2
    obtain⟨k1,k2⟩:=Tf hp c1
    refine⟨xs++[x],by simp[e1],λi y hy=>?_,?_⟩
    .grind
    .rw[GO,List.take_add_one,Wx,N6,List.getElem?_eq_getElem hkl]
     all_goals grind [szL,Option.toList_some,uptoBulkAll]
  obtain⟨xs,e1,e2,e3⟩:=key len (kE _)
  refine⟨some a,cap,xs,by rw[e1],⟨⟨?_,λi x hx=>?_⟩,by omega⟩,?_⟩
  .have:maxLen<=9223372036854775807:=by decide
   omega
  all_goals grind [uptoBulk]
theorem opn_int(ht:P.underlying T=some (.int .i64))(n:Nat):Opn enc P w base sp held T Rp.int (λ_=>1) n:=by
 intro cs d ps h
 refine(?_:∃x,Rp.int.rep (hOf w) cs x).imp λ_ h=>⟨h,bulk_one d⟩
 cases n with
 |zero=>simp[DataW.trod]at h
 |succ n=>
  unfold DataW.trod at h
  rw[ht]at h
  split at h<;>simp_all
  next k k' z e=>
   obtain⟨⟨h1,_⟩,h2,_⟩:=h
   subst h1
   exact⟨z,by first|rfl|(subst e;rfl)|(cases e;rfl)⟩
theorem U7(ht:P.underlying T=some (.int .u8))(n:Nat):Opn enc P w base sp held T ⟨1,λ_ cs(x:Int)=>cs=[.int .u8 x]⟩ (λ_=>1) n:=by
 intro cs d ps h
 refine(?_:∃x:Int,cs=[.int .u8 x]).imp λ_ h=>⟨h,bulk_one d⟩
 cases n with
 |zero=>simp[DataW.trod]at h
 |succ n=>
  unfold DataW.trod at h
  rw[ht]at h
  split at h<;>simp_all
theorem xu(ht:P.underlying T=some .bool)(n:Nat):Opn enc P w base sp held T Rp.bool (λ_=>1) n:=by
 intro cs d ps h
 obtain⟨b,rfl,_⟩:=DataW.trod_bool ht h
 exact⟨b,rfl,bulk_one d⟩
theorem DD(ht:P.underlying T=some .string)(n:Nat):Opn enc P w base sp held T Rp.str (λ_=>1) n:=by
 intro cs d ps h
 refine(?_:∃x,Rp.str.rep (hOf w) cs x).imp λ_ h=>⟨h,bulk_one d⟩
 cases n with
 |zero=>simp[DataW.trod]at h
 |succ n=>
  unfold DataW.trod at h
  rw[ht]at h
  split at h<;>simp_all
  all_goals exact⟨_,rfl⟩
def TrF(enc:TypeId×Value->H)(P:Program)(w:World)(base:Nat)(sp:Nat->Bool)(held:Bool)(fuel:Nat):List TypeId->List Value->List (DataW H)->Prop
 |[],cs,ds=>cs=[]/\ds=[]
 |t::ts,cs,ds=>∃c cs' d ds' p,cs=c++cs'/\ds=d::ds'/\DataW.trod enc P w base sp held fuel t c=some (d,p)/\TrF enc P w base sp held fuel ts cs' ds'
def contig(P:Program):List Field->Nat->Option Nat
 |[],o=>some o
 |f::fs,o=>if f.offset=o then contig P fs (o+P.cellsOf f.type)else none
theorem RS{n:Nat}{cs:List Value}:∀(fs:List Field)(xs:List (DataW H×List MemPlace))(o:Nat),xs.length=fs.length->contig P fs o=some cs.length ->
  (∀(i:Nat)(f:Field),fs[i]? = some f->DataW.trod enc P w base sp held n f.type ((cs.drop f.offset).take (P.cellsOf f.type))=xs[i]?)->TrF enc P w base sp held n (fs.map (·.type)) (cs.drop o) (xs.map (·.1))
 |[],xs,o,hl,hc,_=>by
  simp only[contig,zP]at hc
  subst hc
  rw[zB,List.length_eq_zero_iff]at hl
  subst hl
  exact⟨by simp,rfl⟩
 |f::fs,[],o,hl,hc,hx=>by simp at hl
 |f::fs,x::xs,o,hl,hc,hx=>by
  unfold contig at hc
  split at hc
  .next ho=>
   have h0:=hx 0 f rfl
   rw[ho]at h0
   simp only[List.getElem?_cons_zero]at h0
   refine⟨(cs.drop o).take (P.cellsOf f.type),cs.drop (o+P.cellsOf f.type),x.1,xs.map (·.1),x.2,?_,rfl,h0,RS fs xs _ (by simpa using hl) hc (λi g hg=>by simpa using hx (i+1) g (by simpa using hg))⟩
   rw[←List.drop_drop,List.take_append_drop]
  .cases hc
theorem mN{fs:Array Field}{cs:List Value}{d:DataW H}(ht:P.underlying T=some (.struct fs))(hk:contig P fs.toList 0=some (P.cellsOf T))(h:DataW.trod enc P w base sp held fuel T cs=some (d,ps)):
  ∃n ds,fuel=n+1/\d=.agg ds/\TrF enc P w base sp held n (fs.toList.map (·.type)) cs ds:=by
 obtain⟨xs,n,hn,hx,hl,hlen,hf⟩:=DataW.trod_struct ht h
 cases hx
 refine⟨n,_,hn,rfl,?_⟩
 have:=RS (enc:=enc) (w:=w) (base:=base) (sp:=sp) (held:=held) (n:=n) (cs:=cs) fs.toList xs 0 (by simpa using hlen) (by rw[hk,hl]) (λi f hi=>hf i f (by simpa using hi))
 simpa using this
theorem QS(ht:P.underlying T=some (.array m E))(hE:P.underlying E=some (.int .u8))(hc:P.cellsOf E=1)(hcT:P.cellsOf T=m){cs:List Value}{d:DataW H}(h:DataW.trod enc P w base sp held n T cs=some (d,ps)):∃f:Nat->Int,cs=(vD m).map λi=>zC .u8 (f i):=by
 obtain⟨xs,k,hk,hx,hl,hlen,hf⟩:=DataW.trod_array ht h
 rw[hcT]at hl
 have h1:∀i,∃z:Int,i<m->cs[i]? = some (.int .u8 z):=by
  intro i
  rcases kM i m with hi|hi
  .have h0:=hf i hi
   rw[hc,Nat.mul_one,List.getElem?_eq_getElem (by omega)]at h0
   obtain⟨z,hz,_⟩:=U7 (enc:=enc) (w:=w) (base:=base) (sp:=sp) (held:=held) hE k _ _ _ h0
   refine⟨z,λ_=>?_⟩
   have hz':(cs.drop i).take 1=[.int .u8 z]:=hz
   have:=congrArg (·[0]?) hz'
   simpa using this
  .exact⟨0,λh=>by omega⟩
 obtain⟨f,hf'⟩:=Classical.axiomOfChoice h1
 refine⟨f,Xj λi=>?_⟩
 grind
end opn
section openings
variable {H:Type} {enc:TypeId×Value->H} {w:World} {base:Nat} {sp:Nat->Bool} {held:Bool}
theorem M4(n:Nat):Opn enc prog w base sp held 120 aK.rp (λ_=>1) n:=by
 intro cs d ps h
 obtain⟨m,ds,rfl,rfl,c0,_,d0,_,p0,rfl,rfl,h0,c1,_,d1,_,p1,rfl,rfl,h1,c2,_,d2,_,p2,rfl,rfl,h2,c3,_,d3,_,p3,rfl,rfl,h3,c4,_,d4,_,p4,rfl,rfl,h4,c5,_,d5,_,p5,rfl,rfl,h5,c6,_,d6,_,p6,rfl,rfl,h6,rfl,rfl⟩:=mN (fs:=_) underlying120 (by kernel_rfl) h
 obtain⟨x0,rfl,_⟩:=(opn_int (by kernel_rfl)) m _ _ _ h0
 obtain⟨x1,rfl,_⟩:=(opn_int (by kernel_rfl)) m _ _ _ h1
 obtain⟨x2,rfl,_⟩:=(opn_int (by kernel_rfl)) m _ _ _ h2
 obtain⟨x3,rfl,_⟩:=(opn_int (by kernel_rfl)) m _ _ _ h3
 obtain⟨x4,rfl,_⟩:=(opn_int (by kernel_rfl)) m _ _ _ h4
 obtain⟨x5,rfl,_⟩:=(opn_int (by kernel_rfl)) m _ _ _ h5
 obtain⟨x6,rfl,_⟩:=(xu (by kernel_rfl)) m _ _ _ h6
 exact⟨⟨x0,x1,x2,x3,x4,x5,x6⟩,rfl,bulk_one _⟩
theorem OC(n:Nat):Opn enc prog w base sp held 204 bA.rp (λ_=>1) n:=by
 intro cs d ps h
 obtain⟨m,ds,rfl,rfl,c0,_,d0,_,p0,rfl,rfl,h0,c1,_,d1,_,p1,rfl,rfl,h1,c2,_,d2,_,p2,rfl,rfl,h2,c3,_,d3,_,p3,rfl,rfl,h3,c4,_,d4,_,p4,rfl,rfl,h4,c5,_,d5,_,p5,rfl,rfl,h5,c6,_,d6,_,p6,rfl,rfl,h6,c7,_,d7,_,p7,rfl,rfl,h7,c8,_,d8,_,p8,rfl,rfl,h8,c9,_,d9,_,p9,rfl,rfl,h9,rfl,rfl⟩:=mN (fs:=_) underlying204 (by kernel_rfl) h
 obtain⟨x0,rfl,_⟩:=(opn_int (by kernel_rfl)) m _ _ _ h0
 obtain⟨x1,rfl,_⟩:=(opn_int (by kernel_rfl)) m _ _ _ h1
 obtain⟨x2,rfl,_⟩:=(opn_int (by kernel_rfl)) m _ _ _ h2
 obtain⟨x3,rfl,_⟩:=(opn_int (by kernel_rfl)) m _ _ _ h3
 obtain⟨x4,rfl,_⟩:=(opn_int (by kernel_rfl)) m _ _ _ h4
 obtain⟨x5,rfl,_⟩:=(opn_int (by kernel_rfl)) m _ _ _ h5
 obtain⟨x6,rfl,_⟩:=(opn_int (by kernel_rfl)) m _ _ _ h6
 obtain⟨x7,rfl,_⟩:=(opn_int (by kernel_rfl)) m _ _ _ h7
 obtain⟨x8,rfl,_⟩:=(opn_int (by kernel_rfl)) m _ _ _ h8
 obtain⟨x9,rfl,_⟩:=(xu (by kernel_rfl)) m _ _ _ h9
 exact⟨⟨x0,x1,x2,x3,x4,x5,x6,x7,x8,x9⟩,rfl,bulk_one _⟩
theorem Ln(n:Nat):Opn enc prog w base sp held 207 aG.rp (λ_=>1) n:=by
 intro cs d ps h
 obtain⟨m,ds,rfl,rfl,c0,_,d0,_,p0,rfl,rfl,h0,c1,_,d1,_,p1,rfl,rfl,h1,c2,_,d2,_,p2,rfl,rfl,h2,c3,_,d3,_,p3,rfl,rfl,h3,c4,_,d4,_,p4,rfl,rfl,h4,c5,_,d5,_,p5,rfl,rfl,h5,c6,_,d6,_,p6,rfl,rfl,h6,rfl,rfl⟩:=mN (fs:=_) underlying207 (by kernel_rfl) h
 obtain⟨x0,rfl,_⟩:=(opn_int (by kernel_rfl)) m _ _ _ h0
 obtain⟨x1,rfl,_⟩:=(opn_int (by kernel_rfl)) m _ _ _ h1
 obtain⟨x2,rfl,_⟩:=(opn_int (by kernel_rfl)) m _ _ _ h2
 obtain⟨x3,rfl,_⟩:=(opn_int (by kernel_rfl)) m _ _ _ h3
 obtain⟨x4,rfl,_⟩:=(opn_int (by kernel_rfl)) m _ _ _ h4
 obtain⟨x5,rfl,_⟩:=(xu (by kernel_rfl)) m _ _ _ h5
 obtain⟨x6,rfl,_⟩:=(xu (by kernel_rfl)) m _ _ _ h6
 exact⟨⟨x0,x1,x2,x3,x4,x5,x6⟩,rfl,bulk_one _⟩
theorem OD(n:Nat):Opn enc prog w base sp held 73 Budget.rp (λ_=>1) n:=by
 intro cs d ps h
 obtain⟨m,ds,rfl,rfl,c0,_,d0,_,p0,rfl,rfl,h0,c1,_,d1,_,p1,rfl,rfl,h1,c2,_,d2,_,p2,rfl,rfl,h2,c3,_,d3,_,p3,rfl,rfl,h3,c4,_,d4,_,p4,rfl,rfl,h4,c5,_,d5,_,p5,rfl,rfl,h5,c6,_,d6,_,p6,rfl,rfl,h6,c7,_,d7,_,p7,rfl,rfl,h7,rfl,rfl⟩:=mN (fs:=_) underlying73 (by kernel_rfl) h
 obtain⟨x0,rfl,_⟩:=(opn_int (by kernel_rfl)) m _ _ _ h0
 obtain⟨x1,rfl,_⟩:=(opn_int (by kernel_rfl)) m _ _ _ h1
 obtain⟨x2,rfl,_⟩:=(opn_int (by kernel_rfl)) m _ _ _ h2
 obtain⟨x3,rfl,_⟩:=(opn_int (by kernel_rfl)) m _ _ _ h3
 obtain⟨x4,rfl,_⟩:=(opn_int (by kernel_rfl)) m _ _ _ h4
 obtain⟨x5,rfl,_⟩:=(opn_int (by kernel_rfl)) m _ _ _ h5
 obtain⟨x6,rfl,_⟩:=(opn_int (by kernel_rfl)) m _ _ _ h6
 obtain⟨x7,rfl,_⟩:=(xu (by kernel_rfl)) m _ _ _ h7
 exact⟨⟨x0,x1,x2,x3,x4,x5,x6,x7⟩,rfl,bulk_one _⟩
abbrev aj.hold(x:aj):Nat:=x.dep
theorem M3(n:Nat):Opn enc prog w base sp held 59 aj.rp aj.hold n:=by
 induction n using Nat.strongRecOn with
 |_ n ih=>
 intro cs d ps h
 obtain⟨m,ds,rfl,rfl,c0,_,d0,_,p0,rfl,rfl,h0,c1,_,d1,_,p1,rfl,rfl,h1,c2,_,d2,_,p2,rfl,rfl,h2,c3,_,d3,_,p3,rfl,rfl,h3,c4,_,d4,_,p4,rfl,rfl,h4,rfl,rfl⟩:=mN (fs:=_) underlying59 (by kernel_rfl) h
 obtain⟨x0,rfl,_⟩:=(opn_int (by kernel_rfl)) m _ _ _ h0
 obtain⟨x1,rfl,_⟩:=(opn_int (by kernel_rfl)) m _ _ _ h1
 obtain⟨x2,rfl,_⟩:=(opn_int (by kernel_rfl)) m _ _ _ h2
 obtain⟨x3,rfl,_⟩:=(DD (by kernel_rfl)) m _ _ _ h3
 obtain⟨b4,k4,x4,rfl,o4,q4⟩:=opn_slice qI (by kernel_rfl) (by decide) (λk hk=>ih k (by omega)) h4
 refine⟨aj.mk x0 x1 x2 x3 x4,⟨⟨b4,k4⟩,rfl,aj.ok.of o4⟩,?_⟩
 rw[PD]at q4
 simp only[aj.hold,aj.dep,YtafbfagbjekhhaaGreatDoor.Rows.uptoBulk,YtafbfagbjekhhaaGreatDoor.Rows.uptoBulkAll]at *
 omega
def fC.hold(x:fC):Nat:=aj.hold x.aj+1
theorem Sq(n:Nat):Opn enc prog w base sp held 65 fC.rp fC.hold n:=by
 intro cs d ps h
 obtain⟨m,ds,rfl,rfl,c0,_,d0,_,p0,rfl,rfl,h0,c1,_,d1,_,p1,rfl,rfl,h1,c2,_,d2,_,p2,rfl,rfl,h2,c3,_,d3,_,p3,rfl,rfl,h3,rfl,rfl⟩:=mN (fs:=_) underlying65 (by kernel_rfl) h
 obtain⟨x0,rfl,_⟩:=(DD (by kernel_rfl)) m _ _ _ h0
 obtain⟨x1,rfl,_⟩:=(opn_int (by kernel_rfl)) m _ _ _ h1
 obtain⟨x2,rfl,_⟩:=(opn_int (by kernel_rfl)) m _ _ _ h2
 obtain⟨x3,⟨r3,rfl,o3⟩,q3⟩:=M3 m _ _ _ h3
 refine⟨⟨x0,x1,x2,x3⟩,⟨⟨r3⟩,rfl,⟨o3⟩⟩,?_⟩
 simp only[fC.hold,YtafbfagbjekhhaaGreatDoor.Rows.uptoBulk,YtafbfagbjekhhaaGreatDoor.Rows.uptoBulkAll]
 omega
def aw.hold(x:aw):Nat:=szL (λ_=>1) x.dN+szL (λ_=>1) x.aA+szL fC.hold x.dp+aj.hold x.aO+1
theorem OB(n:Nat):Opn enc prog w base sp held 61 aw.rp aw.hold n:=by
 intro cs d ps h
 obtain⟨m,ds,rfl,rfl,c0,_,d0,_,p0,rfl,rfl,h0,c1,_,d1,_,p1,rfl,rfl,h1,c2,_,d2,_,p2,rfl,rfl,h2,c3,_,d3,_,p3,rfl,rfl,h3,c4,_,d4,_,p4,rfl,rfl,h4,c5,_,d5,_,p5,rfl,rfl,h5,rfl,rfl⟩:=mN (fs:=_) Py (by kernel_rfl) h
 obtain⟨x0,rfl,_⟩:=(DD (by kernel_rfl)) m _ _ _ h0
 obtain⟨b1,k1,x1,rfl,o1,q1⟩:=opn_slice Px (by kernel_rfl) (by decide) (λk _=>(DD (by kernel_rfl)) k) h1
 obtain⟨b2,k2,x2,rfl,o2,q2⟩:=opn_slice Px (by kernel_rfl) (by decide) (λk _=>(DD (by kernel_rfl)) k) h2
 obtain⟨b3,k3,x3,rfl,o3,q3⟩:=opn_slice GB (by kernel_rfl) (by decide) (λk _=>Sq k) h3
 obtain⟨x4,⟨r4,rfl,o4⟩,q4⟩:=M3 m _ _ _ h4
 obtain⟨x5,rfl,_⟩:=(opn_int (by kernel_rfl)) m _ _ _ h5
 refine⟨⟨x0,x1,x2,x3,x4,x5⟩,⟨⟨b1,k1,b2,k2,b3,k3,r4⟩,rfl,⟨o1,o2,o3,o4⟩⟩,?_⟩
 simp only[aw.hold,YtafbfagbjekhhaaGreatDoor.Rows.uptoBulk,YtafbfagbjekhhaaGreatDoor.Rows.uptoBulkAll]
 omega
def aE.hold(x:aE):Nat:=aw.hold x.aw+1
theorem M2(n:Nat):Opn enc prog w base sp held 63 aE.rp aE.hold n:=by
 intro cs d ps h
 obtain⟨m,ds,rfl,rfl,c0,_,d0,_,p0,rfl,rfl,h0,c1,_,d1,_,p1,rfl,rfl,h1,c2,_,d2,_,p2,rfl,rfl,h2,c3,_,d3,_,p3,rfl,rfl,h3,rfl,rfl⟩:=mN (fs:=_) underlying63 (by kernel_rfl) h
 obtain⟨x0,rfl,_⟩:=(opn_int (by kernel_rfl)) m _ _ _ h0
 obtain⟨x1,rfl,_⟩:=(opn_int (by kernel_rfl)) m _ _ _ h1
 obtain⟨x2,rfl,_⟩:=(opn_int (by kernel_rfl)) m _ _ _ h2
 obtain⟨x3,⟨r3,rfl,o3⟩,q3⟩:=OB m _ _ _ h3
 refine⟨⟨x0,x1,x2,x3⟩,⟨⟨r3⟩,rfl,⟨o3⟩⟩,?_⟩
 simp only[aE.hold,YtafbfagbjekhhaaGreatDoor.Rows.uptoBulk,YtafbfagbjekhhaaGreatDoor.Rows.uptoBulkAll]
 omega
def ao.hold(x:ao):Nat:=szL (λ_=>1) x.lh+szL (λ_=>1) x.fe+szL (λ_=>1) x.fp+1
theorem Lo(n:Nat):Opn enc prog w base sp held 54 ao.rp ao.hold n:=by
 intro cs d ps h
 obtain⟨m,ds,rfl,rfl,c0,_,d0,_,p0,rfl,rfl,h0,c1,_,d1,_,p1,rfl,rfl,h1,c2,_,d2,_,p2,rfl,rfl,h2,c3,_,d3,_,p3,rfl,rfl,h3,c4,_,d4,_,p4,rfl,rfl,h4,c5,_,d5,_,p5,rfl,rfl,h5,c6,_,d6,_,p6,rfl,rfl,h6,c7,_,d7,_,p7,rfl,rfl,h7,c8,_,d8,_,p8,rfl,rfl,h8,c9,_,d9,_,p9,rfl,rfl,h9,rfl,rfl⟩:=mN (fs:=_) underlying54 (by kernel_rfl) h
 obtain⟨x0,rfl,_⟩:=(opn_int (by kernel_rfl)) m _ _ _ h0
 obtain⟨x1,rfl,_⟩:=(opn_int (by kernel_rfl)) m _ _ _ h1
 obtain⟨x2,rfl,_⟩:=(opn_int (by kernel_rfl)) m _ _ _ h2
 obtain⟨x3,rfl,_⟩:=(opn_int (by kernel_rfl)) m _ _ _ h3
 obtain⟨x4,rfl,_⟩:=(opn_int (by kernel_rfl)) m _ _ _ h4
 obtain⟨x5,rfl,_⟩:=(opn_int (by kernel_rfl)) m _ _ _ h5
 obtain⟨b6,k6,x6,rfl,o6,q6⟩:=opn_slice eP (by kernel_rfl) (by decide) (λk _=>(opn_int (by kernel_rfl)) k) h6
 obtain⟨b7,k7,x7,rfl,o7,q7⟩:=opn_slice eP (by kernel_rfl) (by decide) (λk _=>(opn_int (by kernel_rfl)) k) h7
 obtain⟨b8,k8,x8,rfl,o8,q8⟩:=opn_slice eP (by kernel_rfl) (by decide) (λk _=>(opn_int (by kernel_rfl)) k) h8
 obtain⟨x9,rfl⟩:=QS underlying52 Wl (by kernel_rfl) (by kernel_rfl) h9
 refine⟨⟨x0,x1,x2,x3,x4,x5,x6,x7,x8,x9⟩,⟨⟨b6,k6,b7,k7,b8,k8⟩,rfl,⟨o6,o7,o8⟩⟩,?_⟩
 simp only[ao.hold,YtafbfagbjekhhaaGreatDoor.Rows.uptoBulk,YtafbfagbjekhhaaGreatDoor.Rows.uptoBulkAll]
 omega
theorem Lp(n:Nat):Opn enc prog w base sp held 67 ay.rp (λ_=>1) n:=by
 intro cs d ps h
 obtain⟨m,ds,rfl,rfl,c0,_,d0,_,p0,rfl,rfl,h0,c1,_,d1,_,p1,rfl,rfl,h1,c2,_,d2,_,p2,rfl,rfl,h2,c3,_,d3,_,p3,rfl,rfl,h3,c4,_,d4,_,p4,rfl,rfl,h4,c5,_,d5,_,p5,rfl,rfl,h5,c6,_,d6,_,p6,rfl,rfl,h6,c7,_,d7,_,p7,rfl,rfl,h7,rfl,rfl⟩:=mN (fs:=_) underlying67 (by kernel_rfl) h
 obtain⟨x0,rfl,_⟩:=(opn_int (by kernel_rfl)) m _ _ _ h0
 obtain⟨x1,rfl,_⟩:=(opn_int (by kernel_rfl)) m _ _ _ h1
 obtain⟨x2,rfl,_⟩:=(opn_int (by kernel_rfl)) m _ _ _ h2
 obtain⟨x3,rfl,_⟩:=(opn_int (by kernel_rfl)) m _ _ _ h3
 obtain⟨x4,rfl,_⟩:=(opn_int (by kernel_rfl)) m _ _ _ h4
 obtain⟨x5,rfl,_⟩:=(opn_int (by kernel_rfl)) m _ _ _ h5
 obtain⟨x6,rfl,_⟩:=(opn_int (by kernel_rfl)) m _ _ _ h6
 obtain⟨x7,rfl,_⟩:=(xu (by kernel_rfl)) m _ _ _ h7
 exact⟨⟨x0,x1,x2,x3,x4,x5,x6,x7⟩,rfl,bulk_one _⟩
def Register.hold(x:Register):Nat:=szL (λ_=>1) x.dF+szL (λ_=>1) x.ga+szL (λ_=>1) x.er+szL (λ_=>1) x.dH+szL aE.hold x.Versions+szL ao.hold x.cd+szL (λ_=>1) x.dC+1
theorem opn_Register(n:Nat):Opn enc prog w base sp held 30 Register.rp Register.hold n:=by
 intro cs d ps h
 obtain⟨m,ds,rfl,rfl,c0,_,d0,_,p0,rfl,rfl,h0,c1,_,d1,_,p1,rfl,rfl,h1,c2,_,d2,_,p2,rfl,rfl,h2,c3,_,d3,_,p3,rfl,rfl,h3,c4,_,d4,_,p4,rfl,rfl,h4,c5,_,d5,_,p5,rfl,rfl,h5,c6,_,d6,_,p6,rfl,rfl,h6,rfl,rfl⟩:=mN (fs:=_) underlying30 (by kernel_rfl) h
 obtain⟨b0,k0,x0,rfl,o0,q0⟩:=opn_slice RN (by kernel_rfl) (by decide) (λk _=>M4 k) h0
 obtain⟨b1,k1,x1,rfl,o1,q1⟩:=opn_slice JS (by kernel_rfl) (by decide) (λk _=>OC k) h1
 obtain⟨b2,k2,x2,rfl,o2,q2⟩:=opn_slice GG (by kernel_rfl) (by decide) (λk _=>Ln k) h2
 obtain⟨b3,k3,x3,rfl,o3,q3⟩:=opn_slice Dd (by kernel_rfl) (by decide) (λk _=>OD k) h3
 obtain⟨b4,k4,x4,rfl,o4,q4⟩:=opn_slice Cr (by kernel_rfl) (by decide) (λk _=>M2 k) h4
 obtain⟨b5,k5,x5,rfl,o5,q5⟩:=opn_slice xh (by kernel_rfl) (by decide) (λk _=>Lo k) h5
 obtain⟨b6,k6,x6,rfl,o6,q6⟩:=opn_slice Ac (by kernel_rfl) (by decide) (λk _=>Lp k) h6
 refine⟨⟨x0,x1,x2,x3,x4,x5,x6⟩,⟨⟨b0,k0,b1,k1,b2,k2,b3,k3,b4,k4,b5,k5,b6,k6⟩,rfl,⟨o0,o1,o2,o3,o4,o5,o6⟩⟩,?_⟩
 simp only[Register.hold,YtafbfagbjekhhaaGreatDoor.Rows.uptoBulk,YtafbfagbjekhhaaGreatDoor.Rows.uptoBulkAll]
 omega
theorem opn_Use(n:Nat):Opn enc prog w base sp held 223 Use.rp (λ_=>1) n:=by
 intro cs d ps h
 obtain⟨m,ds,rfl,rfl,c0,_,d0,_,p0,rfl,rfl,h0,c1,_,d1,_,p1,rfl,rfl,h1,c2,_,d2,_,p2,rfl,rfl,h2,c3,_,d3,_,p3,rfl,rfl,h3,c4,_,d4,_,p4,rfl,rfl,h4,rfl,rfl⟩:=mN (fs:=_) underlying223 (by kernel_rfl) h
 obtain⟨x0,rfl,_⟩:=(opn_int (by kernel_rfl)) m _ _ _ h0
 obtain⟨x1,rfl,_⟩:=(opn_int (by kernel_rfl)) m _ _ _ h1
 obtain⟨x2,rfl,_⟩:=(opn_int (by kernel_rfl)) m _ _ _ h2
 obtain⟨x3,rfl,_⟩:=(opn_int (by kernel_rfl)) m _ _ _ h3
 obtain⟨x4,rfl,_⟩:=(opn_int (by kernel_rfl)) m _ _ _ h4
 exact⟨⟨x0,x1,x2,x3,x4⟩,rfl,bulk_one _⟩
theorem opn_Lack(n:Nat):Opn enc prog w base sp held 45 Lack.rp (λ_=>1) n:=by
 intro cs d ps h
 obtain⟨m,ds,rfl,rfl,c0,_,d0,_,p0,rfl,rfl,h0,c1,_,d1,_,p1,rfl,rfl,h1,rfl,rfl⟩:=mN (fs:=_) RM (by kernel_rfl) h
 obtain⟨x0,rfl,_⟩:=(opn_int (by kernel_rfl)) m _ _ _ h0
 obtain⟨x1,rfl,_⟩:=(opn_int (by kernel_rfl)) m _ _ _ h1
 exact⟨⟨x0,x1⟩,rfl,bulk_one _⟩
end openings
theorem UZ{p:aw}(h:aw.hold p<=1048576):smP p:=by
 unfold aw.hold aj.hold at h
 have h1:=szL_len (f:=λ_:ByteArray=>1) (λ_=>kE _) p.dN
 have h2:=szL_len (f:=λ_:ByteArray=>1) (λ_=>kE _) p.aA
 have h3:=szL_len (f:=fC.hold) (λx=>by unfold fC.hold;omega) p.dp
 refine⟨by omega,λr hr=>?_,by omega,by omega,by omega⟩
 have h4:=KR (f:=fC.hold) hr
 unfold fC.hold aj.hold at h4
 have:szL (λx=>fC.hold x) p.dp=szL fC.hold p.dp:=rfl
 unfold fC.hold aj.hold at this h
 omega
theorem UY{l:List aE}(h:szL aE.hold l<=1048576):smV l:=by
 have h1:=szL_len (f:=aE.hold) (λx=>by unfold aE.hold;omega) l
 refine⟨by omega,λv hv=>UZ ?_⟩
 grind [aE.hold,KR,aw.hold]
theorem smR_of{r:Register}(h:Register.hold r<=1048576):smR r:=by
 unfold Register.hold at h
 have h1:=szL_len (f:=λ_:aK=>1) (λ_=>kE _) r.dF
 have h2:=szL_len (f:=λ_:bA=>1) (λ_=>kE _) r.ga
 have h3:=szL_len (f:=λ_:aG=>1) (λ_=>kE _) r.er
 have h4:=szL_len (f:=λ_:Budget=>1) (λ_=>kE _) r.dH
 have h5:=szL_len (f:=ao.hold) (λx=>by unfold ao.hold;omega) r.cd
 have h6:=szL_len (f:=λ_:ay=>1) (λ_=>kE _) r.dC
 exact⟨UY (by omega),by omega,by omega,by omega,by omega,by omega,by omega⟩
end
variable {h:HF}
section
def VS(P:Program)(f:FuncId)(X:Cx)(v:Value)(cs:List Frame)(Φ : Machine->Prop):Prop:=
 X.M=[]/\∀fr w',Yy X.w0.heap.size X.w0 w'->fr.fn=f->fr.leaving P w' (.returned v)->To P Φ (lone fr cs w')
theorem N5{f:FuncId}{c:Code}{w:World}(hp:Pre h [] w)(hf:P.funcs[f]? = some fn)(hb:fn.body=some c)(hn:fn.ntmps=n)(de:Nat.ble args.length n=true)(t:∀X:Cx,X.M=([]:LH).map (·.1)->X.h0=h->TT P (bodyFrame f) n [.code c] (VS P f X v) (envArgs args) [] X h []):Calls P f args.toArray w λe w'=>e=.returned v/\Yy w.heap.size w w':=by
 intro cs
 have de:=Nat.le_of_ble_eq_true de
 have henter:kR P f args.toArray .normal=(bodyFrame f).atR { tmps:=args.toArray++WL (n-args.length) undef,defers:=[] } [.code c]:=by
  simp[kR,Frame.atR,hf,hb,hn,bodyFrame]
 obtain⟨m',s,w',fr,rfl,h1,h2,h3⟩:=t ⟨w,h,[]⟩ rfl rfl w (St.start hp) { tmps:=args.toArray++WL (n-args.length) undef,defers:=[] } cs
  (λm=>∃w' fr,m=lone fr cs w'/\Yy w.heap.size w w'/\fr.fn=f/\fr.leaving P w' (.returned v)) (by simp;omega) (qg _ _) rfl
  ⟨rfl,λfr w' hb hfn hl=>.now ⟨w',fr,rfl,hb,hfn,hl⟩⟩
 refine⟨.returned v,w',fr,⟨rfl,h1⟩,?_,h2,h3⟩
 rw[henter];exact s
section ending
variable {P:Program} {f:FuncId} {n:Nat} {k:List Item} {e:Env} {X:Cx} {h:HF} {L:LH} {fn:Func}
theorem uM{rs:List ResultVar}{hh:HF}(vs:List Value)(hf:P.funcs[f]? = some fn)(hr:fn.results=rs.toArray)(_:X.h0=hh)(hv:tl P e L rs vs)(hvv:retVal vs=v):
  TT P (bodyFrame f) n (.code .ret::k) (VS P f X v) e [] X h L:=by
 intro w hw a cs Φ hn he hds hF
 exact .step (stepR_ret rfl) (hF.2 _ w (hw.below hF.1) rfl ⟨rfl,hds,rfl,fn,hf,hvv▸oL hr hv a he w hw⟩)
end ending
end
variable {sp:Nat->Bool}
section
open Go.Proofs Go.Proofs.Tryz
theorem Q1{w:World}{ps rs:Array TypeId}{vd:Bool}{c:List Value}{b:UInt8}{r:List UInt8}{p:List MemPlace}(hE:P.underlying E=some (.func ps rs vd))(h:DataW.trod (funcToken P) P w 0 sp true m E c=some (.held (b::r),p)):∃f fn,c=[.func (.func f) #[] #[]]/\P.funcs[f]? = some fn/\P.funcNamed fn.name=some f/\fn.name.toUTF8.data.toList=b::r:=by
 cases m with
 |zero=>simp[DataW.trod]at h
 |succ m=>
  unfold DataW.trod at h
  rw[hE]at h
  split at h<;>try (simp_all;done)
  next fn fi ca _ _=>
   simp only[if_true,zP,XT,DataW.held.injEq]at h
   obtain⟨f,g,e,h1,h2,h3⟩:=funcToken_tells h.1
   exact⟨f,g,by rw[e],h1,h2,h3⟩
theorem Ue{k:FuncId}{g:Func}{f:FuncId}{l:List UInt8}(hg:P.funcNamed g.name=some k)(hl:g.name.toUTF8.data.toList=l)(h2:P.funcNamed fn.name=some f)(h3:fn.name.toUTF8.data.toList=l):f=k:=by
 have:fn.name=g.name:=bytes_inj (h3.trans hl.symm)
 rw[this,hg]at h2
 exact(Option.some.inj h2).symm
theorem RW{l:List α}{i:Nat}{x:α}(h:(l.drop i).take 1=[x]):l[i]? = some x:=by
 have:=congrArg (·[0]?) h
 simpa using this
theorem kinds_of{W:World}(hL:laidMetH prog YtafbfagbjekhhaaGreatDoor.Rows.missingNothingUptoRow.laid W):dN (hOf W):=by
 obtain⟨d, hd⟩ : ∃d, (YtafbfagbjekhhaaGreatDoor.Rows.laid_signatory_policies_kinds : DataW Unit) = .iface "func table" d := ⟨_, rfl⟩
 obtain⟨g,t,cs,fuel,p,hg,ht,hv,hr⟩:=hL.funcs (d:=d) (by rw[←hd];exact vB ..)
 unfold World.var? at hv
 rw[hg]at hv
 obtain rfl:g=0:=Option.some.inj (hg.symm.trans (by kernel_rfl))
 obtain rfl:t=353:=Option.some.inj (ht.symm.trans (by kernel_rfl))
 obtain⟨xs,m,_,hx,hl,hlen,hf⟩:=DataW.trod_array (n:=5) (e:=237) (by kernel_rfl) hr
 rw[show prog.cellsOf 353=5 by kernel_rfl]at hl
 rw[show prog.cellsOf 237=1 by kernel_rfl]at hf
 unfold YtafbfagbjekhhaaGreatDoor.Rows.laid_signatory_policies_kinds at hd
 cases hd
 simp only[DataW.funcsOut,DataW.funcsOutAll,XT]at hx
 match xs,hlen with
 |[x0,x1,x2,x3,x4],_=>
  simp only[kG,WI,beq_self_eq_true,if_true,DataW.agg.injEq,XW,and_true]at hx
  have key:∀(i:Nat)(x:DataW (List UInt8)×List MemPlace)(b:UInt8)(r:List UInt8)(k:FuncId)(fk:Func),i<5->[x0,x1,x2,x3,x4][i]? = some x->DataW.held (b::r)=x.1->prog.funcNamed fk.name=some k->fk.name.toUTF8.data.toList=b::r->cs.toList[i]? = some (.func (.func k) #[] #[]):=by
   intro i x b r k fk hi hxi hb hk hn
   have h0:=hf i hi
   rw[hxi,Nat.mul_one]at h0
   obtain⟨f,fn,e,_,h2,h3⟩:=Q1 (P:=prog) (E:=237) underlying237 (h0.trans (show some x=some (DataW.held (b::r),x.2) by rw[hb]))
   obtain rfl:=Ue hk hn h2 h3
   exact RW e
  obtain⟨⟨e0,e1,e2,e3,e4⟩,_⟩:=hx
  have k0:=key 0 x0 _ _ 365 Tryz.f365 (by omega) rfl e0 (by kernel_rfl) (by kernel_rfl)
  have k1:=key 1 x1 _ _ 366 Tryz.f366 (by omega) rfl e1 (by kernel_rfl) (by kernel_rfl)
  have k2:=key 2 x2 _ _ 367 Tryz.f367 (by omega) rfl e2 (by kernel_rfl) (by kernel_rfl)
  have k3:=key 3 x3 _ _ 368 Tryz.f368 (by omega) rfl e3 (by kernel_rfl) (by kernel_rfl)
  have k4:=key 4 x4 _ _ 369 Tryz.f369 (by omega) rfl e4 (by kernel_rfl) (by kernel_rfl)
  have hcs:cs=kindsC.toArray:=by
   apply Array.toList_inj.1
   apply Xj
   intro i
   match i with
   |0=>exact k0
   |1=>exact k1
   |2=>exact k2
   |3=>exact k3
   |4=>exact k4
   |i+5=>rw[List.getElem?_eq_none (by omega)];rfl
  simp only[Option.bind_some]at hv
  split at hv
  .next c T fz e=>
   cases hv
   exact⟨T,fz,by rw[←hcs];exact e⟩
  .cases hv
end
section
open Go.ChangeShapes Go.WideShapes Go.RowKit
variable {H:Type} {enc:TypeId×Value->H} {P:Program}
theorem post_below{f:Func}{s:ChangeSpec}{apart fresh handsOn again:Bool}{W W':World}{args:Array Value}{ds gs:List (DataW H)}{before pa pv:List MemPlace}(hW:DataW.Whole enc P f.params.toList s.vars apart W args.toList ds gs before)(hres:∀(b:Nat)(sp:Nat->Bool)(hd:Bool),DataW.TrodAll enc P W' b sp hd f.resultTypes.toList (v.resultList f.resultTypes.size) (s.fn H (ds++gs)).results [])(hargs:∀sp:Nat->Bool,(∀p∈before,sp p.block=true)->DataW.TrodAll enc P W' 0 sp true f.params.toList args.toList (s.fn H (ds++gs)).args pa)(hvars:∀sp:Nat->Bool,(∀p∈before,sp p.block=true)->DataW.TrodVars enc P W' sp s.vars (s.fn H (ds++gs)).vars pv)(hps:before=pa++pv)(hb:Below W.heap.size W W')(hok:∀(j:Nat)(t:TypeId)(r:Value),f.resultTypes[j]? = some t->(v.resultList f.resultTypes.size)[j]? = some r->Value.okWide P W' .any 0 t r):
  s.post enc P f apart fresh handsOn again W args v W':=by
 have hlt:=hW.lt
 have hold:∀p∈before,(λb=>decide (b<W.heap.size)) p.block=true:=λp hp=>by simpa using hlt p hp
 refine⟨ds,gs,before,[],pa,pv,hW,hres _ _ _,hargs _ hold,hvars _ hold,World.keptBut_mono (λp hp=>⟨hp,?_⟩) (hb.frame (·∈before)),λ_=>?_⟩
 .rw[hps,qH]at hp
  exact Or.inr hp
 .obtain⟨_,_,_,_,_,hz,hn⟩:=hW
  refine⟨hok,_,_,([]++pa)++pv,⟨[]++pa,pv,trodAll_append (hargs _ (λ_ _=>rfl)) (hres _ _ _),hvars _ (λ_ _=>rfl),rfl,?_,?_⟩,?_⟩
  .intro b off hp
   have hp':MemPlace.cell b off∈before:=by rw[hps];simpa using hp
   rw[hb.frozen (p:=⟨b,off,none⟩) (hlt _ hp')]
   exact hz b off hp'
  .intro ha
   have:=hn ha
   rw[hps]at this
   simpa using this
  .intro p hp _
   rw[hps]
   simpa using hp
theorem stays{t:TypeId}(hl:laidOutB P=true)(hr:P.readableRec t=true)(hrow:decide (t<P.types.size)=true){W W':World}{d:DataW H}{before:List MemPlace}(h:DataW.Trod enc P W 0 (λ_=>true) true t v d ps)(hb:Below W.heap.size W W')(hlt:∀x∈before,x.block<W.heap.size)(hm:∀x∈ps,x∈before)(hsp:∀p∈before,sp p.block=true):DataW.Trod enc P W' 0 sp true t v d ps:=
 WideElems.Trod_stays hl hr (of_decide_eq_true hrow) h (λx hx=>hb.same (hlt x (hm x hx))) (λx hx=>hsp _ (hm x hx))
end
section
def agB(ops:Array Oper)(o:Oper)(t:Nat):Bool:=ops.toList.all λo'=>(o'.dst != some t)||(vD ops.size).all λi=>match ops[i]? with
 |some oi=>(oi.dst != o.dst)||o'.after.toList.any λed=>Region.binds .any ed&&ed.on==i
 |none=>true
theorem AgE.at_{o:Oper}(h:AgE ops o e e')(t:Nat)(hb:agB ops o t=true:=by rfl):e' t=e t:=by
 refine h t λo' ho' hd i hi=>?_
 have h1:=jM.1 hb o' (by simpa using ho')
 simp only[hd,bne_self_eq_false,Bool.false_or]at h1
 have h2:=jM.1 h1 i (WX.2 (Array.getElem?_eq_some_iff.1 hi).1)
 simp only[hi,bne_self_eq_false,Bool.false_or,List.any_eq_true,qC,beq_iff_eq]at h2
 obtain⟨ed,h3,h4,h5⟩:=h2
 exact⟨ed,by simpa using h3,h4,h5⟩
end
section
theorem cS.rep{α : Type}{R:Rp α}{h:HF}{z:Value}{x:α}(h1:R.sz=1)(hr:R.rep h [z] x):∀m,cS R h (List.replicate m z) (List.replicate m x)
 |0=>rfl
 |m+1=>⟨[z],List.replicate m z,by simp[List.replicate_succ],h1.symm▸rfl,hr,cS.rep h1 hr m⟩
section
variable {P:Program} {b:Frame} {n:Nat} {ops:Array Oper} {F:List Frame->(Machine->Prop)->Prop} {e:Env} {ds:List Deferred} {X:Cx} {h:HF} {L:LH} {K:Env->HF->LH->Prop}
variable {d:Option Nat} {ty:TypeId} {pos:String} {af:Array Edge} {g:Option (Nat×Bool)}
theorem GW{x0:α}(LL:LH->LH){t:TypeId}{ln cp:Operand}{vx:Nat}{z:Value}(h1:R.sz=1)(hr:R.rep h [z] x0)(hLL:∀G,L++G=LL G)(hT:P.underlying t=some (.slice E))(hz:zeroC P E=some [z])(hS:tySz P E=some (1,a))(hby:bytesOf P E=some vx)(hl:e.ev ln=.int .i64 (m:Nat))(hc:e.ev cp=.int .i64 (m:Nat))(hb:vx*m<=281474976710656)(h63:m<=9223372036854775807)(t':∀bk G,cN R E h (List.replicate m x0) (some ⟨bk,0,none⟩) m G->K (pute e d (.slice (some ⟨bk,0,none⟩) (List.replicate m x0).length m)) h (LL G))(hg:guardB ops e ⟨d,.makeSlice t ln cp,ty,pos,af,g⟩=true:=by rfl):Stp P b n ops F ds X ⟨d,.makeSlice t ln cp,ty,pos,af,g⟩ e h L K:=
 iM hg λw hw=>by
  obtain⟨i,hi,hby'⟩:∃i,P.info? E=some i/\i.bytes=vx:=by
   unfold bytesOf at hby
   cases hi:P.info? E with
   |none=>simp[hi]at hby
   |some i=>exact⟨i,rfl,by simpa[hi]using hby⟩
  have hsz:i.size=1:=by
   have:=fV hS w
   simpa[sizeOf,typeInfo,hi]using this
  obtain⟨zv,hzz,hzc⟩:∃zv,i.zero=some zv/\zv.cells=#[z]:=by
   unfold zeroC at hz
   cases hzz:i.zero with
   |none=>simp[hi,hzz]at hz
   |some zv=>exact⟨zv,rfl,by simp[hi,hzz]at hz;rw[mM,hz]⟩
  have hr':=run_make (P:=P) w t E i zv hT hi hzz .i64 .i64 (m:Int) (m:Int) (by omega) (Int.le_refl _) (by rw[hby'];omega) (by omega)
  have hcells:madeCells zv.cells ((m:Int).toNat*i.size)=(List.replicate m z).toArray:=by
   rw[hzc,hsz]
   apply Array.ext
   .simp[madeCells]
   .intro j h1 h2;simp[madeCells,Nat.mod_one]
  rw[hcells]at hr'
  simp only[Int.toNat_natCast]at hr'
  have hG:cN R E h (List.replicate m x0) (some ⟨w.heap.size,0,none⟩) m [(w.heap.size,.cells (List.replicate m z).toArray E (0,0))]:=cN.lit (cS.rep h1 hr m) (by simp) (by simp;omega)
  have ht:=t' w.heap.size _ hG
  rw[←hLL,show(List.replicate m x0).length=m from List.length_replicate]at ht
  refine⟨_,_,h,_,?_,(hw.alloc (.cells (List.replicate m z).toArray E (0,0))).perm (List.perm_append_comm (l₁:=[_])),ht⟩
  have e1:w.alloc (.cells (List.replicate m z).toArray E)={ w with heap:=w.heap.push (.cells (List.replicate m z).toArray E (0,0)) }:=rfl
  rw[e1]at hr'
  simp[execOp,hl,hc,hr']
end
theorem Ql{N i:Nat}(h:i<N)(hb:N<=9223372036854775807):zC .i64 (IntKind.i64.wrap ((((N-i:Nat):Int)-1)-1))=.int .i64 (((N-(i+1):Nat):Int)-1):=by
 rw[lv (by omega)]
 congr 1;omega
section
variable {P:Program} {b:Frame} {n:Nat} {k:List Item} {F:List Frame->(Machine->Prop)->Prop} {e:Env} {ds:List Deferred} {X:Cx} {h:HF} {L:LH}
theorem lp4{c:Code}(xs:List α)(sl:Nat->γ->List (Nat×Value))(hh:γ->HF)(LL:γ->LH)(J JX:Nat->γ->Prop)(hJX:∀i g,i=xs.length->J i g->JX i g)(Lf:List α->Nat->γ->ρ)(g0:γ)(hb:xs.length<=9223372036854775807)(hs:x0=Lf xs 0 g0)(hJ:J 0 g0)(after:∀i g,i<=xs.length->x0=Lf [] i g->JX i g->∀e',TT P b n k F (upds e' (sl i g)) ds X (hh g) (LL g))(cons:∀i g y r,xs.drop i=y::r->decide ((i:Int)<(xs.length:Int))=true->xs[i]? = some y->i<xs.length->xs.length<=9223372036854775807->x0=Lf (y::r) i g->J i g ->
   (∀i' g' {e'},x0=Lf [] i' g'->JX i' g'->(hi:i'<=xs.length:=by omega)->(hr:iD e' (sl i' g'):=by exact rds)->TT P b n k F e' ds X (hh g') (LL g')) ->
   (∀g' {e'},x0=Lf r (i+1) g'->J (i+1) g'->(hr:iD e' (sl (i+1) g'):=by exact rds)->TT P b n (.inLoop c::.inBlock id::k) F e' ds X (hh g') (LL g')) ->
   ∀e',TT P b n (.code c::.inLoop c::.inBlock id::k) F (upds e' (sl i g)) ds X (hh g) (LL g))(nil:∀i g,xs.drop i=[]->decide ((i:Int)<(xs.length:Int))=false->(∀e',iD e' (sl i g)->TT P b n k F e' ds X (hh g) (LL g)) ->
   ∀e',TT P b n (.code c::.inLoop c::.inBlock id::k) F (upds e' (sl i g)) ds X (hh g) (LL g):=by exact ndA)(h0:iD e (sl 0 g0):=by exact rds)(hw:∀w,St X h L w->St X (hh g0) (LL g0) w:=by exact sws):
  TT P b n (.code (.block id (.loop c))::k) F e ds X h L:=by
 refine gB (ι:=Nat×γ) (λi=>sl i.1 i.2) (λi=>hh i.2) (λi=>LL i.2) (λi=>i.1<=xs.length/\x0=Lf [] i.1 i.2/\JX i.1 i.2) ?_ (λhx=>?_)
 .rintro⟨i,g⟩ ⟨h1,h2,h3⟩ e'
  exact after i g h1 h2 h3 e'
 .refine ju (ι:=Nat×γ×List α) (λi=>sl i.1 i.2.1) (λi=>hh i.2.1) (λi=>LL i.2.1) (λi=>xs.drop i.1=i.2.2/\i.1<=xs.length/\x0=Lf i.2.2 i.1 i.2.1/\J i.1 i.2.1) (λi=>i.2.2.length) (0,g0,xs) h0 hw ⟨rfl,zH _,hs,hJ⟩ ?_
  rintro⟨i,g,s⟩ ⟨hd,hi,hs,hJ⟩ ag e'
  dsimp only at hd hi hs hJ
  rcases s with _|⟨y,r⟩
  .exact nil i g hd (nF hd) (λe'' hr=>hx (i,g) e'' ⟨hi,hs,hJX _ _ (Nat.le_antisymm hi (by rcases kM i xs.length with q|q;(rw[List.drop_eq_getElem_cons q]at hd;cases hd);exact q)) hJ⟩ hr) e'
  .exact cons i g y r hd (tc hd) (rJ hd) (ip hd) hb hs hJ (λi' g' e'' a b c d=>hx (i',g') e'' ⟨c,a,b⟩ d)
    (λg' e'' a b hr=>ag (i+1,g',r) e'' (Nat.lt_succ_self _) ⟨kx hd,ip hd,a,b⟩ hr) e'
end
end
variable {X:Cx}{b:Frame}{ds:List Deferred}{k:List Item}{s:Qs}
section
open Go.Proofs Go.Proofs.Tryz
theorem ty221:tySz prog 221=some (1,false):=kr
theorem ty264:tySz prog 264=some (1,false):=kr
theorem ty249:tySz prog 249=some (1,false):=kr
theorem ty252:tySz prog 252=some (2,true):=kr
theorem ty31:tySz prog 31=some (1,false):=kr
theorem ty306:tySz prog 306=some (1,false):=kr
theorem ty3:tySz prog 3=some (1,false):=kr
theorem zc252:zeroC prog 252=some [.int .i64 0,.int .i64 0]:=kr
theorem bytes252:bytesOf prog 252=some 16:=kr
theorem zc3:zeroC prog 3=some [.int .i64 0]:=kr
theorem bytes3:bytesOf prog 3=some 8:=kr
theorem zc36:zeroC prog 36=some [.int .i64 0]:=kr
theorem ty36:tySz prog 36=some (1,false):=kr
theorem zc347:zeroC prog 347=some [.int .i64 0]:=kr
theorem ty347:tySz prog 347=some (1,true):=kr
theorem SY:fldOf prog 347 0=some 0:=kr
theorem ty257:tySz prog 257=some (2,true):=kr
theorem ty255:tySz prog 255=some (1,false):=kr
theorem ty254:tySz prog 254=some (1,false):=kr
theorem ty258:tySz prog 258=some (1,false):=kr
theorem ty207:tySz prog 207=some (7,true):=kr
theorem ty24:tySz prog 24=some (1,false):=kr
theorem ty4:tySz prog 4=some (1,false):=kr
theorem ty26:tySz prog 26=some (1,false):=kr
theorem zc257:zeroC prog 257=some [.slice none 0 0,.int .i64 0]:=kr
theorem zc207:zeroC prog 207=some [.int .i64 0,.int .i64 0,.int .i64 0,.int .i64 0,.int .i64 0,.bool false,.bool false]:=kr
theorem zc254:zeroC prog 254=some [.map none]:=kr
theorem zc221:zeroC prog 221=some [.map none]:=kr
theorem zc255:zeroC prog 255=some [.chan none]:=kr
theorem zc258:zeroC prog 258=some [.nilFunc]:=kr
theorem zc31:zeroC prog 31=some [.slice none 0 0]:=kr
theorem zv4:zeroV prog 4=some (.bool false):=kr
theorem zv24:zeroV prog 24=some (.slice none 0 0):=kr
theorem zv257:zeroV prog 257=some (.agg (xB [.slice none 0 0,.int .i64 0])):=kr
theorem bytes207:bytesOf prog 207=some 48:=kr
theorem bytes257:bytesOf prog 257=some 32:=kr
theorem S0:fldOf prog 257 0=some 0:=kr
theorem S3:fldOf prog 207 0=some 0:=kr
theorem NL:fldOf prog 207 3=some 3:=kr
theorem S2:fldOf prog 207 4=some 4:=kr
theorem SZ:fldOf prog 268 1=some 1:=kr
theorem zc215:zeroC prog 215=some [.slice none 0 0,.map none,.slice none 0 0,.slice none 0 0,.slice none 0 0,.map none]:=kr
theorem ty150:tySz prog 150=some (1,false):=kr
theorem zc150:zeroC prog 150=some [.pointer none]:=kr
theorem ty105:tySz prog 105=some (1,false):=kr
theorem ty136:tySz prog 136=some (1,false):=kr
theorem ty212:tySz prog 212=some (2,true):=kr
theorem zc212:zeroC prog 212=some [.slice none 0 0,.map none]:=kr
theorem ty54:tySz prog 54=some (41,true):=kr
theorem zc54:zeroC prog 54=some (.int .i64 0::.int .i64 0::.int .i64 0::.int .i64 0::.int .i64 0::.int .i64 0::.slice none 0 0::.slice none 0 0::.slice none 0 0::.int .u8 0::.int .u8 0::.int .u8 0::.int .u8 0::.int .u8 0::.int .u8 0::.int .u8 0::.int .u8 0::.int .u8 0::.int .u8 0::.int .u8 0::.int .u8 0::.int .u8 0::.int .u8 0::.int .u8 0::.int .u8 0::.int .u8 0::.int .u8 0::.int .u8 0::.int .u8 0::.int .u8 0::.int .u8 0::.int .u8 0::.int .u8 0::.int .u8 0::.int .u8 0::.int .u8 0::.int .u8 0::.int .u8 0::.int .u8 0::.int .u8 0::.int .u8 0::[]):=kr
theorem ty43:tySz prog 43=some (1,false):=kr
theorem bytes4:bytesOf prog 4=some 1:=kr
theorem S1:fldOf prog 215 3=some 4:=kr
theorem Uo:fldOf prog 54 0=some 0:=kr
theorem Uk:fldOf prog 54 7=some 7:=kr
theorem Uj:fldOf prog 54 8=some 8:=kr
theorem D8:fldOf prog 40 0=some 0:=kr
theorem Qi:fldOf prog 40 1=some 1:=kr
theorem Up:fldOf prog 40 2=some 2:=kr
theorem D7:fldOf prog 40 3=some 3:=kr
theorem Gz:fldOf prog 98 0=some 0:=kr
theorem Gy:fldOf prog 98 1=some 1:=kr
theorem ty40:tySz prog 40=some (4,true):=kr
theorem ty98:tySz prog 98=some (2,true):=kr
theorem ty33:tySz prog 33=some (1,false):=kr
theorem ty96:tySz prog 96=some (50,true):=kr
theorem ty25:tySz prog 25=some (1,false):=kr
theorem ty32:tySz prog 32=some (1,false):=kr
theorem ty61:tySz prog 61=some (10,true):=kr
theorem zc40:zeroC prog 40=some [.int .i64 0,.int .i64 0,.slice none 0 0,.slice none 0 0]:=kr
theorem zc98:zeroC prog 98=some [.int .i64 0,.nilFunc]:=kr
theorem zc96:zeroC prog 96=some (.slice none 0 0::.slice none 0 0::.slice none 0 0::.slice none 0 0::.slice none 0 0::.slice none 0 0::.slice none 0 0::.int .i64 0::.int .i64 0::.int .i64 0::.int .i64 0::.int .i64 0::.int .i64 0::.slice none 0 0::.slice none 0 0::.slice none 0 0::.int .u8 0::.int .u8 0::.int .u8 0::.int .u8 0::.int .u8 0::.int .u8 0::.int .u8 0::.int .u8 0::.int .u8 0::.int .u8 0::.int .u8 0::.int .u8 0::.int .u8 0::.int .u8 0::.int .u8 0::.int .u8 0::.int .u8 0::.int .u8 0::.int .u8 0::.int .u8 0::.int .u8 0::.int .u8 0::.int .u8 0::.int .u8 0::.int .u8 0::.int .u8 0::.int .u8 0::.int .u8 0::.int .u8 0::.int .u8 0::.int .u8 0::.int .u8 0::.int .i64 0::.int .i64 0::[]):=kr
theorem zc61:zeroC prog 61=some [.string (⟨#[]⟩:ByteArray),.slice none 0 0,.slice none 0 0,.slice none 0 0,.int .i64 0,.int .i64 0,.int .i64 0,.string (⟨#[]⟩:ByteArray),.slice none 0 0,.int .i64 0]:=kr
theorem zc4:zeroC prog 4=some [.bool false]:=kr
theorem Qj:fldOf prog 30 3=some 3:=kr
theorem Ur:fldOf prog 30 4=some 4:=kr
theorem Uq:fldOf prog 30 5=some 5:=kr
theorem Ui:fldOf prog 96 0=some 0:=kr
theorem LJ:fldOf prog 96 1=some 7:=kr
theorem Uh:fldOf prog 96 2=some 48:=kr
theorem Ug:fldOf prog 96 3=some 49:=kr
theorem Un:fldOf prog 54 1=some 1:=kr
theorem Um:fldOf prog 54 2=some 2:=kr
theorem Ul:fldOf prog 54 3=some 3:=kr
theorem ty79:tySz prog 79=some (5,true):=kr
theorem ty77:tySz prog 77=some (1,false):=kr
theorem ty134:tySz prog 134=some (1,false):=kr
theorem ty35:tySz prog 35=some (1,false):=kr
theorem ty190:tySz prog 190=some (1,false):=kr
theorem zc77:zeroC prog 77=some [.nilFunc]:=kr
theorem zc35:zeroC prog 35=some [.slice none 0 0]:=kr
theorem bytes77:bytesOf prog 77=some 8:=kr
theorem ty67:tySz prog 67=some (8,true):=kr
theorem zc67:zeroC prog 67=some [.int .i64 0,.int .i64 0,.int .i64 0,.int .i64 0,.int .i64 0,.int .i64 0,.int .i64 0,.bool false]:=kr
theorem S4:fldOf prog 120 2=some 2:=kr
theorem ty120:tySz prog 120=some (7,true):=kr
theorem zc120:zeroC prog 120=some [.int .i64 0,.int .i64 0,.int .i64 0,.int .i64 0,.int .i64 0,.int .i64 0,.bool false]:=kr
theorem ty204:tySz prog 204=some (10,true):=kr
theorem zc204:zeroC prog 204=some [.int .i64 0,.int .i64 0,.int .i64 0,.int .i64 0,.int .i64 0,.int .i64 0,.int .i64 0,.int .i64 0,.int .i64 0,.bool false]:=kr
theorem ty73:tySz prog 73=some (8,true):=kr
theorem zc73:zeroC prog 73=some [.int .i64 0,.int .i64 0,.int .i64 0,.int .i64 0,.int .i64 0,.int .i64 0,.int .i64 0,.bool false]:=kr
theorem ty59:tySz prog 59=some (5,true):=kr
theorem zc320:zeroC prog 320=some [.int .i64 0,.int .i64 0,.int .i64 0,.string (⟨#[]⟩:ByteArray),.slice none 0 0,.int .i64 0]:=kr
theorem ty57:tySz prog 57=some (1,false):=kr
theorem zc59:zeroC prog 59=some [.int .i64 0,.int .i64 0,.int .i64 0,.string (⟨#[]⟩:ByteArray),.slice none 0 0]:=kr
theorem ty320:tySz prog 320=some (6,true):=kr
theorem ty56:tySz prog 56=some (1,false):=kr
theorem ty65:tySz prog 65=some (8,true):=kr
theorem zc65:zeroC prog 65=some [.string (⟨#[]⟩:ByteArray),.int .i64 0,.int .i64 0,.int .i64 0,.int .i64 0,.int .i64 0,.string (⟨#[]⟩:ByteArray),.slice none 0 0]:=kr
theorem bytes59:bytesOf prog 59=some 64:=kr
theorem ty55:tySz prog 55=some (1,false):=kr
theorem ty9:tySz prog 9=some (1,false):=kr
theorem zc57:zeroC prog 57=some [.slice none 0 0]:=kr
theorem ty237:tySz prog 237=some (1,false):=kr
theorem bytes65:bytesOf prog 65=some 96:=kr
theorem ty63:tySz prog 63=some (13,true):=kr
theorem zc63:zeroC prog 63=some [.int .i64 0,.int .i64 0,.int .i64 0,.string (⟨#[]⟩:ByteArray),.slice none 0 0,.slice none 0 0,.slice none 0 0,.int .i64 0,.int .i64 0,.int .i64 0,.string (⟨#[]⟩:ByteArray),.slice none 0 0,.int .i64 0]:=kr
theorem Qh:fldOf prog 63 3=some 3:=kr
theorem zv3:zeroV prog 3=some (.int .i64 0):=kr
theorem ty22:tySz prog 22=some (1,false):=kr
theorem ty23:tySz prog 23=some (1,false):=kr
theorem ty27:tySz prog 27=some (1,false):=kr
theorem ty28:tySz prog 28=some (1,false):=kr
theorem zv31:zeroV prog 31=some (.slice none 0 0):=kr
theorem ty223:tySz prog 223=some (5,true):=kr
theorem zc223:zeroC prog 223=some [.int .i64 0,.int .i64 0,.int .i64 0,.int .i64 0,.int .i64 0]:=kr
theorem zc226:zeroC prog 226=some [.int .i64 0,.int .i64 0]:=kr
theorem ty226:tySz prog 226=some (2,true):=kr
theorem zv73:zeroV prog 73=some (.agg (xB [.int .i64 0,.int .i64 0,.int .i64 0,.int .i64 0,.int .i64 0,.int .i64 0,.int .i64 0,.bool false])):=kr
theorem eqg73:prog.eqGuardType prog.depth 73=false:=kr
theorem bytes73:bytesOf prog 73=some 64:=kr
theorem ty30:tySz prog 30=some (7,true):=kr
theorem zv63:zeroV prog 63=some (.agg (xB [.int .i64 0,.int .i64 0,.int .i64 0,.string (⟨#[]⟩:ByteArray),.slice none 0 0,.slice none 0 0,.slice none 0 0,.int .i64 0,.int .i64 0,.int .i64 0,.string (⟨#[]⟩:ByteArray),.slice none 0 0,.int .i64 0])):=kr
theorem zc26:zeroC prog 26=some [.slice none 0 0]:=kr
theorem bytes63:bytesOf prog 63=some 184:=kr
theorem zv185:zeroV prog 185=some (.nilFunc):=kr
theorem zv120:zeroV prog 120=some (.agg (xB [.int .i64 0,.int .i64 0,.int .i64 0,.int .i64 0,.int .i64 0,.int .i64 0,.bool false])):=kr
theorem zc28:zeroC prog 28=some [.slice none 0 0]:=kr
theorem zc358:zeroC prog 358=some [.map none]:=kr
theorem ty358:tySz prog 358=some (1,false):=kr
theorem zv67:zeroV prog 67=some (.agg (xB [.int .i64 0,.int .i64 0,.int .i64 0,.int .i64 0,.int .i64 0,.int .i64 0,.int .i64 0,.bool false])):=kr
theorem eqg67:prog.eqGuardType prog.depth 67=false:=kr
theorem bytes67:bytesOf prog 67=some 64:=kr
theorem bytes204:bytesOf prog 204=some 80:=kr
theorem ty365:tySz prog 365=some (1,false):=kr
theorem zc367:zeroC prog 367=some [.int .i64 0,.int .i64 0,.int .i64 0,.int .i64 0]:=kr
theorem zv204:zeroV prog 204=some (.agg (xB [.int .i64 0,.int .i64 0,.int .i64 0,.int .i64 0,.int .i64 0,.int .i64 0,.int .i64 0,.int .i64 0,.int .i64 0,.bool false])):=kr
theorem eqg204:prog.eqGuardType prog.depth 204=false:=kr
theorem ty205:tySz prog 205=some (1,false):=kr
theorem ty325:tySz prog 325=some (5,true):=kr
theorem zc205:zeroC prog 205=some [.nilFunc]:=kr
theorem zc365:zeroC prog 365=some [.map none]:=kr
theorem ty367:tySz prog 367=some (4,true):=kr
theorem zc325:zeroC prog 325=some [.int .i64 0,.int .i64 0,.int .i64 0,.int .i64 0,.int .i64 0]:=kr
theorem ty299:tySz prog 299=some (1,false):=kr
theorem zc301:zeroC prog 301=some [.int .i64 0,.int .i64 0,.bool false]:=kr
theorem zv207:zeroV prog 207=some (.agg (xB [.int .i64 0,.int .i64 0,.int .i64 0,.int .i64 0,.int .i64 0,.bool false,.bool false])):=kr
theorem eqg207:prog.eqGuardType prog.depth 207=false:=kr
theorem zc299:zeroC prog 299=some [.map none]:=kr
theorem ty301:tySz prog 301=some (3,true):=kr
theorem zc268:zeroC prog 268=some [.int .i64 0,.int .i64 0]:=kr
theorem ty268:tySz prog 268=some (2,true):=kr
theorem ty191:tySz prog 191=some (1,false):=kr
theorem bytes268:bytesOf prog 268=some 16:=kr
theorem ty275:tySz prog 275=some (3,true):=kr
theorem zc345:zeroC prog 345=some [.nilFunc]:=kr
theorem ty345:tySz prog 345=some (1,false):=kr
theorem zc312:zeroC prog 312=some [.nilFunc,.nilFunc,.nilFunc,.nilFunc,.nilFunc]:=kr
theorem ty311:tySz prog 311=some (1,false):=kr
theorem ty312:tySz prog 312=some (5,true):=kr
theorem zc275:zeroC prog 275=some [.int .i64 0,.slice none 0 0,.slice none 0 0]:=kr
theorem zc191:zeroC prog 191=some [.slice none 0 0]:=kr
theorem bytes191:bytesOf prog 191=some 24:=kr
theorem zc45:zeroC prog 45=some [.int .i64 0,.int .i64 0]:=kr
theorem ty45:tySz prog 45=some (2,true):=kr
theorem bytes45:bytesOf prog 45=some 16:=kr
theorem eqg45:prog.eqGuardType prog.depth 45=false:=kr
theorem zc30:zeroC prog 30=some [.slice none 0 0,.slice none 0 0,.slice none 0 0,.slice none 0 0,.slice none 0 0,.slice none 0 0,.slice none 0 0]:=kr
theorem zc9:zeroC prog 9=some [.string (⟨#[]⟩:ByteArray)]:=kr
theorem bytes120:bytesOf prog 120=some 56:=kr
def xU(x:gG)(h:HF)(vs:List Go.Value):Prop:=∃(r0:C7),vs=[.agg (gG.cells x r0).toArray]/\gG.ok h x r0
theorem pP(x:gG)(h:HF)(vs:List Go.Value)(e:xU x h vs):vs.length=1:=by
 obtain⟨_,e,_⟩:=e;rw[e];rfl
def AP(x:(Int×Int))(h:HF)(vs:List Go.Value):Prop:=vs=[.int .i64 x.1,.int .i64 x.2]
theorem F9(x:(Int×Int))(h:HF)(vs:List Go.Value)(e:AP x h vs):vs.length=2:=by
 rw[e];rfl
def sC(x:Int)(h:HF)(vs:List Go.Value):Prop:=vs=[.int .i64 x]
theorem AO(x:Int)(h:HF)(vs:List Go.Value)(e:sC x h vs):vs.length=1:=by
 rw[e];rfl
def tC(x:(Int×aE))(h:HF)(vs:List Go.Value):Prop:=∃(r0:pR),vs=[.int .i64 x.1,.agg (aE.cells x.2 r0).toArray]/\aE.ok h x.2 r0
theorem BR(x:(Int×aE))(h:HF)(vs:List Go.Value)(e:tC x h vs):vs.length=2:=by
 obtain⟨_,e,_⟩:=e;rw[e];rfl
def rm(x:ay)(h:HF)(vs:List Go.Value):Prop:=vs=[.agg (ay.cells x).toArray]
theorem si(x:ay)(h:HF)(vs:List Go.Value)(e:rm x h vs):vs.length=1:=by
 rw[e];rfl
def vo(x:bA)(h:HF)(vs:List Go.Value):Prop:=vs=[.agg (bA.cells x).toArray]
theorem HZ(x:bA)(h:HF)(vs:List Go.Value)(e:vo x h vs):vs.length=1:=by
 rw[e];rfl
def yG(x:aG)(h:HF)(vs:List Go.Value):Prop:=vs=[.agg (aG.cells x).toArray]
theorem EP(x:aG)(h:HF)(vs:List Go.Value)(e:yG x h vs):vs.length=1:=by
 rw[e];rfl
def qb(x:bW)(h:HF)(vs:List Go.Value):Prop:=vs=[.agg (bW.cells x).toArray]
theorem vm(x:bW)(h:HF)(vs:List Go.Value)(e:qb x h vs):vs.length=1:=by
 rw[e];rfl
def Ks(x:OSeat)(h:HF)(vs:List Go.Value):Prop:=vs=[.agg (qF x).toArray]
theorem Jx(x:OSeat)(h:HF)(vs:List Go.Value)(e:Ks x h vs):vs.length=1:=by
 rw[e];rfl
theorem IG(a b:Lack)(w:World):(Op.equal 45 (Lack.enc a) (Lack.enc b)).run prog w=.ok (decide (a=b)) w:=
 su RM (by kernel_rfl) (by kernel_rfl) (by rw[zM];cases a;cases b;simp[eqv,nth,Lack.cells]) w
theorem LO(a b:ay)(w:World):(Op.equal 67 (ay.enc a) (ay.enc b)).run prog w=.ok (decide (a=b)) w:=
 su underlying67 (by kernel_rfl) (by kernel_rfl) (by rw[zM];cases a;cases b;simp[eqv,nth,ay.cells]) w
theorem OZ(a b:Budget)(w:World):(Op.equal 73 (Budget.enc a) (Budget.enc b)).run prog w=.ok (decide (a=b)) w:=
 su underlying73 (by kernel_rfl) (by kernel_rfl) (by rw[zM];cases a;cases b;simp[eqv,nth,Budget.cells]) w
theorem OY(a b:bA)(w:World):(Op.equal 204 (bA.enc a) (bA.enc b)).run prog w=.ok (decide (a=b)) w:=
 su underlying204 (by kernel_rfl) (by kernel_rfl) (by rw[zM];cases a;cases b;simp[eqv,nth,bA.cells]) w
theorem LK(a b:aG)(w:World):(Op.equal 207 (aG.enc a) (aG.enc b)).run prog w=.ok (decide (a=b)) w:=
 su underlying207 (by kernel_rfl) (by kernel_rfl) (by rw[zM];cases a;cases b;simp[eqv,nth,aG.cells]) w
theorem O0(a b:gl)(w:World):(Op.equal 226 (gl.enc a) (gl.enc b)).run prog w=.ok (decide (a=b)) w:=
 su Pw (by kernel_rfl) (by kernel_rfl) (by rw[zM];cases a;cases b;simp[eqv,nth,gl.cells]) w
theorem AG:zU prog 226 gl.enc:=AF Pw (λe a w=>uV e Pw (by kernel_rfl) w) O0 (λa=>by
 show Instr.sameBits (9999+1) _ _=true
 simp[Instr.sameBits,gl.enc,gl.cells])
theorem Q3(a b:OSeat)(w:World):(Op.equal 252 (qV a) (qV b)).run prog w=.ok (decide (a=b)) w:=
 su Mo (by kernel_rfl) (by kernel_rfl) (by rw[zM];cases a;cases b;simp[eqv,nth,qF]) w
theorem yA:zU prog 252 qV:=AF Mo (λe a w=>uV e Mo (by kernel_rfl) w) Q3 (λa=>by
 show Instr.sameBits (9999+1) _ _=true
 simp[Instr.sameBits,qV,qF])
theorem LM(a b:dZ)(w:World):(Op.equal 301 (dZ.enc a) (dZ.enc b)).run prog w=.ok (decide (a=b)) w:=
 su Pv (by kernel_rfl) (by kernel_rfl) (by rw[zM];cases a;cases b;simp[eqv,nth,dZ.cells]) w
theorem w4:zU prog 301 dZ.enc:=AF Pv (λe a w=>uV e Pv (by kernel_rfl) w) LM (λa=>by
 show Instr.sameBits (9999+1) _ _=true
 simp[Instr.sameBits,dZ.enc,dZ.cells])
theorem LP(a b:fL)(w:World):(Op.equal 362 (fL.enc a) (fL.enc b)).run prog w=.ok (decide (a=b)) w:=
 su underlying362 (by kernel_rfl) (by kernel_rfl) (by rw[zM];cases a;cases b;simp[eqv,nth,fL.cells]) w
theorem oD:zU prog 362 fL.enc:=AF underlying362 (λe a w=>uV e underlying362 (by kernel_rfl) w) LP (λa=>by
 show Instr.sameBits (9999+1) _ _=true
 simp[Instr.sameBits,fL.enc,fL.cells])
theorem LN(a b:ek)(w:World):(Op.equal 367 (ek.enc a) (ek.enc b)).run prog w=.ok (decide (a=b)) w:=
 su Pu (by kernel_rfl) (by kernel_rfl) (by rw[zM];cases a;cases b;simp[eqv,nth,ek.cells]) w
theorem w5:zU prog 367 ek.enc:=AF Pu (λe a w=>uV e Pu (by kernel_rfl) w) LN (λa=>by
 show Instr.sameBits (9999+1) _ _=true
 simp[Instr.sameBits,ek.enc,ek.cells])
def tabF:List (Nat×Nat×Nat):=(347,0,0)::(257,0,0)::(257,1,1)::(207,0,0)::(207,3,3)::(207,4,4)::(207,5,5)::(268,1,1)::(215,0,0)::(215,1,2)::(215,2,3)::(215,3,4)::(215,4,5)::(212,0,0)::(212,1,1)::(54,0,0)::(54,7,7)::(54,8,8)::(40,0,0)::(40,1,1)::(40,2,2)::(40,3,3)::(98,0,0)::(98,1,1)::(30,3,3)::(30,4,4)::(30,5,5)::(96,0,0)::(96,1,7)::(96,2,48)::(96,3,49)::(54,1,1)::(54,2,2)::(54,3,3)::(79,0,0)::(79,1,1)::(79,2,2)::(79,3,3)::(79,4,4)::(67,0,0)::(67,1,1)::(67,2,2)::(67,3,3)::(67,4,4)::(67,5,5)::(67,6,6)::(120,6,6)::(120,0,0)::(120,1,1)::(120,2,2)::(120,3,3)::(120,4,4)::(120,5,5)::(204,0,0)::(204,1,1)::(204,2,2)::(204,4,4)::(204,5,5)::(204,6,6)::(204,7,7)::(204,9,9)::(204,3,3)::(204,8,8)::(207,1,1)::(207,2,2)::(73,7,7)::(73,0,0)::(73,1,1)::(73,2,2)::(73,3,3)::(73,4,4)::(73,5,5)::(73,6,6)::(59,4,4)::(61,3,3)::(65,3,3)::(61,4,4)::(61,2,2)::(61,1,1)::(320,1,5)::(59,0,0)::(61,0,0)::(320,0,0)::(59,3,3)::(59,1,1)::(61,5,9)::(65,0,0)::(65,2,2)::(59,2,2)::(65,1,1)::(63,0,0)::(63,1,1)::(63,2,2)::(63,3,3)::(54,4,4)::(54,5,5)::(54,6,6)::(30,0,0)::(30,1,1)::(30,2,2)::(30,6,6)::(223,0,0)::(223,1,1)::(223,2,2)::(223,3,3)::(223,4,4)::(67,7,7)::(325,0,0)::(325,1,1)::(325,2,2)::(325,3,3)::(325,4,4)::(207,6,6)::(252,1,1)::(252,0,0)::(268,0,0)::(275,1,1)::(275,2,2)::(275,0,0)::(45,0,0)::(45,1,1)::[]
def tabY:List Nat:=221::264::249::31::306::3::36::255::254::258::24::4::26::279::150::105::136::43::33::25::32::77::134::35::140::190::354::57::56::55::9::237::22::23::27::28::358::365::205::299::191::345::311::102::[]
def tabS:List Nat:=22::23::24::25::26::27::28::31::32::35::55::56::57::101::134::136::140::148::190::191::272::306::[]
theorem tabs:tabOk prog tabF tabY tabS=true:=kr
theorem qK(m:Nat)(is:List Nat){F:List Frame->(Machine->Prop)->Prop}{L:LH}{q:List (Nat×Nat)}(hr:runL tabF tabY tabS n L m is (.tt k e)=some (s,q))(t:s.holds prog b n F ds X h L)(hq:Uw q:=by repeat (first|exact trivial|refine⟨rfl,?_⟩)):TT prog b n k F e ds X h L:=uf tabs m is _ hr hq t
theorem qL(m:Nat)(is:List Nat){F:List Frame->(Machine->Prop)->Prop}{L:LH}{q:List (Nat×Nat)}(hr:runL tabF tabY tabS n L m is (.to ops l k e)=some (s,q))(t:s.holds prog b n F ds X h L)(hq:Uw q:=by repeat (first|exact trivial|refine⟨rfl,?_⟩)):TO prog b n ops l k F e ds X h L:=uf tabs m is _ hr hq t
theorem tabsF:(tabF.all λx=>fldOf prog x.1 x.2.1==some x.2.2)=true:=kr
theorem qB(is:List Nat){h1:HF}{F:List Frame->(Machine->Prop)->Prop}{L:LH}(hr:runB tabF l is m dn e=some (m',dn',e'))(t:TA prog b n l.toArray k F ds X (Jst h1 K) m' dn' e' h L)(hsep:sepAll l.toArray=true:=by assumption)(hJ:Jst h1 K h L:=by exact jn)(hn:allNext l is dn=true:=by kernel_rfl):TA prog b n l.toArray k F ds X (Jst h1 K) m dn e h L:=Gn tabsF hsep hJ is m dn e hr hn t
theorem qD(a c:Nat){h1:HF}{F:List Frame->(Machine->Prop)->Prop}{L:LH}(hr:runB tabF l (List.range' a c) m dn e=some (m',dn',e'))(t:TA prog b n l.toArray k F ds X (Jst h1 K) m' dn' e' h L)(hsep:sepAll l.toArray=true:=by assumption)(hJ:Jst h1 K h L:=by exact jn)(hn:allNext l (List.range' a c) dn=true:=by kernel_rfl):TA prog b n l.toArray k F ds X (Jst h1 K) m dn e h L:=Gn tabsF hsep hJ _ m dn e hr hn t
theorem mixed:prog.follows .mixedOrders=true:=kr
end
end Go.Sg
