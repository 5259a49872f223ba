import Derived.Test.YtpplkjhgggjaoaaGreatDoorProg
import Derived.ChangeArms
import Derived.OpenShut
import Derived.Test.YtpplkjhgggjaoaaGreatDoorRows
import Derived.LaidHandle
import Derived.WordedOn
import Derived.ChangeSame
import Derived.Carry
import Derived.Test.YtpplkjhgggjaoaaGreatDoorW3
/- A part of the proof of JudgePeopleSpec. -/
set_option linter.unusedVariables false
set_option linter.unusedSimpArgs false
set_option maxRecDepth 100000
open List renaming length_cons→xA,not_mem_nil→vA,mem_cons_of_mem→kA,mem_cons_self→zB,length_append→xB,mem_cons→jB,mem_singleton→qC,length_nil→jC,append_assoc→vD,mem_append→jE,nil_append→kF,getElem?_eq_getElem→zG,map_cons→jJ,range→zK,getElem?_eq_none→kK,mem_map→zN,mem_append_left→kP,cons_append→vR,all_eq_true→SF,map_append→SP,nodup_nil→S7,mem_filter→S9,ext_getElem?→TI,filter_congr→TK,map_nil→T2
open Bool renaming and_eq_true→jA,or_eq_true→kC,not_eq_true'→kD,eq_iff_iff→jK,false_eq_true→jT
open Go.Value renaming int→zD,bool→SW
open Go.IntKind renaming wrap→qE
open Nat renaming le_refl→vG,zero_le→qM,lt_or_ge→kM,blt→jR,le_trans→xS,eq_of_beq_eq_true→vT,beq→Tq,strongRecOn→Un
open Go.Obj renaming cells→zJ
open Go.Sg.Policy renaming mk→zP
open Option.some renaming injEq→kQ,inj→qV
open Go.Addr renaming add→xT
open Go.Frame renaming enter→Sx
open Go.Sg.OSeat renaming mk→SQ
open Array renaming replicate→S8
open Go.Sg.Expr renaming ind→TF,depL→Uj
open Prod.mk renaming injEq→T8
open Go.RowKit renaming Below→U4

namespace Go.Sg
variable {E:List Deputy}{all:List Interest}{b doc known:Int}{g:List (Int×Int)}{i k:Nat}{signed:List Int}{w:List eF}{α:Type}{y:α}
section
def lastA(t known:Int)(s:OSeat)(acc:Option Appoint)(y:Appoint):Option Appoint:=
 bif(decide (y.At<=t)&&decide (y.Known<=known))&&((y.Office==s.office)&&(y.Person==s.person))then(match acc with
  |none=>some y
  |some a=>bif decide (a.At<=y.At)then some y else some a)else acc
theorem Kj(t known:Int)(s:OSeat):∀(l:List Appoint)(m:List (OSeat×Appoint)),mget? (cM.L1 (λdE=>gr dE t known) gq cM.K1 l m) s=l.foldl (lastA t known s) (mget? m s)
 |[],m=>rfl
 |y::l,m=>by
  have ih:=Kj t known s l
  simp only[cM.L1,List.foldl_cons]
  rw[Bool.cond_eq_ite]
  have hkey:(gr y t known).1=SQ y.Office y.Person:=rfl
  have hcnt:(gr y t known).2=(decide (y.At<=t)&&decide (y.Known<=known)):=rfl
  rw[hkey,hcnt]
  by_cases hs:s=SQ y.Office y.Person
  .subst hs
   have e1:((y.Office==(SQ y.Office y.Person).office)&&(y.Person==(SQ y.Office y.Person).person))=true:=by simp
   cases hc:(decide (y.At<=t)&&decide (y.Known<=known))with
   |false=>
    rw[if_neg (by simp),ih]
    congr 1
    simp only[lastA,hc,Bool.false_and,cond_false]
   |true=>
    cases hm:mget? m (SQ y.Office y.Person)with
    |none=>
     have h1:mhas m (SQ y.Office y.Person)=false:=by unfold mhas;rw[hm];rfl
     rw[h1,if_pos (by simp),ih,lA,if_pos rfl]
     congr 1
     simp only[lastA,hc,e1,Bool.and_true,cond_true]
    |some a=>
     have h1:mhas m (SQ y.Office y.Person)=true:=by unfold mhas;rw[hm];rfl
     have h2:mgetD m (SQ y.Office y.Person) (Appoint.mk 0 0 0 0 0 0 false)=a:=by unfold mgetD;rw[hm];rfl
     rw[h1,h2]
     by_cases ha:a.At<=y.At
     .have h3:gq a y=false:=by simp[gq];omega
      rw[h3,if_pos (by simp),ih,lA,if_pos rfl]
      congr 1
      have:decide (a.At<=y.At)=true:=by simpa using ha
      simp only[lastA,hc,e1,Bool.and_true,cond_true,this]
     .have h3:gq a y=true:=by simp[gq];omega
      rw[h3,if_neg (by simp),ih,hm]
      congr 1
      have:decide (a.At<=y.At)=false:=by simpa using ha
      simp only[lastA,hc,e1,Bool.and_true,cond_true,this,cond_false]
  .have e1:((y.Office==s.office)&&(y.Person==s.person))=false:=by
    rw[Bool.eq_false_iff]
    intro h
    simp only[jA,beq_iff_eq]at h
    exact hs (by cases s;simp only at h;rw[h.1,h.2])
   have e2:lastA t known s (mget? m s) y=mget? m s:=by simp only[lastA,e1,Bool.and_false,cond_false]
   rw[e2]
   split
   .rw[ih,lA,if_neg hs]
   .rw[ih]
theorem last15{L:List Appoint}(o p t known:Int):∀(l pre:List Appoint)(g:Int)(acc:Option Appoint),L=pre++l->(g<0/\acc=none\/0<=g/\acc=some (nthI L g)) ->
  (dG.L1 L o p t known dG.K1 l pre.length g<0/\l.foldl (lastA t known ⟨o,p⟩) acc=none)\/(0<=dG.L1 L o p t known dG.K1 l pre.length g/\l.foldl (lastA t known ⟨o,p⟩) acc=some (nthI L (dG.L1 L o p t known dG.K1 l pre.length g)))
 |[],pre,g,acc,_,h=>h
 |y::l,pre,g,acc,hL,h=>by
  have hx:nthI L (pre.length:Int)=y:=lG (by rw[hL];simp)
  have ih:=λ(g':Int)(acc':Option Appoint)=>last15 (L:=L) o p t known l (pre++[y]) g' acc' (by rw[hL];simp)
  rw[xB,xA,jC,Nat.zero_add]at ih
  simp only[dG.L1,List.foldl_cons,lh]
  have ec:(((y.Office==o)&&(y.Person==p))&&(decide (y.At<=t)&&decide (y.Known<=known)))=((decide (y.At<=t)&&decide (y.Known<=known))&&((y.Office==o)&&(y.Person==p))):=Bool.and_comm _ _
  rw[ec]
  cases hc:((decide (y.At<=t)&&decide (y.Known<=known))&&((y.Office==o)&&(y.Person==p)))with
  |false=>
   rw[Bool.false_and,cond_false]
   have:lastA t known ⟨o,p⟩ acc y=acc:=by simp only[lastA,hc,cond_false]
   rw[this]
   exact ih g acc h
  |true=>
   rw[Bool.true_and]
   rcases h with⟨h1,h2⟩|⟨h1,h2⟩
   .have e1:(decide (g<0)||decide ((nthI L g).At<=y.At))=true:=by simp[h1]
    rw[e1,cond_true]
    subst h2
    have:lastA t known ⟨o,p⟩ none y=some y:=by simp only[lastA,hc,cond_true]
    rw[this]
    exact ih _ _ (.inr ⟨by omega,by rw[hx]⟩)
   .subst h2
    have e0:decide (g<0)=false:=by simp;omega
    rw[e0,Bool.false_or]
    cases ha:decide ((nthI L g).At<=y.At)with
    |true=>
     rw[cond_true]
     have:lastA t known ⟨o,p⟩ (some (nthI L g)) y=some y:=by simp only[lastA,hc,cond_true,ha]
     rw[this]
     exact ih _ _ (.inr ⟨by omega,by rw[hx]⟩)
    |false=>
     rw[cond_false]
     have:lastA t known ⟨o,p⟩ (some (nthI L g)) y=some (nthI L g):=by simp only[lastA,hc,cond_true,ha,cond_false]
     rw[this]
     exact ih _ _ (.inr ⟨h1,rfl⟩)
def lastV(t known:Int)(acc:Option Version)(y:Version):Option Version:=
 bif decide (y.At<=t)&&decide (y.Known<=known)then(match acc with
  |none=>some y
  |some a=>bif decide (a.At<=y.At)then some y else some a)else acc
def FV(t known:Int)(l:List Version):Option Version:=l.foldl (lastV t known) none
structure So(f known:Int)(pre:List Version)(b:Int)(m:List (Int×Version)):Prop where
 at_:∀a,FV f known pre=some a->b=a.At
 no:FV f known pre=none->b=-1
 beg:mget? m f=FV f known pre
 has:∀t,f<t->(t∈m.map (·.1)↔∃y∈pre,y.At=t/\y.Known<=known)
 get:∀t,f<t->t∈m.map (·.1)->∃v,mget? m t=some v/\FV t known pre=some v/\v.At=t
 low:∀t,t∈m.map (·.1)->f<=t
theorem Qv(s:ByteArray):gS s=dO s:=by
 rw[jK]
 refine⟨MH,λh=>?_⟩
 unfold dO at h
 unfold gS
 rw[BW,Iy]at h
 rw[Bool.cond_eq_ite]at h ⊢
 split at h
 .cases h
 .next hc=>
  simp only[kC,not_or,decide_eq_true_eq,Bool.not_eq_true]at hc
  obtain⟨⟨h1,h2⟩,h3⟩:=hc
  have hs:¬((s.size:Int)<1):=λhlt=>by
   have h9:=vt s
   have:s.toList=[]:=List.length_eq_zero_iff.1 (by omega)
   rw[this]at h1
   have e2:(⟨#[]⟩:ByteArray).toList=[]:=by
    have:=vt (⟨#[]⟩:ByteArray)
    exact List.length_eq_zero_iff.1 this
   rw[e2]at h1;simp at h1
  rw[if_neg]
  .exact h
  .simp only[kC,not_or,decide_eq_true_eq]
   exact⟨⟨hs,h2⟩,by simpa using h3⟩
theorem MR(s:ByteArray):nS s=dR s:=by
 rw[HJ];unfold nS;rw[Qv]
theorem Dy(l:List ByteArray):eR l=bF l dR:=by
 have key:∀(L l:List ByteArray)(i:Nat),eR.L1 L eR.K1 l i=bF.L1 L dR bF.K1 l i:=by
  intro L l
  induction l with
  |nil=>intros;rfl
  |cons y l ih=>intro i;simp only[eR.L1,bF.L1,MR,rindex,ih]
 exact key l l 0
theorem Fi(off:List ByteArray)(x:Expr):(∀z∈bp x 1,((!(dw z.x))||dl off z.x.Name)=true)->bM off x=true:=by
 refine TF (P:=λx=>(∀z∈bp x 1,((!(dw z.x))||dl off z.x.Name)=true)->bM off x=true) ?_ x
 intro x ih h
 have h:=(qy (λy=>((!(dw y))||dl off y.Name)=true) x 1).1 h
 rw[J6]
 unfold bM.F
 have hx:=h.1
 unfold dw dl at hx
 rw[Bool.cond_eq_ite,if_neg]
 .have:∀l:List Expr,(∀y∈l,bM off y=true)->bM.L1 bM off bM.K1 l=true:=by
   intro l
   induction l with
   |nil=>intro _;rfl
   |cons y l ih2=>
    intro hl
    simp only[bM.L1,hl y (zB ..),Bool.not_true,cond_false]
    exact ih2 λz hz=>hl z (kA _ hz)
  exact this x.L λy hy=>ih y hy (h.2 y hy)
 .rw[rindex]
  simp only[jA,decide_eq_true_eq,not_and]
  intro hk hi
  rw[hk]at hx
  simp only[Bool.not_true,Bool.false_or,decide_eq_true_eq]at hx
  omega
theorem FW{x:Expr}{u:Bool}(h:(aM x.Kind 1 4&&kindsP x.Kind x)=true)(h4:u=false->x.Kind≠4):aE.K1 x u=true:=by
 simp only[jA]at h
 have hb:1<=x.Kind/\x.Kind<=4:=by have:=h.1;simpa[aM]using this
 have hc:x.Kind=1\/x.Kind=2\/x.Kind=3\/x.Kind=4:=by omega
 have h2:=h.2
 unfold aE.K1
 rcases hc with e|e|e|e
 .rw[e]at h2 ⊢
  have h2:kY x=true:=h2
  unfold kY at h2
  rw[show((1:Int)==1)=true from rfl,cond_true];exact h2
 .rw[e]at h2 ⊢
  have h2:kX x=true:=h2
  unfold kX aM at h2
  rw[show((2:Int)==1)=false from rfl,show((2:Int)==2)=true from rfl,cond_false,cond_true];exact h2
 .rw[e]at h2 ⊢
  have h2:kW x=true:=h2
  unfold kW aM at h2
  rw[show((3:Int)==1)=false from rfl,show((3:Int)==2)=false from rfl,show((3:Int)==3)=true from rfl,cond_false,cond_false,cond_true]
  simp only[jA]at h2 ⊢
  exact⟨⟨⟨⟨h2.1.1,h2.1.2.1⟩,h2.1.2.2⟩,h2.2.1⟩,h2.2.2⟩
 .have hu:u=true:=by
   cases u with
   |true=>rfl
   |false=>exact absurd e (h4 rfl)
  subst hu
  rw[e]at h2 ⊢
  have h2:jU x=true:=h2
  unfold jU aM at h2
  rw[show((4:Int)==1)=false from rfl,show((4:Int)==2)=false from rfl,show((4:Int)==3)=false from rfl,show((4:Int)==4)=true from rfl,cond_false,cond_false,cond_false,cond_true]
  simp only[jA]at h2 ⊢
  exact⟨⟨⟨⟨trivial,h2.1.1⟩,h2.1.2⟩,h2.2.1⟩,h2.2.2⟩
theorem Du(u:Bool)(x:Expr):(∀z∈bp x 1,(aM z.x.Kind 1 4&&kindsP z.x.Kind z.x)=true/\(u=false->z.x.Kind≠4))->aE x u=true:=by
 refine TF (P:=λx=>(∀z∈bp x 1,(aM z.x.Kind 1 4&&kindsP z.x.Kind z.x)=true/\(u=false->z.x.Kind≠4))->aE x u=true) ?_ x
 intro x ih h
 have h:=(qy (λy=>(aM y.Kind 1 4&&kindsP y.Kind y)=true/\(u=false->y.Kind≠4)) x 1).1 h
 rw[HL]
 unfold aE.F
 have:∀(k:Bool)(l:List Expr),(∀y∈l,aE y u=true)->aE.L1 aE u k l=k:=by
  intro k l
  induction l with
  |nil=>intro _;rfl
  |cons y l ih2=>
   intro hl
   simp only[aE.L1,hl y (zB ..),Bool.not_true,cond_false]
   exact ih2 λz hz=>hl z (kA _ hz)
 rw[this _ x.L λy hy=>ih y hy (h.2 y hy)]
 exact FW h.1.1 h.1.2
theorem NR(l:List Expr):∀a:Int,bh.L1 bh (λg=>g) l a=a\/∃y∈l,bh.L1 bh (λg=>g) l a=bh y:=by
 induction l with
 |nil=>intro a;exact .inl rfl
 |cons y l ih=>
  intro a
  simp only[bh.L1]
  rcases ih (max a (bh y))with h|⟨z,hz,h⟩
  .rw[h]
   rcases Int.le_total a (bh y)with q|q
   .exact .inr ⟨y,zB ..,by omega⟩
   .exact .inl (by omega)
  .exact .inr ⟨z,kA _ hz,h⟩
theorem F9(x:Expr):x.dep<=1500000->∀d:Int,∃z∈bp x d,z.depth=d+bh x-1:=by
 refine TF (P:=λx=>x.dep<=1500000->∀d:Int,∃z∈bp x d,z.depth=d+bh x-1) ?_ x
 intro x ih hx d
 have hd:=(KF x hx).2
 rw[nT]
 rcases NR x.L 0 with h|⟨y,hy,h⟩
 .exact⟨⟨x,d⟩,zB ..,by rw[hd,h];show d=d+(0+1)-1;omega⟩
 .have hlt:=Expr.jx hy
  obtain⟨z,hz,e⟩:=ih y hy (by omega) (d+1)
  exact⟨z,kA _ (List.mem_flatMap.2 ⟨y,hy,hz⟩),by rw[e,hd,h];omega⟩
theorem Lx{x:Expr}(hx:x.dep<=1500000)(h1:(bp x 1).length<=256)(h2:∀z∈bp x 1,z.depth<=16):km x=false:=by
 unfold km
 rw[H3 x 256 (by decide) (by decide)]
 obtain⟨z,hz,e⟩:=F9 x hx 1
 have:=h2 z hz
 have hc:cnt x<=256:=h1
 simp only[Bool.or_eq_false_iff,decide_eq_false_iff_not]
 exact⟨by omega,by omega⟩
theorem Nq(off:List ByteArray)(x:Expr):(∀z∈bp x 1,z.x.No=rno off z.x)->bo (ah off x) x=true:=by
 refine TF (P:=λx=>(∀z∈bp x 1,z.x.No=rno off z.x)->bo (ah off x) x=true) ?_ x
 intro x ih h
 have h:=(qy (λy=>y.No=rno off y) x 1).1 h
 rw[Mt,Db]
 unfold bo.F
 have e:(((((x.Kind != x.Kind)||(x.N != x.N))||(rno off x != x.No))||(!(x.Name.toList==x.Name.toList)))||(((x.L.map (ah off)).length:Int) != (x.L.length:Int)))=false:=by simp[h.1]
 show(bif(((((x.Kind != x.Kind)||(x.N != x.N))||(rno off x != x.No))||(!(x.Name.toList==x.Name.toList)))||(((x.L.map (ah off)).length:Int) != (x.L.length:Int)))then false else bo.L1 bo x bo.K1 (x.L.map (ah off)) 0)=true
 rw[e,cond_false]
 have:∀(l pre:List Expr),x.L=pre++l->bo.L1 bo x bo.K1 (l.map (ah off)) pre.length=true:=by
  intro l
  induction l with
  |nil=>intro _ _;rfl
  |cons y l ih2=>
   intro pre hp
   have hy:nthI x.L (pre.length:Int)=y:=lG (by rw[hp];simp)
   have hm:y∈x.L:=by rw[hp];simp
   have:=ih2 (pre++[y]) (by rw[hp];simp)
   rw[xB,xA,jC,Nat.zero_add]at this
   simp only[jJ,bo.L1,hy,ih y hm (h.2 y hm),Bool.not_true,cond_false]
   exact this
 exact this x.L [] rfl
theorem EH(l:List ByteArray):eH l l=true:=by
 have:∀(s pre:List ByteArray),l=pre++s->eH.L1 l eH.K1 s pre.length=true:=by
  intro s
  induction s with
  |nil=>intro _ _;rfl
  |cons y s ih=>
   intro pre hp
   have hy:nthI l (pre.length:Int)=y:=lG (by rw[hp];simp)
   have:=ih (pre++[y]) (by rw[hp];simp)
   rw[xB,xA,jC,Nat.zero_add]at this
   simp only[eH.L1,hy,beq_self_eq_true,Bool.not_true,cond_false]
   exact this
 unfold eH
 rw[bne_self_eq_false,cond_false]
 exact this l [] rfl
theorem EL(off:List ByteArray):∀(l:List Rule)(i:Nat),(rrules off l i).length=l.length
 |[],_=>rfl
 |y::l,i=>by simp only[rrules,xA,EL off l]
theorem LT{p:Policy}(hs:smP p)(h:dh p=0):gz p=0:=by
 obtain⟨h1,h2,h3⟩:=(BX p).1 h
 obtain⟨s1,s2,s3⟩:=(tU p).1 h1
 obtain⟨⟨a1,a2,a3⟩,a4⟩:=(Ba p).1 s1
 obtain⟨⟨n1,n2,n3⟩,n4⟩:=(Fh p).1 s2
 unfold bq bq.K1 bq.K2 at s3
 rw[qz,BL,Ee]at s3
 obtain⟨f1,f2,f3⟩:=s3
 simp only[jA,decide_eq_true_eq,beq_iff_eq,aM]at f1
 have hlen:(aw p).length=p.Rules.length+1:=by rw[nz];simp
 have hrule:∀r∈p.Rules,r.Expr∈aw p:=λr hr=>F1 hr
 have hch:p.Change∈aw p:=by rw[nz];simp
 have hdep:∀x∈aw p,x.dep<=1500000:=λx hx=>by
  rw[nz]at hx
  simp only[jE,zN,qC]at hx
  rcases hx with⟨r,hr,rfl⟩|rfl
  .exact hs.2.1 r hr
  .exact hs.2.2.1
 have hlarge:∀x∈aw p,km x=false:=λx hx=>Lx (hdep x hx) (a4 x hx).1 (a4 x hx).2
 have hT:fw p=false:=by
  unfold fw
  rw[Bool.cond_eq_ite,if_neg]
  .have:∀l:List Rule,(∀r∈l,km r.Expr=false)->fw.L1 fw.K1 l=false:=by
    intro l
    induction l with
    |nil=>intro _;rfl
    |cons y l ih=>
     intro hl
     simp only[fw.L1,hl y (zB ..),cond_false]
     exact ih λz hz=>hl z (kA _ hz)
   exact this p.Rules λr hr=>hlarge _ (hrule r hr)
  .simp only[kC,decide_eq_true_eq,not_or,hlarge _ hch,jT,not_false_eq_true,and_true]
   omega
 have hN:hO p=true:=by
  unfold hO
  rw[MR,Dy,Dy,n1,n2,n3]
  simp only[Bool.not_true,Bool.or_self,cond_false]
  have:∀(k:Bool)(l:List Rule),(∀r∈l,bM p.Offices r.Expr=true)->hO.L1 p k l=k:=by
   intro k l
   induction l with
   |nil=>intro _;rfl
   |cons y l ih=>
    intro hl
    simp only[hO.L1,hl y (zB ..),Bool.not_true,cond_false]
    exact ih λz hz=>hl z (kA _ hz)
  rw[this _ p.Rules λr hr=>Fi p.Offices _ (n4 _ (hrule r hr))]
  exact Fi p.Offices _ (n4 _ hch)
 have hget:∀(j:Nat)(r:Rule),p.Rules[j]? = some r->(aw p)[j]? = some r.Expr:=λj r hj=>by
  have hlt:=(List.getElem?_eq_some_iff.1 hj).1
  rw[nz,List.getElem?_append_left (by simpa using hlt),List.getElem?_map,hj];rfl
 have hgetc:(aw p)[p.Rules.length]? = some p.Change:=by
  rw[nz,List.getElem?_append_right (by simp)];simp
 have hFm:gd p=true:=by
  unfold gd
  rw[Bool.cond_eq_ite,if_neg]
  .have:∀(l pre:List Rule),p.Rules=pre++l->gd.L1 p (gd.K1 p) l pre.length=true:=by
    intro l
    induction l with
    |nil=>
     intro pre _
     refine Du false _ λz hz=>?_
     obtain⟨q1,q2⟩:=f3 _ _ hgetc z hz
     refine⟨q1,λ_ he=>?_⟩
     rw[hlen,wrap64 (by omega),Nat.zero_add]at q2
     have e1:decide ((p.Rules.length:Int)<((p.Rules.length+1:Nat):Int)-1)=false:=decide_eq_false (by omega)
     rw[e1,Bool.false_or,he]at q2
     simp at q2
    |cons y l ih=>
     intro pre hp
     have hj:p.Rules[pre.length]? = some y:=by rw[hp];simp
     have q:=f2 pre.length y hj
     rw[Nat.zero_add]at q
     simp only[jA,aM,decide_eq_true_eq]at q
     have hfe:aE y.Expr true=true:=Du true _ λz hz=>⟨(f3 _ _ (hget _ _ hj) z hz).1,λhh=>by cases hh⟩
     have d1:decide (y.Think<0)=false:=by simp;omega
     have d2:decide (1099511627776<=y.Think)=false:=by simp;omega
     have:=ih (pre++[y]) (by rw[hp];simp)
     rw[xB,xA,jC,Nat.zero_add]at this
     simp only[gd.L1,q.1,d1,d2,hfe,Bool.not_true,Bool.or_self,cond_false]
     exact this
   exact this p.Rules [] rfl
  .simp only[kC,decide_eq_true_eq,bne_iff_ne,not_or,ne_eq,Decidable.not_not]
   omega
 have hRes:dV p=(zP p.Name p.Kinds p.Offices (rrules p.Offices p.Rules 0) (ah p.Offices p.Change) p.Mode,0):=by
  unfold dV
  rw[hT,hN,hFm]
  simp only[cond_false,Bool.not_true]
  rw[AO,kF]
 have hsame:∀x,bO p.Offices x=true->bo (ah p.Offices x) x=true:=λx hx=>by
  refine Nq p.Offices x ?_
  unfold bO bO.K1 at hx
  exact(rk p.Offices _).1 hx
 have hSame:iy (zP p.Name p.Kinds p.Offices (rrules p.Offices p.Rules 0) (ah p.Offices p.Change) p.Mode) p=true:=by
  unfold iy
  rw[Bool.cond_eq_ite,if_neg]
  .have:∀(l pre:List Rule),p.Rules=pre++l->iy.L1 p iy.K1 (rrules p.Offices l pre.length) pre.length=true:=by
    intro l
    induction l with
    |nil=>intro _ _;rfl
    |cons y l ih=>
     intro pre hp
     have hy:nthI p.Rules (pre.length:Int)=y:=lG (by rw[hp];simp)
     have hj:p.Rules[pre.length]? = some y:=by rw[hp];simp
     obtain⟨g1,g2⟩:=h2 pre.length y hj
     have:=ih (pre++[y]) (by rw[hp];simp)
     rw[xB,xA,jC,Nat.zero_add]at this
     simp only[rrules,iy.L1,hy,hsame _ g2,g1,beq_self_eq_true,bne_self_eq_false,Bool.not_true,Bool.or_self,cond_false]
     exact this
   exact this p.Rules [] rfl
  .show ¬((((((!(p.Name.toList==p.Name.toList))||(p.Mode != p.Mode))||(!(eH p.Offices p.Offices)))||(!(eH p.Kinds p.Kinds)))||(((rrules p.Offices p.Rules 0).length:Int) != (p.Rules.length:Int)))||(!(bo (ah p.Offices p.Change) p.Change)))=true
   rw[EH,EH,EL,hsame _ h3]
   simp
 unfold gz
 rw[hRes]
 dsimp only
 rw[hSame];rfl
theorem GU{l:List Version}(hs:smV l)(h:bG l=0):dP l=0:=by
 have g:=(rJ l).1 h
 have hlen:=g.len
 unfold dP
 rw[Bool.cond_eq_ite,if_neg (by simp;omega)]
 have:∀(s pre:List Version),l=pre++s->dP.L1 l dP.K1 s pre.length=0:=by
  intro s
  induction s with
  |nil=>intro _ _;rfl
  |cons y s ih=>
   intro pre hp
   have hy:y∈l:=by rw[hp];simp
   obtain⟨q1,q2,q3,q4⟩:=g.each y hy
   have hlast:(decide (0<(pre.length:Int))&&decide (y.No<=(nthI l ((pre.length:Int)-1)).No))=false:=by
    rcases List.eq_nil_or_concat pre with rfl|⟨a,x,e⟩
    .rfl
    .rw[List.concat_eq_append]at e
     subst e
     have hx:nthI l (((a++[x]).length:Int)-1)=x:=by
      rw[show(((a++[x]).length:Int)-1)=(a.length:Int)from by simp]
      exact lG (by rw[hp];simp)
     have hi:=g.inc
     rw[hp,List.pairwise_append]at hi
     have:=hi.2.2 x (by simp) y (zB ..)
     rw[hx]
     have e2:decide (y.No<=x.No)=false:=by simp;omega
     rw[e2,Bool.and_false]
   have:=ih (pre++[y]) (by rw[hp];simp)
   rw[xB,xA,jC,Nat.zero_add]at this
   simp only[dP.L1,Bool.cond_eq_ite]
   rw[if_neg]
   .exact this
   .have hck:=LT (hs.2 y hy) q4
    simp only[kC,not_or,decide_eq_true_eq,jA,kD,Bool.not_eq_false,bne_iff_ne,ne_eq,Classical.not_not,fN,hck,and_true]
    simp only[Bool.and_eq_false_iff,decide_eq_false_iff_not]at hlast
    omega
 exact this l [] rfl
theorem Ao{B:Int->Bool}{k:Bool}{L:List Int}(hB:∀y∈L,B y=false)(hL:L.Pairwise (·<·))(hk:k=true):∀(l pre:List Int),L=pre++l->refLs B L k l pre.length=true
 |[],_,_=>hk
 |y::l,pre,h=>by
  have hlast:(decide (0<(pre.length:Int))&&decide (y<=nthI L ((pre.length:Int)-1)))=false:=by
   rcases List.eq_nil_or_concat pre with rfl|⟨a,x,e⟩
   .rfl
   .rw[List.concat_eq_append]at e
    subst e
    have hx:nthI L (((a++[x]).length:Int)-1)=x:=by
     rw[show(((a++[x]).length:Int)-1)=(a.length:Int)from by simp]
     exact lG (by rw[h];simp)
    have hi:=hL
    rw[h,List.pairwise_append]at hi
    have:=hi.2.2 x (by simp) y (zB ..)
    rw[hx]
    have e2:decide (y<=x)=false:=by simp;omega
    rw[e2,Bool.and_false]
  have ih:=Ao hB hL hk l (pre++[y]) (by rw[h];simp)
  rw[xB,xA,jC,Nat.zero_add]at ih
  have hy:y∈L:=by rw[h];simp
  simp only[refLs,hB y hy,hlast,Bool.or_self,cond_false]
  exact ih
theorem An{l:List Int}{limit:Int}(h:((∀x∈l,0<=x/\x<limit)/\l.Pairwise (·<·))/\l.length<=16):eS l limit=true:=by
 have e:∀(L l:List Int)i,eS.L1 L limit (eS.K1 L) l i=refLs (λy=>decide (y<0)||decide (limit<=y)) L (eS.K1 L) l i:=by
  intro L l
  induction l with
  |nil=>intro i;rfl
  |cons y l ih=>intro i;simp only[eS.L1,refLs,ih]
 unfold eS
 rw[e]
 refine Ao (λy hy=>?_) h.1.2 ?_ l [] rfl
 .have:=h.1.1 y hy
  simp only[Bool.or_eq_false_iff,decide_eq_false_iff_not];omega
 .unfold eS.K1;rw[decide_eq_true_eq];omega
theorem HM(no:Int):∀(l:List Document)(i:Nat),(l.any λd=>d.No==no)=true->0<=gR.L1 no gR.K1 l i
 |[],i,h=>by cases h
 |y::l,i,h=>by
  simp only[gR.L1,Bool.cond_eq_ite]
  split
  .omega
  .next hc=>
   rw[List.any_cons,Bool.eq_false_iff.2 hc,Bool.false_or]at h
   exact HM no l (i+1) h
theorem Ex(L:List Document):∀nos:List Int,(∀x∈nos,(L.any λd=>d.No==x)=true)->dA.L1 L dA.K1 nos=true
 |[],_=>rfl
 |y::nos,h=>by
  have h1:=HM y L 0 (h y (zB ..))
  have:decide (gR L y<0)=false:=by unfold gR;simp;omega
  simp only[dA.L1,this,cond_false]
  exact Ex L nos λx hx=>h x (kA _ hx)
theorem Pj{L:List Document}{d:Document}(h:fd (ay L) d=true):dA L d.Revokes=true/\dA L d.Needs=true:=by
 have hs:=(Bc L L 0 []).2
 have key:∀nos:List Int,cI nos (λdE=>eO dE (ay L))=false->dA L nos=true:=by
  intro nos hn
  rw[containsF,List.any_eq_false]at hn
  refine Ex L nos λx hx=>?_
  have h1:=hn x hx
  unfold eO at h1
  have e:mhas (ay L).at_ x=(mhas [] x||L.any λd=>d.No==x):=hs x
  rw[e]at h1
  simpa[mhas,mget?]using h1
 unfold fd at h
 simp only[jA,kD]at h
 exact⟨key _ h.1,key _ h.2⟩
theorem F4{l:List Document}(h:aT l=0):fZ l=0:=by
 have L:∀(L l:List Document)(i:Nat),aT.L1 L aT.K1 l i=0->fZ.L1 L fZ.K1 l i=0:=by
  intro L l
  induction l with
  |nil=>intros;rfl
  |cons y l ih=>
   intro i h
   simp only[aT.L1,Bool.cond_eq_ite]at h
   split at h
   .omega
   .next hc=>
    simp only[kC,not_or,kD,Bool.not_eq_false,Bool.not_eq_true]at hc
    obtain⟨⟨c1,c2⟩,c3⟩:=hc
    obtain⟨t1,t2⟩:=Pj c3
    have hR:jf y=true:=by
     simp only[ib,jA,decide_eq_true_eq,ga]at c1
     obtain⟨⟨⟨⟨⟨⟨⟨⟨⟨⟨⟨⟨p1,p2⟩,p3⟩,p4⟩,p5⟩,p6⟩,p7⟩,p8⟩,p9⟩,p10⟩,p11⟩,p12⟩,p13⟩:=c1
     unfold jf
     rw[Bool.cond_eq_ite,if_neg]
     .rw[An ((Eb _ _).1 p11),An ((Eb _ _).1 p12),An ((Eb _ _).1 p13)]
      simp only[jA,decide_eq_true_eq,Bool.and_true]
      exact⟨⟨p8,p9⟩,p10⟩
     .simp only[qf,kC,decide_eq_true_eq,kD,Bool.and_eq_false_iff,decide_eq_false_iff_not,not_or]
      omega
    simp only[fZ.L1,hR,c2,t1,t2,Bool.not_true,Bool.or_false,Bool.or_self,cond_false]
    exact ih (i+1) h
 unfold aT at h
 unfold fZ
 rw[Bool.cond_eq_ite]at h ⊢
 split at h
 .omega
 .next hc=>rw[if_neg hc];exact L l l 0 h
theorem judge30{r:Register}(hs:smR r):dC r=0↔kj r=0:=by
 constructor
 .intro h
  obtain⟨d1,d2,d3,d4,d5,d6,d7⟩:=(mb r).1 h
  simp only[kj,(yc r.Appoints).symm.trans d1,(wj r.Deputies).symm.trans d2,(qU r.Interests).symm.trans d3,(DE r.Budgets).symm.trans d4,GU hs.vers d5,F4 d6,(qY r.Approvals).symm.trans d7]
  rfl
 .intro h
  obtain⟨c1,c2,c3,c4,c5,c6,c7⟩:=KM h
  exact(mb r).2 ⟨(yc r.Appoints).trans c1,(wj _).trans c2,(qU r.Interests).trans c3,(DE _).trans c4,KO hs.vers c5,GR c6,(qY _).trans c7⟩
theorem Lu{α : Type}{f:α->Int}:∀{l:List α},l.Pairwise (λa b=>f a<f b)->∀{a b:α},a∈l->b∈l->f a=f b->a=b
 |[],_,_,_,ha,_,_=>(vA ha).elim
 |y::l,h,a,b,ha,hb,e=>by
  rw[List.pairwise_cons]at h
  rcases jB.1 ha with e1|ha2
  .rcases jB.1 hb with e2|hb2
   .rw[e1,e2]
   .have:=h.1 b hb2;rw[e1]at e;omega
  .rcases jB.1 hb with e2|hb2
   .have:=h.1 a ha2;rw[e2]at e;omega
   .exact Lu h.2 ha2 hb2 e
def sKey(y:Interest):cS:=cS.mk y.Person y.Party y.Of
def sCnt(t known:Int)(y:Interest):Prop:=y.At<=t/\y.Known<=known
def sOver(z w:Interest):Prop:=z.At<w.At\/(w.At=z.At/\z.No<w.No)
structure HZ(t known:Int)(pre:List Interest)(m:List (cS×Interest)):Prop where
 some:∀k z,mget? m k=some z->z∈pre/\sKey z=k/\sCnt t known z/\∀w∈pre,sKey w=k->sCnt t known w->¬sOver z w
 none:∀k,mget? m k=none->∀w∈pre,sKey w=k->¬sCnt t known w
theorem Hl{t known:Int}:∀(l pre:List Interest)(m:List (cS×Interest)),(pre++l).Pairwise (λa b=>a.No<b.No)->HZ t known pre m->HZ t known (pre++l) (stMap t known l m)
 |[],pre,m,_,h=>by rw[List.append_nil];exact h
 |y::l,pre,m,hp,h=>by
  have hno:∀w∈pre,w.No<y.No:=λw hw=>(List.pairwise_append.1 hp).2.2 w hw y (zB ..)
  have hp2:((pre++[y])++l).Pairwise (λa b=>a.No<b.No):=by rw[vD];exact hp
  have go:∀m',HZ t known (pre++[y]) m'->HZ t known (pre++y::l) (stMap t known l m'):=λm' h'=>by
   have:=Hl l (pre++[y]) m' hp2 h'
   rwa [vD]at this
  have stay:(∀z,mget? m (sKey y)=some z->sCnt t known y->¬sOver z y)->(mget? m (sKey y)=none->¬sCnt t known y)->HZ t known (pre++[y]) m:=λh1 h2=>by
   constructor
   .intro k z hz
    obtain⟨a1,a2,a3,a4⟩:=h.some k z hz
    refine⟨kP _ a1,a2,a3,λw hw hk hc=>?_⟩
    rcases jE.1 hw with hw|hw
    .exact a4 w hw hk hc
    .rw[qC.1 hw]at hk hc ⊢
     exact h1 z (by rw[hk];exact hz) hc
   .intro k hz w hw hk
    rcases jE.1 hw with hw|hw
    .exact h.none k hz w hw hk
    .rw[qC.1 hw]at hk ⊢
     exact h2 (by rw[hk];exact hz)
  simp only[stMap,Bool.cond_eq_ite]
  split
  .next hc=>
   have hc:¬sCnt t known y:=by
    simp only[kC,decide_eq_true_eq]at hc
    intro h;unfold sCnt at h;omega
   exact go m (stay (λ_ _ h=>(hc h).elim) (λ_=>hc))
  .next hc=>
   have hc:sCnt t known y:=by
    simp only[kC,decide_eq_true_eq]at hc
    unfold sCnt;omega
   split
   .next hn=>
    refine go _ ⟨λk z hz=>?_,λk hz w hw hk=>?_⟩
    .rw[lA]at hz
     split at hz
     .next hk=>
      cases hz
      refine⟨by simp,hk.symm,hc,λw hw hkw hcw=>?_⟩
      rcases jE.1 hw with hw|hw
      .have hb:=hno w hw
       cases hm:mget? m (sKey y)with
       |none=>exact(h.none _ hm w hw (by rw[hkw,hk];rfl) hcw).elim
       |some z0=>
        have a4:=(h.some _ _ hm).2.2.2 w hw (by rw[hkw,hk];rfl) hcw
        have:z0.At<=y.At:=by
         simp only[mhas,mgetD,show mget? m (cS.mk y.Person y.Party y.Of)=some z0 from hm]at hn
         simpa using hn
        unfold sOver at a4 ⊢;omega
      .rw[qC.1 hw];unfold sOver;omega
     .next hk=>
      obtain⟨a1,a2,a3,a4⟩:=h.some k z hz
      refine⟨kP _ a1,a2,a3,λw hw hkw hcw=>?_⟩
      rcases jE.1 hw with hw|hw
      .exact a4 w hw hkw hcw
      .rw[qC.1 hw]at hkw;exact(hk hkw.symm).elim
    .rw[lA]at hz
     split at hz
     .cases hz
     .next hk2=>
      rcases jE.1 hw with hw|hw
      .exact h.none k hz w hw hk
      .rw[qC.1 hw]at hk;exact(hk2 hk.symm).elim
   .next hn=>
    refine go m (stay (λz hz _=>?_) (λhz=>?_))
    .have:¬z.At<=y.At:=by
      simp only[mhas,mgetD,show mget? m (cS.mk y.Person y.Party y.Of)=some z from hz]at hn
      simpa using hn
     unfold sOver;omega
    .simp only[mhas,mgetD,show mget? m (cS.mk y.Person y.Party y.Of)=none from hz]at hn
     simp at hn
theorem EA{x:Interest}{t known:Int}:∀l:List Interest,fS.L1 x t known fS.K1 l=true↔∀w∈l,sKey w=sKey x->sCnt t known w->¬sOver x w
 |[]=>by simp[fS.L1,fS.K1]
 |y::l=>by
  have ih:=EA (x:=x) (t:=t) (known:=known) l
  simp only[fS.L1,Bool.cond_eq_ite,List.forall_mem_cons]
  have e:(((lm y x)&&(iv y t known))&&(decide (x.At<y.At)||((y.At==x.At)&&decide (x.No<y.No))))=true↔sKey y=sKey x/\sCnt t known y/\sOver x y:=by
   simp only[lm,iv,jA,kC,beq_iff_eq,decide_eq_true_eq,sKey,sCnt,sOver,cS.mk.injEq,and_assoc]
  split
  .next hc=>
   obtain⟨a,b,c⟩:=e.1 hc
   constructor
   .intro h;cases h
   .intro h;exact(h.1 a b c).elim
  .next hc=>
   rw[ih]
   constructor
   .exact λh=>⟨λa b c=>hc (e.2 ⟨a,b,c⟩),h⟩
   .exact λh=>h.2
theorem standing29{l:List Interest}{t:Int}(ht:0<=t)(hk:0<=known)(hp:l.Pairwise (λa b=>a.No<b.No)):ce l t known=l.filter (λx=>fS l x t known):=by
 unfold ce
 rw[C6]
 unfold ce.K1 bA bA.K1
 have hv:HZ t known l (stMap t known l []):=by
  have:=Hl (t:=t) (known:=known) l [] [] hp ⟨λk z h=>(by simp[mget?]at h),λk h w hw=>(vA hw).elim⟩
  exact this
 generalize stMap t known l []=v at *
 rw[uO]
 apply TK
 intro y hy
 rw[jK]
 unfold fS
 rw[Bool.cond_eq_ite]
 have hg:mgetD v (sKey y) (Interest.mk 0 0 0 0 0 false false)=y↔sCnt t known y/\∀w∈l,sKey w=sKey y->sCnt t known w->¬sOver y w:=by
  cases hm:mget? v (sKey y)with
  |none=>
   have h1:=hv.none _ hm y hy rfl
   constructor
   .intro h
    simp only[mgetD,hm,Option.getD]at h
    exact(h1 (by rw[←h];exact⟨ht,hk⟩)).elim
   .exact λh=>(h1 h.1).elim
  |some z=>
   obtain⟨a1,a2,a3,a4⟩:=hv.some _ _ hm
   simp only[mgetD,hm,Option.getD]
   constructor
   .rintro rfl;exact⟨a3,a4⟩
   .rintro⟨b1,b2⟩
    have c1:=a4 y hy rfl b1
    have c2:=b2 z a1 a2 a3
    have:z.No=y.No:=by unfold sOver at c1 c2;omega
    exact Lu (f:=λx:Interest=>x.No) hp a1 hy this
 split
 .next hc=>
  constructor
  .intro h
   simp only[jA,decide_eq_true_eq]at h
   have:=(hg.1 h.2).1
   unfold sCnt at this
   simp[iv,this.1,this.2]at hc
   simp[hc]at h
  .intro h;cases h
 .next hc=>
  simp only[kC,not_or,Bool.not_eq_true,Bool.not_eq_false',iv,jA,decide_eq_true_eq]at hc
  rw[EA,hc.1]
  simp only[Bool.not_false,Bool.true_and,decide_eq_true_eq]
  exact hg.trans ⟨λh=>h.2,λh=>⟨hc.2,h⟩⟩
def rwFill(who:Int):List Interest->List eF->List eF
 |[],w=>w
 |x::l,w=>bif(!x.Of)&&(x.Person==who)then rwFill who l (rwPut w ⟨[x.No],x.Party⟩)else rwFill who l w
def rwStep(path:List Int)(to:Int):List Interest->List eF->List eF
 |[],w=>w
 |x::l,w=>bif x.Of&&(x.Person==to)then rwStep path to l (rwPut w ⟨path++[x.No],x.Party⟩)else rwStep path to l w
def rwLoop(parties:List Int)(all:List Interest):Nat->Nat->List eF->List Int×Bool
 |0,_,_=>([],false)
 |n+1,k,w=>match w[k]? with
  |none=>([],false)
  |some x=>bif kI parties x.To then(x.jb,true)else bif(x.jb.length:Int)==8 then rwLoop parties all n (k+1) w
   else rwLoop parties all n (k+1) (rwStep x.jb x.To all w)
def standR(l:List Interest)(t known:Int):List Interest:=l.filter (λx=>fS l x t known)
def conflictR(l:List Interest)(who:Int)(parties:List Int)(t known:Int):List Int×Bool×Int:=
 bif je l who parties t known != 0 then([],false,je l who parties t known)
 else((rwLoop parties (standR l t known) (l.length+1) 0 (rwFill who (standR l t known) [])).1,(rwLoop parties (standR l t known) (l.length+1) 0 (rwFill who (standR l t known) [])).2,0)
def toI(w:eF):gZ:=⟨w.jb,w.To⟩
def Met(m:List (Int×Bool))(w:List eF):Prop:=∀t,mgetD m t false=w.any (λx=>x.To==t)
theorem Hp{m:List (Int×Bool)}{d e:List eF}(x:eF)(h:Met m (d++e)):∃e',rwPut (d++e) x=d++e'/\(conPut (toI x) m (e.map toI)).2=e'.map toI/\Met (conPut (toI x) m (e.map toI)).1 (d++e'):=by
 unfold rwPut conPut
 rw[show(toI x).to=x.To from rfl,h x.To]
 cases hb:(d++e).any (λw=>w.To==x.To)with
 |true=>exact⟨e,rfl,rfl,h⟩
 |false=>
  refine⟨e++[x],by simp,by simp,λt=>?_⟩
  show mgetD (mput m x.To true) t false=_
  rw[tg,h t,←vD,List.any_append]
  by_cases ht:t=x.To
  .subst ht;simp
  .rw[if_neg ht]
   have:(x.To==t)=false:=by simp;exact λe=>ht e.symm
   simp[this]
theorem Al(path:List Int)(to:Int):∀(l:List Interest){m:List (Int×Bool)}{d e:List eF},Met m (d++e)->∃e',rwStep path to l (d++e)=d++e'/\(conStep path (l.filter λx=>x.Of&&(x.Person==to)) m (e.map toI)).2=e'.map toI/\Met (conStep path (l.filter λx=>x.Of&&(x.Person==to)) m (e.map toI)).1 (d++e')
 |[],m,d,e,h=>⟨e,rfl,rfl,h⟩
 |x::l,m,d,e,h=>by
  simp only[rwStep,List.filter_cons,Bool.cond_eq_ite]
  split
  .obtain⟨e1,a1,a2,a3⟩:=Hp ⟨path++[x.No],x.Party⟩ h
   simp only[conStep]
   rw[a1]
   rw[show(conPut ⟨path++[x.No],x.Party⟩ m (e.map toI)).2=e1.map toI from a2]
   exact Al path to l a3
  .exact Al path to l h
theorem vy(who:Int):∀(l:List Interest)(f:List (Int×List Interest)){m:List (Int×Bool)}{e:List eF},Met m e->∃e',rwFill who l e=e'/\(conFill who l f m (e.map toI)).2.2=e'.map toI/\Met (conFill who l f m (e.map toI)).2.1 e'/\∀to,mgetD (conFill who l f m (e.map toI)).1 to []=mgetD f to []++l.filter λx=>x.Of&&(x.Person==to)
 |[],f,m,e,h=>⟨e,rfl,rfl,h,λto=>by simp[conFill]⟩
 |x::l,f,m,e,h=>by
  simp only[rwFill,conFill,List.filter_cons]
  cases ho:x.Of with
  |true=>
   simp only[Bool.not_true,Bool.false_and,cond_false,cond_true,Bool.true_and]
   obtain⟨e',a1,a2,a3,a4⟩:=vy who l (mput f x.Person (mgetD f x.Person []++[x])) h
   refine⟨e',a1,a2,a3,λto=>?_⟩
   rw[a4,tg]
   by_cases ht:to=x.Person
   .subst ht;simp
   .rw[if_neg ht]
    have:(x.Person==to)=false:=by simp;exact λe=>ht e.symm
    simp[this]
  |false=>
   simp only[Bool.not_false,Bool.true_and,cond_false,Bool.false_and,jT,if_false]
   cases hw:x.Person==who with
   |true=>
    simp only[cond_true]
    obtain⟨e1,a1,a2,a3⟩:=Hp (d:=[]) (e:=e) ⟨[x.No],x.Party⟩ h
    rw[kF,kF]at a1
    rw[a1]
    rw[show(conPut ⟨[x.No],x.Party⟩ m (e.map toI)).2=e1.map toI from a2]
    exact vy who l f a3
   |false=>exact vy who l f h
theorem has29(n:Int):∀l:List Int,kI l n=l.contains n
 |[]=>rfl
 |y::l=>by
  have ih:=has29 n l
  unfold kI at ih ⊢
  simp only[kI.L1,List.contains_cons,ih,Bool.cond_eq_ite]
  by_cases h:y=n
  .subst h;simp
  .have h1:(y==n)=false:=by simpa using h
   have h2:(n==y)=false:=by simpa using λe=>h (Eq.symm e)
   simp[h1,h2]
theorem Am{ps:List Int}{all:List Interest}{f:List (Int×List Interest)}(hf:∀to,mgetD f to []=all.filter λx=>x.Of&&(x.Person==to)):∀(n:Nat){m:List (Int×Bool)}{d e:List eF},Met m (d++e)->rwLoop ps all n d.length (d++e)=conLoop ps f n m (e.map toI)
 |0,m,d,e,h=>rfl
 |n+1,m,d,[],h=>by simp[rwLoop,conLoop]
 |n+1,m,d,x::e,h=>by
  have hx:(d++x::e)[d.length]? = some x:=by simp
  have hl:d.length+1=(d++[x]).length:=by simp
  have hd:d++x::e=(d++[x])++e:=by simp
  simp only[rwLoop,hx,jJ,conLoop]
  rw[has29,show(toI x).to=x.To from rfl,show(toI x).path=x.jb from rfl]
  cases ps.contains x.To with
  |true=>rfl
  |false=>
   simp only[cond_false]
   rw[hd]at h ⊢
   rw[hl]
   cases(x.jb.length:Int)==8 with
   |true=>exact Am hf n h
   |false=>
    simp only[cond_false]
    obtain⟨e',a1,a2,a3⟩:=Al x.jb x.To all h
    rw[a1,hf,a2]
    exact Am hf n a3
theorem yy(b:Bool):∀(l:List Int)(g:Int),cf.L1 (λ_=>bif b then 1 else 0) l g=bif b||!(decide ((∀x∈l,g<x/\x<=1048576)/\l.Pairwise (·<·)))then 1 else 0
 |[],g=>by simp[cf.L1]
 |y::l,g=>by
  simp only[cf.L1,yy b l y]
  cases hc:(decide (y<=g)||decide (1048576<y))with
  |true=>
   rw[show decide ((∀x∈y::l,g<x/\x<=1048576)/\(y::l).Pairwise (·<·))=false from by
    simp only[kC,decide_eq_true_eq]at hc
    simp only[decide_eq_false_iff_not]
    intro h;have:=h.1 y (zB ..);omega]
   simp
  |false=>
   simp only[Bool.or_eq_false_iff,decide_eq_false_iff_not]at hc
   simp only[cond_false]
   congr 3
   rw[decide_eq_decide,List.pairwise_cons,List.forall_mem_cons]
   constructor
   .exact λ⟨h1,h2⟩=>⟨⟨by omega,λx hx=>by have:=h1 x hx;omega⟩,λx hx=>(h1 x hx).1,h2⟩
   .exact λ⟨h1,h2,h3⟩=>⟨λx hx=>⟨h2 x hx,(h1.2 x hx).2⟩,h3⟩
theorem parties29{l:List Int}:fy l=true↔((∀x∈l,-1<x/\x<=1048576)/\l.Pairwise (·<·))/\l.length<=16:=by
 have e:∀(L l:List Int)i,fy.L1 L (fy.K1 L) l i=refLs (λy=>!(iQ y)) L (fy.K1 L) l i:=by
  intro L l
  induction l with
  |nil=>intro i;rfl
  |cons y l ih=>intro i;simp only[fy.L1,refLs,ih]
 have hB:∀y:Int,(!(iQ y))=false↔-1<y/\y<=1048576:=λy=>by
  simp only[iQ,Bool.not_eq_false',jA,decide_eq_true_eq];omega
 have hK:fy.K1 l=true↔l.length<=16:=by simp only[fy.K1,decide_eq_true_eq];omega
 unfold fy
 rw[e]
 constructor
 .intro h
  obtain⟨⟨h1,h2⟩,h3⟩:=JO h
  exact⟨⟨λx hx=>(hB x).1 (h1 x hx),h3⟩,hK.1 h2⟩
 .intro h
  exact Ao (λy hy=>(hB y).2 (h.1.1 y hy)) h.1.2 (hK.2 h.2) l [] rfl
theorem examine29(l:List Interest)(p:Int)(ps:List Int)(t known:Int):cf l p ps t known=je l p ps t known:=by
 unfold cf je
 rw[qU]
 cases gg l != 0 with
 |true=>rfl
 |false=>
  simp only[cond_false]
  have e:=yy ((((!(aW p 64))||decide (16<(ps.length:Int)))||(!(aW t 1099511627776)))||(!(aW known 1099511627776))) ps (-1)
  rw[show cf.K1 p ps t known=λ_=>bif((((!(aW p 64))||decide (16<(ps.length:Int)))||(!(aW t 1099511627776)))||(!(aW known 1099511627776)))then 1 else 0 from rfl,e]
  congr 1
  have hp:fy ps=(decide ((∀x∈ps,-1<x/\x<=1048576)/\ps.Pairwise (·<·))&&!(decide (16<(ps.length:Int)))):=by
   rw[jK,parties29]
   simp only[jA,decide_eq_true_eq,kD,decide_eq_false_iff_not]
   constructor
   .exact λh=>⟨h.1,by omega⟩
   .exact λh=>⟨h.1,by omega⟩
  rw[hp]
  simp only[aW,nk,kz]
  cases(decide (0<=p)&&decide (p<64))<;>cases decide (16<(ps.length:Int))<;>cases(decide (0<=t)&&decide (t<1099511627776))<;>cases(decide (0<=known)&&decide (known<1099511627776))<;>cases decide ((∀x∈ps,-1<x/\x<=1048576)/\ps.Pairwise (·<·))<;>rfl
theorem GK{l:List Interest}(h:cm l=0):l.Pairwise (λa b=>a.No<b.No):=by
 unfold cm at h
 rw[interestsP,Bool.cond_eq_ite]at h
 split at h
 .omega
 .exact((sG (by omega) l _).1 h).2
theorem conflict29(l:List Interest)(p:Int)(ps:List Int)(t known:Int):eJ l p ps t known=conflictR l p ps t known:=by
 unfold eJ conflictR
 rw[examine29]
 cases he:je l p ps t known != 0 with
 |true=>rfl
 |false=>
  have h0:je l p ps t known=0:=by simpa using he
  have hc:cm l=0/\0<=t/\0<=known:=by
   rw[qU]
   unfold je at h0
   rw[Bool.cond_eq_ite]at h0
   split at h0
   .next h=>simp[h0]at h
   .next h=>
    rw[Bool.cond_eq_ite]at h0
    split at h0
    .omega
    .next h2=>
     simp only[kC,not_or,Bool.not_eq_true,Bool.not_eq_false',kz,jA,decide_eq_true_eq]at h2
     exact⟨by simpa using h,by omega,by omega⟩
  have hs:ce l t known=standR l t known:=standing29 hc.2.1 hc.2.2 (GK hc.1)
  simp only[cond_false,conFind,hs]
  obtain⟨e',a1,a2,a3,a4⟩:=vy p (standR l t known) [] (m:=[]) (e:=[]) (λt=>rfl)
  have:=Am (ps:=ps) (all:=standR l t known) (f:=(conFill p (standR l t known) [] [] []).1) (λto=>by
   have:=a4 to
   rw[T2]at this
   rw[this];rfl) (l.length+1) (d:=[]) (e:=e') a3
  rw[jC,kF]at this
  rw[a1,this]
  rw[T2]at a2 
  rw[a2]
  rfl
structure ChL(l:List Int):Prop where
 inc:l.Pairwise (·<·)
 zero:∃l',l=0::l'
 tm:∀x∈l,0<=x/\x<1099511627776
theorem Nu{a b:List Int}(ha:a.Pairwise (·<·))(hb:b.Pairwise (·<·))(h:∀x,x∈a↔x∈b):a=b:=
 (Bk ha hb λx hx=>(h x).1 hx).eq_of_length_le (Bk hb ha λx hx=>(h x).2 hx).length_le
theorem Nn(l:List Document){d:Document}(hd:d∈l):mhas (ay l).at_ d.No=true:=by
 have:=(Bc l l 0 []).2 d.No
 show mhas (ay.L1 (ay.K1 l) l 0 []).at_ d.No=true
 rw[this]
 simp only[kC,List.any_eq_true,beq_iff_eq]
 exact .inr ⟨d,hd,rfl⟩
theorem HP{t:Int}(h:0<=t/\t<1099511627776):ga t=true:=by
 simp only[ga,jA,decide_eq_true_eq];exact h
theorem Kn{l:List Document}{t:Int}(hc:aT l=0)(hs:cW l signed=true)(ht:0<=t/\t<1099511627776):(cg l signed t).2=0:=by
 unfold cg
 rw[hc,hs,HP ht]
 simp only[bne_self_eq_false,cond_false,Bool.not_true,Bool.or_false]
 have:∀(s:List Document)(i:Nat)(g:List Int),(cg.L1 l signed t cg.K1 s i g).2=0:=by
  intro s
  induction s with
  |nil=>intro i g;rfl
  |cons y s ih=>intro i g;simp only[cg.L1,Bool.cond_eq_ite];split<;>exact ih _ _
 exact this _ _ _
theorem P6{l:List Document}{t:Int}{d:Document}(hc:aT l=0)(hs:cW l signed=true)(ht:0<=t/\t<1099511627776)(hd:d∈l):(gh l signed d.No t).2.2=0:=by
 unfold gh
 rw[hc,hs,HP ht,vW,Nn l hd];rfl
theorem QA{l:List Document}{f:Document->Bool}{d:Document}(hd:d∈l)(hf:f d=true):0<=ad l f/\ad l f<(l.length:Int):=by
 unfold ad
 rcases Fx f l 0 with⟨_,h⟩|⟨a,y,b,h1,h2,_⟩
 .rw[h d hd]at hf;cases hf
 .rw[h2,h1];simp only[xB,xA];omega
theorem ON{l:List Document}(h:cW l signed=true):signed.length=l.length:=by
 simp only[cW,jA,beq_iff_eq]at h
 have:=h.1
 omega
section
variable {c:bK} (h:i5 c)
include h
theorem i5.docs:aT c.Register.Docs=0:=((mb _).1 h.chk).2.2.2.2.2.1
theorem GS(hs:cW c.Register.Docs signed=true):(cg c.Register.Docs signed c.at_).2=0:=Kn h.docs hs h.time
theorem NS{d:Document}(hs:cW c.Register.Docs signed=true)(hd:d∈c.Register.Docs):(gh c.Register.Docs signed d.No c.at_).2.2=0:=P6 h.docs hs h.time hd
theorem HS(hs:cW c.Register.Docs signed=true):0<=ad c.Register.Docs (λdE=>bY dE c)/\ad c.Register.Docs (λdE=>bY dE c)<(signed.length:Int):=by
 rw[ON hs]
 exact QA h.doc (by simp[bY])
end
theorem Gb:∀(xs out:List Int),out.Pairwise (·<·)->(∀a∈out,∀y∈xs,a<=y)->xs.Pairwise (·<=·) ->
  (xs.foldl compStep out).Pairwise (·<·)/\∀z,z∈xs.foldl compStep out↔z∈out\/z∈xs
 |[],out,h1,_,_=>⟨h1,λz=>by simp⟩
 |x::xs,out,h1,h2,h3=>by
  rw[List.pairwise_cons]at h3
  simp only[List.foldl_cons]
  by_cases hx:out.getLast? = some x
  .have e:compStep out x=out:=by simp[compStep,hx]
   rw[e]
   obtain⟨a,b⟩:=Gb xs out h1 (λa ha y hy=>h2 a ha y (kA _ hy)) h3.2
   refine⟨a,λz=>?_⟩
   rw[b]
   constructor
   .rintro(h|h)
    .exact .inl h
    .exact .inr (kA _ h)
   .rintro(h|h)
    .exact .inl h
    .rcases jB.1 h with rfl|h
     .exact .inl (List.mem_of_getLast? hx)
     .exact .inr h
  .have e:compStep out x=out++[x]:=by simp[compStep,hx]
   rw[e]
   have hlt:∀a∈out,a<x:=by
    intro a ha
    have hle:=h2 a ha x (zB ..)
    rcases Int.lt_or_eq_of_le hle with h|h
    .exact h
    .exfalso
     subst h
     obtain⟨pre,post,hp⟩:=List.append_of_mem ha
     cases post with
     |nil=>exact hx (by rw[hp];simp)
     |cons p post=>
      rw[hp,List.pairwise_append]at h1
      have h4:=(List.pairwise_cons.1 h1.2.1).1 p (zB ..)
      have h5:=h2 p (by rw[hp];simp) a (zB ..)
      omega
   obtain⟨a,b⟩:=Gb xs (out++[x]) (by
     rw[List.pairwise_append]
     exact⟨h1,List.pairwise_singleton _ _,λa ha y hy=>by rw[qC.1 hy];exact hlt a ha⟩) (λa ha y hy=>by
     rcases jE.1 ha with ha|ha
     .exact h2 a ha y (kA _ hy)
     .rw[qC.1 ha];exact h3.1 y hy) h3.2
   refine⟨a,λz=>?_⟩
   rw[b]
   simp only[jE,jB,vA,or_false]
   constructor
   .rintro((h|h)|h)
    .exact .inl h
    .exact .inr (.inl h)
    .exact .inr (.inr h)
   .rintro(h|h|h)
    .exact .inl (.inl h)
    .exact .inl (.inr h)
    .exact .inr h
def setI(xs:List Int):List Int:=compI (sortI xs)
theorem Ms(xs:List Int):(setI xs).Pairwise (·<·)/\∀z,z∈setI xs↔z∈xs:=by
 obtain⟨a,b⟩:=Gb (sortI xs) [] List.Pairwise.nil (λ_ h=>(vA h).elim) (na xs)
 refine⟨a,λz=>(b z).trans ?_⟩
 rw[(my xs).mem_iff]
 simp
theorem Np{a xs:List Int}(h:a.Pairwise (·<·))(hm:∀z,z∈a↔z∈xs):a=setI xs:=
 Nu h (Ms xs).1 λz=>(hm z).trans ((Ms xs).2 z).symm
theorem Pe{l:List Document}{f:Document->Bool}(h:0<=ad l f):∃a y b,l=a++y::b/\nthI l (ad l f)=y/\f y=true/\∀x∈a,f x=false:=by
 unfold ad at h ⊢
 rcases Fx f l 0 with⟨h1,_⟩|⟨a,y,b,h1,h2,h3,h4⟩
 .omega
 .refine⟨a,y,b,h1,?_,h3,h4⟩
  rw[h2,Nat.zero_add]
  exact lG (by rw[h1];simp)
theorem Ea{r:Register}{t:Int}{c:bK}(hc:dC r=0)(h:ma r doc t known=.ok c):
  c=⟨r,c.doc,t,known⟩/\i5 c/\c.doc.No=doc/\∃a b,r.Docs=a++c.doc::b/\∀x∈a,x.No≠doc:=by
 unfold ma at h
 rw[Bool.cond_eq_ite]at h
 split at h
 .cases h
 .next hn=>
  simp only[kC,not_or,decide_eq_true_eq]at hn
  obtain⟨⟨h1,h2⟩,h3⟩:=hn
  cases h
  obtain⟨a,y,b,e1,e2,e3,e4⟩:=Pe (by omega:0<=ad r.Docs (λdE=>bu dE doc))
  rw[e2]
  refine⟨rfl,⟨hc,by rw[e1];simp,?_,?_⟩,?_,a,b,e1,λx hx=>?_⟩
  .show 0<=t/\t<1099511627776;omega
  .show 0<=known/\known<1099511627776;omega
  .simpa[bu]using e3
  .simpa[bu]using e4 x hx
theorem Kq(f:Version->Bool):∀(l:List Version)(i:Nat),(bj.L1 f bj.K1 l i=-1/\∀x∈l,f x=false) \/
  ∃a y b,l=a++y::b/\bj.L1 f bj.K1 l i=((i+a.length:Nat):Int)/\f y=true/\∀x∈a,f x=false
 |[],i=>.inl ⟨rfl,λ_ h=>(vA h).elim⟩
 |y::l,i=>by
  simp only[bj.L1]
  cases hy:f y with
  |true=>exact .inr ⟨[],y,l,rfl,by simp,hy,λ_ h=>(vA h).elim⟩
  |false=>
   rcases Kq f l (i+1)with⟨h1,h2⟩|⟨a,z,b,rfl,h2,h3,h4⟩
   .exact .inl ⟨h1,λx hx=>by rcases jB.1 hx with rfl|hx;exact hy;exact h2 x hx⟩
   .refine .inr ⟨y::a,z,b,rfl,?_,h3,λx hx=>by rcases jB.1 hx with rfl|hx;exact hy;exact h4 x hx⟩
    rw[cond_false,h2];simp only[xA];congr 1;omega
theorem vU(c:bK)(no:Int):(fx c no=.error 1/\∀v∈c.Register.Versions,v.No≠no)\/∃a v b,c.Register.Versions=a++v::b/\fx c no=.ok v.Policy/\v.No=no/\∀x∈a,x.No≠no:=by
 unfold fx bj
 rcases Kq (λdE=>eK dE no) c.Register.Versions 0 with⟨h1,h2⟩|⟨a,v,b,h1,h2,h3,h4⟩
 .left
  rw[h1]
  exact⟨rfl,λv hv=>by simpa[eK]using h2 v hv⟩
 .right
  refine⟨a,v,b,h1,?_,by simpa[eK]using h3,λx hx=>by simpa[eK]using h4 x hx⟩
  rw[h2,show decide (((0+a.length:Nat):Int)<0)=false from decide_eq_false (by omega),cond_false,Nat.zero_add,lG (x:=v) (by rw[h1];simp)]
theorem Nz{c:bK}{no:Int}{p:Policy}(h:fx c no=.ok p):∃v∈c.Register.Versions,v.No=no/\v.Policy=p:=by
 rcases vU c no with⟨h1,_⟩|⟨a,v,b,h1,h2,h3,_⟩
 .rw[h]at h1;cases h1
 .rw[h]at h2;cases h2
  exact⟨v,by rw[h1];simp,h3,rfl⟩
theorem Iq{c:bK}{no:Int}(h:∃v∈c.Register.Versions,v.No=no):exOk (fx c no):=by
 obtain⟨v,hv,hn⟩:=h
 rcases vU c no with⟨_,h2⟩|⟨_,_,_,_,h2,_⟩
 .exact absurd hn (h2 v hv)
 .rw[h2];trivial
structure M7(p:Policy):Prop where
 sm:smP p
 off:p.Offices.length<=32
 rules:p.Rules.length=p.Kinds.length/\∀y∈p.Rules,0<=y.Think/\y.Think<=1099511627775
theorem sB{c:bK}(h:i5 c)(hs:smR c.Register){no:Int}{p:Policy}(hp:fx c no=.ok p):M7 p:=by
 obtain⟨v,hv,_,rfl⟩:=Nz hp
 have hg:=(h.vers.each v hv).2.2.2
 exact⟨hs.1.2 v hv,(yW hg).2.1,(yW hg).1,(Ge hg).2.2⟩
theorem N1(l:List Approval)(doc bI known:Int):(eZ l doc bI known).length<=l.length:=by
 show(bB.L1 doc bI known bB.K1 l).length<=l.length
 induction l with
 |nil=>exact vG _
 |cons y l ih=>simp only[bB.L1,Bool.cond_eq_ite];split<;>simp only[xA]<;>omega
theorem NX(l:List Approval)(doc bI known:Int):(aD l doc bI known).length<=l.length:=by
 have h2:∀(g:List (eG×Approval))(s acc:List Approval),(aD.L2 g aD.K2 s acc).length<=acc.length+s.length:=by
  intro g s
  induction s with
  |nil=>intro acc;exact vG _
  |cons y s ih=>
   intro acc
   simp only[aD.L2,Bool.cond_eq_ite]
   split
   .have:=ih (acc++[y]);simp only[xB,xA,jC]at *;omega
   .have:=ih acc;simp only[xA];omega
 have h1:∀(s:List Approval)(g:List (eG×Approval)),(aD.L1 (aD.K1 l doc bI known) s g).length<=l.length:=by
  intro s
  induction s with
  |nil=>
   intro g
   have h3:=h2 g (eZ l doc bI known) []
   have h4:=N1 l doc bI known
   show(aD.L2 g aD.K2 (eZ l doc bI known) []).length<=l.length
   simp only[jC]at h3;omega
  |cons y s ih=>intro g;simp only[aD.L1,Bool.cond_eq_ite];split<;>exact ih _
 exact h1 _ _
theorem BU(l:List Approval)(d b th t k:Int):(cj l d b th t k).1.length<=l.length:=by
 unfold cj
 simp only[Bool.cond_eq_ite]
 split
 .exact qM _
 .split
  .exact qM _
  .exact xS (List.length_filter_le _ _) (NX _ _ _ _)
def goodA(c:bK)(y:Approval):Bool:=(((gF c.Register.Appoints y.Office y.For c.at_ c.known).2.2.1&&(aC c.Register.Deputies y.For y.By y.Office c.doc.Kind c.doc.Value c.at_ c.known).2.1)&&(!(iA c y.For)))&&(!(iA c y.By))
theorem MM(c:bK):∀l:List Approval,cD.L1 c cD.K1 l=l.filter (goodA c)
 |[]=>rfl
 |y::l=>by
  simp only[cD.L1,List.filter_cons,MM c l,Bool.cond_eq_ite]
  rfl
theorem ID(c:bK)(p:Policy):il c p=bif decide ((p.Kinds.length:Int)<=c.doc.Kind)then[]else((cj c.Register.Approvals c.doc.No c.doc.At ((nthI p.Rules c.doc.Kind).Think) c.at_ c.known).1).filter (goodA c):=by
 show cD c p=_
 unfold cD
 rw[MM]
theorem Hv(c:bK)(p:Policy):dj c p=setI ((il c p).map (·.For)):=by
 have:∀(s:List Approval)(g:List Int),dj.L1 dj.K1 s g=setI (g++s.map (·.For)):=by
  intro s
  induction s with
  |nil=>intro g;simp[dj.L1,dj.K1,setI,slices_Compact_int]
  |cons y s ih=>intro g;simp only[dj.L1,ih,jJ,vD,vR,kF]
 have h:=this (il c p) []
 rw[kF]at h
 exact h
theorem KI:∀(xs out:List Int),(xs.foldl compStep out).length<=out.length+xs.length
 |[],out=>vG _
 |x::xs,out=>by
  simp only[List.foldl_cons,xA]
  have h1:=KI xs (compStep out x)
  have h2:(compStep out x).length<=out.length+1:=by unfold compStep;split<;>simp
  omega
theorem Pk{c:bK}(hs:smR c.Register)(p:Policy):(il c p).length<=2000000:=by
 rw[ID,Bool.cond_eq_ite]
 have h3:=hs.2.2.2.2.2.2
 split
 .exact qM _
 .exact xS (List.length_filter_le _ _) (xS (BU _ _ _ _ _ _) h3)
theorem Fd{c:bK}(hs:smR c.Register)(p:Policy):(dj c p).length<=2000000:=by
 rw[Hv]
 have h1:=KI (sortI ((il c p).map (·.For))) []
 rw[iV,List.length_map]at h1
 have h2:(il c p).length<=c.Register.Approvals.length:=by
  rw[ID,Bool.cond_eq_ite]
  split
  .exact qM _
  .exact xS (List.length_filter_le _ _) (BU _ _ _ _ _ _)
 have h3:=hs.2.2.2.2.2.2
 show(compI _).length<=_
 unfold compI
 simp only[jC]at h1
 omega
theorem Mx(u:List Use)(v t k:Int):∀s:List Budget,(bX.L1 u v t k bX.K1 s).2.2=0
 |[]=>rfl
 |y::s=>by
  simp only[bX.L1]
  have:∀(l:List Int)(a b:Int),(bX.L3 (λzg3_b6_0 zg3_b5_0=>(bif(decide (y.Count<zg3_b5_0)||decide (y.Value<zg3_b6_0))then(y.No,false,0)else(bX.L1 u v t k bX.K1 s))) l a b).2.2=0:=by
   intro l
   induction l with
   |nil=>intro a b;simp only[bX.L3,Bool.cond_eq_ite];split;rfl;exact Mx u v t k s
   |cons z l ih=>intro a b;simp only[bX.L3];exact ih _ _
  exact this _ _ _
theorem DG{a z:Int}:aQ a b [z]=true↔a<=z/\z<=b:=by
 simp only[aQ,containsF,iN,List.any_cons,List.any_nil,Bool.or_false,kD,Bool.or_eq_false_iff,decide_eq_false_iff_not];omega
theorem KS{a y z:Int}:aQ a b [y,z]=true↔(a<=y/\y<=b)/\(a<=z/\z<=b):=by
 simp only[aQ,containsF,iN,List.any_cons,List.any_nil,Bool.or_false,kD,Bool.or_eq_false_iff,decide_eq_false_iff_not];omega
theorem O0{l:List Budget}{u:List Use}(h:(bX l u 0 0 0 0).2.2=0){k v t n:Int}(hk:0<=k/\k<16)(hv:0<=v/\v<=1099511627776)(ht:0<=t/\t<1099511627776)(hn:0<=n/\n<1099511627776):(bX l u k v t n).2.2=0:=by
 unfold bX at h ⊢
 cases h1:(cG l) != 0 with
 |true=>
  rw[h1,cond_true]at h
  have:cG l=0:=h
  rw[this]at h1;cases h1
 |false=>
  rw[h1,cond_false]at h
  rw[cond_false]
  cases h2:decide (4096<(u.length:Int))with
  |true=>rw[h2,cond_true]at h;cases h
  |false=>
   rw[h2,cond_false]at h
   rw[cond_false]
   cases h3:kb u with
   |false=>rw[h3]at h;cases h
   |true=>
    rw[DG.2 (show(0:Int)<=k/\k<=15 by omega),DG.2 hv,KS.2 (show((0:Int)<=t/\t<=1099511627775)/\(0<=n/\n<=1099511627775) by omega)]
    exact Mx _ _ _ _ _
theorem IB{l:List Document}{t:Int}(h:(cg l signed t).2=0):cW l signed=true:=by
 unfold cg at h
 cases h1:(aT l) != 0 with
 |true=>
  rw[h1,cond_true]at h
  have:aT l=0:=h
  rw[this]at h1;cases h1
 |false=>
  rw[h1,cond_false]at h
  cases h2:cW l signed with
  |true=>rfl
  |false=>rw[h2]at h;cases h
theorem NU{c:bK}(h:gU c signed=false):c.doc.At<=c.at_:=by
 unfold gU at h
 simp only[Bool.or_eq_false_iff,decide_eq_false_iff_not]at h
 have:=h.1.1.1
 omega
theorem Nm:smP cy:=by
 refine⟨by decide,λr hr=>?_,by decide,by decide,by decide⟩
 rw[qC.1 hr];decide
theorem ky{a:List Appoint}{i:List Interest}{b:List Budget}(ha:a.length<=9)(hi:i.length<=9)(hb:b.length<=9):smR ⟨a,aN.Deputies,i,b,aN.Versions,aN.Docs,aN.Approvals⟩:=by
 have h1:aN.Versions.length<=2000000:=by decide
 have h2:aN.Deputies.length<=2000000:=by decide
 have h3:aN.Docs.length<=2000000:=by decide
 have h4:aN.Approvals.length<=2000000:=by decide
 refine⟨⟨h1,λv hv=>?_⟩,by show a.length<=_;omega,h2,by show i.length<=_;omega,by show b.length<=_;omega,h3,h4⟩
 rw[qC.1 hv];exact Nm
theorem F8(no:Int):∀(l:List Document)(i:Nat),dp.L1 no dp.K1 l i=ad.L1 (λdE=>bu dE no) ad.K1 l i
 |[],i=>rfl
 |y::l,i=>by
  simp only[dp.L1,ad.L1,bu,Bool.cond_eq_ite]
  split
  .rfl
  .exact F8 no l (i+1)
theorem ME{r:Register}{t:Int}(hd:0<=dp r doc)(ht:0<=t/\t<1099511627776)(hk:0<=known/\known<1099511627776):ma r doc t known=.ok ⟨r,nthI r.Docs (dp r doc),t,known⟩:=by
 have e:ad r.Docs (λdE=>bu dE doc)=dp r doc:=(F8 doc r.Docs 0).symm
 unfold ma
 rw[e]
 have h1:decide (dp r doc<0)=false:=decide_eq_false (by omega)
 have h2:decide (min t known<0)=false:=decide_eq_false (by omega)
 have h3:decide (1099511627776<=max t known)=false:=decide_eq_false (by omega)
 rw[h1,h2,h3];rfl
structure Sn(r:Register)(doc version t known:Int):Prop where
 pol:(mr r version).2=true
 chk:kj r=0
 doc:0<=dp r doc
 time:0<=t/\t<1099511627776
 know:0<=known/\known<1099511627776
theorem deputiesP(l:List Deputy)(g:Int):dk.L1 dk.K1 l g=prgChk mZ (·.No) 160 l g:=by
 induction l generalizing g with
 |nil=>rfl
 |cons y l ih=>simp only[dk.L1,prgChk,ih]
theorem Jw(b:List Int):∀(l pre:List Int),b=pre++l->gp.L1 b true l pre.length=true
 |[],_,_=>rfl
 |y::l,pre,h=>by
  have hy:nthI b (pre.length:Int)=y:=lG (by rw[h];simp)
  have ih:=Jw b l (pre++[y]) (by rw[h];simp)
  rw[xB,xA,jC,Nat.zero_add]at ih
  have e:(y != y)=false:=by simp
  simp only[gp.L1,hy,e,cond_false]
  exact ih
theorem Lg(s:List Int):gp s s=true:=by
 unfold gp
 have e:((s.length:Int) != (s.length:Int))=false:=by simp
 rw[e]
 exact Jw s s [] rfl
structure Sk(r:Register)(doc t known:Int):Prop where
 jdg:Jdg r.Versions (bz r.Versions ((nthI r.Docs (dp r doc)).At) t known)
 len:(bz r.Versions ((nthI r.Docs (dp r doc)).At) t known).1.length<=256
 pol:∀y,(mr r y).2=true->M7 (mr r y).1
section
variable {α κ : Type} [DecidableEq κ] (key:α->κ) (at_ no:α->Int) (z0:α)
def gMap:List α->List (κ×α)->List (κ×α)
 |[],m=>m
 |y::l,m=>gMap l (bif(!(mhas m (key y)))||decide (at_ (mgetD m (key y) z0)<=at_ y)then mput m (key y) y else m)
def gOver(z w:α):Prop:=at_ z<at_ w\/(at_ w=at_ z/\no z<no w)
structure P4(pre:List α)(m:List (κ×α)):Prop where
 some:∀k z,mget? m k=some z->z∈pre/\key z=k/\∀w∈pre,key w=k->¬gOver at_ no z w
 none:∀k,mget? m k=none->∀w∈pre,key w≠k
theorem Ks:∀(l pre:List α)(m:List (κ×α)),(pre++l).Pairwise (λa b=>no a<no b)->P4 key at_ no pre m->P4 key at_ no (pre++l) (gMap key at_ z0 l m)
 |[],pre,m,_,h=>by rw[List.append_nil];exact h
 |y::l,pre,m,hp,h=>by
  have hno:∀w∈pre,no w<no y:=λw hw=>(List.pairwise_append.1 hp).2.2 w hw y (zB ..)
  have hp2:((pre++[y])++l).Pairwise (λa b=>no a<no b):=by rw[vD];exact hp
  have go:∀m',P4 key at_ no (pre++[y]) m'->P4 key at_ no (pre++y::l) (gMap key at_ z0 l m'):=λm' h'=>by
   have:=Ks l (pre++[y]) m' hp2 h'
   rwa [vD]at this
  simp only[gMap,Bool.cond_eq_ite]
  split
  .next hn=>
   refine go _ ⟨λk z hz=>?_,λk hz w hw hk=>?_⟩
   .rw[lA]at hz
    split at hz
    .next hk=>
     cases hz
     refine⟨by simp,hk.symm,λw hw hkw=>?_⟩
     rcases jE.1 hw with hw|hw
     .have hb:=hno w hw
      cases hm:mget? m (key y)with
      |none=>exact(h.none _ hm w hw (by rw[hkw,hk])).elim
      |some z1=>
       have a4:=(h.some _ _ hm).2.2 w hw (by rw[hkw,hk])
       have:at_ z1<=at_ y:=by
        simp only[mhas,mgetD,hm]at hn
        simpa using hn
       unfold gOver at a4 ⊢;omega
     .rw[qC.1 hw];unfold gOver;omega
    .next hk=>
     obtain⟨a1,a2,a4⟩:=h.some k z hz
     refine⟨kP _ a1,a2,λw hw hkw=>?_⟩
     rcases jE.1 hw with hw|hw
     .exact a4 w hw hkw
     .rw[qC.1 hw]at hkw;exact(hk hkw.symm).elim
   .rw[lA]at hz
    split at hz
    .cases hz
    .next hk2=>
     rcases jE.1 hw with hw|hw
     .exact h.none k hz w hw hk
     .rw[qC.1 hw]at hk;exact(hk2 hk.symm).elim
  .next hn=>
   refine go m ⟨λk z hz=>?_,λk hz w hw hk=>?_⟩
   .obtain⟨a1,a2,a4⟩:=h.some k z hz
    refine⟨kP _ a1,a2,λw hw hkw=>?_⟩
    rcases jE.1 hw with hw|hw
    .exact a4 w hw hkw
    .rw[qC.1 hw]at hkw ⊢
     subst hkw
     have:¬at_ z<=at_ y:=by
      simp only[mhas,mgetD,hz]at hn
      simpa using hn
     unfold gOver;omega
   .rcases jE.1 hw with hw|hw
    .exact h.none k hz w hw hk
    .rw[qC.1 hw]at hk
     subst hk
     simp only[mhas,mgetD,hz]at hn
     simp at hn
theorem Kt{L:List α}(hp:L.Pairwise (λa b=>no a<no b)){y:α}(hy:y∈L):mgetD (gMap key at_ z0 L []) (key y) z0=y↔∀w∈L,key w=key y->¬gOver at_ no y w:=by
 have hv:P4 key at_ no L (gMap key at_ z0 L []):=by
  have:=Ks key at_ no z0 L [] [] hp ⟨λk z h=>(by simp[mget?]at h),λk h w hw=>(vA hw).elim⟩
  exact this
 cases hm:mget? (gMap key at_ z0 L []) (key y)with
 |none=>exact(hv.none _ hm y hy rfl).elim
 |some z=>
  obtain⟨a1,a2,a4⟩:=hv.some _ _ hm
  simp only[mgetD,hm,Option.getD]
  constructor
  .rintro rfl;exact a4
  .intro b2
   have c1:=a4 y hy rfl
   have c2:=b2 z a1 a2
   have:no z=no y:=by unfold gOver at c1 c2;omega
   exact Lu (f:=no) hp a1 hy this
end
def cntA(doc t known:Int)(y:Approval):Bool:=((y.Doc==doc)&&decide (y.At<=t))&&decide (y.Known<=known)
theorem Cc(doc t known:Int):∀l:List Approval,bB.L1 doc t known bB.K1 l=l.filter (cntA doc t known)
 |[]=>rfl
 |y::l=>by
  simp only[bB.L1,Cc doc t known l,List.filter_cons]
  show(bif cntA doc t known y then _ else _)=(if cntA doc t known y=true then _ else _)
  cases cntA doc t known y<;>rfl
abbrev z0A:Approval:=Approval.mk 0 0 0 0 0 0 0 false
theorem P1(k:List (eG×Approval)->List Approval):∀(l:List Approval)(m:List (eG×Approval)),aD.L1 k l m=k (gMap aZ (·.At) z0A l m)
 |[],m=>rfl
 |y::l,m=>by
  simp only[aD.L1,P1 k l,gMap]
  cases(!(mhas m (aZ y)))||decide ((mgetD m (aZ y) z0A).At<=y.At)<;>rfl
theorem P0(v:List (eG×Approval)):∀(l g:List Approval),aD.L2 v aD.K2 l g=g++l.filter λy=>(!y.Gone)&&decide ((mgetD v (aZ y) z0A)=y)
 |[],g=>by simp[aD.L2,aD.K2]
 |y::l,g=>by
  simp only[aD.L2,P0 v l,List.filter_cons]
  cases(!y.Gone)&&decide ((mgetD v (aZ y) z0A)=y)<;>simp
theorem AY{x:Approval}{t known:Int}:∀l:List Approval,fK.L1 x t known fK.K1 l=true↔∀w∈l,iw w t known=true->lU w x=true->¬lq w x=true
 |[]=>by simp[fK.L1,fK.K1]
 |y::l=>by
  simp only[fK.L1,Bool.cond_eq_ite,List.forall_mem_cons,jA]
  split
  .next hc=>exact⟨λh=>(by cases h),λh=>(h.1 hc.1.1 hc.1.2 hc.2).elim⟩
  .next hc=>rw[AY l];exact⟨λh=>⟨λa b c=>hc ⟨⟨a,b⟩,c⟩,h⟩,λh=>h.2⟩
theorem about28(w y:Approval):lU w y=true↔aZ w=aZ y:=by
 simp only[lU,aZ,jA,beq_iff_eq,eG.mk.injEq,and_assoc]
theorem after28(w y:Approval):lq w y=true↔gOver (λx:Approval=>x.At) (λx=>x.No) y w:=by
 simp only[lq,gOver,kC,jA,beq_iff_eq,decide_eq_true_eq]
theorem uw(l:List Approval)(doc t known:Int):∀s g:List Approval,dz.L1 l doc t known dz.K1 s g=(g++s.filter λy=>(y.Doc==doc)&&fK l y t known,0)
 |[],g=>by simp[dz.L1,dz.K1]
 |y::s,g=>by
  simp only[dz.L1,uw l doc t known s,List.filter_cons]
  cases(y.Doc==doc)&&fK l y t known<;>simp
theorem astanding28{l:List Approval}(hp:l.Pairwise (λa b=>a.No<b.No))(doc t known:Int):aD l doc t known=l.filter λy=>(y.Doc==doc)&&fK l y t known:=by
 unfold aD
 rw[P1]
 unfold aD.K1
 rw[P0,kF]
 have hc:eZ l doc t known=l.filter (cntA doc t known):=Cc doc t known l
 rw[hc,List.filter_filter]
 apply TK
 intro y hy
 rw[jK]
 cases hcy:cntA doc t known y with
 |false=>
  rw[Bool.and_false]
  constructor
  .intro h;cases h
  .intro h
   simp only[jA,fK,Bool.cond_eq_ite]at h
   obtain⟨h1,h2⟩:=h
   split at h2
   .cases h2
   .next hq=>
    simp only[kC,not_or,Bool.not_eq_true,Bool.not_eq_false',iw,jA]at hq
    simp[cntA,h1,hq.2.1,hq.2.2]at hcy
 |true=>
  have hcy':=hcy
  simp only[cntA,jA,beq_iff_eq,decide_eq_true_eq]at hcy'
  rw[Bool.and_true,jA,decide_eq_true_eq]
  have hm:y∈l.filter (cntA doc t known):=S9.2 ⟨hy,hcy⟩
  rw[Kt aZ (λx:Approval=>x.At) (λx=>x.No) z0A (hp.sublist List.filter_sublist) hm]
  have hcn:iw y t known=true:=by simp[iw,hcy'.1.2,hcy'.2]
  unfold fK
  rw[hcn,hcy'.1.1]
  cases hg:y.Gone with
  |true=>simp
  |false=>
   simp only[Bool.not_false,true_and,beq_self_eq_true,Bool.not_true,Bool.or_self,cond_false,Bool.true_and,AY]
   constructor
   .intro h w hw h1 h2 h3
    have h4:=(about28 w y).1 h2
    refine h w (S9.2 ⟨hw,?_⟩) h4 ((after28 w y).1 h3)
    have h5:w.Doc=y.Doc:=congrArg eG.doc h4
    simp only[iw,jA,decide_eq_true_eq]at h1
    simp[cntA,h5,hcy'.1.1,h1.1,h1.2]
   .intro h w hw h4 h5
    obtain⟨h6,h7⟩:=S9.1 hw
    simp only[cntA,jA,beq_iff_eq,decide_eq_true_eq]at h7
    exact h w h6 (by simp[iw,h7.1.2,h7.2]) ((about28 w y).2 h4) ((after28 w y).2 h5)
theorem uK(b th t:Int):∀s g:List Approval,dF.L1 b th t dF.K1 s g=(g++s.filter λy=>decide (b<=y.At)&&decide ((y.At+th)<=t),0)
 |[],g=>by simp[dF.L1,dF.K1]
 |y::s,g=>by
  simp only[dF.L1,uK b th t s,List.filter_cons]
  cases decide (b<=y.At)&&decide ((y.At+th)<=t)<;>simp
theorem LY{l:List Approval}(h:bJ l=0)(h':ff l=0){th t:Int}(hd:0<=doc/\doc<4096)(hb:0<=b/\b<1099511627776)(hth:0<=th/\th<1099511627776)(ht:0<=t/\t<1099511627776)(hk:0<=known/\known<1099511627776):
  (cj l doc b th t known).1=(dF l doc b th t known).1:=by
 have hp:l.Pairwise (λa b=>a.No<b.No):=by
  unfold bJ at h
  simp only[Bool.cond_eq_ite]at h
  split at h
  .cases h
  .rw[approvalsP]at h;exact((sG (by decide) _ _).1 h).2
 have hr:=oZ h
 have hst:(dz l doc t known).1=aD l doc t known:=by
  unfold dz
  rw[h',uw,astanding28 hp]
  simp only[bne_self_eq_false,cond_false,ny,fM,fT]
  rw[show(decide (0<=doc)&&decide (doc<=4095))=true from by simp;omega,show(decide (0<=t)&&decide (t<=1099511627775))=true from by simp;omega,show(decide (0<=known)&&decide (known<=1099511627775))=true from by simp;omega]
  simp
 unfold cj dF
 rw[h,h',hst,uK]
 have e1:cJ 4095 [doc]=true:=by
  unfold cJ
  rw[containsF]
  simp only[List.any_cons,List.any_nil,gv,Bool.or_false,kD,Bool.or_eq_false_iff,decide_eq_false_iff_not]
  omega
 have e2:cJ 1099511627775 [b,th,t,known]=true:=by
  unfold cJ
  rw[containsF]
  simp only[List.any_cons,List.any_nil,gv,Bool.or_false,kD,Bool.or_eq_false_iff,decide_eq_false_iff_not]
  omega
 rw[e1,e2]
 simp only[bne_self_eq_false,Bool.not_true,Bool.or_self,cond_false,kF,ny,fM,fT]
 rw[show(decide (0<=doc)&&decide (doc<=4095))=true from by simp;omega,show(decide (0<=t)&&decide (t<=1099511627775))=true from by simp;omega,show(decide (0<=known)&&decide (known<=1099511627775))=true from by simp;omega,
  show(decide (0<=b)&&decide (b<=1099511627775))=true from by simp;omega,show(decide (0<=th)&&decide (th<=1099511627775))=true from by simp;omega]
 simp only[Bool.not_true,Bool.or_self,cond_false]
 unfold fu
 apply TK
 intro y hy
 have hy':=Ae hy
 have hya:=(yE (hr y hy')).2.2.2.2
 have hw:qE .i64 (t-y.At)=t-y.At:=by
  have:=j0 (z:=t-y.At) (by omega)
  injection this
 show(!(decide (y.At<b)||decide (qE .i64 (t-y.At)<th)))=_
 rw[hw,jK]
 simp only[kD,Bool.or_eq_false_iff,decide_eq_false_iff_not,jA,decide_eq_true_eq]
 omega
theorem QR{l:List Appoint}(hc:df l=0){o p t:Int}(ho:0<=o/\o<32)(hp:0<=p/\p<64)(ht:0<=t/\t<1099511627776)(hk:0<=known/\known<1099511627776):jO l o p t known=gF l o p t known:=by
 have h1:∀x:Int,0<=x/\x<1099511627776->di x=true:=λx hx=>by simp only[di,dI,jA,decide_eq_true_eq];omega
 have h2:eN o=true:=by simp only[eN,dI,jA,decide_eq_true_eq];omega
 have h3:fE p=true:=by simp only[fE,dI,jA,decide_eq_true_eq];omega
 have r1:∀x:Int,0<=x/\x<1099511627776->kU x=true:=λx hx=>by simp only[kU,jA,decide_eq_true_eq];omega
 have r2:mq o=true:=by simp only[mq,jA,decide_eq_true_eq];omega
 have r3:lP p=true:=by simp only[lP,jA,decide_eq_true_eq];omega
 unfold jO gF
 rw[←yc,hc,h1 t ht,h1 known hk,h2,h3,r1 t ht,r1 known hk,r2,r3]
 simp only[bne_self_eq_false,cond_false,Bool.not_true,Bool.or_self]
 have hg:mget? (dx l t known) ⟨o,p⟩=l.foldl (lastA t known ⟨o,p⟩) none:=Kj t known ⟨o,p⟩ l []
 have hl:=last15 (L:=l) o p t known l [] (-1) none rfl (.inl ⟨by omega,rfl⟩)
 unfold dG
 rcases hl with⟨a,b⟩|⟨a,b⟩
 .rw[b]at hg
  simp only[jC]at a
  have e:decide (dG.L1 l o p t known dG.K1 l 0 (-1)<0)=true:=decide_eq_true a
  simp only[e,mhas,mgetD,hg,Option.isSome,Bool.not_false,Bool.true_or,cond_true]
 .rw[b]at hg
  simp only[jC]at a hg
  have e:decide (dG.L1 l o p t known dG.K1 l 0 (-1)<0)=false:=decide_eq_false (by omega)
  simp only[e,mhas,mgetD,hg,Option.isSome,Option.getD,Bool.not_true,Bool.false_or]
abbrev z0D:Deputy:=Deputy.mk 0 0 0 0 0 0 0 0 0 false
def dKey(y:Deputy):dL:=dL.mk y.From y.To y.Office y.Kind
theorem MZ(q:bR)(k:List (dL×Deputy)->List Deputy):∀(l:List Deputy)(m:List (dL×Deputy)),aF.L1 q k l m=k (gMap dKey (·.At) z0D (l.filter (du q)) m)
 |[],m=>rfl
 |y::l,m=>by
  simp only[aF.L1,MZ q k l,List.filter_cons]
  cases du q y with
  |false=>rfl
  |true=>
   simp only[Bool.true_and,if_true,gMap]
   show(bif(!(mhas m (dKey y)))||decide ((mgetD m (dKey y) z0D).At<=y.At)then _ else _)=_
   show _=k (gMap dKey (·.At) z0D (l.filter (du q)) (bif(!(mhas m (dKey y)))||decide ((mgetD m (dKey y) z0D).At<=y.At)then mput m (dKey y) y else m))
   cases(!(mhas m (dKey y)))||decide ((mgetD m (dKey y) z0D).At<=y.At)<;>rfl
theorem Dz(v:List (dL×Deputy))(f:Deputy->Bool)(q:bR):∀l:List Deputy,aB.L1 v f q aB.K1 l=l.filter λy=>(decide (mgetD v (dKey y) z0D=y)&&f y)&&er q y
 |[]=>rfl
 |y::l=>by
  simp only[aB.L1,Dz v f q l,List.filter_cons]
  show(bif(decide (mgetD v (dKey y) z0D=y)&&f y)&&er q y then _ else _)=_
  cases(decide (mgetD v (dKey y) z0D=y)&&f y)&&er q y<;>rfl
def dLater(t known:Int)(y z:Deputy):Bool:=((gL z t known)&&(kp y z))&&(decide (y.At<z.At)||((z.At==y.At)&&decide (y.No<z.No)))
theorem PO(t known:Int)(y:Deputy)(k:Bool->List Deputy):∀(s:List Deputy)(g:Bool),ck.L3 t known y k s g=k (g&&s.all λz=>!(dLater t known y z))
 |[],g=>by simp[ck.L3]
 |z::s,g=>by
  simp only[ck.L3,PO t known y k s,List.all_cons]
  show(bif g then(bif dLater t known y z then _ else _)else k g)=_
  cases g<;>cases dLater t known y z<;>simp
def dStands(l:List Deputy)(t known:Int)(y:Deputy):Bool:=(((gL y t known)&&(!y.Gone))&&decide (t<y.Until))&&l.all λz=>!(dLater t known y z)
theorem LN(l:List Deputy)(t known:Int):∀s g:List Deputy,ck.L1 l t known ck.K1 s g=g++s.filter (dStands l t known)
 |[],g=>by simp[ck.L1,ck.K1]
 |y::s,g=>by
  simp only[ck.L1,PO,LN l t known s,List.filter_cons]
  show(bif dStands l t known y then _ else _)=_
  cases dStands l t known y<;>simp
theorem HR(o k v:Int):∀s g:List Deputy,dQ.L1 o k v dQ.K1 s g=g++s.filter λy=>nm y o k v
 |[],g=>by simp[dQ.L1,dQ.K1]
 |y::s,g=>by
  simp only[dQ.L1,HR o k v s,List.filter_cons]
  cases nm y o k v<;>simp
theorem later16(t known:Int)(y z:Deputy):dLater t known y z=true↔(z.At<=t/\z.Known<=known)/\dKey z=dKey y/\gOver (λx:Deputy=>x.At) (λx=>x.No) y z:=by
 simp only[dLater,gL,kp,gOver,dKey,jA,kC,beq_iff_eq,decide_eq_true_eq,dL.mk.injEq]
 constructor
 .rintro⟨⟨h1,h2⟩,h3⟩;exact⟨h1,⟨h2.1.1.1.symm,h2.1.1.2.symm,h2.1.2.symm,h2.2.symm⟩,h3⟩
 .rintro⟨h1,⟨a,b,c,d⟩,h3⟩;exact⟨⟨h1,⟨⟨⟨a.symm,b.symm⟩,c.symm⟩,d.symm⟩⟩,h3⟩
theorem covering16{l:List Deputy}(hp:l.Pairwise (λa b=>a.No<b.No))(o k v t known:Int):aF (bR.mk o k v t known) l=dQ l o k v t known:=by
 unfold aF dQ ck
 rw[MZ,HR,LN,kF,kF,List.filter_filter]
 unfold aF.K1 aB
 rw[Dz]
 apply TK
 intro y hy
 rw[jK]
 have hcn:du (bR.mk o k v t known) y=gL y t known:=rfl
 have hcv:er (bR.mk o k v t known) y=(((!y.Gone)&&decide (t<y.Until))&&nm y o k v):=by
  simp only[er,nm,Bool.and_assoc]
 rw[hcn,hcv]
 cases hc:gL y t known with
 |false=>simp[dStands,hc]
 |true=>
  have hm:y∈l.filter (du (bR.mk o k v t known)):=S9.2 ⟨hy,hc⟩
  have hg:=Kt dKey (λx:Deputy=>x.At) (λx=>x.No) z0D (hp.sublist List.filter_sublist) hm
  simp only[Bool.and_true,jA,decide_eq_true_eq,dStands,hc,Bool.true_and,SF,kD]
  rw[hg]
  have e:(∀w∈l.filter (du (bR.mk o k v t known)),dKey w=dKey y->¬gOver (λx:Deputy=>x.At) (λx=>x.No) y w)↔∀z∈l,dLater t known y z=false:=by
   constructor
   .intro h z hz
    cases hl:dLater t known y z with
    |false=>rfl
    |true=>
     obtain⟨a,b,c⟩:=(later16 t known y z).1 hl
     exact(h z (S9.2 ⟨hz,by simp[du,a.1,a.2]⟩) b c).elim
   .intro h w hw h1 h2
    obtain⟨h3,h4⟩:=S9.1 hw
    simp only[du,jA,decide_eq_true_eq]at h4
    have:=(later16 t known y w).2 ⟨h4,h1,h2⟩
    rw[h w h3]at this
    cases this
  rw[e]
  constructor
  .rintro⟨h1,⟨h2,h3⟩,h4⟩;exact⟨h4,⟨h2,h3⟩,h1⟩
  .rintro⟨h4,⟨h2,h3⟩,h1⟩;exact⟨h1,⟨h2,h3⟩,h4⟩
theorem KK(l:List Deputy):cX l=l:=by
 have:∀(l g:List Deputy),bT.L1 bT.K1 l g=g++l:=by
  intro l
  induction l with
  |nil=>intro g;simp[bT.L1,bT.K1]
  |cons y l ih=>intro g;simp only[bT.L1,ih];simp
 exact(this l []).trans (kF _)
def walkN(E:List Deputy)(b:Int):Nat->Int->Prop
 |0,a=>a=b
 |n+1,a=>∃x∈E,x.From=a/\walkN E b n x.To
def farStep(i:Nat)(g:List (Int×Int))(y:Deputy):List (Int×Int):=bif((mhas g y.To)&&((mgetD g y.To 0)==(i:Int)))&&(!(mhas g y.From))then mput g y.From (((i+1):Nat):Int)else g
theorem HU(i:Nat)(k:List (Int×Int)->List Int×Bool×Int):∀(s:List Deputy)(g:List (Int×Int)),aC.L3 i k s g=k (s.foldl (farStep i) g)
 |[],g=>rfl
 |y::s,g=>by
  simp only[aC.L3,HU i k s,List.foldl_cons,farStep]
  cases((mhas g y.To)&&((mgetD g y.To 0)==(i:Int)))&&(!(mhas g y.From))<;>rfl
def farAll(E:List Deputy):List Nat->Nat->List (Int×Int)->List (Int×Int)
 |[],_,g=>g
 |_::s,i,g=>farAll E s (i+1) (E.foldl (farStep i) g)
theorem HV(l:List Deputy)(o kd v t n:Int)(k:List (Int×Int)->List Int×Bool×Int):∀(s:List Nat)(i:Nat)(g:List (Int×Int)),aC.L1 l o kd v t n k s i g=k (farAll (aF (bR.mk o kd v t n) l) s i g)
 |[],i,g=>rfl
 |y::s,i,g=>by
  simp only[aC.L1,HU,HV l o kd v t n k s,farAll,KK]
structure Far(E:List Deputy)(b:Int)(i:Nat)(g:List (Int×Int)):Prop where
 sound:∀p v,mget? g p=some v->∃m:Nat,v=(m:Int)/\m<=i/\walkN E b m p
 start:mget? g b=some 0
 closed:∀x∈E,∀m:Nat,mget? g x.To=some (m:Int)->m<i->∃m':Nat,mget? g x.From=some (m':Int)/\m'<=m+1
theorem Fk{p:Int}(h:mhas g p=true):∃v,mget? g p=some v:=by
 unfold mhas at h
 cases e:mget? g p with
 |none=>rw[e]at h;cases h
 |some v=>exact⟨v,rfl⟩
structure KX(E:List Deputy)(b:Int)(i:Nat)(g0:List (Int×Int))(done:List Deputy)(g:List (Int×Int)):Prop where
 keep:∀p v,mget? g0 p=some v->mget? g p=some v
 new:∀p v,mget? g p=some v->mget? g0 p=some v\/(v=((i+1:Nat):Int)/\walkN E b (i+1) p)
 met:∀x∈done,mget? g0 x.To=some (i:Int)->∃v,mget? g x.From=some v
theorem HO{E:List Deputy}{b:Int}{i:Nat}{g0:List (Int×Int)}(hw:∀p,mget? g0 p=some (i:Int)->walkN E b i p):∀(s done:List Deputy)(g:List (Int×Int)),(∀x∈s,x∈E)->KX E b i g0 done g->KX E b i g0 (done++s) (s.foldl (farStep i) g)
 |[],done,g,_,h=>by rw[List.append_nil];exact h
 |y::s,done,g,hs,h=>by
  have go:KX E b i g0 (done++[y]) (farStep i g y)->KX E b i g0 (done++y::s) ((y::s).foldl (farStep i) g):=λh'=>by
   have:=HO hw s (done++[y]) _ (λx hx=>hs x (kA _ hx)) h'
   rwa [vD]at this
  refine go ?_
  have hto:mget? g0 y.To=some (i:Int)↔mget? g y.To=some (i:Int):=by
   constructor
   .exact h.keep _ _
   .intro e
    rcases h.new _ _ e with e'|⟨e',_⟩
    .exact e'
    .have:(i:Int)=((i+1:Nat):Int):=e'
     omega
  unfold farStep
  cases hc:((mhas g y.To)&&((mgetD g y.To 0)==(i:Int)))&&(!(mhas g y.From))with
  |true=>
   simp only[jA,kD,beq_iff_eq]at hc
   obtain⟨⟨h1,h2⟩,h3⟩:=hc
   obtain⟨v,hv⟩:=Fk h1
   have hvi:v=(i:Int):=by simpa[mgetD,hv]using h2
   have hg0:=hto.2 (by rw[hv,hvi])
   have hnone:mget? g y.From=none:=by
    unfold mhas at h3
    cases e:mget? g y.From with
    |none=>rfl
    |some w=>rw[e]at h3;cases h3
   have hwk:walkN E b (i+1) y.From:=⟨y,hs y (zB ..),rfl,hw _ hg0⟩
   rw[cond_true]
   refine⟨λp w hp=>?_,λp w hp=>?_,λx hx hx0=>?_⟩
   .rw[lA]
    split
    .next e=>rw[e]at hp;have:=h.keep _ _ hp;rw[hnone]at this;cases this
    .exact h.keep _ _ hp
   .rw[lA]at hp
    split at hp
    .next e=>cases hp;rw[e];exact .inr ⟨rfl,hwk⟩
    .exact h.new _ _ hp
   .rw[lA]
    split
    .exact⟨_,rfl⟩
    .next e=>
     rcases jE.1 hx with hx|hx
     .exact h.met x hx hx0
     .rw[qC.1 hx]at e;exact(e rfl).elim
  |false=>
   rw[cond_false]
   refine⟨h.keep,h.new,λx hx hx0=>?_⟩
   rcases jE.1 hx with hx|hx
   .exact h.met x hx hx0
   .rw[qC.1 hx]at hx0 ⊢
    have h1:=hto.1 hx0
    have h2:mhas g y.From=true:=by
     cases e:mhas g y.From with
     |true=>rfl
     |false=>simp[mhas,mgetD,h1,e]at hc;unfold mhas at e;rw[hc]at e;cases e
    exact Fk h2
theorem NP(h:Far E b i g):Far E b (i+1) (E.foldl (farStep i) g):=by
 have hw:∀p,mget? g p=some (i:Int)->walkN E b i p:=λp hp=>by
  obtain⟨m,e,_,w⟩:=h.sound p _ hp
  have:i=m:=by omega
  subst this;exact w
 have f:KX E b i g E (E.foldl (farStep i) g):=by
  have:=HO hw E [] g (λ_ hx=>hx) ⟨λ_ _ e=>e,λ_ _ e=>.inl e,λx hx=>(vA hx).elim⟩
  exact this
 refine⟨λp v hp=>?_,f.keep _ _ h.start,λx hx m hm hlt=>?_⟩
 .rcases f.new _ _ hp with e|⟨e,w⟩
  .obtain⟨m,a,c,d⟩:=h.sound p v e;exact⟨m,a,by omega,d⟩
  .exact⟨i+1,e,vG _,w⟩
 .have hm0:mget? g x.To=some (m:Int):=by
   rcases f.new _ _ hm with e|⟨e,_⟩
   .exact e
   .have:(m:Int)=((i+1:Nat):Int):=e
    omega
  by_cases hi:m<i
  .obtain⟨m',a,c⟩:=h.closed x hx m hm0 hi
   exact⟨m',f.keep _ _ a,c⟩
  .have e:m=i:=by omega
   subst e
   obtain⟨v,hv⟩:=f.met x hx hm0
   rcases f.new _ _ hv with e|⟨e,_⟩
   .obtain⟨m',a,c,_⟩:=h.sound _ _ e
    exact⟨m',by rw[hv,a],by omega⟩
   .exact⟨m+1,by rw[hv,e],vG _⟩
theorem MW{E:List Deputy}{b:Int}:∀(s:List Nat)(i:Nat)(g:List (Int×Int)),Far E b i g->Far E b (i+s.length) (farAll E s i g)
 |[],i,g,h=>h
 |_::s,i,g,h=>by
  have:=MW s (i+1) _ (NP h)
  rw[xA,show i+(s.length+1)=i+1+s.length from by omega]
  exact this
theorem HN{E:List Deputy}{b:Int}{i:Nat}{g:List (Int×Int)}(h:Far E b i g):∀(n:Nat)(p:Int),n<=i->walkN E b n p->∃m:Nat,mget? g p=some (m:Int)/\m<=n
 |0,p,_,hp=>⟨0,by have:p=b:=hp;rw[this];exact h.start,vG _⟩
 |n+1,p,hn,hp=>by
  obtain⟨x,hx,e,w⟩:=hp
  obtain⟨m,hm,hl⟩:=HN h n x.To (by omega) w
  obtain⟨m',a,c⟩:=h.closed x hx m hm (by omega)
  exact⟨m',by rw[←e];exact a,by omega⟩
theorem LV{l:List Deputy}{a o k v t n:Int}:(aC.K1 l a o k v t n g).2.1=mhas g a:=by
 unfold aC.K1
 cases mhas g a with
 |false=>rfl
 |true=>
  simp only[Bool.not_true,cond_false]
  have:∀(s:List Nat)(i:Nat)(p:List Int)(q:Int),(aC.L4 l a o k v t n g aC.K4 s i p q).2.1=true:=by
   intro s
   induction s with
   |nil=>intro i p q;rfl
   |cons y s ih=>
    intro i p q
    simp only[aC.L4]
    have:∀(L:List Deputy)(p:List Int)(q:Int),(aC.L6 a g i (λzg6_16 zg6_31=>aC.L4 l a o k v t n g aC.K4 s (i+1) zg6_16 zg6_31) L p q).2.1=true:=by
     intro L
     induction L with
     |nil=>intro p q;exact ih _ _ _
     |cons z L ihL=>intro p q;simp only[aC.L6,Bool.cond_eq_ite];split;exact ih _ _ _;exact ihL _ _
    exact this _ _ _
  exact this _ _ _ _
theorem LU{l:List Deputy}{a o k v t n:Int}(h0:jt l a b (bR.mk o k v t n)=0):(aC l a b o k v t n).2.1=true↔∃m≤8,walkN (aF (bR.mk o k v t n) l) b m a:=by
 unfold aC
 rw[h0]
 simp only[bne_self_eq_false,cond_false]
 rw[HV,LV]
 have hF:=MW (E:=aF (bR.mk o k v t n) l) (b:=b) (zK 8) 0 (mput [] b 0)
  ⟨λp w hp=>by
   rw[lA]at hp
   split at hp
   .next e=>cases hp;exact⟨0,rfl,vG _,e⟩
   .exact absurd hp (by simp[mget?]),by rw[lA,if_pos rfl],λx hx m hm hlt=>(by omega)⟩
 rw[List.length_range,Nat.zero_add]at hF
 constructor
 .intro h
  obtain⟨w,hw⟩:=Fk h
  obtain⟨m,_,c,d⟩:=hF.sound _ _ hw
  exact⟨m,c,d⟩
 .rintro⟨m,hm,hw⟩
  obtain⟨m',e,_⟩:=HN hF m a hm hw
  simp[mhas,e]
def spath(E:List Deputy)(b:Int):Nat->List Int->Int->Prop
 |0,_,a=>a=b
 |n+1,seen,a=>∃x∈E,x.From=a/\x.To∉seen/\spath E b n (seen++[x.To]) x.To
theorem ED{E:List Deputy}{b:Int}:∀(n:Nat)(seen:List Int)(a:Int),spath E b n seen a->walkN E b n a
 |0,_,_,h=>h
 |n+1,seen,a,⟨x,hx,e,_,h⟩=>⟨x,hx,e,ED n _ _ h⟩
theorem Ei{E:List Deputy}{b:Int}:∀(n:Nat)(seen:List Int)(a:Int),walkN E b n a->(∀s∈seen,∀m<n,¬walkN E b m s)->(∀m<n,¬walkN E b m a)->spath E b n seen a
 |0,_,_,h,_,_=>h
 |n+1,seen,a,⟨x,hx,e,h⟩,hs,ha=>by
  have hx':∀m<n,¬walkN E b m x.To:=λm hm w=>ha (m+1) (by omega) ⟨x,hx,e,w⟩
  refine⟨x,hx,e,λhm=>hs _ hm n (by omega) h,Ei n _ _ h (λs hsm m hm=>?_) hx'⟩
  rcases jE.1 hsm with hsm|hsm
  .exact hs s hsm m (by omega)
  .rw[qC.1 hsm];exact hx' m hm
theorem Lw{a:Int}:∀n:Nat,walkN E b n a->∃m≤n,walkN E b m a/\∀q<m,¬walkN E b q a:=by
 intro n
 induction n using Un with
 |_ n ih=>
  intro h
  by_cases hq:∃q<n,walkN E b q a
  .obtain⟨q,hq,hw⟩:=hq
   obtain⟨m,h1,h2,h3⟩:=ih q hq hw
   exact⟨m,by omega,h2,h3⟩
  .exact⟨n,vG _,h,λq hq' hw=>hq ⟨q,hq',hw⟩⟩
theorem Nl{a:Int}{N:Nat}:(∃n≤N,spath E b n [a] a)↔∃n≤N,walkN E b n a:=by
 constructor
 .rintro⟨n,h,p⟩;exact⟨n,h,ED _ _ _ p⟩
 .rintro⟨n,h,w⟩
  obtain⟨m,h1,h2,h3⟩:=Lw n w
  exact⟨m,by omega,Ei m _ _ h2 (λs hs q hq=>by rw[qC.1 hs];exact h3 q hq) h3⟩
theorem has16(n:Int):∀l:List Int,kh l n=true↔n∈l:=by
 intro l
 unfold kh
 induction l with
 |nil=>simp[kh.L1,kh.K1]
 |cons y l ih=>
  simp only[kh.L1,Bool.cond_eq_ite,jB]
  split
  .next h=>simp[(by simpa using h:y=n)]
  .next h=>
   have:¬y=n:=by simpa using h
   rw[ih]
   exact⟨.inr,λh=>h.elim (λe=>(this e.symm).elim) id⟩
def lastI(p:List Int):Int:=nthI p ((p.length:Int)-1)
theorem HE(p:List Int)(x:Int):lastI (p++[x])=x:=by
 unfold lastI
 have:(((p++[x]).length:Int)-1)=(p.length:Int):=by simp
 rw[this]
 exact lG (by simp)
theorem MY{P:α->Prop}{s:List α}:(∃x∈y::s,P x)↔P y\/∃x∈s,P x:=by
 constructor
 .rintro⟨x,hx,h⟩
  rcases jB.1 hx with rfl|hx
  .exact .inl h
  .exact .inr ⟨x,hx,h⟩
 .rintro(h|⟨x,hx,h⟩)
  .exact⟨y,zB ..,h⟩
  .exact⟨x,kA _ hx,h⟩
theorem LZ(rec:List Deputy->List Int->Int->Int->List Int×Bool)(l:List Deputy)(p:List Int)(b many:Int):∀s:List Deputy,(cA.L1 rec l p b many cA.K1 s).2=true↔∃x∈s,x.From=lastI p/\x.To∉p/\(rec l (p++[x.To]) b (many-1)).2=true
 |[]=>by simp[cA.L1,cA.K1]
 |y::s=>by
  rw[MY]
  simp only[cA.L1,Bool.cond_eq_ite]
  have ih:=LZ rec l p b many s
  split
  .next h=>
   rw[ih]
   refine⟨.inr,λh'=>h'.elim (λh2=>?_) id⟩
   simp only[kC,bne_iff_ne,has16]at h
   exact(h.elim (λa=>a h2.1) (λa=>h2.2.1 a)).elim
  .next h=>
   simp only[kC,not_or,bne_iff_ne,ne_eq,Decidable.not_not,has16]at h
   split
   .next h2=>exact⟨λ_=>.inl ⟨h.1,h.2,h2⟩,λ_=>rfl⟩
   .next h2=>
    rw[ih]
    exact⟨.inr,λh'=>h'.elim (λh3=>(h2 h3.2.2).elim) id⟩
theorem H7(l:List Deputy)(b:Int):∀(n:Nat)(p:List Int),(cA.go (n+1) l p b (n:Int)).2=true↔spath l b n p (lastI p)
 |0,p=>by
  show(cA.F (cA.go 0) l p b 0).2=true↔lastI p=b
  simp[cA.F,lastI]
 |n+1,p=>by
  show(cA.F (cA.go (n+1)) l p b ((n+1:Nat):Int)).2=true↔_
  unfold cA.F
  rw[show(((n+1:Nat):Int)==0)=false from by rw[beq_eq_false_iff_ne];omega,cond_false,LZ]
  rw[show((n+1:Nat):Int)-1=(n:Int)from by omega]
  constructor
  .rintro⟨x,hx,h1,h2,h3⟩
   have:=(H7 l b n (p++[x.To])).1 h3
   rw[HE]at this
   exact⟨x,hx,h1,h2,this⟩
  .rintro⟨x,hx,h1,h2,h3⟩
   refine⟨x,hx,h1,h2,(H7 l b n (p++[x.To])).2 ?_⟩
   rw[HE];exact h3
theorem walk16(l:List Deputy)(b:Int)(n:Nat)(a:Int):(cA l [a] b (n:Int)).2=true↔spath l b n [a] a:=by
 unfold cA
 rw[show((n:Int)).toNat=n from by omega]
 exact H7 l b n [a]
theorem Gg(l:List Deputy)(a b o k v t n:Int):∀(s:List Nat)(i:Nat),(eV.L1 l a b o k v t n eV.K1 s i).2.1=true↔∃j:Nat,i<=j/\j<i+s.length/\(cA (dQ l o k v t n) [a] b (j:Int)).2=true
 |[],i=>by
  simp only[eV.L1,eV.K1,jC]
  exact⟨λh=>(by cases h),λ⟨j,h1,h2,_⟩=>by omega⟩
 |y::s,i=>by
  simp only[eV.L1,Bool.cond_eq_ite,xA]
  split
  .next h=>exact⟨λ_=>⟨i,vG _,by omega,h⟩,λ_=>rfl⟩
  .next h=>
   rw[Gg l a b o k v t n s (i+1)]
   constructor
   .rintro⟨j,h1,h2,h3⟩;exact⟨j,by omega,by omega,h3⟩
   .rintro⟨j,h1,h2,h3⟩
    refine⟨j,?_,by omega,h3⟩
    rcases kM i j with h4|h4
    .omega
    .have:j=i:=by omega
     rw[this]at h3;exact(h h3).elim
theorem QS{l:List Deputy}(hp:l.Pairwise (λx y=>x.No<y.No)){a o k v t n:Int}(h0:jt l a b (bR.mk o k v t n)=0)(h1:mp l a b o k v t n=0):(aC l a b o k v t n).2.1=(eV l a b o k v t n).2.1:=by
 rw[jK,LU h0,covering16 hp]
 unfold eV
 rw[h1]
 simp only[bne_self_eq_false,cond_false]
 rw[Gg,List.length_range]
 rw[←Nl]
 constructor
 .rintro⟨m,hm,hs⟩;exact⟨m,qM _,by omega,(walk16 _ b m a).2 hs⟩
 .rintro⟨m,_,hm,hs⟩;exact⟨m,by omega,(walk16 _ b m a).1 hs⟩
def sd(all:List Interest)(w:List eF):Prop:=(w.map (·.To)).Nodup/\(∀x∈w,x.To∈all.map (·.Party))/\∀x∈w,x.jb.length<=8
theorem sd.nil:sd all []:=⟨S7,λ_ h=>(vA h).elim,λ_ h=>(vA h).elim⟩
theorem sd.len(h:sd all w):w.length<=all.length:=by
 have:=yQ h.1 (b:=all.map (·.Party)) (λt ht=>by obtain⟨x,hx,rfl⟩:=zN.1 ht;exact h.2.1 x hx)
 simpa using this
theorem sd.put(h:sd all w){x:eF}(ht:x.To∈all.map (·.Party))(hp:x.jb.length<=8):sd all (rwPut w x):=by
 unfold rwPut
 cases hb:w.any (λw=>w.To==x.To)with
 |true=>exact h
 |false=>
  simp only[cond_false]
  refine⟨?_,λy hy=>?_,λy hy=>?_⟩
  .rw[SP,List.nodup_append]
   refine⟨h.1,by simp,λa ha c hc e=>?_⟩
   obtain⟨y,hy,rfl⟩:=zN.1 ha
   simp only[jJ,T2,qC]at hc
   have:w.any (λw=>w.To==x.To)=true:=List.any_eq_true.2 ⟨y,hy,by simp[e,hc]⟩
   rw[hb]at this;cases this
  .rcases jE.1 hy with hy|hy
   .exact h.2.1 y hy
   .rw[qC.1 hy];exact ht
  .rcases jE.1 hy with hy|hy
   .exact h.2.2 y hy
   .rw[qC.1 hy];exact hp
theorem JF(w:List eF)(x:eF):w.length<=(rwPut w x).length:=by
 unfold rwPut
 cases w.any (λw=>w.To==x.To)<;>simp
theorem Hq(x:eF)(hk:k<w.length):nthI (rwPut w x) (k:Int)=nthI w (k:Int):=by
 unfold rwPut
 cases w.any (λw=>w.To==x.To)with
 |true=>rfl
 |false=>
  have h1:w[k]? = some w[k]:=zG hk
  rw[lG h1]
  exact lG (by rw[cond_false,List.getElem?_append_left hk];exact h1)
theorem vI(l:List Interest)(t known:Int):dg l t known=standR l t known:=by
 have key:∀(s g:List Interest),dg.L1 l t known dg.K1 s g=g++s.filter λx=>fS l x t known:=by
  intro s
  induction s with
  |nil=>intro g;simp[dg.L1,dg.K1]
  |cons y s ih=>
   intro g
   simp only[dg.L1,List.filter_cons]
   cases fS l y t known with
   |true=>rw[cond_true,ih];simp
   |false=>rw[cond_false,ih];simp
 unfold dg standR
 rw[key,kF]
theorem Gq(l:List Interest)(t known:Int):(dg l t known).length<=l.length:=by
 rw[vI];exact List.length_filter_le _ _
theorem Hx{x:Interest}(h:x∈all):x.Party∈all.map (·.Party):=List.mem_map_of_mem h
theorem sd.at(h:sd all w)(hk:k<w.length):(nthI w (k:Int)).jb.length<=8:=h.2.2 _ (nt ⟨by omega,by omega⟩)
theorem cL1(who:Int)(k:List eF->List Int×Bool×Int):∀(s:List Interest)(g:List eF),bD.L1 who k s g=k (rwFill who s g)
 |[],g=>rfl
 |y::s,g=>by
  simp only[bD.L1,rwFill,cL1 who k s]
  cases(!y.Of)&&(y.Person==who)<;>rfl
theorem cL3(i:Nat)(k:List eF->List Int×Bool×Int)(x:eF):∀(s:List Interest)(g:List eF),i<g.length->nthI g (i:Int)=x->bD.L3 i k s g=k (rwStep x.jb x.To s g)
 |[],g,_,_=>rfl
 |y::s,g,hi,hx=>by
  simp only[bD.L3,rwStep,hx]
  rw[cL3 i k x s g hi hx,cL3 i k x s (rwPut g ⟨x.jb++[y.No],y.Party⟩) (Nat.lt_of_lt_of_le hi (JF _ _)) ((Hq _ hi).trans hx)]
  cases y.Of&&(y.Person==x.To)<;>rfl
theorem cL2(l:List Interest)(ps:List Int)(t known:Int):∀(n i:Nat)(g:List eF),bD.L2 l ps t known bD.K2 n i g=((rwLoop ps (standR l t known) n i g).1,(rwLoop ps (standR l t known) n i g).2,0)
 |0,i,g=>rfl
 |n+1,i,g=>by
  simp only[bD.L2,rwLoop]
  rcases kM i g.length with hi|hi
  .have h1:g[i]? = some g[i]:=zG hi
   have h2:decide ((i:Int)<(g.length:Int))=true:=decide_eq_true (by omega)
   rw[h2,cond_true,lG h1,h1,cL3 i _ g[i] _ g hi (lG h1),cL2 l ps t known n (i+1) g,cL2 l ps t known n (i+1),vI]
   dsimp only
   cases kI ps g[i].To with
   |true=>rfl
   |false=>cases((g[i].jb.length:Nat):Int)==8<;>rfl
  .have h2:decide ((i:Int)<(g.length:Int))=false:=decide_eq_false (by omega)
   rw[h2,cond_false,kK hi]
   rfl
theorem DA(l:List Interest)(who:Int)(ps:List Int)(t known:Int):bD l who ps t known=conflictR l who ps t known:=by
 unfold bD conflictR
 cases je l who ps t known != 0 with
 |true=>rfl
 |false=>
  simp only[cond_false]
  rw[cL1,vI]
  exact cL2 l ps t known _ _ _
theorem Fb(n:Int)(k:Nat->List Int):∀(s:List Int)(i:Nat),fR.L1 n k s i=k (i+(s.takeWhile λy=>decide (y<n)).length)
 |[],i=>rfl
 |y::s,i=>by
  simp only[fR.L1,List.takeWhile_cons]
  cases decide (y<n)with
  |true=>simp only[cond_true,if_true,xA,Fb n k s];congr 1;omega
  |false=>simp
theorem Jk{p:Int->Bool}:∀l:List Int,l.take (l.takeWhile p).length=l.takeWhile p/\l.drop (l.takeWhile p).length=l.dropWhile p
 |[]=>⟨rfl,rfl⟩
 |y::l=>by
  simp only[List.takeWhile_cons,List.dropWhile_cons]
  split
  .obtain⟨a,b⟩:=Jk l
   exact⟨by rw[xA,List.take_succ_cons,a],by rw[xA,List.drop_succ_cons,b]⟩
  .exact⟨rfl,rfl⟩
theorem Jl{p:Int->Bool}:∀(l:List Int)(x:Int),x∈l.takeWhile p->p x=true
 |[],x,h=>(vA h).elim
 |y::l,x,h=>by
  simp only[List.takeWhile_cons]at h
  split at h
  .next hy=>
   rcases jB.1 h with rfl|h
   .exact hy
   .exact Jl l x h
  .exact(vA h).elim
theorem put30{l:List Int}(hl:l.Pairwise (·<·))(n:Int):(fR l n).Pairwise (·<·)/\∀x,x∈fR l n↔x∈l\/x=n:=by
 unfold fR
 rw[Fb,Nat.zero_add]
 unfold fR.K1
 obtain⟨h1,h2⟩:=Jk (p:=λy=>decide (y<n)) l
 have htl:∀x∈l.takeWhile (λy=>decide (y<n)),x<n:=λx hx=>by simpa using Jl l x hx
 have hsp:l.takeWhile (λy=>decide (y<n))++l.dropWhile (λy=>decide (y<n))=l:=List.takeWhile_append_dropWhile
 have hdp:(l.dropWhile λy=>decide (y<n)).Pairwise (·<·):=hl.sublist (List.dropWhile_sublist _)
 have htp:(l.takeWhile λy=>decide (y<n)).Pairwise (·<·):=hl.sublist (List.takeWhile_sublist _)
 generalize hT:l.takeWhile (λy=>decide (y<n))=T at *
 generalize hD:l.dropWhile (λy=>decide (y<n))=D at *
 have hhead:∀z D',D=z::D'->¬z<n:=λz D' e=>by
  have:=List.head_dropWhile_not (λy=>decide (y<n)) (l:=l) (by rw[hD,e];simp)
  simp only[hD,e,List.head_cons]at this
  simpa using this
 cases D with
 |nil=>
  rw[List.append_nil]at hsp
  subst hsp
  rw[show(decide ((T.length:Int)<(T.length:Int))&&nthI T (T.length:Int)==n)=false from by simp,cond_false]
  rw[show((T.length:Int)).toNat=T.length from by omega,List.take_length,List.drop_length,List.append_nil]
  refine⟨?_,λx=>by simp⟩
  rw[List.pairwise_append]
  exact⟨htp,List.pairwise_singleton _ _,λa ha b hb=>by rw[qC.1 hb];exact htl a ha⟩
 |cons z D=>
  have hz:=hhead z D rfl
  have hget:nthI l (T.length:Int)=z:=lG (by rw[←hsp];simp)
  have hlen:decide ((T.length:Int)<(l.length:Int))=true:=by
   rw[←hsp];simp;omega
  rw[hget,hlen,Bool.true_and]
  cases hzn:z==n with
  |true=>
   rw[cond_true]
   have e:z=n:=by simpa using hzn
   exact⟨hl,λx=>⟨.inl,λh=>h.elim id λe'=>by rw[e',←e,←hsp];simp⟩⟩
  |false=>
   rw[cond_false,show((T.length:Int)).toNat=T.length from by omega,h1,h2]
   have hne:¬z=n:=by simpa using hzn
   rw[List.pairwise_cons]at hdp
   refine⟨?_,λx=>?_⟩
   .rw[vD,List.pairwise_append]
    refine⟨htp,?_,λa ha b hb=>?_⟩
    .rw[List.singleton_append,List.pairwise_cons,List.pairwise_cons]
     refine⟨λb hb=>?_,hdp⟩
     rcases jB.1 hb with rfl|hb
     .omega
     .have:=hdp.1 b hb;omega
    .have h3:=htl a ha
     rcases jE.1 hb with hb|hb
     .rw[qC.1 hb];exact h3
     .rcases jB.1 hb with rfl|hb
      .omega
      .have:=hdp.1 b hb;omega
   .rw[←hsp]
    simp only[jE,jB,vA,or_false]
    constructor
    .rintro((h|h)|h)
     .exact .inl (.inl h)
     .exact .inr h
     .exact .inl (.inr h)
    .rintro((h|h)|h)
     .exact .inl (.inl h)
     .exact .inr h
     .exact .inl (.inr h)
theorem Dh(r:Register)(d:Document)(t known:Int):∀(s:List Approval)(g:List Int),fJ.L1 r d t known fJ.K1 s g=(s.filter λy=>nR r y d t known).foldl (λg y=>fR g y.For) g
 |[],g=>rfl
 |y::s,g=>by
  simp only[fJ.L1,Dh r d t known s,List.filter_cons]
  cases nR r y d t known<;>rfl
theorem FX:∀(s:List Approval)(g:List Int),g.Pairwise (·<·)->(s.foldl (λg y=>fR g y.For) g).Pairwise (·<·)/\∀x,x∈s.foldl (λg y=>fR g y.For) g↔x∈g\/∃y∈s,x=y.For
 |[],g,h=>⟨h,λx=>by simp⟩
 |y::s,g,h=>by
  obtain⟨a,b⟩:=put30 h y.For
  obtain⟨c,d⟩:=FX s (fR g y.For) a
  refine⟨c,λx=>?_⟩
  rw[List.foldl_cons,d,b,MY]
  constructor
  .rintro((h|h)|h)
   .exact .inl h
   .exact .inr (.inl h)
   .exact .inr (.inr h)
  .rintro(h|h|h)
   .exact .inl (.inl h)
   .exact .inl (.inr h)
   .exact .inr h
section
variable {c:bK} (h:i5 c)
include h
theorem LP:c.Register.Deputies.Pairwise λx y=>x.No<y.No:=by
 have hc:=((mb _).1 h.chk).2.1
 unfold dk at hc
 simp only[Bool.cond_eq_ite]at hc
 split at hc
 .cases hc
 .rw[deputiesP]at hc;exact((sG (by decide) _ _).1 hc).2
theorem good30{y:Approval}(hy:(0<=y.Doc/\y.Doc<4096)/\(0<=y.By/\y.By<64)/\(0<=y.For/\y.For<64)/\(0<=y.Office/\y.Office<32)/\(0<=y.At/\y.At<1099511627776)):nR c.Register y c.doc c.at_ c.known=goodA c y:=by
 obtain⟨_,h1,h2,h3,_⟩:=hy
 have h4:=h.time
 have h5:=h.know
 have h6:=h.kind
 have h7:=h.good.value
 have e2:∀z:Int,0<=z/\z<64->fD z=true:=λz hz=>by simp only[fD,bV,jA,decide_eq_true_eq];omega
 have e3:∀z:Int,0<=z/\z<1099511627776->fX z=true:=λz hz=>by simp only[fX,bV,jA,decide_eq_true_eq];omega
 have e4:bV y.Office 0 31=true:=by simp only[bV,jA,decide_eq_true_eq];omega
 have e5:bV c.doc.Kind 0 15=true:=by simp only[bV,jA,decide_eq_true_eq];omega
 have e6:bV c.doc.Value 0 1099511627776=true:=by simp only[bV,jA,decide_eq_true_eq];omega
 have r2:∀z:Int,0<=z/\z<64->jq z=true:=λz hz=>by simp only[jq,ef,jA,decide_eq_true_eq];omega
 have r3:∀z:Int,0<=z/\z<1099511627776->kO z=true:=λz hz=>by simp only[kO,ef,jA,decide_eq_true_eq];omega
 have r4:ef y.Office 0 31=true:=by simp only[ef,jA,decide_eq_true_eq];omega
 have r5:ef c.doc.Kind 0 15=true:=by simp only[ef,jA,decide_eq_true_eq];omega
 have r6:ef c.doc.Value 0 1099511627776=true:=by simp only[ef,jA,decide_eq_true_eq];omega
 have hdc:=((mb _).1 h.chk).2.1
 have a0:jt c.Register.Deputies y.For y.By (bR.mk y.Office c.doc.Kind c.doc.Value c.at_ c.known)=0:=by
  unfold jt
  rw[hdc,e2 _ h1,e2 _ h2,e3 _ h4,e3 _ h5,e4,e5,e6];rfl
 have a1:mp c.Register.Deputies y.For y.By y.Office c.doc.Kind c.doc.Value c.at_ c.known=0:=by
  unfold mp
  rw[←wj,hdc,r2 _ h1,r2 _ h2,r3 _ h4,r3 _ h5,r4,r5,r6];rfl
 unfold nR goodA nj iA
 rw[QR ((mb _).1 h.chk).1 h3 h2 h4 h5,QS (LP h) a0 a1,DA,DA,←conflict29,←conflict29]
theorem people30{p:Policy}(hp:M7 p):fJ c.Register c.doc p c.at_ c.known=dj c p:=by
 rw[Hv,ID]
 unfold fJ
 cases hk:decide ((p.Kinds.length:Int)<=c.doc.Kind)with
 |true=>rfl
 |false=>
  simp only[cond_false]
  have hkl:0<=c.doc.Kind/\c.doc.Kind<(p.Rules.length:Int):=by
   have:=of_decide_eq_false hk
   have:=hp.rules.1
   have:=h.kind
   omega
  have hth:=hp.rules.2 _ (nt hkl)
  have hac:=((mb _).1 h.chk).2.2.2.2.2.2
  have hcn:=LY hac (by rw[←qY];exact hac) h.good.no h.good.at_ (th:=(nthI p.Rules c.doc.Kind).Think) ⟨hth.1,by omega⟩ h.time h.know
  rw[Dh,←hcn]
  have hf:((cj c.Register.Approvals c.doc.No c.doc.At ((nthI p.Rules c.doc.Kind).Think) c.at_ c.known).1.filter λy=>nR c.Register y c.doc c.at_ c.known)=(cj c.Register.Approvals c.doc.No c.doc.At ((nthI p.Rules c.doc.Kind).Think) c.at_ c.known).1.filter (goodA c):=
   TK λy hy=>good30 h (tH h hy)
  rw[hf]
  obtain⟨a,b⟩:=FX ((cj c.Register.Approvals c.doc.No c.doc.At ((nthI p.Rules c.doc.Kind).Think) c.at_ c.known).1.filter (goodA c)) [] List.Pairwise.nil
  refine Np a λx=>?_
  rw[b]
  simp only[vA,false_or,zN]
  exact⟨λ⟨y,h1,h2⟩=>⟨y,h1,h2.symm⟩,λ⟨y,h1,h2⟩=>⟨y,h1,h2.symm⟩⟩
end
theorem NF(r:Register):dC r=0\/dC r=300:=by
 unfold dC
 have:∀(s:List Nat)(i:Nat),dC.L1 r dC.K1 s i=0\/dC.L1 r dC.K1 s i=300:=by
  intro s
  induction s with
  |nil=>intro i;exact .inl rfl
  |cons y s ih=>intro i;simp only[dC.L1,Bool.cond_eq_ite];split;exact .inr rfl;exact ih _
 exact this _ _
theorem rver(no:Int):∀(l:List Version)(i:Nat),(cT.L1 no cT.K1 l i=-1/\∀v∈l,v.No≠no) \/
  ∃a v b,l=a++v::b/\cT.L1 no cT.K1 l i=((i+a.length:Nat):Int)/\v.No=no/\∀x∈a,x.No≠no
 |[],i=>.inl ⟨rfl,λ_ h=>(vA h).elim⟩
 |y::l,i=>by
  simp only[cT.L1]
  cases e:y.No==no with
  |true=>exact .inr ⟨[],y,l,rfl,by simp,by simpa using e,λ_ h=>(vA h).elim⟩
  |false=>
   have hne:y.No≠no:=by simpa using e
   rw[cond_false]
   rcases rver no l (i+1)with⟨h1,h2⟩|⟨a,v,b,h1,h2,h3,h4⟩
   .refine .inl ⟨h1,λv hv=>?_⟩
    rcases jB.1 hv with rfl|hv
    .exact hne
    .exact h2 v hv
   .refine .inr ⟨y::a,v,b,by rw[h1];rfl,by rw[h2,xA];congr 1;omega,h3,λx hx=>?_⟩
    rcases jB.1 hx with rfl|hx
    .exact hne
    .exact h4 x hx
theorem policy30(c:bK)(no:Int):(fx c no=.error 1/\cT c.Register no<0)\/(0<=cT c.Register no/\fx c no=.ok (nthI c.Register.Versions (cT c.Register no)).Policy):=by
 unfold cT
 rcases vU c no with⟨h1,h2⟩|⟨a,v,b,h1,h2,h3,h4⟩
 .rcases rver no c.Register.Versions 0 with⟨g1,_⟩|⟨a',v',b',g1,_,g3,_⟩
  .exact .inl ⟨h1,by rw[g1];decide⟩
  .exact(h2 v' (by rw[g1];simp) g3).elim
 .rcases rver no c.Register.Versions 0 with⟨_,g2⟩|⟨a',v',b',g1,g2,g3,g4⟩
  .exact(g2 v (by rw[h1];simp) h3).elim
  .refine .inr ⟨by rw[g2];omega,?_⟩
   have e:a=a'/\v=v':=by
    have hh:a++v::b=a'++v'::b':=by rw[←h1,←g1]
    clear h1 g1 g2 h2
    induction a generalizing a' with
    |nil=>
     cases a' with
     |nil=>simp at hh;exact⟨rfl,hh.1⟩
     |cons z a'=>simp at hh;exact(g4 z (zB ..) (hh.1▸h3)).elim
    |cons z a ih=>
     cases a' with
     |nil=>simp at hh;exact(h4 z (zB ..) (hh.1▸g3)).elim
     |cons z' a'=>
      simp at hh
      obtain⟨e1,e2⟩:=ih (λx hx=>h4 x (kA _ hx)) a' (λx hx=>g4 x (kA _ hx)) hh.2
      exact⟨by rw[hh.1,e1],e2⟩
   rw[h2,g2,Nat.zero_add,←e.1]
   have:nthI c.Register.Versions (a.length:Int)=v:=lG (by rw[h1];simp)
   rw[this]
theorem peopleSpec_true{r:Register}(hsm:smR r)(doc version t known:Int):mg r doc version t known=true:=by
 unfold mg
 rw[show wa=true from rfl]
 cases mR r with
 |false=>rfl
 |true=>
  simp only[Bool.not_true,cond_false]
  have key:fh r doc version t known=iL r doc version t known:=by
   unfold fh iL
   rcases NF r with hc|hc
   .have hc':=(judge30 hsm).1 hc
    rw[hc,hc']
    simp only[bne_self_eq_false,cond_false]
    by_cases hg:0<=dp r doc/\(0<=t/\t<1099511627776)/\(0<=known/\known<1099511627776)
    .obtain⟨hd,ht,hk⟩:=hg
     have ho:=ME hd ht hk
     obtain⟨_,hco,_,_⟩:=Ea hc ho
     rw[ho]
     dsimp only
     have m1:hU t=true:=by simp[hU,ht.1,ht.2]
     have m2:hU known=true:=by simp[hU,hk.1,hk.2]
     rw[m1,m2,show decide (dp r doc<0)=false from decide_eq_false (by omega)]
     simp only[Bool.false_or,Bool.not_true,Bool.or_false]
     rcases policy30 ⟨r,nthI r.Docs (dp r doc),t,known⟩ version with⟨p1,p2⟩|⟨p1,p2⟩
     .rw[p1,show decide (cT r version<0)=true from decide_eq_true p2];rfl
     .rw[p2,show decide (cT r version<0)=false from decide_eq_false (by have:=p1;dsimp only at this;omega)]
      rw[cond_false]
      exact congrArg (λx=>(x,(0:Int))) (people30 hco (sB hco hsm p2)).symm
    .have:ma r doc t known=.error 1:=by
      unfold ma
      rw[show((decide ((ad r.Docs (λdE=>bu dE doc))<0)||decide ((min t known)<0))||decide (1099511627776<=(max t known)))=true from ?_]
      .rfl
      .have he:ad r.Docs (λdE=>bu dE doc)=dp r doc:=by
        unfold ad dp;rw[F8]
       rw[he]
       simp only[kC,decide_eq_true_eq]
       omega
     rw[this]
     dsimp only
     have hm:(((decide (dp r doc<0)||decide (cT r version<0))||(!(hU t)))||(!(hU known)))=true:=by
      simp only[kC,decide_eq_true_eq,kD,hU,Bool.and_eq_false_iff,decide_eq_false_iff_not]
      omega
     rw[hm];rfl
   .have hc':kj r≠0:=λe=>by have:=(judge30 hsm).2 e;omega
    rw[hc,show(kj r != 0)=true from bne_iff_ne.2 hc'];rfl
  rw[key,Lg]
  simp
theorem Cw(L:List Appoint)(o p t known:Int):∀(s:List Appoint)(i:Nat)(g:Int),g<((i+s.length:Nat):Int)->dG.L1 L o p t known dG.K1 s i g<((i+s.length:Nat):Int)
 |[],i,g,h=>h
 |y::s,i,g,h=>by
  simp only[dG.L1,Bool.cond_eq_ite,xA]at h ⊢
  rw[show i+(s.length+1)=i+1+s.length from by omega]at h ⊢
  split
  .exact Cw L o p t known s (i+1) _ (by omega)
  .exact Cw L o p t known s (i+1) _ h
theorem Cv(l:List Appoint)(o p t known:Int):dG l o p t known<(l.length:Int):=by
 have:=Cw l o p t known l 0 (-1) (by omega)
 rw[Nat.zero_add]at this
 exact this
theorem OL(l:List Deputy)(t known:Int):(ck l t known).length<=l.length:=by
 unfold ck
 rw[LN,kF]
 exact List.length_filter_le _ _
theorem Cf(rec:List Deputy->List Int->Int->Int->List Int×Bool)(l:List Deputy)(p:List Int)(b many:Int)(N:Nat)(h:∀q,(rec l q b (many-1)).1.length+1<=N):∀s:List Deputy,(cA.L1 rec l p b many cA.K1 s).1.length<=N
 |[]=>qM _
 |y::s=>by
  simp only[cA.L1,Bool.cond_eq_ite]
  split
  .exact Cf rec l p b many N h s
  .split
   .rw[xB,xA,jC];have:=h (p++[y.To]);omega
   .exact Cf rec l p b many N h s
theorem Ej:∀(m:Nat)(q:List Deputy)(p:List Int)(b n:Int),0<=n->(cA.go m q p b n).1.length<=n.toNat
 |0,q,p,b,n,_=>qM _
 |m+1,q,p,b,n,hn=>by
  show(cA.F (cA.go m) q p b n).1.length<=n.toNat
  unfold cA.F
  cases h:n==0 with
  |true=>exact qM _
  |false=>
   have:n≠0:=by simpa using h
   rw[cond_false]
   exact Cf _ q p b n _ (λr=>by have:=Ej m q r b (n-1) (by omega);omega) q
theorem Jo(l:List Approval)(doc t known:Int):(dz l doc t known).1.Sublist l:=by
 unfold dz
 simp only[Bool.cond_eq_ite]
 split
 .exact List.nil_sublist _
 .split
  .exact List.nil_sublist _
  .rw[uw,kF];exact List.filter_sublist
theorem Jp(l:List Approval)(doc t known:Int):(dz l doc t known).1.length<=l.length:=(Jo l doc t known).length_le
theorem PW{l:List Approval}{th t k:Int}(h:((ff l) != 0)=false)(h2:(((((!(ny doc))||(!(fM b)))||(!(fM th)))||(!(fM t)))||(!(fM k)))=false){y:Approval}(hy:y∈(dz l doc t k).1):
  (0<=y.At/\y.At<1099511627776)/\(0<=th/\th<1099511627776):=by
 have hc:bJ l=0:=by rw[qY];simpa using h
 refine⟨(yE (oZ hc y ((Jo l doc t k).subset hy))).2.2.2.2,?_⟩
 simp only[Bool.or_eq_false_iff,Bool.not_eq_false',fM,fT,jA,decide_eq_true_eq]at h2
 omega
theorem Ny(l:List Int)(n:Int):(fR l n).length<=l.length+1:=by
 unfold fR
 rw[Fb]
 unfold fR.K1
 rw[Bool.cond_eq_ite]
 split
 .omega
 .simp only[xB,List.length_take,List.length_drop,xA,jC];omega
theorem NT(l:List Approval)(doc b th t known:Int):(dF l doc b th t known).1.length<=l.length:=by
 unfold dF
 simp only[Bool.cond_eq_ite]
 split
 .exact qM _
 .split
  .exact qM _
  .rw[uK,kF];exact xS (List.length_filter_le _ _) (Jp l doc t known)
theorem Ip{r:Register}(hsm:smR r){no t:Int}(h1:((kj r) != 0)=false)(h2:(((decide (dp r doc<0)||decide (cT r no<0))||(!(hU t)))||(!(hU known)))=false):
  (0<=dp r doc/\dp r doc<(r.Docs.length:Int))/\(0<=cT r no/\cT r no<(r.Versions.length:Int)) /\
   (nthI r.Versions (cT r no)).Policy.Rules.length=(nthI r.Versions (cT r no)).Policy.Kinds.length/\0<=(nthI r.Docs (dp r doc)).Kind:=by
 simp only[Bool.or_eq_false_iff,Bool.not_eq_false',hU,jA,decide_eq_true_eq,decide_eq_false_iff_not]at h2
 obtain⟨⟨⟨hd,hv⟩,ht⟩,hk⟩:=h2
 have hc:=(judge30 hsm).2 (by simpa using h1)
 have hd':0<=dp r doc:=by omega
 obtain⟨_,hco,_,_⟩:=Ea hc (ME hd' ht hk)
 have hver:cT r no<(r.Versions.length:Int):=by
  unfold cT at hv ⊢
  rcases rver no r.Versions 0 with⟨g1,_⟩|⟨a,v,b,g1,g2,_,_⟩
  .rw[g1]at hv;omega
  .rw[g2]
   have:=congrArg List.length g1
   simp at this
   omega
 refine⟨⟨hd',(Qp hd').1⟩,⟨by omega,hver⟩,?_,hco.kind.1⟩
 rcases policy30 ⟨r,nthI r.Docs (dp r doc),t,known⟩ no with⟨_,p2⟩|⟨_,p2⟩
 .have:cT r no<0:=p2
  omega
 .exact(sB hco hsm p2).rules.1
end
variable {S:List Nat}{e':Env}
section
section
variable {P:Program} {b:Frame} {n:Nat} {k:List Item} {F:List Frame->(Machine->Prop)->Prop} {e:Env} {ds:List Deferred} {X:Cx} {h:HF} {L:LH}
variable {ops:Array Oper} {l:List Oper} {d:Nat} {ty:TypeId} {pos:String} {af:Array Edge} {g:Option (Nat×Bool)}
def memN:List Nat->Nat->Bool
 |[],_=>false
 |a::l,s=>bif Tq s a then true else memN l s
def mix(S:List Nat)(e' e:Env):Env:=λs=>bif memN S s then e' s else e s
def subN:List Nat->List Nat->Bool
 |[],_=>true
 |a::l,S=>memN S a&&subN l S
def Agr(S:List Nat)(e e':Env):Prop:=∀s,memN S s=false->e' s=e s
theorem yF{e:Env}:Agr S e e:=λ_ _=>rfl
theorem BZ{e:Env}{d:Nat}{w:Value}(hd:memN S d=true)(h:Agr S e e'):Agr S e (upd e' d w):=λs hs=>by
 unfold upd
 cases hb:Tq s d with
 |true=>rw[vT hb,hd]at hs;cases hs
 |false=>exact h s hs
theorem Pb{T:List Nat}(h:subN T S=true){s:Nat}(hs:memN S s=false):memN T s=false:=by
 induction T with
 |nil=>rfl
 |cons a T ih=>
  simp only[subN,jA]at h
  simp only[memN]
  cases hb:Tq s a with
  |true=>rw[vT hb,h.1]at hs;cases hs
  |false=>exact ih h.2
theorem Ca{T:List Nat}{e e2:Env}(hT:subN T S=true)(h:Agr S e e'):Agr S e (mix T e2 e'):=λs hs=>by
 unfold mix
 rw[Pb hT hs];exact h s hs
theorem Mp(m:Nat)(S:List Nat)(d:Nat)(v:Value)(t':(∀e',e' d=v->(ha:Agr S e e':=by repeat (first|exact yF|refine BZ rfl ?_|refine Ca rfl ?_))->TO P b n ops (l.drop m) k F e' ds X h L)->TO P b n ops l k F e ds X h L)(hk:∀e'',TO P b n ops (l.drop m) k F (upd (mix S e'' e) d v) ds X h L):TO P b n ops l k F e ds X h L:=
 t' λe' hv ha=>by
  have e1:upd (mix S e' e) d v=e':=funext λs=>by
   unfold upd
   cases hb:Tq s d with
   |true=>rw[vT hb];exact hv.symm
   |false=>
    show mix S e' e s=e' s
    unfold mix
    cases hm:memN S s with
    |true=>rfl
    |false=>exact(ha s hm).symm
  have:=hk e'
  rw[e1]at this
  exact this
theorem ae{x z:α}{c:Bool}{o:Operand}{p q:Code}(hs:x=bif c then y else z)(hx:e.ev o=.bool c)(t1:c=true->x=y->TT P b n (.code p::k) F e ds X h L)(t2:c=false->x=z->TT P b n (.code q::k) F e ds X h L):TT P b n (.code (.cond o p q)::k) F e ds X h L:=
 j1 hx (λe'=>t1 e' (hs.trans (by rw[e'];rfl))) (λe'=>t2 e' (hs.trans (by rw[e'];rfl)))
end
end
variable {l:List Oper}{op:Op}{ops:Array Oper}{v:Go.Value}
section
inductive Qs
 |tt (k:List Item) (e:Env)
 |to (ops:Array Oper) (l:List Oper) (k:List Item) (e:Env)
@[reducible] def Qs.holds (P:Program) (b:Frame) (n:Nat) (F:List Frame->(Machine->Prop)->Prop) (ds:List Deferred) (X:Cx) (h:HF) (L:LH):Qs->Prop
 |.tt k e=>TT P b n k F e ds X h L
 |.to ops l k e=>TO P b n ops l k F e ds X h L
def opQ(e:Env):Op->Option Value
 |.move x=>some (e.ev x)
 |.assign x=>some (e.ev x)
 |.pick c x y=>match e.ev c with
  |.bool s=>some (bif s then e.ev x else e.ev y)
  |_=>none
 |.extract x i=>match e.ev x with
  |.tuple ⟨vs⟩=>nth vs i
  |_=>none
 |.unOp .not _ x=>match e.ev x with
  |.bool s=>some (.bool !s)
  |_=>none
 |.binOp op _ x y _=>binV op (e.ev x) (e.ev y)
 |_=>none
def qstepO(n:Nat)(ops:Array Oper)(l:List Oper)(k:List Item)(e:Env):Option Qs:=
 match l with
 |[]=>some (.tt k e)
 |⟨some d,op,ty,pos,af,g⟩::l=>
  match jR d n with
  |false=>none
  |true=>match guardB ops e ⟨some d,op,ty,pos,af,g⟩with
   |false=>some (.to ops l k (upd e d undef))
   |true=>match opQ e op with
    |some v=>some (.to ops l k (upd e d v))
    |none=>none
 |_=>none
def qstepT(k:List Item)(e:Env):Option Qs:=
 match k with
 |.code .skip::k=>some (.tt k e)
 |.code (.seq x y)::k=>some (.tt (.code x::.code y::k) e)
 |.code (.block id c)::k=>some (.tt (.code c::.inBlock id::k) e)
 |.inBlock _::k=>some (.tt k e)
 |.code (.exit id)::k=>match exitTo id k with
  |some k'=>some (.tt k' e)
  |none=>none
 |.code (.cond c x y)::k=>match e.ev c with
  |.bool true=>some (.tt (.code x::k) e)
  |.bool false=>some (.tt (.code y::k) e)
  |_=>none
 |.code (.region _ ⟨l⟩ false)::k=>some (.to ⟨l⟩ l k e)
 |_=>none
def runQ(n:Nat):Nat->Qs->Option Qs
 |0,s=>some s
 |m+1,.tt k e=>match qstepT k e with
  |some s=>runQ n m s
  |none=>none
 |m+1,.to ops l k e=>match qstepO n ops l k e with
  |some s=>runQ n m s
  |none=>none
section
variable {P:Program} {b:Frame} {n:Nat} {k:List Item} {F:List Frame->(Machine->Prop)->Prop} {e:Env} {ds:List Deferred} {X:Cx} {h:HF} {L:LH}
theorem Iw(hv:opQ e op=some v):noDefer op=true/\∀(d:Option Nat)(ty:TypeId)(pos:String)(af:Array Edge)(g:Option (Nat×Bool))w,(execOp e.ev ⟨d,op,ty,pos,af,g⟩).run P w=.ok (.value v) w:=by
 unfold opQ at hv
 split at hv
 .cases hv;exact⟨rfl,λ_ _ _ _ _ w=>by simp[execOp]⟩
 .cases hv;exact⟨rfl,λ_ _ _ _ _ w=>by simp[execOp]⟩
 .split at hv
  .next s hc=>cases hv;exact⟨rfl,λ_ _ _ _ _ w=>by cases s<;>simp[execOp,hc,asBool]⟩
  .cases hv
 .split at hv
  .next vs hx=>exact⟨rfl,λ_ _ _ _ _ w=>by rw[ip]at hv;simp[execOp,hx,Instr.extract,hv]⟩
  .cases hv
 .split at hv
  .next s hx=>cases hv;exact⟨rfl,λ_ _ _ _ _ w=>by simp[execOp,hx,Op.unary]⟩
  .cases hv
 .next op t x y u=>
  exact⟨rfl,λ_ _ _ _ _ w=>by
   have:=EK (P:=P) (t:=t) (x:=x) (y:=y) hv w
   simp only[execOp,Sem.run_bind]at this ⊢
   simp[this]⟩
 .cases hv
theorem Nx{s:Qs}(hs:qstepO n ops l k e=some s)(t:s.holds P b n F ds X h L):TO P b n ops l k F e ds X h L:=by
 unfold qstepO at hs
 split at hs
 .cases hs;exact aI t
 .split at hs
  .cases hs
  .next hd=>
   split at hs
   .next hg=>cases hs;exact Ix t hd hg
   .next hg=>
    split at hs
    .next v hv=>
     cases hs
     obtain⟨h1,h2⟩:=Iw (P:=P) hv
     exact uj v h1 (λw _=>h2 _ _ _ _ _ w) hd hg t
    .cases hs
 .cases hs
theorem Ht{s:Qs}(hs:qstepT k e=some s)(t:s.holds P b n F ds X h L):TT P b n k F e ds X h L:=by
 unfold qstepT at hs
 split at hs
 .cases hs;exact aH t
 .cases hs;exact ew t
 .cases hs;exact mM t
 .cases hs;exact eX t
 .split at hs
  .next hx=>cases hs;exact lM hx t
  .cases hs
 .split at hs
  .next hc=>cases hs;exact lX hc t
  .next hc=>cases hs;exact pi hc t
  .cases hs
 .cases hs;exact bC t
 .cases hs
theorem D6:∀(m:Nat)(a:Qs){s:Qs},runQ n m a=some s->s.holds P b n F ds X h L->a.holds P b n F ds X h L
 |0,_,_,hr,t=>by cases hr;exact t
 |m+1,.tt k e,s,hr,t=>by
  unfold runQ at hr
  split at hr
  .next s' hs=>exact Ht hs (D6 m s' hr t)
  .cases hr
 |m+1,.to ops l k e,s,hr,t=>by
  unfold runQ at hr
  split at hr
  .next s' hs=>exact Nx hs (D6 m s' hr t)
  .cases hr
theorem qT(m:Nat){s:Qs}(hr:runQ n m (.tt k e)=some s)(t:s.holds P b n F ds X h L):TT P b n k F e ds X h L:=D6 m (.tt k e) hr t
theorem qO(m:Nat){s:Qs}(hr:runQ n m (.to ops l k e)=some s)(t:s.holds P b n F ds X h L):TO P b n ops l k F e ds X h L:=D6 m (.to ops l k e) hr t
end
end
variable {P:Program}{a:Bool}{args:List Go.Value}{c:Code}{f:FuncId}{fn:Func}{id m n:Nat}{p:Prop}{x:Operand}{γ ρ:Type}{x0:ρ}
section
section
variable {P:Program} {b:Frame} {n:Nat} {k:List Item} {F:List Frame->(Machine->Prop)->Prop} {e:Env} {ds:List Deferred} {X:Cx} {h:HF} {L:LH}
theorem rds(h:p:=by repeat (first|exact trivial|refine⟨rfl,?_⟩)):p:=h
theorem sws(h:p:=by first|exact λw hw=>hw|(intro w hw;first|simpa only[List.append_assoc,List.cons_append,List.nil_append,List.append_nil]using hw|(simp only[List.append_assoc,List.cons_append,List.nil_append,List.append_nil]at hw ⊢;exact hw))):p:=h
theorem ndA(h:p:=by(intro i g hd hf hx e;refine ew (bC (j9 (v':=.bool false) rfl (congrArg Value.bool hf) (aI (ew (pi rfl (lM rfl (hx _ ?_)))))));exact rds)):p:=h
theorem ndB(h:p:=by(intro i hd hf hx e;refine ew (bC (j9 (v':=.bool false) rfl (congrArg Value.bool hf) (aI (ew (pi rfl (lM rfl (hx _ ?_)))))));exact rds)):p:=h
theorem lpG(xs:List α)(sl:Nat->γ->List (Nat×Value))(hh:γ->HF)(LL:γ->LH)(J:Nat->γ->Prop)(Lf:List α->Nat->γ->ρ)(g0:γ)(hb:xs.length<=9223372036854775807)(hs:x0=Lf xs 0 g0)(hJ:J 0 g0)(h0:jv e (sl 0 g0))(hw:∀w,St X h L w->St X (hh g0) (LL g0) w)(after:∀i g,i<=xs.length->x0=Lf [] i g->J i g->∀e',TT P b n k F (upds e' (sl i g)) ds X (hh g) (LL g))(cons:∀i g y r,xs.drop i=y::r->decide ((i:Int)<(xs.length:Int))=true->xs[i]? = some y->i<xs.length->xs.length<=9223372036854775807->x0=Lf (y::r) i g->J i g ->
   (∀i' g' {e'},x0=Lf [] i' g'->J i' g'->i'<=xs.length->jv e' (sl i' g')->TT P b n k F e' ds X (hh g') (LL g')) ->
   (∀g' {e'},x0=Lf r (i+1) g'->J (i+1) g'->jv e' (sl (i+1) g')->TT P b n (.inLoop c::.inBlock id::k) F e' ds X (hh g') (LL g')) ->
   ∀e',TT P b n (.code c::.inLoop c::.inBlock id::k) F (upds e' (sl i g)) ds X (hh g) (LL g))(nil:∀i g,xs.drop i=[]->decide ((i:Int)<(xs.length:Int))=false->(∀e',jv e' (sl i g)->TT P b n k F e' ds X (hh g) (LL g)) ->
   ∀e',TT P b n (.code c::.inLoop c::.inBlock id::k) F (upds e' (sl i g)) ds X (hh g) (LL g)):
  TT P b n (.code (.block id (.loop c))::k) F e ds X h L:=by
 refine iT (ι:=Nat×γ) (λi=>sl i.1 i.2) (λi=>hh i.2) (λi=>LL i.2) (λi=>i.1<=xs.length/\x0=Lf [] i.1 i.2/\J i.1 i.2) ?_ (λhx=>?_)
 .rintro⟨i,g⟩ ⟨h1,h2,h3⟩ e'
  exact after i g h1 h2 h3 e'
 .refine ls (ι:=Nat×γ×List α) (λi=>sl i.1 i.2.1) (λi=>hh i.2.1) (λi=>LL i.2.1) (λi=>xs.drop i.1=i.2.2/\i.1<=xs.length/\x0=Lf i.2.2 i.1 i.2.1/\J i.1 i.2.1) (λi=>i.2.2.length) (0,g0,xs) h0 hw ⟨rfl,qM _,hs,hJ⟩ ?_
  rintro⟨i,g,s⟩ ⟨hd,hi,hs,hJ⟩ ag e'
  dsimp only at hd hi hs hJ
  rcases s with _|⟨y,r⟩
  .exact nil i g hd (oC hd) (λe'' hr=>hx (i,g) e'' ⟨hi,hs,hJ⟩ hr) e'
  .exact cons i g y r hd (ul hd) (tG hd) (iX hd) hb hs hJ (λi' g' e'' a b c d=>hx (i',g') e'' ⟨c,a,b⟩ d)
    (λg' e'' a b hr=>ag (i+1,g',r) e'' (Nat.lt_succ_self _) ⟨mK hd,iX hd,a,b⟩ hr) e'
theorem lp2(xs:List α)(sl:Nat->γ->List (Nat×Value))(hh:γ->HF)(LL:γ->LH)(J:Nat->γ->Prop)(Lf:List α->Nat->γ->ρ)(g0:γ)(hb:xs.length<=9223372036854775807)(hs:x0=Lf xs 0 g0)(hJ:J 0 g0)(after:∀i g,i<=xs.length->x0=Lf [] i g->J i g->∀e',TT P b n k F (upds e' (sl i g)) ds X (hh g) (LL g))(cons:∀i g y r,xs.drop i=y::r->decide ((i:Int)<(xs.length:Int))=true->xs[i]? = some y->i<xs.length->xs.length<=9223372036854775807->x0=Lf (y::r) i g->J i g ->
   (∀i' g' {e'},x0=Lf [] i' g'->J i' g'->(hi:i'<=xs.length:=by omega)->(hr:jv e' (sl i' g'):=by exact rds)->TT P b n k F e' ds X (hh g') (LL g')) ->
   (∀g' {e'},x0=Lf r (i+1) g'->J (i+1) g'->(hr:jv e' (sl (i+1) g'):=by exact rds)->TT P b n (.inLoop c::.inBlock id::k) F e' ds X (hh g') (LL g')) ->
   ∀e',TT P b n (.code c::.inLoop c::.inBlock id::k) F (upds e' (sl i g)) ds X (hh g) (LL g))(nil:∀i g,xs.drop i=[]->decide ((i:Int)<(xs.length:Int))=false->(∀e',jv e' (sl i g)->TT P b n k F e' ds X (hh g) (LL g)) ->
   ∀e',TT P b n (.code c::.inLoop c::.inBlock id::k) F (upds e' (sl i g)) ds X (hh g) (LL g):=by exact ndA)(h0:jv e (sl 0 g0):=by exact rds)(hw:∀w,St X h L w->St X (hh g0) (LL g0) w:=by exact sws):
  TT P b n (.code (.block id (.loop c))::k) F e ds X h L:=
 lpG xs sl hh LL J Lf g0 hb hs hJ h0 hw after cons nil
theorem lp1(xs:List α)(sl:Nat->γ->List (Nat×Value))(L':LH)(Lf:List α->Nat->γ->ρ)(g0:γ)(hb:xs.length<=9223372036854775807)(hs:x0=Lf xs 0 g0)(after:∀i g,i<=xs.length->x0=Lf [] i g->∀e',TT P b n k F (upds e' (sl i g)) ds X h L')(cons:∀i g y r,xs.drop i=y::r->decide ((i:Int)<(xs.length:Int))=true->xs[i]? = some y->i<xs.length->xs.length<=9223372036854775807->x0=Lf (y::r) i g ->
   (∀i' g' {e'},x0=Lf [] i' g'->(hi:i'<=xs.length:=by omega)->(hr:jv e' (sl i' g'):=by exact rds)->TT P b n k F e' ds X h L') ->
   (∀g' {e'},x0=Lf r (i+1) g'->(hr:jv e' (sl (i+1) g'):=by exact rds)->TT P b n (.inLoop c::.inBlock id::k) F e' ds X h L') ->
   ∀e',TT P b n (.code c::.inLoop c::.inBlock id::k) F (upds e' (sl i g)) ds X h L')(nil:∀i g,xs.drop i=[]->decide ((i:Int)<(xs.length:Int))=false->(∀e',jv e' (sl i g)->TT P b n k F e' ds X h L') ->
   ∀e',TT P b n (.code c::.inLoop c::.inBlock id::k) F (upds e' (sl i g)) ds X h L':=by exact ndA)(h0:jv e (sl 0 g0):=by exact rds)(hw:∀w,St X h L w->St X h L' w:=by exact sws):
  TT P b n (.code (.block id (.loop c))::k) F e ds X h L:=
 lpG xs sl (λ_=>h) (λ_=>L') (λ_ _=>True) Lf g0 hb hs trivial h0 hw (λi g a b _=>after i g a b) (λi g y r a1 a2 a3 a4 a5 a6 _ hx ag=>cons i g y r a1 a2 a3 a4 a5 a6 (λi' g' _ a hi hr=>hx i' g' a trivial hi hr) (λg' _ a hr=>ag g' a trivial hr)) nil
theorem lp0(xs:List α)(sl:Nat->List (Nat×Value))(L':LH)(Lf:List α->Nat->ρ)(hb:xs.length<=9223372036854775807)(hs:x0=Lf xs 0)(after:∀i,i<=xs.length->x0=Lf [] i->∀e',TT P b n k F (upds e' (sl i)) ds X h L')(cons:∀i y r,xs.drop i=y::r->decide ((i:Int)<(xs.length:Int))=true->xs[i]? = some y->i<xs.length->xs.length<=9223372036854775807->x0=Lf (y::r) i ->
   (∀i' {e'},x0=Lf [] i'->(hi:i'<=xs.length:=by omega)->(hr:jv e' (sl i'):=by exact rds)->TT P b n k F e' ds X h L') ->
   (∀{e'},x0=Lf r (i+1)->(hr:jv e' (sl (i+1)):=by exact rds)->TT P b n (.inLoop c::.inBlock id::k) F e' ds X h L') ->
   ∀e',TT P b n (.code c::.inLoop c::.inBlock id::k) F (upds e' (sl i)) ds X h L')(nil:∀i,xs.drop i=[]->decide ((i:Int)<(xs.length:Int))=false->(∀e',jv e' (sl i)->TT P b n k F e' ds X h L') ->
   ∀e',TT P b n (.code c::.inLoop c::.inBlock id::k) F (upds e' (sl i)) ds X h L':=by exact ndB)(h0:jv e (sl 0):=by exact rds)(hw:∀w,St X h L w->St X h L' w:=by exact sws):
  TT P b n (.code (.block id (.loop c))::k) F e ds X h L:=
 lpG (γ:=Unit) xs (λi _=>sl i) (λ_=>h) (λ_=>L') (λ_ _=>True) (λl i _=>Lf l i) () hb hs trivial h0 hw (λi _ a b _=>after i a b) (λi _ y r a1 a2 a3 a4 a5 a6 _ hx ag=>cons i y r a1 a2 a3 a4 a5 a6 (λi' _ a hi hr=>hx i' () a trivial hi hr) (λa hr=>ag () a trivial hr)) (λi _=>nil i)
theorem bL(m:Nat)(S:List Nat)(s d:Nat)(y:Bool){x:Bool}(hx:e s=.bool x)(t':x=false->(∀e',e' d=.bool y->(ha:Agr S e e':=by repeat (first|exact yF|refine BZ rfl ?_|refine Ca rfl ?_))->TO P b n ops (l.drop m) k F e' ds X h L)->TO P b n ops l k F (upd e s (.bool false)) ds X h L)(hk:∀e'',TO P b n ops (l.drop m) k F (upd (mix S e'' e) d (.bool (x||y))) ds X h L)(hq:∃e2,runQ n m (.to ops l k (upd e s (.bool true)))=some (.to ops (l.drop m) k e2)/\e2 d=.bool true/\Agr S e e2:=by exact⟨_,rfl,rfl,by repeat (first|exact yF|refine BZ rfl ?_|refine Ca rfl ?_)⟩):TO P b n ops l k F e ds X h L:=by
 refine Mp m S d (.bool (x||y)) (λhj=>?_) hk
 refine uN s hx (λc=>?_) (λc=>t' c (λe' he ha=>hj e' (he.trans (by rw[c];rfl)) ha))
 obtain⟨e2,h1,h2,h3⟩:=hq
 exact qO m h1 (hj e2 (h2.trans (by rw[c];rfl)) h3)
theorem aU(m:Nat)(S:List Nat)(s d:Nat)(y:Bool){x:Bool}(hx:e s=.bool x)(t':x=true->(∀e',e' d=.bool y->(ha:Agr S e e':=by repeat (first|exact yF|refine BZ rfl ?_|refine Ca rfl ?_))->TO P b n ops (l.drop m) k F e' ds X h L)->TO P b n ops l k F (upd e s (.bool true)) ds X h L)(hk:∀e'',TO P b n ops (l.drop m) k F (upd (mix S e'' e) d (.bool (x&&y))) ds X h L)(hq:∃e2,runQ n m (.to ops l k (upd e s (.bool false)))=some (.to ops (l.drop m) k e2)/\e2 d=.bool false/\Agr S e e2:=by exact⟨_,rfl,rfl,by repeat (first|exact yF|refine BZ rfl ?_|refine Ca rfl ?_)⟩):TO P b n ops l k F e ds X h L:=by
 refine Mp m S d (.bool (x&&y)) (λhj=>?_) hk
 refine uN s hx (λc=>t' c (λe' he ha=>hj e' (he.trans (by rw[c];rfl)) ha)) (λc=>?_)
 obtain⟨e2,h1,h2,h3⟩:=hq
 exact qO m h1 (hj e2 (h2.trans (by rw[c];rfl)) h3)
end
def look3:List (Nat×Nat×Nat)->Nat->Nat->Option Nat
 |[],_,_=>none
 |(a,b,c)::l,s,i=>bif Tq a s&&Tq b i then some c else look3 l s i
def tabOk(P:Program)(tF:List (Nat×Nat×Nat))(tY tS:List Nat):Bool:=
 tF.all (λx=>fldOf P x.1 x.2.1==some x.2.2)&&tY.all (λt=>tySz P t==some (1,false))&&tS.all (λt=>match P.underlying t with|some (.slice _)=>true|_=>false)
def QT:List (Nat×Nat)->Prop
 |[]=>True
 |(a,b)::q=>a=b/\QT q
def runL(tF:List (Nat×Nat×Nat))(tY tS:List Nat)(n:Nat)(L:LH):Nat->List Nat->Qs->Option (Qs×List (Nat×Nat))
 |0,_,s=>some (s,[])
 |m+1,is,.tt k e=>match qstepT k e with
  |some s=>runL tF tY tS n L m is s
  |none=>none
 |m+1,is,.to ops [] k e=>runL tF tY tS n L m is (.tt k e)
 |m+1,is,.to ops (⟨some d,op,ty,pos,af,g⟩::l) k e=>match jR d n with
  |false=>none
  |true=>match guardB ops e ⟨some d,op,ty,pos,af,g⟩with
   |false=>runL tF tY tS n L m is (.to ops l k (upd e d undef))
   |true=>match op with
    |.fieldAddr s x i=>match e.ev x,look3 tF s i with
     |.pointer (some a),some off=>runL tF tY tS n L m is (.to ops l k (upd e d (.pointer (some (a.add off)))))
     |_,_=>none
    |.load t x=>match e.ev x,is with
     |.pointer (some ⟨bk,off,none⟩),i::is=>match nth L i with
      |some (bk',.cells ⟨cl⟩ _ _)=>match nth cl off,memN tY t with
       |some v,true=>match runL tF tY tS n L m is (.to ops l k (upd e d v))with
        |some (s,q)=>some (s,(bk,bk')::q)
        |none=>none
       |_,_=>none
      |_=>none
     |_,_=>none
    |.call ⟨.builtin .len,⟨[x]⟩,⟨[t]⟩⟩=>match e.ev x,memN tS t with
     |.slice _ m' _,true=>runL tF tY tS n L m is (.to ops l k (upd e d (.int .i64 (m':Int))))
     |_,_=>none
    |op=>match opQ e op with
     |some v=>runL tF tY tS n L m is (.to ops l k (upd e d v))
     |none=>none
 |_+1,_,.to _ _ _ _=>none
theorem Fm:∀{l:List Nat}{a:Nat},memN l a=true->a∈l
 |[],_,h=>by cases h
 |b::l,a,h=>by
  unfold memN at h
  cases hb:Tq a b with
  |true=>rw[vT hb];exact zB ..
  |false=>rw[hb]at h;exact kA _ (Fm h)
theorem Cu:∀{l:List (Nat×Nat×Nat)}{s i o:Nat},look3 l s i=some o->(s,i,o)∈l
 |[],_,_,_,h=>by cases h
 |(a,b,c)::l,s,i,o,h=>by
  unfold look3 at h
  cases hb:Tq a s&&Tq b i with
  |true=>
   rw[hb]at h;cases h
   simp only[jA]at hb
   rw[vT hb.1,vT hb.2];exact zB ..
  |false=>rw[hb]at h;exact kA _ (Cu h)
section
variable {P:Program} {b:Frame} {n:Nat} {k:List Item} {F:List Frame->(Machine->Prop)->Prop} {e:Env} {ds:List Deferred} {X:Cx} {h:HF} {L:LH}
theorem so{tF:List (Nat×Nat×Nat)}{tY tS:List Nat}(hT:tabOk P tF tY tS=true):∀(m:Nat)(is:List Nat)(a:Qs){s:Qs}{q:List (Nat×Nat)},runL tF tY tS n L m is a=some (s,q)->QT q->s.holds P b n F ds X h L->a.holds P b n F ds X h L
 |0,is,a,s,q,hr,hq,t=>by
  simp only[runL,kQ,T8]at hr;rw[hr.1];exact t
 |m+1,is,.tt k e,s,q,hr,hq,t=>by
  unfold runL at hr
  split at hr
  .next hs=>exact Ht hs (so hT m _ _ hr hq t)
  .cases hr
 |m+1,is,.to ops [] k e,s,q,hr,hq,t=>by
  unfold runL at hr
  exact aI (so hT m _ _ hr hq t)
 |m+1,is,.to ops (⟨none,op,ty,pos,af,g⟩::l) k e,s,q,hr,hq,t=>by
  unfold runL at hr
  cases hr
 |m+1,is,.to ops (⟨some d,op,ty,pos,af,g⟩::l) k e,s,q,hr,hq,t=>by
  have hT':=hT
  simp only[tabOk,jA,SF]at hT'
  obtain⟨⟨h1,h2⟩,h3⟩:=hT'
  unfold runL at hr
  split at hr
  .cases hr
  .next hd=>
   split at hr
   .next hg=>exact Ix (so hT m _ _ hr hq t) hd hg
   .next hg=>
    split at hr
    .split at hr
     .next hx hl=>exact j8 (by simpa using h1 _ (Cu hl)) hx (so hT m _ _ hr hq t) hd hg
     .cases hr
    .split at hr
     .next hx=>
      split at hr
      .next hn=>
       split at hr
       .next hv hm=>
        split at hr
        .next hr2=>
         cases hr
         obtain⟨e1,hq⟩:=hq
         subst e1
         exact oB _ (by simpa using h2 _ (Fm hm)) hx hn hv (so hT m _ _ hr2 hq t) hd hg
        .cases hr
       .cases hr
      .cases hr
     .cases hr
    .split at hr
     .next hx hm=>
      have:=h3 _ (Fm hm)
      split at this
      .next hu=>exact MF hu hx (so hT m _ _ hr hq t) hd hg
      .cases this
     .cases hr
    .split at hr
     .next v hv=>
      obtain⟨g1,g2⟩:=Iw (P:=P) hv
      exact uj v g1 (λw _=>g2 _ _ _ _ _ w) hd hg (so hT m _ _ hr hq t)
     .cases hr
end
theorem sT{h:HF}{A:LH}{R:Ending->HF->LH->Prop}(hf:P.funcs[f]? = some fn)(hb:fn.body=some c)(hn:fn.ntmps=n)(hle:Nat.ble args.length n=true)(t:∀X:Cx,X.M=A.map (·.1)->X.h0=h->P.funcs[f]? = some fn->TT P (bodyFrame f) n [.code c] (mE P X R) (envArgs args) [] X h A):oo P f args.toArray h A R:=
 cH hf hb hn hle λX a b=>t X a b hf
section
variable {P:Program} {f:FuncId} {n:Nat} {k:List Item} {e:Env} {X:Cx} {h:HF} {L:LH} {fn:Func} {rs:List ResultVar} {φ : Value->HF->Prop}
theorem nretP{hh:HF}(vs:List Value)(hvv:retVal vs=v)(hf:P.funcs[f]? = some fn:=by assumption)(hr:fn.results=rs.toArray:=by rfl)(hX:X.h0=hh:=by assumption)(hv:uo P e L rs vs:=by exact rds):
  TT P (bodyFrame f) n (.code .ret::k) (mE P X (λx h' B=>x=.returned v/\h'=hh/\B=[])) e [] X h L:=tR vs hf hr hX hv hvv
theorem nretH(vs:List Value)(hφ : φ (retVal vs) h)(hf:P.funcs[f]? = some fn:=by assumption)(hr:fn.results=rs.toArray:=by rfl)(hv:uo P e L rs vs:=by exact rds):
  TT P (bodyFrame f) n (.code .ret::k) (mE P X (λx h' B=>B=[]/\∃v,x=.returned v/\φ v h')) e [] X h L:=ld vs hf hr hv hφ
end
section grows
variable {P:Program} {b:Frame} {n:Nat} {ops:Array Oper} {F:List Frame->(Machine->Prop)->Prop} {e:Env} {ds:List Deferred} {X:Cx} {h:HF} {L:LH} {K:Env->HF->LH->Prop} {d:Option Nat} {ty:TypeId} {pos:String} {af:Array Edge} {g:Option (Nat×Bool)}
variable {α : Type} {R:Rp α} {E:TypeId} {xs:List α} {base:Option Addr} {cap bk:Nat} {G:LH}
def InO(base:Option Addr)(G:LH)(k:Nat)(cs:List Value):Prop:=∃bk arr T fz,base=some ⟨bk,0,none⟩/\G=[(bk,zJ (List.toArray arr) T fz)]/\∀off v,nth cs off=some v->nth arr (k+off)=some v
theorem cZ.elem{h0:HF}{y:α}(hG:cZ R E h0 xs base cap G)(hi:xs[i]? = some y):∃cs,R.rep h0 cs y/\InO base G (i*R.sz) cs:=by
 rcases hG with⟨rfl,_⟩|⟨bk',cl,sp,e1,hc,_,_,_,rfl⟩
 .simp at hi
 .obtain⟨cs,hl,hr,hcell⟩:=hc.get i y hi
  refine⟨cs,hr,bk',cl++sp,E,(0,0),e1,rfl,λoff v hv=>?_⟩
  rw[ip]at hv ⊢
  have h9:=hcell off v hv
  rw[List.getElem?_append_left (by
   rcases kM (i*R.sz+off) cl.length with q|q
   .exact q
   .simp[kK q]at h9)]
  exact h9
theorem Fa{t:TypeId}{off:Nat}{cs:List Value}(hT:tySz P t=some (m,false))(hI:InO base G k cs)(hb:base=some ⟨bk,0,none⟩)(hv:nth cs off=some v)(hx:e.ev x=.pointer (some ⟨bk,k+off,none⟩))(hm:∀p∈G,p∈L):∀w,St X h L w->(execOp e.ev ⟨d,.load t x,ty,pos,af,g⟩).run P w=.ok (.value v) w:=by
 obtain⟨bk',arr,T,fz,e1,rfl,hc⟩:=hI
 rw[hb]at e1
 cases e1
 exact zg hT hx (hm _ (qC.2 rfl)) (hc off v hv)
theorem Ci{α:Type}{R:Rp α}{C:α->ρ->List Value}{ok:HF->α->ρ->Prop}{t E:TypeId}{ix:Operand}{base:Option Addr}{cap:Nat}{xs:List α}{y:α}{z:Int}(hT:P.underlying t=some (.slice E))(hS:tySz P E=some (R.sz,a))(hR:SlB R h base xs)(hz:0<=z/\z<(xs.length:Int))(hj:xs[z.toNat]? = some y)(hx:e.ev x=.slice base m cap)(hm:m=xs.length)(hix:e.ev ix=.int .i64 z)(hC:∀h cs y,R.rep h cs y->∃r,cs=C y r/\ok h y r)(t':∀q r,At h q (C y r)->ok h y r->K (pute e d (.pointer (some q))) h L)(hg:guardB ops e ⟨d,.indexAddr t x ix,ty,pos,af,g⟩=true:=by rfl):Stp P b n ops F ds X ⟨d,.indexAddr t x ix,ty,pos,af,g⟩ e h L K:=
 Mw hT hS hR hz hj hx hm hix (λq cs A ln rr=>by obtain⟨r,e1,o1⟩:=hC _ _ _ rr;subst e1;exact t' q r A o1) hg
theorem pm(A0 G Q:LH)(LL:LH->LH){ys:List α}{ass:Array Operand}{ats:Array TypeId}{vs:List Value}(hc:∀args w,(callFunc f args).run P w=.ok (.enter f args) w)(hs:oo P f vs.toArray h G (λr h' G'=>∃b c,h'=h/\r=.returned (.slice b ys.length c)/\cZ R E h ys b c G'))(hL:L=A0++(G++Q))(hLL:∀G,A0++(G++Q)=LL G)(hvs:ass.toList.map e.ev=vs)(t':∀b c G',cZ R E h ys b c G'->K (pute e d (.slice b ys.length c)) h (LL G'))(hg:guardB ops e ⟨d,.call ⟨.value (.func f),ass,ats⟩,ty,pos,af,g⟩=true:=by rfl):
  Stp P b n ops F ds X ⟨d,.call ⟨.value (.func f),ass,ats⟩,ty,pos,af,g⟩ e h L K:=by
 unfold Stp
 rw[if_pos hg]
 intro w hw
 subst hL
 have hp:∀G:LH,(A0++(G++Q)).Perm (G++(A0++Q)):=λG=>by
  rw[←vD,←vD];exact List.Perm.append_right Q List.perm_append_comm
 have hw':=hw.perm (hp G)
 have harr:ass.map e.ev=vs.toArray:=Array.ext' (by simp[←hvs])
 have hr:(execOp e.ev ⟨d,.call ⟨.value (.func f),ass,ats⟩,ty,pos,af,g⟩).run P w=.ok (.enter f vs.toArray) w:=by
  simp[execOp,resolve,Env.ev,Deferred.ofValue,invoke,harr,hc]
 rw[hr]
 refine lW (by simp) (jX (rL.mono (hs w hw'.pre.left) ?_))
 rintro x w' ⟨h',B,hst,bb,cc,rfl,rfl,hG⟩
 exact⟨h',_,hLL B▸(St.after (A:=G) (F:=A0++Q) hw' hst).perm (hp B).symm,t' bb cc B hG⟩
end grows
end
variable {K:LH}{R:Rp α}{af:Array Edge}{dn dn':List Nat}{e:Env}{m':Nat}{pos:String}{ty:TypeId}
section
theorem U.{u}{α : Sort u}{a:α}:a=a:=rfl
theorem kr(h:p:=by kernel_rfl):p:=h
theorem ob(h:p:=by first|assumption|omega|(simp only[] ;assumption)|(simp only[decide_eq_true_eq,decide_eq_false_iff_not,Bool.and_eq_true,Bool.or_eq_true,Bool.not_eq_true',Bool.not_eq_false',Bool.and_eq_false_iff,Bool.or_eq_false_iff,beq_iff_eq,beq_eq_false_iff_ne,bne_iff_ne,bne_eq_false_iff_eq,List.length_append,List.length_cons,List.length_nil,List.length_drop]at *;omega)):p:=h
theorem lo(h:p:=by simp only[List.length_append,List.length_cons,List.length_nil,List.length_take,List.length_drop];omega):p:=h
theorem ap(h:p:=by first|rfl|(simp only[List.append_assoc,List.cons_append,List.nil_append,List.append_nil];done)|(simp only[List.append_assoc,List.cons_append,List.nil_append,List.append_nil];rfl)|(rw[List.append_nil]<;>rfl)|(simp only[dropNth,List.append_assoc,List.cons_append,List.nil_append,List.append_nil];done)):p:=h
theorem lc(h:p:=by first|omega|(simp only[List.length_nil,List.length_cons]at *;omega)):p:=h
theorem rd(h:p:=by repeat (first|exact trivial|refine⟨rfl,?_⟩)):p:=h
theorem jn{h:HF}{L:LH}(hs:K.Sublist L:=by repeat (first|exact List.Sublist.refl _|exact List.nil_sublist _|exact List.sublist_append_left _ _|refine List.Sublist.cons_cons _ ?_|refine List.Sublist.cons _ ?_)):Jst h K h L:=BA hs
theorem js{L:LH}(hs:K.Sublist L:=by repeat (first|exact List.Sublist.refl _|exact List.nil_sublist _|exact List.sublist_append_left _ _|refine List.Sublist.cons_cons _ ?_|refine List.Sublist.cons _ ?_)):K.Sublist L:=hs
theorem mh{G L:LH}(h:∀p∈G,p∈L:=by intro p hp;simp only[List.mem_append,List.mem_cons,hp,true_or,or_true]):∀p∈G,p∈L:=h
theorem mj{h1 h':HF}{L' G:LH}(hj:Jst h1 K h' L')(h:∀p∈G,p∈K:=by intro p hp;simp only[List.mem_append,List.mem_cons,hp,true_or,or_true]):∀p∈G,p∈L':=λp hp=>hj.2 p (h p hp)
theorem ei{enc:α->List Value}(h:∀h cs x,R.rep h cs x->cs=enc x:=by exact λ_ _ _ e=>e):∀h cs x,R.rep h cs x->cs=enc x:=h
theorem lf{h:HF}:h.le h:=HF.le_refl h
theorem xf(h:p:=by first|exact λ_ _ _ h=>h.elim|exact λ_ _ _ _ h=>h.elim):p:=h
theorem cb{b:Bool}(h:a=b):SW a=SW b:=congrArg SW h
theorem cs{b:Bool}(h:a=b):SW b=SW a:=congrArg SW h.symm
theorem ci{a:Int}(h:a=b):zD .i64 b=zD .i64 a:=congrArg (zD .i64) h.symm
abbrev O(l:List Value)(t:Nat):Obj:=zJ l.toArray t (0,0)
abbrev Y(x:Int):Value:=.int .u8 x
abbrev Q(b:Nat):Value:=.pointer (some ⟨b,0,none⟩)
abbrev I(x:Int):Value:=.int .i64 x
theorem HF.le.t{a b c:HF}(x:a.le b)(y:b.le c):a.le c:=HF.le_trans x y
section
variable {P:Program} {b:Frame} {n:Nat} {k:List Item} {F:List Frame->(Machine->Prop)->Prop} {ds:List Deferred} {X:Cx}
theorem tf(i:Nat){h1:HF}{d:Nat}{oi:Oper}{h:HF}{L:LH}(hi:nth l i=some oi)(hd:oi.dst=some d)(hr:∀h' L',Jst h1 K h' L'->∀w,St X h' L' w->(execOp e.ev oi).run P w=.ok (.value v) w)(t:TA P b n l.toArray k F ds X (Jst h1 K) m (i::dn) (upd e d v) h L)(hsep:sepAll l.toArray=true:=by assumption)(hJ:Jst h1 K h L:=by exact jn)(hn:(nexts l.toArray dn).contains i=true:=by kernel_rfl)(hg:guardB l.toArray e oi=true:=by rfl):TA P b n l.toArray k F ds X (Jst h1 K) (m+1) dn e h L:=
 iJ i hsep hJ hi hd hn hg hr t
theorem tm(i:Nat){h1:HF}{d:Nat}{g:Option (Nat×Bool)}{h:HF}{L:LH}(hi:nth l i=some ⟨some d,.move x,ty,pos,af,g⟩)(t:TA P b n l.toArray k F ds X (Jst h1 K) m (i::dn) (upd e d (e.ev x)) h L)(hsep:sepAll l.toArray=true:=by assumption)(hJ:Jst h1 K h L:=by exact jn)(hn:(nexts l.toArray dn).contains i=true:=by kernel_rfl)(hg:guardB l.toArray e ⟨some d,.move x,ty,pos,af,g⟩=true:=by rfl):TA P b n l.toArray k F ds X (Jst h1 K) (m+1) dn e h L:=
 iJ i hsep hJ hi rfl hn hg (λ_ _ _=>mz) t
theorem tk(i:Nat){h1:HF}{d:Nat}{oi:Oper}{h:HF}{L:LH}(hi:nth l i=some oi)(hd:oi.dst=some d)(t:TA P b n l.toArray k F ds X (Jst h1 K) m (i::dn) (upd e d undef) h L)(hsep:sepAll l.toArray=true:=by assumption)(hJ:Jst h1 K h L:=by exact jn)(hn:(nexts l.toArray dn).contains i=true:=by kernel_rfl)(hg:guardB l.toArray e oi=false:=by rfl):TA P b n l.toArray k F ds X (Jst h1 K) (m+1) dn e h L:=
 m9 i hsep hJ hi hd hn hg t
theorem tn(i:Nat){h1:HF}{oi:Oper}{h:HF}{L:LH}(hi:nth l i=some oi)(t:Stp P b n l.toArray F ds X oi e h L λe' h' L'=>Jst h1 K h' L'/\TA P b n l.toArray k F ds X (Jst h1 K) m (i::dn) e' h' L')(hn:nexts l.toArray dn=[i]:=by kernel_rfl):TA P b n l.toArray k F ds X (Jst h1 K) (m+1) dn e h L:=
 Q9 i hn hi t
theorem sr{y:Code}{h:HF}{L:LH}(t:TO P b n l.toArray l (.code y::k) F e ds X h L):TT P b n (.code (.seq (.region id l.toArray false) y)::k) F e ds X h L:=ew (bC t)
theorem an{d:Nat}{g:Option (Nat×Bool)}{h:HF}{L:LH}(t:TT P b n k F (upd e d (e.ev x)) ds X h L)(hd:Nat.blt d n=true:=by rfl)(hg:guardB ops e ⟨some d,.assign x,ty,pos,af,g⟩=true:=by rfl):TO P b n ops [⟨some d,.assign x,ty,pos,af,g⟩] k F e ds X h L:=gu (aI t) hd hg
theorem kq{d d':Nat}{op':Op}{ty':TypeId}{pos':String}{af':Array Edge}{g g':Option (Nat×Bool)}{h:HF}{L:LH}(t:TO P b n ops l k F (upd (upd e d undef) d' undef) ds X h L)(hd:Nat.blt d n=true:=by rfl)(hg:guardB ops e ⟨some d,op,ty,pos,af,g⟩=false:=by rfl)(hd':Nat.blt d' n=true:=by rfl)(hg':guardB ops (upd e d undef) ⟨some d',op',ty',pos',af',g'⟩=false:=by rfl):TO P b n ops (⟨some d,op,ty,pos,af,g⟩::⟨some d',op',ty',pos',af',g'⟩::l) k F e ds X h L:=Ix (Ix t hd' hg') hd hg
def runA(l:List Oper):List Nat->Nat->List Nat->Env->Option (Nat×List Nat×Env)
 |[],m,dn,e=>some (m,dn,e)
 |i::is,m,dn,e=>match m with
  |0=>none
  |m+1=>match nth l i with
   |some ⟨some d,op,ty,pos,af,g⟩=>match guardB l.toArray e ⟨some d,op,ty,pos,af,g⟩with
    |false=>runA l is m (i::dn) (upd e d undef)
    |true=>match opQ e op with
     |some v=>runA l is m (i::dn) (upd e d v)
     |none=>none
   |_=>none
def allNext(l:List Oper):List Nat->List Nat->Bool
 |[],_=>true
 |i::is,dn=>(nexts l.toArray dn).contains i&&allNext l is (i::dn)
theorem D8{l:List Oper}{h1:HF}{K:LH}{h:HF}{L:LH}(hsep:sepAll l.toArray=true)(hJ:Jst h1 K h L):∀(is:List Nat)(m:Nat)(dn:List Nat)(e:Env){m':Nat}{dn':List Nat}{e':Env},runA l is m dn e=some (m',dn',e')->allNext l is dn=true->TA P b n l.toArray k F ds X (Jst h1 K) m' dn' e' h L->TA P b n l.toArray k F ds X (Jst h1 K) m dn e h L
 |[],m,dn,e,_,_,_,hr,_,t=>by cases hr;exact t
 |i::is,0,dn,e,_,_,_,hr,_,_=>by simp[runA]at hr
 |i::is,m+1,dn,e,_,_,_,hr,hn,t=>by
  simp only[allNext,jA]at hn
  simp only[runA]at hr
  split at hr
  .next hi=>
   split at hr
   .next hg=>exact m9 i hsep hJ hi rfl hn.1 hg (D8 hsep hJ is m _ _ hr hn.2 t)
   .next hg=>
    split at hr
    .next v hv=>exact iJ i hsep hJ hi rfl hn.1 hg (λ_ _ _ w _=>(Iw hv).2 _ _ _ _ _ w) (D8 hsep hJ is m _ _ hr hn.2 t)
    .cases hr
  .cases hr
theorem qA(is:List Nat){h1:HF}{h:HF}{L:LH}(hr:runA l is m dn e=some (m',dn',e'))(t:TA P b n l.toArray k F ds X (Jst h1 K) m' dn' e' h L)(hsep:sepAll l.toArray=true:=by assumption)(hJ:Jst h1 K h L:=by exact jn)(hn:allNext l is dn=true:=by kernel_rfl):TA P b n l.toArray k F ds X (Jst h1 K) m dn e h L:=D8 hsep hJ is m dn e hr hn t
theorem qR(a c:Nat){h1:HF}{h:HF}{L:LH}(hr:runA l (List.range' a c) m dn e=some (m',dn',e'))(t:TA P b n l.toArray k F ds X (Jst h1 K) m' dn' e' h L)(hsep:sepAll l.toArray=true:=by assumption)(hJ:Jst h1 K h L:=by exact jn)(hn:allNext l (List.range' a c) dn=true:=by kernel_rfl):TA P b n l.toArray k F ds X (Jst h1 K) m dn e h L:=D8 hsep hJ _ m dn e hr hn t
def opB(tF:List (Nat×Nat×Nat))(e:Env):Op->Option Value
 |.fieldAddr s x i=>match e.ev x,look3 tF s i with
  |.pointer (some a),some off=>some (.pointer (some (a.add off)))
  |_,_=>none
 |op=>opQ e op
theorem Rl{tF:List (Nat×Nat×Nat)}(hT:(tF.all λx=>fldOf P x.1 x.2.1==some x.2.2)=true)(hv:opB tF e op=some v)(h:HF)(L:LH)(d:Option Nat)(ty:TypeId)(pos:String)(af:Array Edge)(g:Option (Nat×Bool)):∀w,St X h L w->(execOp e.ev ⟨d,op,ty,pos,af,g⟩).run P w=.ok (.value v) w:=by
 unfold opB at hv
 split at hv
 .split at hv
  .next hx hl=>
   cases hv
   exact tc (by simpa using(SF.1 hT) _ (Cu hl)) hx
  .cases hv
 .exact λw _=>(Iw hv).2 _ _ _ _ _ w
def runB(tF:List (Nat×Nat×Nat))(l:List Oper):List Nat->Nat->List Nat->Env->Option (Nat×List Nat×Env)
 |[],m,dn,e=>some (m,dn,e)
 |i::is,m,dn,e=>match m with
  |0=>none
  |m+1=>match nth l i with
   |some ⟨some d,op,ty,pos,af,g⟩=>match guardB l.toArray e ⟨some d,op,ty,pos,af,g⟩with
    |false=>runB tF l is m (i::dn) (upd e d undef)
    |true=>match opB tF e op with
     |some v=>runB tF l is m (i::dn) (upd e d v)
     |none=>none
   |_=>none
theorem D7{tF:List (Nat×Nat×Nat)}(hT:(tF.all λx=>fldOf P x.1 x.2.1==some x.2.2)=true){l:List Oper}{h1:HF}{K:LH}{h:HF}{L:LH}(hsep:sepAll l.toArray=true)(hJ:Jst h1 K h L):∀(is:List Nat)(m:Nat)(dn:List Nat)(e:Env){m':Nat}{dn':List Nat}{e':Env},runB tF l is m dn e=some (m',dn',e')->allNext l is dn=true->TA P b n l.toArray k F ds X (Jst h1 K) m' dn' e' h L->TA P b n l.toArray k F ds X (Jst h1 K) m dn e h L
 |[],m,dn,e,_,_,_,hr,_,t=>by cases hr;exact t
 |i::is,0,dn,e,_,_,_,hr,_,_=>by simp[runB]at hr
 |i::is,m+1,dn,e,_,_,_,hr,hn,t=>by
  simp only[allNext,jA]at hn
  simp only[runB]at hr
  split at hr
  .next hi=>
   split at hr
   .next hg=>exact m9 i hsep hJ hi rfl hn.1 hg (D7 hT hsep hJ is m _ _ hr hn.2 t)
   .next hg=>
    split at hr
    .next v hv=>exact iJ i hsep hJ hi rfl hn.1 hg (λh' L' _ w hw=>Rl hT hv h' L' _ _ _ _ _ w hw) (D7 hT hsep hJ is m _ _ hr hn.2 t)
    .cases hr
  .cases hr
theorem tu{h1 h2:HF}(hle:h1.le h2){h:HF}{L:LH}(t:TA P b n ops k F ds X (Jst h2 K) m dn e h L):TA P b n ops k F ds X (Jst h1 K) m dn e h L:=lk hle (λ_ hp=>hp) t
end
theorem jl{h h2:HF}{L:LH}(hle:h.le h2)(hs:K.Sublist L:=by repeat (first|exact List.Sublist.refl _|exact List.nil_sublist _|exact List.sublist_append_left _ _|refine List.Sublist.cons_cons _ ?_|refine List.Sublist.cons _ ?_)):Jst h K h2 L:=⟨hle,λ_ hp=>hs.subset hp⟩
theorem sw(h:p:=by first|exact λw hw=>hw|(intro w hw;first|simpa only[List.append_assoc,List.cons_append,List.nil_append,List.append_nil]using hw|(simp only[List.append_assoc,List.cons_append,List.nil_append,List.append_nil]at hw ⊢;exact hw))):p:=h
section
variable {P:Program} {b:Frame} {n:Nat} {k:List Item} {F:List Frame->(Machine->Prop)->Prop} {ds:List Deferred} {X:Cx} {ops:Array Oper} {l:List Oper} {d:Nat} {op:BinOp} {t u ty:TypeId} {x y:Operand} {pos:String} {af:Array Edge} {g:Option (Nat×Bool)} {e:Env} {h:HF} {L:LH}
theorem oi(i:Nat)(hv:binV op (e.ev x) (e.ev y)=some (.int .i64 (IntKind.i64.wrap ((i:Int)+1))))(t':TO P b n ops l k F (upd e d (.int .i64 (((i+1):Nat):Int))) ds X h L)(hb:i<9223372036854775807:=by exact ob)(hd:Nat.blt d n=true:=by rfl)(hg:guardB ops e ⟨some d,.binOp op t x y u,ty,pos,af,g⟩=true:=by rfl):
  TO P b n ops (⟨some d,.binOp op t x y u,ty,pos,af,g⟩::l) k F e ds X h L:=j9 hv (LO hb) t' hd hg
theorem tO(ha:a=true)(hv:binV op (e.ev x) (e.ev y)=some (.bool a))(t':TO P b n ops l k F (upd e d (.bool true)) ds X h L)(hd:Nat.blt d n=true:=by rfl)(hg:guardB ops e ⟨some d,.binOp op t x y u,ty,pos,af,g⟩=true:=by rfl):
  TO P b n ops (⟨some d,.binOp op t x y u,ty,pos,af,g⟩::l) k F e ds X h L:=j9 hv (cb ha) t' hd hg
theorem fO(ha:a=false)(hv:binV op (e.ev x) (e.ev y)=some (.bool a))(t':TO P b n ops l k F (upd e d (.bool false)) ds X h L)(hd:Nat.blt d n=true:=by rfl)(hg:guardB ops e ⟨some d,.binOp op t x y u,ty,pos,af,g⟩=true:=by rfl):
  TO P b n ops (⟨some d,.binOp op t x y u,ty,pos,af,g⟩::l) k F e ds X h L:=j9 hv (cb ha) t' hd hg
end
section
variable {P:Program} {d:Option Nat} {ty t:TypeId} {pos:String} {af:Array Edge} {g:Option (Nat×Bool)} {x:Operand} {m bk off T:Nat} {fz:Nat×Nat} {cl cs:List Value} {v:Value} {e:Env} {X:Cx} {h1:HF} {K:LH} {q:Addr}
theorem rj(i:Nat)(hT:tySz P t=some (m,false))(hx:e.ev x=.pointer (some ⟨bk,off,none⟩))(hi:nth K i=some (bk,zJ cl.toArray T fz))(hv:nth cl off=some v):∀h' L',Jst h1 K h' L'->∀w,St X h' L' w->(execOp e.ev ⟨d,.load t x,ty,pos,af,g⟩).run P w=.ok (.value v) w:=λ_ _ hj=>zg hT hx (hj.nth hi) hv
theorem rh(hT:tySz P t=some (m,false))(ha:At h1 q (v::cs))(hx:e.ev x=.pointer (some q)):∀h' L',Jst h1 K h' L'->∀w,St X h' L' w->(execOp e.ev ⟨d,.load t x,ty,pos,af,g⟩).run P w=.ok (.value v) w:=λ_ _ hj=>Rh hT (ha.mono hj.1) hx
theorem rH(j:Nat)(hT:tySz P t=some (m,false))(ha:At h1 q cs)(hx:e.ev x=.pointer (some (q.add j)))(hv:nth cs j=some v):∀h' L',Jst h1 K h' L'->∀w,St X h' L' w->(execOp e.ev ⟨d,.load t x,ty,pos,af,g⟩).run P w=.ok (.value v) w:=λ_ _ hj=>QY j hT (ha.mono hj.1) hx hv
end
section
variable {P:Program} {b:Frame} {n:Nat} {ops:Array Oper} {F:List Frame->(Machine->Prop)->Prop} {ds:List Deferred} {X:Cx} {e:Env} {h:HF} {L:LH} {d:Option Nat} {ty:TypeId} {pos:String} {af:Array Edge} {g:Option (Nat×Bool)} {K:Env->HF->LH->Prop} {α : Type} {R:Rp α} {t E:TypeId} {x ix:Operand} {a:Bool} {base:Option Addr} {m cap:Nat} {xs:List α} {y:α} {i:Nat}
theorem iF(enc:α->List Value)(hT:P.underlying t=some (.slice E))(hS:tySz P E=some (R.sz,a))(hR:SlB R h base xs)(hj:xs[i]? = some y)(hx:e.ev x=.slice base m cap)(hm:m=xs.length)(hix:e.ev ix=.int .i64 (i:Int))(t':∀q,At h q (enc y)->K (pute e d (.pointer (some q))) h L)(hR':∀h cs x,R.rep h cs x->cs=enc x:=by exact λ_ _ _ e=>e)(hg:guardB ops e ⟨d,.indexAddr t x ix,ty,pos,af,g⟩=true:=by rfl):Stp P b n ops F ds X ⟨d,.indexAddr t x ix,ty,pos,af,g⟩ e h L K:=rO hR' hT hS hR (nthZ hj) (dq hj) hx hm hix t' hg
theorem iG(hT:P.underlying t=some (.slice E))(hS:tySz P E=some (R.sz,a))(hR:SlB R h base xs)(hj:xs[i]? = some y)(hx:e.ev x=.slice base m cap)(hm:m=xs.length)(hix:e.ev ix=.int .i64 (i:Int))(t':∀q cs,At h q cs->cs.length=R.sz->R.rep h cs y->K (pute e d (.pointer (some q))) h L)(hg:guardB ops e ⟨d,.indexAddr t x ix,ty,pos,af,g⟩=true:=by rfl):Stp P b n ops F ds X ⟨d,.indexAddr t x ix,ty,pos,af,g⟩ e h L K:=Mw hT hS hR (nthZ hj) (dq hj) hx hm hix t' hg
theorem iR{C:α->ρ->List Value}{ok:HF->α->ρ->Prop}(hT:P.underlying t=some (.slice E))(hS:tySz P E=some (R.sz,a))(hR:SlB R h base xs)(hj:xs[i]? = some y)(hx:e.ev x=.slice base m cap)(hm:m=xs.length)(hix:e.ev ix=.int .i64 (i:Int))(hC:∀h cs y,R.rep h cs y->∃r,cs=C y r/\ok h y r)(t':∀q r,At h q (C y r)->ok h y r->K (pute e d (.pointer (some q))) h L)(hg:guardB ops e ⟨d,.indexAddr t x ix,ty,pos,af,g⟩=true:=by rfl):Stp P b n ops F ds X ⟨d,.indexAddr t x ix,ty,pos,af,g⟩ e h L K:=Ci hT hS hR (nthZ hj) (dq hj) hx hm hix hC t' hg
end
theorem cE(y:α){h:HF}{cs:List Value}(hl:cs.length=R.sz)(hr:R.rep h cs y):aY R h cs [y]:=⟨cs,[],by simp,hl,hr,rfl⟩
end
section
open Go.Proofs
abbrev dy := @Tryz.underlying31
abbrev mi := @Tryz.underlying60
abbrev ox := @Tryz.underlying3
abbrev nr := @Tryz.underlying23
abbrev oD := @Tryz.underlying28
abbrev pg := @Tryz.underlying24
abbrev sf := @Tryz.underlying27
abbrev vq := @Tryz.underlying59
abbrev wP := @Tryz.call100
abbrev xg := @Tryz.underlying26
abbrev sO := @Tryz.underlying22
abbrev sN := @Tryz.call363
abbrev uM := @Tryz.call51
abbrev wy := @Tryz.underlying58
abbrev AU := @Tryz.underlying9
abbrev wx := @Tryz.call47
abbrev zI := @Tryz.underlying25
abbrev zz := @Tryz.call324
abbrev AT := @Tryz.call149
abbrev AS := @Tryz.underlying190
abbrev AR := @Tryz.func195
abbrev C3 := @Tryz.call201
abbrev C2 := @Tryz.call207
abbrev Sc := @Tryz.underlying4
abbrev C1 := @Tryz.call243
abbrev C0 := @Tryz.underlying378
abbrev CZ := @Tryz.underlying381
abbrev CY := @Tryz.call352
abbrev Eo := @Tryz.call90
abbrev En := @Tryz.func205
abbrev Em := @Tryz.func50
abbrev El := @Tryz.func27
abbrev Ek := @Tryz.call253
abbrev Hg := @Tryz.call175
abbrev Hf := @Tryz.func329
abbrev He := @Tryz.func280
abbrev Hd := @Tryz.call103
abbrev Hc := @Tryz.underlying270
abbrev Hb := @Tryz.underlying57
abbrev Ha := @Tryz.call48
abbrev OB := @Tryz.func4
abbrev Jf := @Tryz.underlying182
abbrev Je := @Tryz.call132
abbrev Jd := @Tryz.call281
abbrev Jc := @Tryz.call199
abbrev Jb := @Tryz.func208
abbrev Ja := @Tryz.ntmps50
abbrev I9 := @Tryz.call50
abbrev I8 := @Tryz.underlying153
abbrev I7 := @Tryz.func22
abbrev I6 := @Tryz.underlying236
abbrev I5 := @Tryz.underlying129
abbrev I4 := @Tryz.call307
abbrev I3 := @Tryz.call252
abbrev Mm := @Tryz.underlying64
abbrev OA := @Tryz.underlying30
abbrev Ml := @Tryz.underlying267
abbrev Mk := @Tryz.underlying279
abbrev Mj := @Tryz.underlying284
abbrev Mi := @Tryz.call282
abbrev Mh := @Tryz.func278
abbrev Mg := @Tryz.func279
abbrev Mf := @Tryz.func277
abbrev Sb := @Tryz.func211
abbrev Me := @Tryz.underlying162
abbrev Md := @Tryz.func31
abbrev Mc := @Tryz.underlying193
abbrev Mb := @Tryz.func255
abbrev Ma := @Tryz.func16
abbrev L8 := @Tryz.call11
abbrev L7 := @Tryz.call227
abbrev L5 := @Tryz.func249
abbrev Sa := @Tryz.underlying5
abbrev Oz := @Tryz.underlying274
abbrev Oy := @Tryz.call89
abbrev Ox := @Tryz.call202
abbrev Ow := @Tryz.call200
abbrev Ov := @Tryz.call284
abbrev Ou := @Tryz.underlying20
abbrev Ot := @Tryz.func323
abbrev Oq := @Tryz.func185
abbrev Oo := @Tryz.call125
abbrev On := @Tryz.underlying37
abbrev tz_83 := @Tryz.underlying0
abbrev QV := @Tryz.underlying249
abbrev Om := @Tryz.func288
abbrev Ol := @Tryz.func105
abbrev Ok := @Tryz.func262
abbrev Oj := @Tryz.underlying240
abbrev Oi := @Tryz.func275
abbrev Oh := @Tryz.call88
abbrev Og := @Tryz.underlying56
abbrev Oe := @Tryz.call13
abbrev Od := @Tryz.func167
abbrev Oc := @Tryz.func333
abbrev Ob := @Tryz.func293
abbrev Oa := @Tryz.underlying68
abbrev N9 := @Tryz.func177
abbrev N8 := @Tryz.underlying67
abbrev N7 := @Tryz.func330
abbrev Ld := @Tryz.func186
abbrev Lc := @Tryz.call97
abbrev Lb := @Tryz.underlying126
abbrev La := @Tryz.call240
abbrev K9 := @Tryz.call244
abbrev K8 := @Tryz.call245
abbrev K7 := @Tryz.call246
abbrev K6 := @Tryz.call157
abbrev K5 := @Tryz.call160
abbrev K0 := @Tryz.call313
end
variable {H:Type}{T:TypeId}{fuel:Nat}{ps:List MemPlace}
section
open Go.Proofs Go.Proofs.Tryz
set_option maxHeartbeats 2000000
def hOf(w:World):HF:=λb=>w.heap[b]?
theorem pre_hOf(w:World):Pre (hOf w) [] w:=⟨λ_ _ h=>h,λ_ hp=>(vA hp).elim,S7,λ_ hp=>(vA hp).elim⟩
theorem M4{w:World}{a:Addr}(h:w.cell? a=some v):a.spot=none/\∃c T fz,w.heap[a.block]? = some (.cells c T fz)/\c[a.off]? = some v:=by
 unfold World.cell? at h
 split at h
 .next c T fz e=>
  split at h
  .cases h
  .next hs=>exact⟨by simpa using hs,c,T,fz,e,h⟩
 .cases h
theorem Kb{α β : Type}{f:α->Option β}:∀{l:List α}{r:List β},l.mapM f=some r->l.length=r.length/\∀(j:Nat)(x:α),l[j]? = some x->f x=r[j]?
 |[],r,h=>by simp at h;subst h;exact⟨rfl,λj x hj=>by simp at hj⟩
 |a::l,r,h=>by
  rw[List.mapM_cons]at h
  simp only[Option.bind_eq_bind,Option.bind_eq_some_iff,Option.pure_def,kQ]at h
  obtain⟨b,hb,r',hr,rfl⟩:=h
  obtain⟨h1,h2⟩:=Kb hr
  refine⟨by simp[h1],λj x hj=>?_⟩
  cases j with
  |zero=>simp at hj;subst hj;simpa using hb
  |succ j=>simpa using h2 j x (by simpa using hj)
theorem PY{w:World}{base:Nat}{a:Addr}{cs:List Value}(hn:0<n)(h:w.cells? base a n=some cs):At (hOf w) a cs/\cs.length=n:=by
 unfold World.cells? at h
 split at h
 .obtain⟨h1,h2⟩:=Kb h
  rw[List.length_range]at h1
  have hc:∀j v,cs[j]? = some v->w.cell? (a.add j)=some v:=λj v hv=>by
   have hj:=(List.getElem?_eq_some_iff.1 hv).1
   rw[h2 j j (List.getElem?_range (by omega))];exact hv
  obtain⟨v,hv⟩:∃v,cs[0]? = some v:=⟨cs[0],zG (by omega)⟩
  obtain⟨s1,c,T,fz,s2,s3⟩:=M4 (hc 0 v hv)
  have hsp:a.spot=none:=by simpa[xT]using s1
  have hbl:∀j,(a.add j).block=a.block/\(a.add j).off=a.off+j:=λj=>by
   unfold xT
   split
   .next e=>subst e;exact⟨rfl,rfl⟩
   .exact⟨rfl,rfl⟩
  refine⟨⟨c,T,fz,?_,hsp,λj u hu=>?_⟩,h1.symm⟩
  .rw[(hbl 0).1]at s2;exact s2
  .obtain⟨_,c',T',fz',t2,t3⟩:=M4 (hc j u hu)
   rw[(hbl j).1]at t2
   rw[(hbl 0).1,t2]at s2
   cases s2
   rw[(hbl j).2]at t3;exact t3
 .cases h
def szL{α : Type}(f:α->Nat):List α->Nat
 |[]=>0
 |x::xs=>f x+szL f xs
theorem Ey{α : Type}(f:α->Nat):∀(l r:List α),szL f (l++r)=szL f l+szL f r
 |[],r=>by simp[szL]
 |x::l,r=>by simp[szL,Ey f l r,Nat.add_assoc]
theorem pj{α : Type}{f:α->Nat}(hf:∀x,1<=f x):∀(l:List α),l.length<=szL f l
 |[]=>vG _
 |x::l=>by have:=pj hf l;have:=hf x;simp[szL];omega
theorem Ic{α : Type}{f:α->Nat}{x:α}:∀{l:List α},x∈l->f x<=szL f l
 |y::l,h=>by
  rcases jB.1 h with rfl|h
  .simp[szL]
  .have:=Ic (f:=f) h;simp[szL];omega
theorem Mr:∀(l:List Expr),szL Expr.dep l=Uj l
 |[]=>rfl
 |y::l=>by simp[szL,Uj,Mr l]
open YtpplkjhgggjaoaaGreatDoor.Rows in
theorem bulk_one(d:DataW H):1<=uptoBulk d:=by
 cases d with
 |lit l=>cases l<;>simp[uptoBulk]
 |nil=>simp[uptoBulk]
 |ptr d=>simp[uptoBulk]
 |slice elems spare=>simp[uptoBulk]
 |agg parts=>simp[uptoBulk]
 |iface t d=>simp[uptoBulk]
 |map entries=>simp[uptoBulk]
 |held h=>simp[uptoBulk]
open YtpplkjhgggjaoaaGreatDoor.Rows in
theorem KR(l r:List (DataW H)):uptoBulkAll (l++r)=uptoBulkAll l+uptoBulkAll r:=by
 induction l with
 |nil=>simp[uptoBulkAll]
 |cons x l ih=>simp only[vR,uptoBulkAll,ih];omega
section opn
open YtpplkjhgggjaoaaGreatDoor.Rows
variable {H:Type} {enc:TypeId×Value->H} {P:Program} {w:World} {base:Nat} {sp:Nat->Bool} {held:Bool}
def Opn(enc:TypeId×Value->H)(P:Program)(w:World)(base:Nat)(sp:Nat->Bool)(held:Bool){α : Type}(T:TypeId)(R:Rp α)(sz:α->Nat)(fuel:Nat):Prop:=
 ∀cs d ps,DataW.trod enc P w base sp held fuel T cs=some (d,ps)->∃x,R.rep (hOf w) cs x/\sz x<=uptoBulk d
theorem ly{sz:α->Nat}{E:TypeId}(ht:P.underlying T=some (.slice E))(hc:P.cellsOf E=R.sz)(hp:0<R.sz)(he:∀n,fuel=n+1->Opn enc P w base sp held E R sz n){cs:List Value}{d:DataW H}(h:DataW.trod enc P w base sp held fuel T cs=some (d,ps)):∃b c xs,cs=[.slice b (List.length xs) c]/\SlC R (hOf w) b c xs/\szL sz xs+1<=uptoBulk d:=by
 rcases DataW.trod_slice ht h with⟨rfl,e⟩|⟨a,len,cap,elems,rest,n,hn,rfl,hx,h1,h2,h3,h4,h5,_,_⟩
 .cases e
  exact⟨none,0,[],rfl,SlC.nil,by simp[szL,uptoBulk]⟩
 .cases hx
  have key:∀k,k<=len->∃xs:List α,xs.length=k/\(∀i x,xs[i]? = some x->∃cs',At (hOf w) (a.add (i*R.sz)) cs'/\cs'.length=R.sz/\R.rep (hOf w) cs' x)/\szL sz xs<=uptoBulkAll ((elems.take k).map (·.1)):=by
   intro k
   induction k with
   |zero=>exact λ_=>⟨[],rfl,λi x hx=>by simp at hx,by simp[szL]⟩
   |succ k ih=>
    intro hk
    obtain⟨xs,e1,e2,e3⟩:=ih (by omega)
    have hkl:k<elems.length:=by omega
    have c0:=h5 k (by omega)
    rw[zG hkl]at c0
    obtain⟨cs',c1,c2⟩:=Option.bind_eq_some_iff.1 c0
    rw[hc]at c1
    obtain⟨x,x1,x2⟩:=he n hn _ _ _ c2
    obtain⟨k1,k2⟩:=PY hp c1
    refine⟨xs++[x],by simp[e1],λi y hy=>?_,?_⟩
    .rcases kM i xs.length with hi|hi
     .rw[List.getElem?_append_left hi]at hy;exact e2 i y hy
     .rw[List.getElem?_append_right hi]at hy
      have hi2:i=k:=by
       have:=(List.getElem?_eq_some_iff.1 hy).1
       simp at this;omega
      subst hi2
      rw[show i-xs.length=0 from by omega]at hy
      simp at hy;subst hy
      exact⟨cs',k1,k2,x1⟩
    .rw[Ey,List.take_add_one,SP,KR,zG hkl]
     simp only[szL,Option.toList_some,jJ,T2,uptoBulkAll]
     have x3:sz x<=uptoBulk (elems[k]).1:=x2
     omega
  obtain⟨xs,e1,e2,e3⟩:=key len (vG _)
  refine⟨some a,cap,xs,by rw[e1],⟨⟨?_,λi x hx=>?_⟩,by omega⟩,?_⟩
  .have:maxLen<=9223372036854775807:=by decide
   omega
  .obtain⟨cs',k1,k2,k3⟩:=e2 i x hx
   exact⟨a,cs',rfl,k1,k2,k3⟩
  .rw[List.take_of_length_le (by omega)]at e3
   simp only[uptoBulk]
   omega
theorem eP(ht:P.underlying T=some (.int .i64))(n:Nat):Opn enc P w base sp held T Rp.int (λ_=>1) n:=by
 intro cs d ps h
 refine(?_:∃x,Rp.int.rep (hOf w) cs x).imp λ_ h=>⟨h,bulk_one d⟩
 cases n with
 |zero=>simp[DataW.trod]at h
 |succ n=>
  unfold DataW.trod at h
  rw[ht]at h
  split at h<;>simp_all
  next k k' z e=>
   obtain⟨⟨h1,_⟩,h2,_⟩:=h
   subst h1
   exact⟨z,by first|rfl|(subst e;rfl)|(cases e;rfl)⟩
theorem Rk(ht:P.underlying T=some (.int .u8))(n:Nat):Opn enc P w base sp held T ⟨1,λ_ cs(x:Int)=>cs=[.int .u8 x]⟩ (λ_=>1) n:=by
 intro cs d ps h
 refine(?_:∃x:Int,cs=[.int .u8 x]).imp λ_ h=>⟨h,bulk_one d⟩
 cases n with
 |zero=>simp[DataW.trod]at h
 |succ n=>
  unfold DataW.trod at h
  rw[ht]at h
  split at h<;>simp_all
theorem uT(ht:P.underlying T=some .bool)(n:Nat):Opn enc P w base sp held T Rp.bool (λ_=>1) n:=by
 intro cs d ps h
 obtain⟨b,rfl,_⟩:=DataW.trod_bool ht h
 exact⟨b,rfl,bulk_one d⟩
theorem Bx(ht:P.underlying T=some .string)(n:Nat):Opn enc P w base sp held T Rp.str (λ_=>1) n:=by
 intro cs d ps h
 refine(?_:∃x,Rp.str.rep (hOf w) cs x).imp λ_ h=>⟨h,bulk_one d⟩
 cases n with
 |zero=>simp[DataW.trod]at h
 |succ n=>
  unfold DataW.trod at h
  rw[ht]at h
  split at h<;>simp_all
  all_goals exact⟨_,rfl⟩
def TrF(enc:TypeId×Value->H)(P:Program)(w:World)(base:Nat)(sp:Nat->Bool)(held:Bool)(fuel:Nat):List TypeId->List Value->List (DataW H)->Prop
 |[],cs,ds=>cs=[]/\ds=[]
 |t::ts,cs,ds=>∃c cs' d ds' p,cs=c++cs'/\ds=d::ds'/\DataW.trod enc P w base sp held fuel t c=some (d,p)/\TrF enc P w base sp held fuel ts cs' ds'
def contig(P:Program):List Field->Nat->Option Nat
 |[],o=>some o
 |f::fs,o=>if f.offset=o then contig P fs (o+P.cellsOf f.type)else none
theorem OE{n:Nat}{cs:List Value}:∀(fs:List Field)(xs:List (DataW H×List MemPlace))(o:Nat),xs.length=fs.length->contig P fs o=some cs.length ->
  (∀(i:Nat)(f:Field),fs[i]? = some f->DataW.trod enc P w base sp held n f.type ((cs.drop f.offset).take (P.cellsOf f.type))=xs[i]?)->TrF enc P w base sp held n (fs.map (·.type)) (cs.drop o) (xs.map (·.1))
 |[],xs,o,hl,hc,_=>by
  simp only[contig,kQ]at hc
  subst hc
  rw[jC,List.length_eq_zero_iff]at hl
  subst hl
  exact⟨by simp,rfl⟩
 |f::fs,[],o,hl,hc,hx=>by simp at hl
 |f::fs,x::xs,o,hl,hc,hx=>by
  unfold contig at hc
  split at hc
  .next ho=>
   have h0:=hx 0 f rfl
   rw[ho]at h0
   simp only[List.getElem?_cons_zero]at h0
   refine⟨(cs.drop o).take (P.cellsOf f.type),cs.drop (o+P.cellsOf f.type),x.1,xs.map (·.1),x.2,?_,rfl,h0,OE fs xs _ (by simpa using hl) hc (λi g hg=>by simpa using hx (i+1) g (by simpa using hg))⟩
   rw[←List.drop_drop,List.take_append_drop]
  .cases hc
theorem mN{fs:Array Field}{cs:List Value}{d:DataW H}(ht:P.underlying T=some (.struct fs))(hk:contig P fs.toList 0=some (P.cellsOf T))(h:DataW.trod enc P w base sp held fuel T cs=some (d,ps)):
  ∃n ds,fuel=n+1/\d=.agg ds/\TrF enc P w base sp held n (fs.toList.map (·.type)) cs ds:=by
 obtain⟨xs,n,hn,hx,hl,hlen,hf⟩:=DataW.trod_struct ht h
 cases hx
 refine⟨n,_,hn,rfl,?_⟩
 have:=OE (enc:=enc) (w:=w) (base:=base) (sp:=sp) (held:=held) (n:=n) (cs:=cs) fs.toList xs 0 (by simpa using hlen) (by rw[hk,hl]) (λi f hi=>hf i f (by simpa using hi))
 simpa using this
theorem NB{E:TypeId}(ht:P.underlying T=some (.array m E))(hE:P.underlying E=some (.int .u8))(hc:P.cellsOf E=1)(hcT:P.cellsOf T=m){cs:List Value}{d:DataW H}(h:DataW.trod enc P w base sp held n T cs=some (d,ps)):∃f:Nat->Int,cs=(zK m).map λi=>zD .u8 (f i):=by
 obtain⟨xs,k,hk,hx,hl,hlen,hf⟩:=DataW.trod_array ht h
 rw[hcT]at hl
 have h1:∀i,∃z:Int,i<m->cs[i]? = some (.int .u8 z):=by
  intro i
  rcases kM i m with hi|hi
  .have h0:=hf i hi
   rw[hc,Nat.mul_one,zG (by omega)]at h0
   obtain⟨z,hz,_⟩:=Rk (enc:=enc) (w:=w) (base:=base) (sp:=sp) (held:=held) hE k _ _ _ h0
   refine⟨z,λ_=>?_⟩
   have hz':(cs.drop i).take 1=[.int .u8 z]:=hz
   have:=congrArg (·[0]?) hz'
   simpa using this
  .exact⟨0,λh=>by omega⟩
 obtain⟨f,hf'⟩:=Classical.axiomOfChoice h1
 refine⟨f,TI λi=>?_⟩
 rcases kM i m with hi|hi
 .rw[hf' i hi];simp[hi]
 .rw[kK (by omega)];simp[hi]
end opn
section openings
variable {H:Type} {enc:TypeId×Value->H} {w:World} {base:Nat} {sp:Nat->Bool} {held:Bool}
theorem JZ(n:Nat):Opn enc prog w base sp held 89 Appoint.rp (λ_=>1) n:=by
 intro cs d ps h
 obtain⟨m,ds,rfl,rfl,c0,_,d0,_,p0,rfl,rfl,h0,c1,_,d1,_,p1,rfl,rfl,h1,c2,_,d2,_,p2,rfl,rfl,h2,c3,_,d3,_,p3,rfl,rfl,h3,c4,_,d4,_,p4,rfl,rfl,h4,c5,_,d5,_,p5,rfl,rfl,h5,c6,_,d6,_,p6,rfl,rfl,h6,rfl,rfl⟩:=mN (fs:=_) underlying89 (by kernel_rfl) h
 obtain⟨x0,rfl,_⟩:=(eP (by kernel_rfl)) m _ _ _ h0
 obtain⟨x1,rfl,_⟩:=(eP (by kernel_rfl)) m _ _ _ h1
 obtain⟨x2,rfl,_⟩:=(eP (by kernel_rfl)) m _ _ _ h2
 obtain⟨x3,rfl,_⟩:=(eP (by kernel_rfl)) m _ _ _ h3
 obtain⟨x4,rfl,_⟩:=(eP (by kernel_rfl)) m _ _ _ h4
 obtain⟨x5,rfl,_⟩:=(eP (by kernel_rfl)) m _ _ _ h5
 obtain⟨x6,rfl,_⟩:=(uT (by kernel_rfl)) m _ _ _ h6
 exact⟨⟨x0,x1,x2,x3,x4,x5,x6⟩,rfl,bulk_one _⟩
theorem Ls(n:Nat):Opn enc prog w base sp held 93 Deputy.rp (λ_=>1) n:=by
 intro cs d ps h
 obtain⟨m,ds,rfl,rfl,c0,_,d0,_,p0,rfl,rfl,h0,c1,_,d1,_,p1,rfl,rfl,h1,c2,_,d2,_,p2,rfl,rfl,h2,c3,_,d3,_,p3,rfl,rfl,h3,c4,_,d4,_,p4,rfl,rfl,h4,c5,_,d5,_,p5,rfl,rfl,h5,c6,_,d6,_,p6,rfl,rfl,h6,c7,_,d7,_,p7,rfl,rfl,h7,c8,_,d8,_,p8,rfl,rfl,h8,c9,_,d9,_,p9,rfl,rfl,h9,rfl,rfl⟩:=mN (fs:=_) underlying93 (by kernel_rfl) h
 obtain⟨x0,rfl,_⟩:=(eP (by kernel_rfl)) m _ _ _ h0
 obtain⟨x1,rfl,_⟩:=(eP (by kernel_rfl)) m _ _ _ h1
 obtain⟨x2,rfl,_⟩:=(eP (by kernel_rfl)) m _ _ _ h2
 obtain⟨x3,rfl,_⟩:=(eP (by kernel_rfl)) m _ _ _ h3
 obtain⟨x4,rfl,_⟩:=(eP (by kernel_rfl)) m _ _ _ h4
 obtain⟨x5,rfl,_⟩:=(eP (by kernel_rfl)) m _ _ _ h5
 obtain⟨x6,rfl,_⟩:=(eP (by kernel_rfl)) m _ _ _ h6
 obtain⟨x7,rfl,_⟩:=(eP (by kernel_rfl)) m _ _ _ h7
 obtain⟨x8,rfl,_⟩:=(eP (by kernel_rfl)) m _ _ _ h8
 obtain⟨x9,rfl,_⟩:=(uT (by kernel_rfl)) m _ _ _ h9
 exact⟨⟨x0,x1,x2,x3,x4,x5,x6,x7,x8,x9⟩,rfl,bulk_one _⟩
theorem It(n:Nat):Opn enc prog w base sp held 97 Interest.rp (λ_=>1) n:=by
 intro cs d ps h
 obtain⟨m,ds,rfl,rfl,c0,_,d0,_,p0,rfl,rfl,h0,c1,_,d1,_,p1,rfl,rfl,h1,c2,_,d2,_,p2,rfl,rfl,h2,c3,_,d3,_,p3,rfl,rfl,h3,c4,_,d4,_,p4,rfl,rfl,h4,c5,_,d5,_,p5,rfl,rfl,h5,c6,_,d6,_,p6,rfl,rfl,h6,rfl,rfl⟩:=mN (fs:=_) underlying97 (by kernel_rfl) h
 obtain⟨x0,rfl,_⟩:=(eP (by kernel_rfl)) m _ _ _ h0
 obtain⟨x1,rfl,_⟩:=(eP (by kernel_rfl)) m _ _ _ h1
 obtain⟨x2,rfl,_⟩:=(eP (by kernel_rfl)) m _ _ _ h2
 obtain⟨x3,rfl,_⟩:=(eP (by kernel_rfl)) m _ _ _ h3
 obtain⟨x4,rfl,_⟩:=(eP (by kernel_rfl)) m _ _ _ h4
 obtain⟨x5,rfl,_⟩:=(uT (by kernel_rfl)) m _ _ _ h5
 obtain⟨x6,rfl,_⟩:=(uT (by kernel_rfl)) m _ _ _ h6
 exact⟨⟨x0,x1,x2,x3,x4,x5,x6⟩,rfl,bulk_one _⟩
theorem Lt(n:Nat):Opn enc prog w base sp held 101 Budget.rp (λ_=>1) n:=by
 intro cs d ps h
 obtain⟨m,ds,rfl,rfl,c0,_,d0,_,p0,rfl,rfl,h0,c1,_,d1,_,p1,rfl,rfl,h1,c2,_,d2,_,p2,rfl,rfl,h2,c3,_,d3,_,p3,rfl,rfl,h3,c4,_,d4,_,p4,rfl,rfl,h4,c5,_,d5,_,p5,rfl,rfl,h5,c6,_,d6,_,p6,rfl,rfl,h6,c7,_,d7,_,p7,rfl,rfl,h7,rfl,rfl⟩:=mN (fs:=_) underlying101 (by kernel_rfl) h
 obtain⟨x0,rfl,_⟩:=(eP (by kernel_rfl)) m _ _ _ h0
 obtain⟨x1,rfl,_⟩:=(eP (by kernel_rfl)) m _ _ _ h1
 obtain⟨x2,rfl,_⟩:=(eP (by kernel_rfl)) m _ _ _ h2
 obtain⟨x3,rfl,_⟩:=(eP (by kernel_rfl)) m _ _ _ h3
 obtain⟨x4,rfl,_⟩:=(eP (by kernel_rfl)) m _ _ _ h4
 obtain⟨x5,rfl,_⟩:=(eP (by kernel_rfl)) m _ _ _ h5
 obtain⟨x6,rfl,_⟩:=(eP (by kernel_rfl)) m _ _ _ h6
 obtain⟨x7,rfl,_⟩:=(uT (by kernel_rfl)) m _ _ _ h7
 exact⟨⟨x0,x1,x2,x3,x4,x5,x6,x7⟩,rfl,bulk_one _⟩
abbrev Expr.hold(x:Expr):Nat:=x.dep
theorem JY(n:Nat):Opn enc prog w base sp held 62 Expr.rp Expr.hold n:=by
 induction n using Un with
 |_ n ih=>
 intro cs d ps h
 obtain⟨m,ds,rfl,rfl,c0,_,d0,_,p0,rfl,rfl,h0,c1,_,d1,_,p1,rfl,rfl,h1,c2,_,d2,_,p2,rfl,rfl,h2,c3,_,d3,_,p3,rfl,rfl,h3,c4,_,d4,_,p4,rfl,rfl,h4,rfl,rfl⟩:=mN (fs:=_) underlying62 (by kernel_rfl) h
 obtain⟨x0,rfl,_⟩:=(eP (by kernel_rfl)) m _ _ _ h0
 obtain⟨x1,rfl,_⟩:=(eP (by kernel_rfl)) m _ _ _ h1
 obtain⟨x2,rfl,_⟩:=(eP (by kernel_rfl)) m _ _ _ h2
 obtain⟨x3,rfl,_⟩:=(Bx (by kernel_rfl)) m _ _ _ h3
 obtain⟨b4,k4,x4,rfl,o4,q4⟩:=ly mi (by kernel_rfl) (by decide) (λk hk=>ih k (by omega)) h4
 refine⟨Expr.mk x0 x1 x2 x3 x4,⟨⟨b4,k4⟩,rfl,Expr.ok.of o4⟩,?_⟩
 rw[Mr]at q4
 simp only[Expr.hold,Expr.dep,YtpplkjhgggjaoaaGreatDoor.Rows.uptoBulk,YtpplkjhgggjaoaaGreatDoor.Rows.uptoBulkAll]at *
 omega
def Rule.hold(x:Rule):Nat:=Expr.hold x.Expr+1
theorem O6(n:Nat):Opn enc prog w base sp held 79 Rule.rp Rule.hold n:=by
 intro cs d ps h
 obtain⟨m,ds,rfl,rfl,c0,_,d0,_,p0,rfl,rfl,h0,c1,_,d1,_,p1,rfl,rfl,h1,c2,_,d2,_,p2,rfl,rfl,h2,c3,_,d3,_,p3,rfl,rfl,h3,rfl,rfl⟩:=mN (fs:=_) underlying79 (by kernel_rfl) h
 obtain⟨x0,rfl,_⟩:=(Bx (by kernel_rfl)) m _ _ _ h0
 obtain⟨x1,rfl,_⟩:=(eP (by kernel_rfl)) m _ _ _ h1
 obtain⟨x2,rfl,_⟩:=(eP (by kernel_rfl)) m _ _ _ h2
 obtain⟨x3,⟨r3,rfl,o3⟩,q3⟩:=JY m _ _ _ h3
 refine⟨⟨x0,x1,x2,x3⟩,⟨⟨r3⟩,rfl,⟨o3⟩⟩,?_⟩
 simp only[Rule.hold,YtpplkjhgggjaoaaGreatDoor.Rows.uptoBulk,YtpplkjhgggjaoaaGreatDoor.Rows.uptoBulkAll]
 omega
def Policy.hold(x:Policy):Nat:=szL (λ_=>1) x.Kinds+szL (λ_=>1) x.Offices+szL Rule.hold x.Rules+Expr.hold x.Change+1
theorem Lr(n:Nat):Opn enc prog w base sp held 64 Policy.rp Policy.hold n:=by
 intro cs d ps h
 obtain⟨m,ds,rfl,rfl,c0,_,d0,_,p0,rfl,rfl,h0,c1,_,d1,_,p1,rfl,rfl,h1,c2,_,d2,_,p2,rfl,rfl,h2,c3,_,d3,_,p3,rfl,rfl,h3,c4,_,d4,_,p4,rfl,rfl,h4,c5,_,d5,_,p5,rfl,rfl,h5,rfl,rfl⟩:=mN (fs:=_) Mm (by kernel_rfl) h
 obtain⟨x0,rfl,_⟩:=(Bx (by kernel_rfl)) m _ _ _ h0
 obtain⟨b1,k1,x1,rfl,o1,q1⟩:=ly wy (by kernel_rfl) (by decide) (λk _=>(Bx (by kernel_rfl)) k) h1
 obtain⟨b2,k2,x2,rfl,o2,q2⟩:=ly wy (by kernel_rfl) (by decide) (λk _=>(Bx (by kernel_rfl)) k) h2
 obtain⟨b3,k3,x3,rfl,o3,q3⟩:=ly vq (by kernel_rfl) (by decide) (λk _=>O6 k) h3
 obtain⟨x4,⟨r4,rfl,o4⟩,q4⟩:=JY m _ _ _ h4
 obtain⟨x5,rfl,_⟩:=(eP (by kernel_rfl)) m _ _ _ h5
 refine⟨⟨x0,x1,x2,x3,x4,x5⟩,⟨⟨b1,k1,b2,k2,b3,k3,r4⟩,rfl,⟨o1,o2,o3,o4⟩⟩,?_⟩
 simp only[Policy.hold,YtpplkjhgggjaoaaGreatDoor.Rows.uptoBulk,YtpplkjhgggjaoaaGreatDoor.Rows.uptoBulkAll]
 omega
def Version.hold(x:Version):Nat:=Policy.hold x.Policy+1
theorem JW(n:Nat):Opn enc prog w base sp held 105 Version.rp Version.hold n:=by
 intro cs d ps h
 obtain⟨m,ds,rfl,rfl,c0,_,d0,_,p0,rfl,rfl,h0,c1,_,d1,_,p1,rfl,rfl,h1,c2,_,d2,_,p2,rfl,rfl,h2,c3,_,d3,_,p3,rfl,rfl,h3,rfl,rfl⟩:=mN (fs:=_) underlying105 (by kernel_rfl) h
 obtain⟨x0,rfl,_⟩:=(eP (by kernel_rfl)) m _ _ _ h0
 obtain⟨x1,rfl,_⟩:=(eP (by kernel_rfl)) m _ _ _ h1
 obtain⟨x2,rfl,_⟩:=(eP (by kernel_rfl)) m _ _ _ h2
 obtain⟨x3,⟨r3,rfl,o3⟩,q3⟩:=Lr m _ _ _ h3
 refine⟨⟨x0,x1,x2,x3⟩,⟨⟨r3⟩,rfl,⟨o3⟩⟩,?_⟩
 simp only[Version.hold,YtpplkjhgggjaoaaGreatDoor.Rows.uptoBulk,YtpplkjhgggjaoaaGreatDoor.Rows.uptoBulkAll]
 omega
def Document.hold(x:Document):Nat:=szL (λ_=>1) x.Parties+szL (λ_=>1) x.Revokes+szL (λ_=>1) x.Needs+1
theorem Iu(n:Nat):Opn enc prog w base sp held 51 Document.rp Document.hold n:=by
 intro cs d ps h
 obtain⟨m,ds,rfl,rfl,c0,_,d0,_,p0,rfl,rfl,h0,c1,_,d1,_,p1,rfl,rfl,h1,c2,_,d2,_,p2,rfl,rfl,h2,c3,_,d3,_,p3,rfl,rfl,h3,c4,_,d4,_,p4,rfl,rfl,h4,c5,_,d5,_,p5,rfl,rfl,h5,c6,_,d6,_,p6,rfl,rfl,h6,c7,_,d7,_,p7,rfl,rfl,h7,c8,_,d8,_,p8,rfl,rfl,h8,c9,_,d9,_,p9,rfl,rfl,h9,rfl,rfl⟩:=mN (fs:=_) underlying51 (by kernel_rfl) h
 obtain⟨x0,rfl,_⟩:=(eP (by kernel_rfl)) m _ _ _ h0
 obtain⟨x1,rfl,_⟩:=(eP (by kernel_rfl)) m _ _ _ h1
 obtain⟨x2,rfl,_⟩:=(eP (by kernel_rfl)) m _ _ _ h2
 obtain⟨x3,rfl,_⟩:=(eP (by kernel_rfl)) m _ _ _ h3
 obtain⟨x4,rfl,_⟩:=(eP (by kernel_rfl)) m _ _ _ h4
 obtain⟨x5,rfl,_⟩:=(eP (by kernel_rfl)) m _ _ _ h5
 obtain⟨b6,k6,x6,rfl,o6,q6⟩:=ly dy (by kernel_rfl) (by decide) (λk _=>(eP (by kernel_rfl)) k) h6
 obtain⟨b7,k7,x7,rfl,o7,q7⟩:=ly dy (by kernel_rfl) (by decide) (λk _=>(eP (by kernel_rfl)) k) h7
 obtain⟨b8,k8,x8,rfl,o8,q8⟩:=ly dy (by kernel_rfl) (by decide) (λk _=>(eP (by kernel_rfl)) k) h8
 obtain⟨x9,rfl⟩:=NB underlying49 Sa (by kernel_rfl) (by kernel_rfl) h9
 refine⟨⟨x0,x1,x2,x3,x4,x5,x6,x7,x8,x9⟩,⟨⟨b6,k6,b7,k7,b8,k8⟩,rfl,⟨o6,o7,o8⟩⟩,?_⟩
 simp only[Document.hold,YtpplkjhgggjaoaaGreatDoor.Rows.uptoBulk,YtpplkjhgggjaoaaGreatDoor.Rows.uptoBulkAll]
 omega
theorem Iv(n:Nat):Opn enc prog w base sp held 81 Approval.rp (λ_=>1) n:=by
 intro cs d ps h
 obtain⟨m,ds,rfl,rfl,c0,_,d0,_,p0,rfl,rfl,h0,c1,_,d1,_,p1,rfl,rfl,h1,c2,_,d2,_,p2,rfl,rfl,h2,c3,_,d3,_,p3,rfl,rfl,h3,c4,_,d4,_,p4,rfl,rfl,h4,c5,_,d5,_,p5,rfl,rfl,h5,c6,_,d6,_,p6,rfl,rfl,h6,c7,_,d7,_,p7,rfl,rfl,h7,rfl,rfl⟩:=mN (fs:=_) underlying81 (by kernel_rfl) h
 obtain⟨x0,rfl,_⟩:=(eP (by kernel_rfl)) m _ _ _ h0
 obtain⟨x1,rfl,_⟩:=(eP (by kernel_rfl)) m _ _ _ h1
 obtain⟨x2,rfl,_⟩:=(eP (by kernel_rfl)) m _ _ _ h2
 obtain⟨x3,rfl,_⟩:=(eP (by kernel_rfl)) m _ _ _ h3
 obtain⟨x4,rfl,_⟩:=(eP (by kernel_rfl)) m _ _ _ h4
 obtain⟨x5,rfl,_⟩:=(eP (by kernel_rfl)) m _ _ _ h5
 obtain⟨x6,rfl,_⟩:=(eP (by kernel_rfl)) m _ _ _ h6
 obtain⟨x7,rfl,_⟩:=(uT (by kernel_rfl)) m _ _ _ h7
 exact⟨⟨x0,x1,x2,x3,x4,x5,x6,x7⟩,rfl,bulk_one _⟩
def Register.hold(x:Register):Nat:=szL (λ_=>1) x.Appoints+szL (λ_=>1) x.Deputies+szL (λ_=>1) x.Interests+szL (λ_=>1) x.Budgets+szL Version.hold x.Versions+szL Document.hold x.Docs+szL (λ_=>1) x.Approvals+1
theorem opn_Register(n:Nat):Opn enc prog w base sp held 30 Register.rp Register.hold n:=by
 intro cs d ps h
 obtain⟨m,ds,rfl,rfl,c0,_,d0,_,p0,rfl,rfl,h0,c1,_,d1,_,p1,rfl,rfl,h1,c2,_,d2,_,p2,rfl,rfl,h2,c3,_,d3,_,p3,rfl,rfl,h3,c4,_,d4,_,p4,rfl,rfl,h4,c5,_,d5,_,p5,rfl,rfl,h5,c6,_,d6,_,p6,rfl,rfl,h6,rfl,rfl⟩:=mN (fs:=_) OA (by kernel_rfl) h
 obtain⟨b0,k0,x0,rfl,o0,q0⟩:=ly sO (by kernel_rfl) (by decide) (λk _=>JZ k) h0
 obtain⟨b1,k1,x1,rfl,o1,q1⟩:=ly nr (by kernel_rfl) (by decide) (λk _=>Ls k) h1
 obtain⟨b2,k2,x2,rfl,o2,q2⟩:=ly pg (by kernel_rfl) (by decide) (λk _=>It k) h2
 obtain⟨b3,k3,x3,rfl,o3,q3⟩:=ly zI (by kernel_rfl) (by decide) (λk _=>Lt k) h3
 obtain⟨b4,k4,x4,rfl,o4,q4⟩:=ly xg (by kernel_rfl) (by decide) (λk _=>JW k) h4
 obtain⟨b5,k5,x5,rfl,o5,q5⟩:=ly sf (by kernel_rfl) (by decide) (λk _=>Iu k) h5
 obtain⟨b6,k6,x6,rfl,o6,q6⟩:=ly oD (by kernel_rfl) (by decide) (λk _=>Iv k) h6
 refine⟨⟨x0,x1,x2,x3,x4,x5,x6⟩,⟨⟨b0,k0,b1,k1,b2,k2,b3,k3,b4,k4,b5,k5,b6,k6⟩,rfl,⟨o0,o1,o2,o3,o4,o5,o6⟩⟩,?_⟩
 simp only[Register.hold,YtpplkjhgggjaoaaGreatDoor.Rows.uptoBulk,YtpplkjhgggjaoaaGreatDoor.Rows.uptoBulkAll]
 omega
end openings
theorem Rd{p:Policy}(h:Policy.hold p<=1048576):smP p:=by
 unfold Policy.hold Expr.hold at h
 have h1:=pj (f:=λ_:ByteArray=>1) (λ_=>vG _) p.Kinds
 have h2:=pj (f:=λ_:ByteArray=>1) (λ_=>vG _) p.Offices
 have h3:=pj (f:=Rule.hold) (λx=>by unfold Rule.hold;omega) p.Rules
 refine⟨by omega,λr hr=>?_,by omega,by omega,by omega⟩
 have h4:=Ic (f:=Rule.hold) hr
 unfold Rule.hold Expr.hold at h4
 have:szL (λx=>Rule.hold x) p.Rules=szL Rule.hold p.Rules:=rfl
 unfold Rule.hold Expr.hold at this h
 omega
theorem Rc{l:List Version}(h:szL Version.hold l<=1048576):smV l:=by
 have h1:=pj (f:=Version.hold) (λx=>by unfold Version.hold;omega) l
 refine⟨by omega,λv hv=>Rd ?_⟩
 have h2:=Ic (f:=Version.hold) hv
 have h3:Policy.hold v.Policy<=Version.hold v:=by unfold Version.hold;omega
 omega
theorem smR_of{r:Register}(h:Register.hold r<=1048576):smR r:=by
 unfold Register.hold at h
 have h1:=pj (f:=λ_:Appoint=>1) (λ_=>vG _) r.Appoints
 have h2:=pj (f:=λ_:Deputy=>1) (λ_=>vG _) r.Deputies
 have h3:=pj (f:=λ_:Interest=>1) (λ_=>vG _) r.Interests
 have h4:=pj (f:=λ_:Budget=>1) (λ_=>vG _) r.Budgets
 have h5:=pj (f:=Document.hold) (λx=>by unfold Document.hold;omega) r.Docs
 have h6:=pj (f:=λ_:Approval=>1) (λ_=>vG _) r.Approvals
 exact⟨Rc (by omega),by omega,by omega,by omega,by omega,by omega,by omega⟩
end
variable {h:HF}
section
def RU(P:Program)(f:FuncId)(X:Cx)(v:Value)(cs:List Frame)(Φ : Machine->Prop):Prop:=
 X.M=[]/\∀fr w',U4 X.w0.heap.size X.w0 w'->fr.fn=f->fr.leaving P w' (.returned v)->To P Φ (lone fr cs w')
theorem KQ{w:World}(hp:Pre h [] w)(hf:P.funcs[f]? = some fn)(hb:fn.body=some c)(hn:fn.ntmps=n)(hle:Nat.ble args.length n=true)(t:∀X:Cx,X.M=([]:LH).map (·.1)->X.h0=h->TT P (bodyFrame f) n [.code c] (RU P f X v) (envArgs args) [] X h []):Calls P f args.toArray w λe w'=>e=.returned v/\U4 w.heap.size w w':=by
 intro cs
 have hle:=Nat.le_of_ble_eq_true hle
 have henter:Sx P f args.toArray .normal=(bodyFrame f).atR { tmps:=args.toArray++S8 (n-args.length) undef,defers:=[] } [.code c]:=by
  simp[Sx,Frame.atR,hf,hb,hn,bodyFrame]
 obtain⟨m',s,w',fr,rfl,h1,h2,h3⟩:=t ⟨w,h,[]⟩ rfl rfl w (St.start hp) { tmps:=args.toArray++S8 (n-args.length) undef,defers:=[] } cs
  (λm=>∃w' fr,m=lone fr cs w'/\U4 w.heap.size w w'/\fr.fn=f/\fr.leaving P w' (.returned v)) (by simp;omega) (oW _ _) rfl
  ⟨rfl,λfr w' hb hfn hl=>.now ⟨w',fr,rfl,hb,hfn,hl⟩⟩
 refine⟨.returned v,w',fr,⟨rfl,h1⟩,?_,h2,h3⟩
 rw[henter];exact s
section ending
variable {P:Program} {f:FuncId} {n:Nat} {k:List Item} {e:Env} {X:Cx} {h:HF} {L:LH} {fn:Func}
theorem Er{rs:List ResultVar}{hh:HF}(vs:List Value)(hf:P.funcs[f]? = some fn)(hr:fn.results=rs.toArray)(_:X.h0=hh)(hv:uo P e L rs vs)(hvv:retVal vs=v):
  TT P (bodyFrame f) n (.code .ret::k) (RU P f X v) e [] X h L:=by
 intro w hw a cs Φ hn he hds hF
 exact .step (stepR_ret rfl) (hF.2 _ w (hw.below hF.1) rfl ⟨rfl,hds,rfl,fn,hf,hvv▸ni hr hv a he w hw⟩)
end ending
end
variable {W:World}{sp:Nat->Bool}
section
open Go.Proofs Go.Proofs.Tryz
theorem NN{w:World}{E:TypeId}{ps rs:Array TypeId}{vd:Bool}{c:List Value}{b:UInt8}{r:List UInt8}{p:List MemPlace}(hE:P.underlying E=some (.func ps rs vd))(h:DataW.trod (funcToken P) P w 0 sp true m E c=some (.held (b::r),p)):∃f fn,c=[.func (.func f) #[] #[]]/\P.funcs[f]? = some fn/\P.funcNamed fn.name=some f/\fn.name.toUTF8.data.toList=b::r:=by
 cases m with
 |zero=>simp[DataW.trod]at h
 |succ m=>
  unfold DataW.trod at h
  rw[hE]at h
  split at h<;>try (simp_all;done)
  next fn fi ca _ _=>
   simp only[if_true,kQ,T8,DataW.held.injEq]at h
   obtain⟨f,g,e,h1,h2,h3⟩:=funcToken_tells h.1
   exact⟨f,g,by rw[e],h1,h2,h3⟩
theorem QB{k:FuncId}{g:Func}{l:List UInt8}(hg:P.funcNamed g.name=some k)(hl:g.name.toUTF8.data.toList=l)(h2:P.funcNamed fn.name=some f)(h3:fn.name.toUTF8.data.toList=l):f=k:=by
 have:fn.name=g.name:=bytes_inj (h3.trans hl.symm)
 rw[this,hg]at h2
 exact(qV h2).symm
theorem OI{l:List α}{x:α}(h:(l.drop i).take 1=[x]):l[i]? = some x:=by
 have:=congrArg (·[0]?) h
 simpa using this
theorem kinds_of(hL:laidMetH prog YtpplkjhgggjaoaaGreatDoor.Rows.judgeReasonUptoRow.laid W):Kinds (hOf W):=by
 obtain⟨d, hd⟩ : ∃d, (YtpplkjhgggjaoaaGreatDoor.Rows.laid_signatory_policies_kinds : DataW Unit) = .iface "func table" d := ⟨_, rfl⟩
 obtain⟨g,t,cs,fuel,p,hg,ht,hv,hr⟩:=hL.funcs (d:=d) (by rw[←hd];exact zB ..)
 unfold World.var? at hv
 rw[hg]at hv
 obtain rfl:g=0:=qV (hg.symm.trans (by kernel_rfl))
 obtain rfl:t=365:=qV (ht.symm.trans (by kernel_rfl))
 obtain⟨xs,m,_,hx,hl,hlen,hf⟩:=DataW.trod_array (n:=5) (e:=168) (by kernel_rfl) hr
 rw[show prog.cellsOf 365=5 by kernel_rfl]at hl
 rw[show prog.cellsOf 168=1 by kernel_rfl]at hf
 unfold YtpplkjhgggjaoaaGreatDoor.Rows.laid_signatory_policies_kinds at hd
 cases hd
 simp only[DataW.funcsOut,DataW.funcsOutAll,T8]at hx
 match xs,hlen with
 |[x0,x1,x2,x3,x4],_=>
  simp only[jJ,T2,beq_self_eq_true,if_true,DataW.agg.injEq,List.cons.injEq,and_true]at hx
  have key:∀(i:Nat)(x:DataW (List UInt8)×List MemPlace)(b:UInt8)(r:List UInt8)(k:FuncId)(fk:Func),i<5->[x0,x1,x2,x3,x4][i]? = some x->DataW.held (b::r)=x.1->prog.funcNamed fk.name=some k->fk.name.toUTF8.data.toList=b::r->cs.toList[i]? = some (.func (.func k) #[] #[]):=by
   intro i x b r k fk hi hxi hb hk hn
   have h0:=hf i hi
   rw[hxi,Nat.mul_one]at h0
   obtain⟨f,fn,e,_,h2,h3⟩:=NN (P:=prog) (E:=168) underlying168 (h0.trans (show some x=some (DataW.held (b::r),x.2) by rw[hb]))
   obtain rfl:=QB hk hn h2 h3
   exact OI e
  obtain⟨⟨e0,e1,e2,e3,e4⟩,_⟩:=hx
  have k0:=key 0 x0 _ _ 405 Tryz.f405 (by omega) rfl e0 (by kernel_rfl) (by kernel_rfl)
  have k1:=key 1 x1 _ _ 406 Tryz.f406 (by omega) rfl e1 (by kernel_rfl) (by kernel_rfl)
  have k2:=key 2 x2 _ _ 407 Tryz.f407 (by omega) rfl e2 (by kernel_rfl) (by kernel_rfl)
  have k3:=key 3 x3 _ _ 408 Tryz.f408 (by omega) rfl e3 (by kernel_rfl) (by kernel_rfl)
  have k4:=key 4 x4 _ _ 409 Tryz.f409 (by omega) rfl e4 (by kernel_rfl) (by kernel_rfl)
  have hcs:cs=kindsC.toArray:=by
   apply Array.toList_inj.1
   apply TI
   intro i
   match i with
   |0=>exact k0
   |1=>exact k1
   |2=>exact k2
   |3=>exact k3
   |4=>exact k4
   |i+5=>rw[kK (by omega)];rfl
  simp only[Option.bind_some]at hv
  split at hv
  .next c T fz e=>
   cases hv
   exact⟨T,fz,by rw[←hcs];exact e⟩
  .cases hv
end
section
open Go.ChangeShapes Go.WideShapes Go.RowKit
variable {H:Type} {enc:TypeId×Value->H} {P:Program}
theorem post_below{f:Func}{s:ChangeSpec}{apart fresh handsOn again:Bool}{W':World}{args:Array Value}{ds gs:List (DataW H)}{before pa pv:List MemPlace}(hW:DataW.Whole enc P f.params.toList s.vars apart W args.toList ds gs before)(hres:∀(b:Nat)(sp:Nat->Bool)(hd:Bool),DataW.TrodAll enc P W' b sp hd f.resultTypes.toList (v.resultList f.resultTypes.size) (s.fn H (ds++gs)).results [])(hargs:∀sp:Nat->Bool,(∀p∈before,sp p.block=true)->DataW.TrodAll enc P W' 0 sp true f.params.toList args.toList (s.fn H (ds++gs)).args pa)(hvars:∀sp:Nat->Bool,(∀p∈before,sp p.block=true)->DataW.TrodVars enc P W' sp s.vars (s.fn H (ds++gs)).vars pv)(hps:before=pa++pv)(hb:Below W.heap.size W W')(hok:∀(j:Nat)(t:TypeId)(r:Value),f.resultTypes[j]? = some t->(v.resultList f.resultTypes.size)[j]? = some r->Value.okWide P W' .any 0 t r):
  s.post enc P f apart fresh handsOn again W args v W':=by
 have hlt:=hW.lt
 have hold:∀p∈before,(λb=>decide (b<W.heap.size)) p.block=true:=λp hp=>by simpa using hlt p hp
 refine⟨ds,gs,before,[],pa,pv,hW,hres _ _ _,hargs _ hold,hvars _ hold,World.keptBut_mono (λp hp=>⟨hp,?_⟩) (hb.frame (·∈before)),λ_=>?_⟩
 .rw[hps,jE]at hp
  exact Or.inr hp
 .obtain⟨_,_,_,_,_,hz,hn⟩:=hW
  refine⟨hok,_,_,([]++pa)++pv,⟨[]++pa,pv,trodAll_append (hargs _ (λ_ _=>rfl)) (hres _ _ _),hvars _ (λ_ _=>rfl),rfl,?_,?_⟩,?_⟩
  .intro b off hp
   have hp':MemPlace.cell b off∈before:=by rw[hps];simpa using hp
   rw[hb.frozen (p:=⟨b,off,none⟩) (hlt _ hp')]
   exact hz b off hp'
  .intro ha
   have:=hn ha
   rw[hps]at this
   simpa using this
  .intro p hp _
   rw[hps]
   simpa using hp
theorem stays{t:TypeId}(hl:laidOutB P=true)(hr:P.readableRec t=true)(hrow:decide (t<P.types.size)=true){W':World}{d:DataW H}{before:List MemPlace}(h:DataW.Trod enc P W 0 (λ_=>true) true t v d ps)(hb:Below W.heap.size W W')(hlt:∀x∈before,x.block<W.heap.size)(hm:∀x∈ps,x∈before)(hsp:∀p∈before,sp p.block=true):DataW.Trod enc P W' 0 sp true t v d ps:=
 WideElems.Trod_stays hl hr (of_decide_eq_true hrow) h (λx hx=>hb.same (hlt x (hm x hx))) (λx hx=>hsp _ (hm x hx))
end
section
def agB(ops:Array Oper)(o:Oper)(t:Nat):Bool:=ops.toList.all λo'=>(o'.dst != some t)||(zK ops.size).all λi=>match ops[i]? with
 |some oi=>(oi.dst != o.dst)||o'.after.toList.any λed=>Region.binds .any ed&&ed.on==i
 |none=>true
theorem AgE.at_{o:Oper}(h:AgE ops o e e')(t:Nat)(hb:agB ops o t=true:=by rfl):e' t=e t:=by
 refine h t λo' ho' hd i hi=>?_
 have h1:=SF.1 hb o' (by simpa using ho')
 simp only[hd,bne_self_eq_false,Bool.false_or]at h1
 have h2:=SF.1 h1 i (List.mem_range.2 (Array.getElem?_eq_some_iff.1 hi).1)
 simp only[hi,bne_self_eq_false,Bool.false_or,List.any_eq_true,jA,beq_iff_eq]at h2
 obtain⟨ed,h3,h4,h5⟩:=h2
 exact⟨ed,by simpa using h3,h4,h5⟩
end
section
theorem aY.rep{α : Type}{R:Rp α}{h:HF}{z:Value}{x:α}(h1:R.sz=1)(hr:R.rep h [z] x):∀m,aY R h (List.replicate m z) (List.replicate m x)
 |0=>rfl
 |m+1=>⟨[z],List.replicate m z,by simp[List.replicate_succ],h1.symm▸rfl,hr,aY.rep h1 hr m⟩
section
variable {P:Program} {b:Frame} {n:Nat} {ops:Array Oper} {F:List Frame->(Machine->Prop)->Prop} {e:Env} {ds:List Deferred} {X:Cx} {h:HF} {L:LH} {K:Env->HF->LH->Prop}
variable {d:Option Nat} {ty:TypeId} {pos:String} {af:Array Edge} {g:Option (Nat×Bool)}
end
section
variable {P:Program} {b:Frame} {n:Nat} {k:List Item} {F:List Frame->(Machine->Prop)->Prop} {e:Env} {ds:List Deferred} {X:Cx} {h:HF} {L:LH}
theorem lp4(xs:List α)(sl:Nat->γ->List (Nat×Value))(hh:γ->HF)(LL:γ->LH)(J JX:Nat->γ->Prop)(hJX:∀i g,i=xs.length->J i g->JX i g)(Lf:List α->Nat->γ->ρ)(g0:γ)(hb:xs.length<=9223372036854775807)(hs:x0=Lf xs 0 g0)(hJ:J 0 g0)(after:∀i g,i<=xs.length->x0=Lf [] i g->JX i g->∀e',TT P b n k F (upds e' (sl i g)) ds X (hh g) (LL g))(cons:∀i g y r,xs.drop i=y::r->decide ((i:Int)<(xs.length:Int))=true->xs[i]? = some y->i<xs.length->xs.length<=9223372036854775807->x0=Lf (y::r) i g->J i g ->
   (∀i' g' {e'},x0=Lf [] i' g'->JX i' g'->(hi:i'<=xs.length:=by omega)->(hr:jv e' (sl i' g'):=by exact rds)->TT P b n k F e' ds X (hh g') (LL g')) ->
   (∀g' {e'},x0=Lf r (i+1) g'->J (i+1) g'->(hr:jv e' (sl (i+1) g'):=by exact rds)->TT P b n (.inLoop c::.inBlock id::k) F e' ds X (hh g') (LL g')) ->
   ∀e',TT P b n (.code c::.inLoop c::.inBlock id::k) F (upds e' (sl i g)) ds X (hh g) (LL g))(nil:∀i g,xs.drop i=[]->decide ((i:Int)<(xs.length:Int))=false->(∀e',jv e' (sl i g)->TT P b n k F e' ds X (hh g) (LL g)) ->
   ∀e',TT P b n (.code c::.inLoop c::.inBlock id::k) F (upds e' (sl i g)) ds X (hh g) (LL g):=by exact ndA)(h0:jv e (sl 0 g0):=by exact rds)(hw:∀w,St X h L w->St X (hh g0) (LL g0) w:=by exact sws):
  TT P b n (.code (.block id (.loop c))::k) F e ds X h L:=by
 refine iT (ι:=Nat×γ) (λi=>sl i.1 i.2) (λi=>hh i.2) (λi=>LL i.2) (λi=>i.1<=xs.length/\x0=Lf [] i.1 i.2/\JX i.1 i.2) ?_ (λhx=>?_)
 .rintro⟨i,g⟩ ⟨h1,h2,h3⟩ e'
  exact after i g h1 h2 h3 e'
 .refine ls (ι:=Nat×γ×List α) (λi=>sl i.1 i.2.1) (λi=>hh i.2.1) (λi=>LL i.2.1) (λi=>xs.drop i.1=i.2.2/\i.1<=xs.length/\x0=Lf i.2.2 i.1 i.2.1/\J i.1 i.2.1) (λi=>i.2.2.length) (0,g0,xs) h0 hw ⟨rfl,qM _,hs,hJ⟩ ?_
  rintro⟨i,g,s⟩ ⟨hd,hi,hs,hJ⟩ ag e'
  dsimp only at hd hi hs hJ
  rcases s with _|⟨y,r⟩
  .exact nil i g hd (oC hd) (λe'' hr=>hx (i,g) e'' ⟨hi,hs,hJX _ _ (Nat.le_antisymm hi (by rcases kM i xs.length with q|q;(rw[List.drop_eq_getElem_cons q]at hd;cases hd);exact q)) hJ⟩ hr) e'
  .exact cons i g y r hd (ul hd) (tG hd) (iX hd) hb hs hJ (λi' g' e'' a b c d=>hx (i',g') e'' ⟨c,a,b⟩ d)
    (λg' e'' a b hr=>ag (i+1,g',r) e'' (Nat.lt_succ_self _) ⟨mK hd,iX hd,a,b⟩ hr) e'
end
end
end Go.Sg
