import Derived.Test.YtpplkjhgggjaoaaGreatDoorProg
import Derived.ChangeArms
import Derived.OpenShut
import Derived.Test.YtpplkjhgggjaoaaGreatDoorRows
import Derived.LaidHandle
import Derived.WordedOn
import Derived.ChangeSame
import Derived.Carry
import Derived.Lib.Overlaps
import Derived.Test.YtpplkjhgggjaoaaGreatDoorW3
/- A part of the proof of JudgeMore. -/
set_option linter.unusedVariables false
set_option linter.unusedSimpArgs false
set_option maxRecDepth 100000
open List renaming length_cons→xA,length_append→jA,not_mem_nil→kA,mem_cons_of_mem→xB,mem_cons_self→jB,length_nil→vB,mem_cons→qC,mem_singleton→xC,append_assoc→kC,mem_of_getElem?→zE,getElem?_eq_getElem→qF,mem_append→kF,nil_append→xG,range→qH,map_cons→kH,perm_append_comm→kJ,getElem?_eq_none→vL,mem_map→kM,cons_append→zQ,mem_filter→kS,mem_append_left→qV,all_eq_true→R6,map_append→Su,nodup_nil→SK,foldl_cons→Te,ext_getElem?→Tm,map_nil→Uq
open Bool renaming and_eq_true→zB,or_eq_true→xD,not_eq_true'→qE,eq_iff_iff→vM
open Go.Value renaming int→zD,bool→SA
open Nat renaming le_refl→jG,lt_or_ge→jL,zero_le→qM,blt→qS,le_trans→vT,eq_of_beq_eq_true→kV,beq→S6
open Go.Deferred renaming ofValue→xJ
open Go.Obj renaming cells→jJ
open Go.Sg.Policy renaming mk→kN
open Go.Sem renaming run_bind→xP
open Option.some renaming injEq→kQ,inj→R4
open Go.Addr renaming add→vS
open Go.Frame renaming enter→Sb
open Array renaming ext'→Sd,replicate→SM
open Go.Sg.Interest renaming mk→SD
open Go.Sg.Expr renaming ind→Tk,depL→TY
open Go.World renaming cell?→TB
open Prod.mk renaming injEq→TL
open Go.RowKit renaming Below→UR

namespace Go.Sg
variable {all st:List Interest}{c:bI}{cap:Nat}{doc k known n z:Int}{m:List (Int×Bool)}{q:List gN}{signed:List Int}{u:List Use}{y:Approval}{α ρ:Type}
section
theorem HU(l:List Interest)(a b:Int):∃p:Interest->Bool,cZ l a b=l.filter p:=by
 have h1:∀v(l:List Interest),bR.L1 v [] l=l.filter λy=>(!y.Gone)&&decide (mgetD v (dP.mk y.Person y.Party y.Of) (SD 0 0 0 0 0 false false)=y):=by
  intro v l
  induction l with
  |nil=>rfl
  |cons y l ih=>
   simp only[bR.L1,List.filter_cons,ih]
   cases((!y.Gone)&&decide (mgetD v (dP.mk y.Person y.Party y.Of) (SD 0 0 0 0 0 false false)=y))<;>rfl
 have h2:∀(k:List (dP×Interest)->List Interest)(l:List Interest)m,∃m',cZ.L1 a b k l m=k m':=by
  intro k l
  induction l with
  |nil=>exact λm=>⟨m,rfl⟩
  |cons y l ih=>
   intro m
   simp only[cZ.L1,Bool.cond_eq_ite]
   split
   .exact ih _
   .split
    .exact ih _
    .exact ih _
 obtain⟨m',e⟩:=h2 (cZ.K1 l) l []
 exact⟨_,by unfold cZ;rw[e];exact h1 m' l⟩
theorem I0(l:List Interest)(a b:Int):(cZ l a b).length<=l.length:=by
 obtain⟨p,e⟩:=HU l a b
 rw[e];exact List.length_filter_le _ _
theorem E3{α : Type}{k:Int}{v:α}:∀{m:List (Int×α)},k∉m.map (·.1)->(mput m k v).length=m.length+1/\∀p∈mput m k v,p=(k,v)\/p∈m
 |[],_=>by simp[mput]
 |(k',v')::m,hk=>by
  simp only[kH,qC,not_or]at hk
  obtain⟨h1,h2⟩:=E3 (v:=v) hk.2
  simp only[mput,hk.1,if_false,xA,h1,qC,true_and]
  rintro p (rfl|hp)
  .exact .inr (.inl rfl)
  .rcases h2 p hp with h|h
   .exact .inl h
   .exact .inr (.inr h)
theorem Ih(hg:uT st m q)(h:mgetD m k false=false):k∉m.map (·.1):=by
 intro hk
 obtain⟨⟨k',v⟩,hp,rfl⟩:=kM.1 hk
 have:∀{m:List (Int×Bool)},(∀p∈m,p.2=true)->k'∈m.map (·.1)->mgetD m k' false=true:=by
  intro m
  induction m with
  |nil=>intro _ h;simp at h
  |cons p m ih=>
   intro ha hm
   obtain⟨a,b⟩:=p
   by_cases e:k'=a
   .have:=ha (a,b) (jB ..)
    simp only at this
    simp[mgetD,mget?,e,this]
   .simp only[kH,qC,e,false_or]at hm
    have:=ih (λp hp=>ha p (xB _ hp)) hm
    simpa[mgetD,mget?,e]using this
 rw[this (λp hp=>(hg.1 p hp).1) hk]at h
 cases h
theorem tX{w:gN}(hg:uT st m q)(hw:w.to∈st.map (·.Party))(h8:w.path.length<=8):uT st (conPut w m q).1 (conPut w m q).2:=by
 unfold conPut
 cases h:mgetD m w.to false with
 |true=>exact hg
 |false=>
  obtain⟨h1,h2⟩:=E3 (v:=true) (Ih hg h)
  refine⟨λp hp=>?_,?_,λw' hw'=>?_⟩
  .rcases h2 p hp with rfl|hp
   .exact⟨rfl,hw⟩
   .exact hg.1 p hp
  .show(q++[w]).length<=(mput m w.to true).length
   rw[h1,jA];have:=hg.2.1;simp;omega
  .rcases kF.1 (show w'∈q++[w]from hw')with hw'|hw'
   .exact hg.2.2 w' hw'
   .rw[xC.1 hw'];exact h8
theorem yg(hg:uT st m q)(hn:(m.map (·.1)).Nodup)(hk:k∈st.map (·.Party))(hc:st.length<=cap)(h:mgetD m k false=false):q.length<cap:=by
 have h1:=Ih hg h
 have h2:(k::m.map (·.1)).length<=(st.map (·.Party)).length:=yt (List.nodup_cons.2 ⟨h1,hn⟩) (λx hx=>by
  rcases qC.1 hx with rfl|hx
  .exact hk
  .obtain⟨p,hp,rfl⟩:=kM.1 hx;exact(hg.1 p hp).2)
 simp only[xA,List.length_map]at h2
 have:=hg.2.1
 omega
theorem Oz(hg:uT st m q)(hn:(m.map (·.1)).Nodup):m.length<=st.length:=by
 have:=yt (b:=st.map (·.Party)) hn (λx hx=>by obtain⟨p,hp,rfl⟩:=kM.1 hx;exact(hg.1 p hp).2)
 simpa using this
theorem Ix{w:gN}(hn:(m.map (·.1)).Nodup):((conPut w m q).1.map (·.1)).Nodup:=by
 unfold conPut
 cases mgetD m w.to false with
 |true=>exact hn
 |false=>exact pU _ _ hn
theorem Km{w:gN}{N:Nat}(hg:uT st m q)(hn:(m.map (·.1)).Nodup)(hw:w.to∈st.map (·.Party))(hN:st.length<=N):
  (conPut w m q).2.length+(N-(conPut w m q).1.length)<=q.length+(N-m.length):=by
 unfold conPut
 cases h:mgetD m w.to false with
 |true=>simp
 |false=>
  obtain⟨h1,_⟩:=E3 (v:=true) (Ih hg h)
  have h2:uT st (mput m w.to true) []:=by
   have:=tX (w:=⟨[],w.to⟩) (q:=[]) (st:=st) (m:=m) ⟨hg.1,qM _,λ_ h=>(kA h).elim⟩ hw (by simp)
   simp only[conPut,h,cond_false]at this
   exact⟨this.1,qM _,λ_ h=>(kA h).elim⟩
  have h3:=Oz h2 (pU w.to true hn)
  show(q++[w]).length+(N-(mput m w.to true).length)<=_
  rw[h1]at h3
  rw[h1,jA]
  simp;omega
theorem vi(m:List (Int×α))(k j:Int)(v z:α):mgetD (mput m k v) j z=if j=k then v else mgetD m j z:=by
 induction m with
 |nil=>by_cases h:j=k<;>simp[mput,mgetD,mget?,h]
 |cons p m ih=>
  obtain⟨a,b⟩:=p
  by_cases h:k=a
  .subst h
   by_cases h2:j=k<;>simp[mput,mgetD,mget?,h2]
  .by_cases h2:j=a
   .subst h2
    have:¬j=k:=λe=>h e.symm
    simp[mput,h,mgetD,mget?,this]
   .simp only[mgetD]at ih ⊢
    simp only[mput,h,if_false,mget?,h2]
    exact ih
theorem ME.put{f:List (Int×List Interest)}(hf:ME st f){x:Interest}(hx:x∈st):ME st (mput f k (mgetD f k []++[x])):=by
 intro j y hy
 rw[vi]at hy
 split at hy
 .rcases kF.1 hy with hy|hy
  .exact hf k y hy
  .rw[xC.1 hy];exact hx
 .exact hf j y hy
theorem yq(A B:List α)(x y:α):(A++x::y::B).Perm (y::x::(A++B)):=
 List.perm_middle.trans ((List.Perm.cons x List.perm_middle).trans (List.Perm.swap y x _))
theorem BG{st:List Interest}{path:List Int}{N:Nat}(hN:st.length<=N)(h8:path.length+1<=8):∀{xs:List Interest}{m:List (Int×Bool)}{q:List gN},(∀x∈xs,x∈st)->uT st m q->(m.map (·.1)).Nodup ->
  (conStep path xs m q).2.length+(N-(conStep path xs m q).1.length)<=q.length+(N-m.length)
 |[],m,q,_,_,_=>jG _
 |x::xs,m,q,hx,hg,hn=>by
  have hp:(gN.mk (path++[x.No]) x.Party).to∈st.map (·.Party):=List.mem_map_of_mem (hx x (jB ..))
  have h1:=Km (w:=⟨path++[x.No],x.Party⟩) hg hn hp hN
  have h2:=BG (path:=path) hN h8 (xs:=xs) (λy hy=>hx y (xB _ hy)) (tX hg hp (by simpa using h8)) (Ix hn)
  simp only[conStep]
  exact vT h2 h1
def lastV(t known:Int)(acc:Option Version)(y:Version):Option Version:=
 bif decide (y.At<=t)&&decide (y.Known<=known)then(match acc with
  |none=>some y
  |some a=>bif decide (a.At<=y.At)then some y else some a)else acc
def FV(t known:Int)(l:List Version):Option Version:=l.foldl (lastV t known) none
structure RZ(f known:Int)(pre:List Version)(b:Int)(m:List (Int×Version)):Prop where
 at_:∀a,FV f known pre=some a->b=a.At
 no:FV f known pre=none->b=-1
 beg:mget? m f=FV f known pre
 has:∀t,f<t->(t∈m.map (·.1)↔∃y∈pre,y.At=t/\y.Known<=known)
 get:∀t,f<t->t∈m.map (·.1)->∃v,mget? m t=some v/\FV t known pre=some v/\v.At=t
 low:∀t,t∈m.map (·.1)->f<=t
theorem PX(s:ByteArray):gI s=dJ s:=by
 rw[vM]
 refine⟨Mc,λh=>?_⟩
 unfold dJ at h
 unfold gI
 rw[BH,Ig]at h
 rw[Bool.cond_eq_ite]at h ⊢
 split at h
 .cases h
 .next hc=>
  simp only[xD,not_or,decide_eq_true_eq,Bool.not_eq_true]at hc
  obtain⟨⟨h1,h2⟩,h3⟩:=hc
  have hs:¬((s.size:Int)<1):=λhlt=>by
   have h9:=uX s
   have:s.toList=[]:=List.length_eq_zero_iff.1 (by omega)
   rw[this]at h1
   have e2:(⟨#[]⟩:ByteArray).toList=[]:=by
    have:=uX (⟨#[]⟩:ByteArray)
    exact List.length_eq_zero_iff.1 this
   rw[e2]at h1;simp at h1
  rw[if_neg]
  .exact h
  .simp only[xD,not_or,decide_eq_true_eq]
   exact⟨⟨hs,h2⟩,by simpa using h3⟩
theorem Mn(s:ByteArray):nd s=dN s:=by
 rw[Ht];unfold nd;rw[PX]
theorem Dm(l:List ByteArray):eK l=bD l dN:=by
 have key:∀(L l:List ByteArray)(i:Nat),eK.L1 L eK.K1 l i=bD.L1 L dN bD.K1 l i:=by
  intro L l
  induction l with
  |nil=>intros;rfl
  |cons y l ih=>intro i;simp only[eK.L1,bD.L1,Mn,rindex,ih]
 exact key l l 0
theorem E1(off:List ByteArray)(x:Expr):(∀z∈bj x 1,((!(dk z.x))||da off z.x.Name)=true)->bK off x=true:=by
 refine Tk (P:=λx=>(∀z∈bj x 1,((!(dk z.x))||da off z.x.Name)=true)->bK off x=true) ?_ x
 intro x ih h
 have h:=(qf (λy=>((!(dk y))||da off y.Name)=true) x 1).1 h
 rw[JD]
 unfold bK.F
 have hx:=h.1
 unfold dk da at hx
 rw[Bool.cond_eq_ite,if_neg]
 .have:∀l:List Expr,(∀y∈l,bK off y=true)->bK.L1 bK off bK.K1 l=true:=by
   intro l
   induction l with
   |nil=>intro _;rfl
   |cons y l ih2=>
    intro hl
    simp only[bK.L1,hl y (jB ..),Bool.not_true,cond_false]
    exact ih2 λz hz=>hl z (xB _ hz)
  exact this x.L λy hy=>ih y hy (h.2 y hy)
 .rw[rindex]
  simp only[zB,decide_eq_true_eq,not_and]
  intro hk hi
  rw[hk]at hx
  simp only[Bool.not_true,Bool.false_or,decide_eq_true_eq]at hx
  omega
theorem FF{x:Expr}{u:Bool}(h:(aK x.Kind 1 4&&kindsP x.Kind x)=true)(h4:u=false->x.Kind≠4):aC.K1 x u=true:=by
 simp only[zB]at h
 have hb:1<=x.Kind/\x.Kind<=4:=by have:=h.1;simpa[aK]using this
 have hc:x.Kind=1\/x.Kind=2\/x.Kind=3\/x.Kind=4:=by omega
 have h2:=h.2
 unfold aC.K1
 rcases hc with e|e|e|e
 .rw[e]at h2 ⊢
  have h2:ka x=true:=h2
  unfold ka at h2
  rw[show((1:Int)==1)=true from rfl,cond_true];exact h2
 .rw[e]at h2 ⊢
  have h2:j9 x=true:=h2
  unfold j9 aK at h2
  rw[show((2:Int)==1)=false from rfl,show((2:Int)==2)=true from rfl,cond_false,cond_true];exact h2
 .rw[e]at h2 ⊢
  have h2:j8 x=true:=h2
  unfold j8 aK at h2
  rw[show((3:Int)==1)=false from rfl,show((3:Int)==2)=false from rfl,show((3:Int)==3)=true from rfl,cond_false,cond_false,cond_true]
  simp only[zB]at h2 ⊢
  exact⟨⟨⟨⟨h2.1.1,h2.1.2.1⟩,h2.1.2.2⟩,h2.2.1⟩,h2.2.2⟩
 .have hu:u=true:=by
   cases u with
   |true=>rfl
   |false=>exact absurd e (h4 rfl)
  subst hu
  rw[e]at h2 ⊢
  have h2:jd x=true:=h2
  unfold jd aK at h2
  rw[show((4:Int)==1)=false from rfl,show((4:Int)==2)=false from rfl,show((4:Int)==3)=false from rfl,show((4:Int)==4)=true from rfl,cond_false,cond_false,cond_false,cond_true]
  simp only[zB]at h2 ⊢
  exact⟨⟨⟨⟨trivial,h2.1.1⟩,h2.1.2⟩,h2.2.1⟩,h2.2.2⟩
theorem Dh(u:Bool)(x:Expr):(∀z∈bj x 1,(aK z.x.Kind 1 4&&kindsP z.x.Kind z.x)=true/\(u=false->z.x.Kind≠4))->aC x u=true:=by
 refine Tk (P:=λx=>(∀z∈bj x 1,(aK z.x.Kind 1 4&&kindsP z.x.Kind z.x)=true/\(u=false->z.x.Kind≠4))->aC x u=true) ?_ x
 intro x ih h
 have h:=(qf (λy=>(aK y.Kind 1 4&&kindsP y.Kind y)=true/\(u=false->y.Kind≠4)) x 1).1 h
 rw[Hv]
 unfold aC.F
 have:∀(k:Bool)(l:List Expr),(∀y∈l,aC y u=true)->aC.L1 aC u k l=k:=by
  intro k l
  induction l with
  |nil=>intro _;rfl
  |cons y l ih2=>
   intro hl
   simp only[aC.L1,hl y (jB ..),Bool.not_true,cond_false]
   exact ih2 λz hz=>hl z (xB _ hz)
 rw[this _ x.L λy hy=>ih y hy (h.2 y hy)]
 exact FF h.1.1 h.1.2
theorem Nf(l:List Expr):∀a:Int,aY.L1 aY (λg=>g) l a=a\/∃y∈l,aY.L1 aY (λg=>g) l a=aY y:=by
 induction l with
 |nil=>intro a;exact .inl rfl
 |cons y l ih=>
  intro a
  simp only[aY.L1]
  rcases ih (max a (aY y))with h|⟨z,hz,h⟩
  .rw[h]
   rcases Int.le_total a (aY y)with q|q
   .exact .inr ⟨y,jB ..,by omega⟩
   .exact .inl (by omega)
  .exact .inr ⟨z,xB _ hz,h⟩
theorem FP(x:Expr):x.dep<=1500000->∀d:Int,∃z∈bj x d,z.depth=d+aY x-1:=by
 refine Tk (P:=λx=>x.dep<=1500000->∀d:Int,∃z∈bj x d,z.depth=d+aY x-1) ?_ x
 intro x ih hx d
 have hd:=(Kj x hx).2
 rw[nh]
 rcases Nf x.L 0 with h|⟨y,hy,h⟩
 .exact⟨⟨x,d⟩,jB ..,by rw[hd,h];show d=d+(0+1)-1;omega⟩
 .have hlt:=Expr.iS hy
  obtain⟨z,hz,e⟩:=ih y hy (by omega) (d+1)
  exact⟨z,xB _ (List.mem_flatMap.2 ⟨y,hy,hz⟩),by rw[e,hd,h];omega⟩
theorem Ld{x:Expr}(hx:x.dep<=1500000)(h1:(bj x 1).length<=256)(h2:∀z∈bj x 1,z.depth<=16):jI x=false:=by
 unfold jI
 rw[HH x 256 (by decide) (by decide)]
 obtain⟨z,hz,e⟩:=FP x hx 1
 have:=h2 z hz
 have hc:cnt x<=256:=h1
 simp only[Bool.or_eq_false_iff,decide_eq_false_iff_not]
 exact⟨by omega,by omega⟩
theorem MQ(off:List ByteArray)(x:Expr):(∀z∈bj x 1,z.x.No=rno off z.x)->bh (ah off x) x=true:=by
 refine Tk (P:=λx=>(∀z∈bj x 1,z.x.No=rno off z.x)->bh (ah off x) x=true) ?_ x
 intro x ih h
 have h:=(qf (λy=>y.No=rno off y) x 1).1 h
 rw[LV,CQ]
 unfold bh.F
 have e:(((((x.Kind != x.Kind)||(x.N != x.N))||(rno off x != x.No))||(!(x.Name.toList==x.Name.toList)))||(((x.L.map (ah off)).length:Int) != (x.L.length:Int)))=false:=by simp[h.1]
 show(bif(((((x.Kind != x.Kind)||(x.N != x.N))||(rno off x != x.No))||(!(x.Name.toList==x.Name.toList)))||(((x.L.map (ah off)).length:Int) != (x.L.length:Int)))then false else bh.L1 bh x bh.K1 (x.L.map (ah off)) 0)=true
 rw[e,cond_false]
 have:∀(l pre:List Expr),x.L=pre++l->bh.L1 bh x bh.K1 (l.map (ah off)) pre.length=true:=by
  intro l
  induction l with
  |nil=>intro _ _;rfl
  |cons y l ih2=>
   intro pre hp
   have hy:nthI x.L (pre.length:Int)=y:=pb (by rw[hp];simp)
   have hm:y∈x.L:=by rw[hp];simp
   have:=ih2 (pre++[y]) (by rw[hp];simp)
   rw[jA,xA,vB,Nat.zero_add]at this
   simp only[kH,bh.L1,hy,ih y hm (h.2 y hm),Bool.not_true,cond_false]
   exact this
 exact this x.L [] rfl
theorem Es(l:List ByteArray):ey l l=true:=by
 have:∀(s pre:List ByteArray),l=pre++s->ey.L1 l ey.K1 s pre.length=true:=by
  intro s
  induction s with
  |nil=>intro _ _;rfl
  |cons y s ih=>
   intro pre hp
   have hy:nthI l (pre.length:Int)=y:=pb (by rw[hp];simp)
   have:=ih (pre++[y]) (by rw[hp];simp)
   rw[jA,xA,vB,Nat.zero_add]at this
   simp only[ey.L1,hy,beq_self_eq_true,Bool.not_true,cond_false]
   exact this
 unfold ey
 rw[bne_self_eq_false,cond_false]
 exact this l [] rfl
theorem Ew(off:List ByteArray):∀(l:List Rule)(i:Nat),(rrules off l i).length=l.length
 |[],_=>rfl
 |y::l,i=>by simp only[rrules,xA,Ew off l]
theorem Lv{p:Policy}(hs:smP p)(h:cQ p=0):gk p=0:=by
 obtain⟨h1,h2,h3⟩:=(BI p).1 h
 obtain⟨s1,s2,s3⟩:=(tA p).1 h1
 obtain⟨⟨a1,a2,a3⟩,a4⟩:=(AI p).1 s1
 obtain⟨⟨n1,n2,n3⟩,n4⟩:=(E0 p).1 s2
 unfold bq bq.K1 bq.K2 at s3
 rw[qg,Bu,D2]at s3
 obtain⟨f1,f2,f3⟩:=s3
 simp only[zB,decide_eq_true_eq,beq_iff_eq,aK]at f1
 have hlen:(aw p).length=p.Rules.length+1:=by rw[mM];simp
 have hrule:∀r∈p.Rules,r.Expr∈aw p:=λr hr=>FI hr
 have hch:p.Change∈aw p:=by rw[mM];simp
 have hdep:∀x∈aw p,x.dep<=1500000:=λx hx=>by
  rw[mM]at hx
  simp only[kF,kM,xC]at hx
  rcases hx with⟨r,hr,rfl⟩|rfl
  .exact hs.2.1 r hr
  .exact hs.2.2.1
 have hlarge:∀x∈aw p,jI x=false:=λx hx=>Ld (hdep x hx) (a4 x hx).1 (a4 x hx).2
 have hT:fa p=false:=by
  unfold fa
  rw[Bool.cond_eq_ite,if_neg]
  .have:∀l:List Rule,(∀r∈l,jI r.Expr=false)->fa.L1 fa.K1 l=false:=by
    intro l
    induction l with
    |nil=>intro _;rfl
    |cons y l ih=>
     intro hl
     simp only[fa.L1,hl y (jB ..),cond_false]
     exact ih λz hz=>hl z (xB _ hz)
   exact this p.Rules λr hr=>hlarge _ (hrule r hr)
  .simp only[xD,decide_eq_true_eq,not_or,hlarge _ hch,Bool.false_eq_true,not_false_eq_true,and_true]
   omega
 have hN:gO p=true:=by
  unfold gO
  rw[Mn,Dm,Dm,n1,n2,n3]
  simp only[Bool.not_true,Bool.or_self,cond_false]
  have:∀(k:Bool)(l:List Rule),(∀r∈l,bK p.Offices r.Expr=true)->gO.L1 p k l=k:=by
   intro k l
   induction l with
   |nil=>intro _;rfl
   |cons y l ih=>
    intro hl
    simp only[gO.L1,hl y (jB ..),Bool.not_true,cond_false]
    exact ih λz hz=>hl z (xB _ hz)
  rw[this _ p.Rules λr hr=>E1 p.Offices _ (n4 _ (hrule r hr))]
  exact E1 p.Offices _ (n4 _ hch)
 have hget:∀(j:Nat)(r:Rule),p.Rules[j]? = some r->(aw p)[j]? = some r.Expr:=λj r hj=>by
  have hlt:=(List.getElem?_eq_some_iff.1 hj).1
  rw[mM,List.getElem?_append_left (by simpa using hlt),List.getElem?_map,hj];rfl
 have hgetc:(aw p)[p.Rules.length]? = some p.Change:=by
  rw[mM,List.getElem?_append_right (by simp)];simp
 have hFm:fQ p=true:=by
  unfold fQ
  rw[Bool.cond_eq_ite,if_neg]
  .have:∀(l pre:List Rule),p.Rules=pre++l->fQ.L1 p (fQ.K1 p) l pre.length=true:=by
    intro l
    induction l with
    |nil=>
     intro pre _
     refine Dh false _ λz hz=>?_
     obtain⟨q1,q2⟩:=f3 _ _ hgetc z hz
     refine⟨q1,λ_ he=>?_⟩
     rw[hlen,wrap64 (by omega),Nat.zero_add]at q2
     have e1:decide ((p.Rules.length:Int)<((p.Rules.length+1:Nat):Int)-1)=false:=decide_eq_false (by omega)
     rw[e1,Bool.false_or,he]at q2
     simp at q2
    |cons y l ih=>
     intro pre hp
     have hj:p.Rules[pre.length]? = some y:=by rw[hp];simp
     have q:=f2 pre.length y hj
     rw[Nat.zero_add]at q
     simp only[zB,aK,decide_eq_true_eq]at q
     have hfe:aC y.Expr true=true:=Dh true _ λz hz=>⟨(f3 _ _ (hget _ _ hj) z hz).1,λhh=>by cases hh⟩
     have d1:decide (y.Think<0)=false:=by simp;omega
     have d2:decide (1099511627776<=y.Think)=false:=by simp;omega
     have:=ih (pre++[y]) (by rw[hp];simp)
     rw[jA,xA,vB,Nat.zero_add]at this
     simp only[fQ.L1,q.1,d1,d2,hfe,Bool.not_true,Bool.or_self,cond_false]
     exact this
   exact this p.Rules [] rfl
  .simp only[xD,decide_eq_true_eq,bne_iff_ne,not_or,ne_eq,Decidable.not_not]
   omega
 have hRes:dQ p=(kN p.Name p.Kinds p.Offices (rrules p.Offices p.Rules 0) (ah p.Offices p.Change) p.Mode,0):=by
  unfold dQ
  rw[hT,hN,hFm]
  simp only[cond_false,Bool.not_true]
  rw[Aw,xG]
 have hsame:∀x,bO p.Offices x=true->bh (ah p.Offices x) x=true:=λx hx=>by
  refine MQ p.Offices x ?_
  unfold bO bO.K1 at hx
  exact(qs p.Offices _).1 hx
 have hSame:ii (kN p.Name p.Kinds p.Offices (rrules p.Offices p.Rules 0) (ah p.Offices p.Change) p.Mode) p=true:=by
  unfold ii
  rw[Bool.cond_eq_ite,if_neg]
  .have:∀(l pre:List Rule),p.Rules=pre++l->ii.L1 p ii.K1 (rrules p.Offices l pre.length) pre.length=true:=by
    intro l
    induction l with
    |nil=>intro _ _;rfl
    |cons y l ih=>
     intro pre hp
     have hy:nthI p.Rules (pre.length:Int)=y:=pb (by rw[hp];simp)
     have hj:p.Rules[pre.length]? = some y:=by rw[hp];simp
     obtain⟨g1,g2⟩:=h2 pre.length y hj
     have:=ih (pre++[y]) (by rw[hp];simp)
     rw[jA,xA,vB,Nat.zero_add]at this
     simp only[rrules,ii.L1,hy,hsame _ g2,g1,beq_self_eq_true,bne_self_eq_false,Bool.not_true,Bool.or_self,cond_false]
     exact this
   exact this p.Rules [] rfl
  .show ¬((((((!(p.Name.toList==p.Name.toList))||(p.Mode != p.Mode))||(!(ey p.Offices p.Offices)))||(!(ey p.Kinds p.Kinds)))||(((rrules p.Offices p.Rules 0).length:Int) != (p.Rules.length:Int)))||(!(bh (ah p.Offices p.Change) p.Change)))=true
   rw[Es,Es,Ew,hsame _ h3]
   simp
 unfold gk
 rw[hRes]
 dsimp only
 rw[hSame];rfl
theorem GF{l:List Version}(hs:smV l)(h:bF l=0):dM l=0:=by
 have g:=(rl l).1 h
 have hlen:=g.len
 unfold dM
 rw[Bool.cond_eq_ite,if_neg (by simp;omega)]
 have:∀(s pre:List Version),l=pre++s->dM.L1 l dM.K1 s pre.length=0:=by
  intro s
  induction s with
  |nil=>intro _ _;rfl
  |cons y s ih=>
   intro pre hp
   have hy:y∈l:=by rw[hp];simp
   obtain⟨q1,q2,q3,q4⟩:=g.each y hy
   have hlast:(decide (0<(pre.length:Int))&&decide (y.No<=(nthI l ((pre.length:Int)-1)).No))=false:=by
    rcases List.eq_nil_or_concat pre with rfl|⟨a,x,e⟩
    .rfl
    .rw[List.concat_eq_append]at e
     subst e
     have hx:nthI l (((a++[x]).length:Int)-1)=x:=by
      rw[show(((a++[x]).length:Int)-1)=(a.length:Int)from by simp]
      exact pb (by rw[hp];simp)
     have hi:=g.inc
     rw[hp,List.pairwise_append]at hi
     have:=hi.2.2 x (by simp) y (jB ..)
     rw[hx]
     have e2:decide (y.No<=x.No)=false:=by simp;omega
     rw[e2,Bool.and_false]
   have:=ih (pre++[y]) (by rw[hp];simp)
   rw[jA,xA,vB,Nat.zero_add]at this
   simp only[dM.L1,Bool.cond_eq_ite]
   rw[if_neg]
   .exact this
   .have hck:=Lv (hs.2 y hy) q4
    simp only[xD,not_or,decide_eq_true_eq,zB,qE,Bool.not_eq_false,bne_iff_ne,ne_eq,Classical.not_not,fD,hck,and_true]
    simp only[Bool.and_eq_false_iff,decide_eq_false_iff_not]at hlast
    omega
 exact this l [] rfl
theorem EA{B:Int->Bool}{k:Bool}{L:List Int}(hB:∀y∈L,B y=false)(hL:L.Pairwise (·<·))(hk:k=true):∀(l pre:List Int),L=pre++l->refLs B L k l pre.length=true
 |[],_,_=>hk
 |y::l,pre,h=>by
  have hlast:(decide (0<(pre.length:Int))&&decide (y<=nthI L ((pre.length:Int)-1)))=false:=by
   rcases List.eq_nil_or_concat pre with rfl|⟨a,x,e⟩
   .rfl
   .rw[List.concat_eq_append]at e
    subst e
    have hx:nthI L (((a++[x]).length:Int)-1)=x:=by
     rw[show(((a++[x]).length:Int)-1)=(a.length:Int)from by simp]
     exact pb (by rw[h];simp)
    have hi:=hL
    rw[h,List.pairwise_append]at hi
    have:=hi.2.2 x (by simp) y (jB ..)
    rw[hx]
    have e2:decide (y<=x)=false:=by simp;omega
    rw[e2,Bool.and_false]
  have ih:=EA hB hL hk l (pre++[y]) (by rw[h];simp)
  rw[jA,xA,vB,Nat.zero_add]at ih
  have hy:y∈L:=by rw[h];simp
  simp only[refLs,hB y hy,hlast,Bool.or_self,cond_false]
  exact ih
theorem zO{l:List Int}{limit:Int}(h:((∀x∈l,0<=x/\x<limit)/\l.Pairwise (·<·))/\l.length<=16):eL l limit=true:=by
 have e:∀(L l:List Int)i,eL.L1 L limit (eL.K1 L) l i=refLs (λy=>decide (y<0)||decide (limit<=y)) L (eL.K1 L) l i:=by
  intro L l
  induction l with
  |nil=>intro i;rfl
  |cons y l ih=>intro i;simp only[eL.L1,refLs,ih]
 unfold eL
 rw[e]
 refine EA (λy hy=>?_) h.1.2 ?_ l [] rfl
 .have:=h.1.1 y hy
  simp only[Bool.or_eq_false_iff,decide_eq_false_iff_not];omega
 .unfold eL.K1;rw[decide_eq_true_eq];omega
theorem Hw(no:Int):∀(l:List Document)(i:Nat),(l.any λd=>d.No==no)=true->0<=fR.L1 no fR.K1 l i
 |[],i,h=>by cases h
 |y::l,i,h=>by
  simp only[fR.L1,Bool.cond_eq_ite]
  split
  .omega
  .next hc=>
   rw[List.any_cons,Bool.eq_false_iff.2 hc,Bool.false_or]at h
   exact Hw no l (i+1) h
theorem Ej(L:List Document):∀nos:List Int,(∀x∈nos,(L.any λd=>d.No==x)=true)->dl.L1 L dl.K1 nos=true
 |[],_=>rfl
 |y::nos,h=>by
  have h1:=Hw y L 0 (h y (jB ..))
  have:decide (fR L y<0)=false:=by unfold fR;simp;omega
  simp only[dl.L1,this,cond_false]
  exact Ej L nos λx hx=>h x (xB _ hx)
theorem OJ{L:List Document}{d:Document}(h:eV (ay L) d=true):dl L d.Revokes=true/\dl L d.Needs=true:=by
 have hs:=(AK L L 0 []).2
 have key:∀nos:List Int,cH nos (λdC=>eH dC (ay L))=false->dl L nos=true:=by
  intro nos hn
  rw[containsF,List.any_eq_false]at hn
  refine Ej L nos λx hx=>?_
  have h1:=hn x hx
  unfold eH at h1
  have e:mhas (ay L).at_ x=(mhas [] x||L.any λd=>d.No==x):=hs x
  rw[e]at h1
  simpa[mhas,mget?]using h1
 unfold eV at h
 simp only[zB,qE]at h
 exact⟨key _ h.1,key _ h.2⟩
theorem FL{l:List Document}(h:aU l=0):dL l=0:=by
 have L:∀(L l:List Document)(i:Nat),aU.L1 L aU.K1 l i=0->dL.L1 L dL.K1 l i=0:=by
  intro L l
  induction l with
  |nil=>intros;rfl
  |cons y l ih=>
   intro i h
   simp only[aU.L1,Bool.cond_eq_ite]at h
   split at h
   .omega
   .next hc=>
    simp only[xD,not_or,qE,Bool.not_eq_false,Bool.not_eq_true]at hc
    obtain⟨⟨c1,c2⟩,c3⟩:=hc
    obtain⟨t1,t2⟩:=OJ c3
    have hR:iv y=true:=by
     simp only[gS,zB,decide_eq_true_eq,fM]at c1
     obtain⟨⟨⟨⟨⟨⟨⟨⟨⟨⟨⟨⟨p1,p2⟩,p3⟩,p4⟩,p5⟩,p6⟩,p7⟩,p8⟩,p9⟩,p10⟩,p11⟩,p12⟩,p13⟩:=c1
     unfold iv
     rw[Bool.cond_eq_ite,if_neg]
     .rw[zO ((DY _ _).1 p11),zO ((DY _ _).1 p12),zO ((DY _ _).1 p13)]
      simp only[zB,decide_eq_true_eq,Bool.and_true]
      exact⟨⟨p8,p9⟩,p10⟩
     .simp only[lT,xD,decide_eq_true_eq,qE,Bool.and_eq_false_iff,decide_eq_false_iff_not,not_or]
      omega
    simp only[dL.L1,hR,c2,t1,t2,Bool.not_true,Bool.or_false,Bool.or_self,cond_false]
    exact ih (i+1) h
 unfold aU at h
 unfold dL
 rw[Bool.cond_eq_ite]at h ⊢
 split at h
 .omega
 .next hc=>rw[if_neg hc];exact L l l 0 h
theorem judge30{r:Register}(hs:smR r):dD r=0↔lk r=0:=by
 constructor
 .intro h
  obtain⟨d1,d2,d3,d4,d5,d6,d7⟩:=(kO r).1 h
  simp only[lk,(C0 r.Appoints).symm.trans d1,(BC r.Deputies).symm.trans d2,(zg r.Interests).symm.trans d3,(yh r.Budgets).symm.trans d4,GF hs.vers d5,FL d6,(zo r.Approvals).symm.trans d7]
  rfl
 .intro h
  obtain⟨c1,c2,c3,c4,c5,c6,c7⟩:=Kr h
  exact(kO r).2 ⟨(C0 r.Appoints).trans c1,(BC _).trans c2,(zg r.Interests).trans c3,(yh _).trans c4,Ku hs.vers c5,GC c6,(zo _).trans c7⟩
theorem Ox{α : Type}{f:α->Int}:∀{l:List α},l.Pairwise (λa b=>f a<f b)->∀{a b:α},a∈l->b∈l->f a=f b->a=b
 |[],_,_,_,ha,_,_=>(kA ha).elim
 |y::l,h,a,b,ha,hb,e=>by
  rw[List.pairwise_cons]at h
  rcases qC.1 ha with e1|ha2
  .rcases qC.1 hb with e2|hb2
   .rw[e1,e2]
   .have:=h.1 b hb2;rw[e1]at e;omega
  .rcases qC.1 hb with e2|hb2
   .have:=h.1 a ha2;rw[e2]at e;omega
   .exact Ox h.2 ha2 hb2 e
def sKey(y:Interest):dP:=dP.mk y.Person y.Party y.Of
def sCnt(t known:Int)(y:Interest):Prop:=y.At<=t/\y.Known<=known
def sOver(z w:Interest):Prop:=z.At<w.At\/(w.At=z.At/\z.No<w.No)
structure RT(t known:Int)(pre:List Interest)(m:List (dP×Interest)):Prop where
 some:∀k z,mget? m k=some z->z∈pre/\sKey z=k/\sCnt t known z/\∀w∈pre,sKey w=k->sCnt t known w->¬sOver z w
 none:∀k,mget? m k=none->∀w∈pre,sKey w=k->¬sCnt t known w
structure ChL(l:List Int):Prop where
 inc:l.Pairwise (·<·)
 zero:∃l',l=0::l'
 tm:∀x∈l,0<=x/\x<1099511627776
theorem MP(l:List Document){d:Document}(hd:d∈l):mhas (ay l).at_ d.No=true:=by
 have:=(AK l l 0 []).2 d.No
 show mhas (ay.L1 (ay.K1 l) l 0 []).at_ d.No=true
 rw[this]
 simp only[xD,List.any_eq_true,beq_iff_eq]
 exact .inr ⟨d,hd,rfl⟩
theorem Hx{t:Int}(h:0<=t/\t<1099511627776):fM t=true:=by
 simp only[fM,zB,decide_eq_true_eq];exact h
theorem xx{l:List Document}{t:Int}(hc:aU l=0)(hs:cj l signed=true)(ht:0<=t/\t<1099511627776):(bQ l signed t).2=0:=by
 unfold bQ
 rw[hc,hs,Hx ht]
 simp only[bne_self_eq_false,cond_false,Bool.not_true,Bool.or_false]
 have:∀(s:List Document)(i:Nat)(g:List Int),(bQ.L1 l signed t bQ.K1 s i g).2=0:=by
  intro s
  induction s with
  |nil=>intro i g;rfl
  |cons y s ih=>intro i g;simp only[bQ.L1,Bool.cond_eq_ite];split<;>exact ih _ _
 exact this _ _ _
theorem Pz{l:List Document}{t:Int}{d:Document}(hc:aU l=0)(hs:cj l signed=true)(ht:0<=t/\t<1099511627776)(hd:d∈l):(fV l signed d.No t).2.2=0:=by
 unfold fV
 rw[hc,hs,Hx ht,vg,MP l hd];rfl
theorem P3{l:List Document}{f:Document->Bool}{d:Document}(hd:d∈l)(hf:f d=true):0<=ad l f/\ad l f<(l.length:Int):=by
 unfold ad
 rcases Fg f l 0 with⟨_,h⟩|⟨a,y,b,h1,h2,_⟩
 .rw[h d hd]at hf;cases hf
 .rw[h2,h1];simp only[jA,xA];omega
theorem N4{l:List Document}(h:cj l signed=true):signed.length=l.length:=by
 simp only[cj,zB,beq_iff_eq]at h
 have:=h.1
 omega
section
variable {c:bI} (h:iH c)
include h
theorem iH.docs:aU c.Register.Docs=0:=((kO _).1 h.chk).2.2.2.2.2.1
theorem GD(hs:cj c.Register.Docs signed=true):(bQ c.Register.Docs signed c.at_).2=0:=xx h.docs hs h.time
theorem Nh{d:Document}(hs:cj c.Register.Docs signed=true)(hd:d∈c.Register.Docs):(fV c.Register.Docs signed d.No c.at_).2.2=0:=Pz h.docs hs h.time hd
theorem Hz(hs:cj c.Register.Docs signed=true):0<=ad c.Register.Docs (λdC=>ce dC c)/\ad c.Register.Docs (λdC=>ce dC c)<(signed.length:Int):=by
 rw[N4 hs]
 exact P3 h.doc (by simp[ce])
end
theorem FQ:∀(xs out:List Int),out.Pairwise (·<·)->(∀a∈out,∀y∈xs,a<=y)->xs.Pairwise (·<=·) ->
  (xs.foldl compStep out).Pairwise (·<·)/\∀z,z∈xs.foldl compStep out↔z∈out\/z∈xs
 |[],out,h1,_,_=>⟨h1,λz=>by simp⟩
 |x::xs,out,h1,h2,h3=>by
  rw[List.pairwise_cons]at h3
  simp only[Te]
  by_cases hx:out.getLast? = some x
  .have e:compStep out x=out:=by simp[compStep,hx]
   rw[e]
   obtain⟨a,b⟩:=FQ xs out h1 (λa ha y hy=>h2 a ha y (xB _ hy)) h3.2
   refine⟨a,λz=>?_⟩
   rw[b]
   constructor
   .rintro(h|h)
    .exact .inl h
    .exact .inr (xB _ h)
   .rintro(h|h)
    .exact .inl h
    .rcases qC.1 h with rfl|h
     .exact .inl (List.mem_of_getLast? hx)
     .exact .inr h
  .have e:compStep out x=out++[x]:=by simp[compStep,hx]
   rw[e]
   have hlt:∀a∈out,a<x:=by
    intro a ha
    have hle:=h2 a ha x (jB ..)
    rcases Int.lt_or_eq_of_le hle with h|h
    .exact h
    .exfalso
     subst h
     obtain⟨pre,post,hp⟩:=List.append_of_mem ha
     cases post with
     |nil=>exact hx (by rw[hp];simp)
     |cons p post=>
      rw[hp,List.pairwise_append]at h1
      have h4:=(List.pairwise_cons.1 h1.2.1).1 p (jB ..)
      have h5:=h2 p (by rw[hp];simp) a (jB ..)
      omega
   obtain⟨a,b⟩:=FQ xs (out++[x]) (by
     rw[List.pairwise_append]
     exact⟨h1,List.pairwise_singleton _ _,λa ha y hy=>by rw[xC.1 hy];exact hlt a ha⟩) (λa ha y hy=>by
     rcases kF.1 ha with ha|ha
     .exact h2 a ha y (xB _ hy)
     .rw[xC.1 ha];exact h3.1 y hy) h3.2
   refine⟨a,λz=>?_⟩
   rw[b]
   simp only[kF,qC,kA,or_false]
   constructor
   .rintro((h|h)|h)
    .exact .inl h
    .exact .inr (.inl h)
    .exact .inr (.inr h)
   .rintro(h|h|h)
    .exact .inl (.inl h)
    .exact .inl (.inr h)
    .exact .inr h
def setI(xs:List Int):List Int:=compI (sortI xs)
theorem DQ(xs:List Int):(setI xs).Pairwise (·<·)/\∀z,z∈setI xs↔z∈xs:=by
 obtain⟨a,b⟩:=FQ (sortI xs) [] List.Pairwise.nil (λ_ h=>(kA h).elim) (mw xs)
 refine⟨a,λz=>(b z).trans ?_⟩
 rw[(lS xs).mem_iff]
 simp
theorem OD{l:List Document}{f:Document->Bool}(h:0<=ad l f):∃a y b,l=a++y::b/\nthI l (ad l f)=y/\f y=true/\∀x∈a,f x=false:=by
 unfold ad at h ⊢
 rcases Fg f l 0 with⟨h1,_⟩|⟨a,y,b,h1,h2,h3,h4⟩
 .omega
 .refine⟨a,y,b,h1,?_,h3,h4⟩
  rw[h2,Nat.zero_add]
  exact pb (by rw[h1];simp)
theorem Ic{r:Register}{t:Int}(hc:dD r=0)(h:lV r doc t known=.ok c):
  c=⟨r,c.doc,t,known⟩/\iH c/\c.doc.No=doc/\∃a b,r.Docs=a++c.doc::b/\∀x∈a,x.No≠doc:=by
 unfold lV at h
 rw[Bool.cond_eq_ite]at h
 split at h
 .cases h
 .next hn=>
  simp only[xD,not_or,decide_eq_true_eq]at hn
  obtain⟨⟨h1,h2⟩,h3⟩:=hn
  cases h
  obtain⟨a,y,b,e1,e2,e3,e4⟩:=OD (by omega:0<=ad r.Docs (λdC=>bA dC doc))
  rw[e2]
  refine⟨rfl,⟨hc,by rw[e1];simp,?_,?_⟩,?_,a,b,e1,λx hx=>?_⟩
  .show 0<=t/\t<1099511627776;omega
  .show 0<=known/\known<1099511627776;omega
  .simpa[bA]using e3
  .simpa[bA]using e4 x hx
theorem JY(f:Version->Bool):∀(l:List Version)(i:Nat),(aZ.L1 f aZ.K1 l i=-1/\∀x∈l,f x=false) \/
  ∃a y b,l=a++y::b/\aZ.L1 f aZ.K1 l i=((i+a.length:Nat):Int)/\f y=true/\∀x∈a,f x=false
 |[],i=>.inl ⟨rfl,λ_ h=>(kA h).elim⟩
 |y::l,i=>by
  simp only[aZ.L1]
  cases hy:f y with
  |true=>exact .inr ⟨[],y,l,rfl,by simp,hy,λ_ h=>(kA h).elim⟩
  |false=>
   rcases JY f l (i+1)with⟨h1,h2⟩|⟨a,z,b,rfl,h2,h3,h4⟩
   .exact .inl ⟨h1,λx hx=>by rcases qC.1 hx with rfl|hx;exact hy;exact h2 x hx⟩
   .refine .inr ⟨y::a,z,b,rfl,?_,h3,λx hx=>by rcases qC.1 hx with rfl|hx;exact hy;exact h4 x hx⟩
    rw[cond_false,h2];simp only[xA];congr 1;omega
theorem Ba(c:bI)(no:Int):(fe c no=.error 1/\∀v∈c.Register.Versions,v.No≠no)\/∃a v b,c.Register.Versions=a++v::b/\fe c no=.ok v.Policy/\v.No=no/\∀x∈a,x.No≠no:=by
 unfold fe aZ
 rcases JY (λdC=>eF dC no) c.Register.Versions 0 with⟨h1,h2⟩|⟨a,v,b,h1,h2,h3,h4⟩
 .left
  rw[h1]
  exact⟨rfl,λv hv=>by simpa[eF]using h2 v hv⟩
 .right
  refine⟨a,v,b,h1,?_,by simpa[eF]using h3,λx hx=>by simpa[eF]using h4 x hx⟩
  rw[h2,show decide (((0+a.length:Nat):Int)<0)=false from decide_eq_false (by omega),cond_false,Nat.zero_add,pb (x:=v) (by rw[h1];simp)]
theorem M0{no:Int}{p:Policy}(h:fe c no=.ok p):∃v∈c.Register.Versions,v.No=no/\v.Policy=p:=by
 rcases Ba c no with⟨h1,_⟩|⟨a,v,b,h1,h2,h3,_⟩
 .rw[h]at h1;cases h1
 .rw[h]at h2;cases h2
  exact⟨v,by rw[h1];simp,h3,rfl⟩
theorem AZ{no:Int}(h:∃v∈c.Register.Versions,v.No=no):exOk (fe c no):=by
 obtain⟨v,hv,hn⟩:=h
 rcases Ba c no with⟨_,h2⟩|⟨_,_,_,_,h2,_⟩
 .exact absurd hn (h2 v hv)
 .rw[h2];trivial
structure KH(p:Policy):Prop where
 sm:smP p
 off:p.Offices.length<=32
 rules:p.Rules.length=p.Kinds.length/\∀y∈p.Rules,0<=y.Think/\y.Think<=1099511627775
theorem vu(h:iH c)(hs:smR c.Register){no:Int}{p:Policy}(hp:fe c no=.ok p):KH p:=by
 obtain⟨v,hv,_,rfl⟩:=M0 hp
 have hg:=(h.vers.each v hv).2.2.2
 exact⟨hs.1.2 v hv,(yz hg).2.1,(yz hg).1,(FU hg).2.2⟩
theorem Q5[Inhabited ρ]{x:Except Int ρ}{p:ρ}(h:x=.ok p):exD x=p:=by subst h;rfl
theorem Nm(l:List Approval)(doc ba known:Int):(eC l doc ba known).length<=l.length:=by
 show(bx.L1 doc ba known bx.K1 l).length<=l.length
 induction l with
 |nil=>exact jG _
 |cons y l ih=>simp only[bx.L1,Bool.cond_eq_ite];split<;>simp only[xA]<;>omega
theorem Nj(l:List Approval)(doc ba known:Int):(aB l doc ba known).length<=l.length:=by
 have h2:∀(g:List (eu×Approval))(s acc:List Approval),(aB.L2 g aB.K2 s acc).length<=acc.length+s.length:=by
  intro g s
  induction s with
  |nil=>intro acc;exact jG _
  |cons y s ih=>
   intro acc
   simp only[aB.L2,Bool.cond_eq_ite]
   split
   .have:=ih (acc++[y]);simp only[jA,xA,vB]at *;omega
   .have:=ih acc;simp only[xA];omega
 have h1:∀(s:List Approval)(g:List (eu×Approval)),(aB.L1 (aB.K1 l doc ba known) s g).length<=l.length:=by
  intro s
  induction s with
  |nil=>
   intro g
   have h3:=h2 g (eC l doc ba known) []
   have h4:=Nm l doc ba known
   show(aB.L2 g aB.K2 (eC l doc ba known) []).length<=l.length
   simp only[vB]at h3;omega
  |cons y s ih=>intro g;simp only[aB.L1,Bool.cond_eq_ite];split<;>exact ih _
 exact h1 _ _
theorem BF(l:List Approval)(d b th t k:Int):(cm l d b th t k).1.length<=l.length:=by
 unfold cm
 simp only[Bool.cond_eq_ite]
 split
 .exact qM _
 .split
  .exact qM _
  .exact vT (List.length_filter_le _ _) (Nj _ _ _ _)
def goodA(c:bI)(y:Approval):Bool:=(((hO c.Register.Appoints y.Office y.For c.at_ c.known).2.2.1&&(aG c.Register.Deputies y.For y.By y.Office c.doc.Kind c.doc.Value c.at_ c.known).2.1)&&(!(iJ c y.For)))&&(!(iJ c y.By))
theorem Mh(c:bI):∀l:List Approval,cC.L1 c cC.K1 l=l.filter (goodA c)
 |[]=>rfl
 |y::l=>by
  simp only[cC.L1,List.filter_cons,Mh c l,Bool.cond_eq_ite]
  rfl
theorem DZ(c:bI)(p:Policy):fK c p=bif decide ((p.Kinds.length:Int)<=c.doc.Kind)then[]else((cm c.Register.Approvals c.doc.No c.doc.At ((nthI p.Rules c.doc.Kind).Think) c.at_ c.known).1).filter (goodA c):=by
 show cC c p=_
 unfold cC
 rw[Mh]
theorem Cc(c:bI)(p:Policy):bB c p=setI ((fK c p).map (·.For)):=by
 have:∀(s:List Approval)(g:List Int),bB.L1 bB.K1 s g=setI (g++s.map (·.For)):=by
  intro s
  induction s with
  |nil=>intro g;simp[bB.L1,bB.K1,setI,slices_Compact_int]
  |cons y s ih=>intro g;simp only[bB.L1,ih,kH,kC,zQ,xG]
 have h:=this (fK c p) []
 rw[xG]at h
 exact h
theorem Kn:∀(xs out:List Int),(xs.foldl compStep out).length<=out.length+xs.length
 |[],out=>jG _
 |x::xs,out=>by
  simp only[Te,xA]
  have h1:=Kn xs (compStep out x)
  have h2:(compStep out x).length<=out.length+1:=by unfold compStep;split<;>simp
  omega
theorem OK(hs:smR c.Register)(p:Policy):(fK c p).length<=2000000:=by
 rw[DZ,Bool.cond_eq_ite]
 have h3:=hs.2.2.2.2.2.2
 split
 .exact qM _
 .exact vT (List.length_filter_le _ _) (vT (BF _ _ _ _ _ _) h3)
theorem EW(hs:smR c.Register)(p:Policy):(bB c p).length<=2000000:=by
 rw[Cc]
 have h1:=Kn (sortI ((fK c p).map (·.For))) []
 rw[iM,List.length_map]at h1
 have h2:(fK c p).length<=c.Register.Approvals.length:=by
  rw[DZ,Bool.cond_eq_ite]
  split
  .exact qM _
  .exact vT (List.length_filter_le _ _) (BF _ _ _ _ _ _)
 have h3:=hs.2.2.2.2.2.2
 show(compI _).length<=_
 unfold compI
 simp only[vB]at h1
 omega
theorem HY(u:List Use)(v t k:Int):∀s:List Budget,(bM.L1 u v t k bM.K1 s).2.2=0
 |[]=>rfl
 |y::s=>by
  simp only[bM.L1]
  have:∀(l:List Int)(a b:Int),(bM.L3 (λzg3_b6_0 zg3_b5_0=>(bif(decide (y.Count<zg3_b5_0)||decide (y.Value<zg3_b6_0))then(y.No,false,0)else(bM.L1 u v t k bM.K1 s))) l a b).2.2=0:=by
   intro l
   induction l with
   |nil=>intro a b;simp only[bM.L3,Bool.cond_eq_ite];split;rfl;exact HY u v t k s
   |cons z l ih=>intro a b;simp only[bM.L3];exact ih _ _
  exact this _ _ _
theorem rm{a b:Int}:aN a b [z]=true↔a<=z/\z<=b:=by
 simp only[aN,containsF,iE,List.any_cons,List.any_nil,Bool.or_false,qE,Bool.or_eq_false_iff,decide_eq_false_iff_not];omega
theorem Dq{a b y:Int}:aN a b [y,z]=true↔(a<=y/\y<=b)/\(a<=z/\z<=b):=by
 simp only[aN,containsF,iE,List.any_cons,List.any_nil,Bool.or_false,qE,Bool.or_eq_false_iff,decide_eq_false_iff_not];omega
theorem Oi{l:List Budget}(h:(bM l u 0 0 0 0).2.2=0){v t:Int}(hk:0<=k/\k<16)(hv:0<=v/\v<=1099511627776)(ht:0<=t/\t<1099511627776)(hn:0<=n/\n<1099511627776):(bM l u k v t n).2.2=0:=by
 unfold bM at h ⊢
 cases h1:(cu l) != 0 with
 |true=>
  rw[h1,cond_true]at h
  have:cu l=0:=h
  rw[this]at h1;cases h1
 |false=>
  rw[h1,cond_false]at h
  rw[cond_false]
  cases h2:decide (4096<(u.length:Int))with
  |true=>rw[h2,cond_true]at h;cases h
  |false=>
   rw[h2,cond_false]at h
   rw[cond_false]
   cases h3:gF u with
   |false=>rw[h3]at h;cases h
   |true=>
    rw[rm.2 (show(0:Int)<=k/\k<=15 by omega),rm.2 hv,Dq.2 (show((0:Int)<=t/\t<=1099511627775)/\(0<=n/\n<=1099511627775) by omega)]
    exact HY _ _ _ _ _
theorem Ij{l:List Document}{t:Int}(h:(bQ l signed t).2=0):cj l signed=true:=by
 unfold bQ at h
 cases h1:(aU l) != 0 with
 |true=>
  rw[h1,cond_true]at h
  have:aU l=0:=h
  rw[this]at h1;cases h1
 |false=>
  rw[h1,cond_false]at h
  cases h2:cj l signed with
  |true=>rfl
  |false=>rw[h2]at h;cases h
theorem HB(h:fy c signed=false):c.doc.At<=c.at_:=by
 unfold fy at h
 simp only[Bool.or_eq_false_iff,decide_eq_false_iff_not]at h
 have:=h.1.1.1
 omega
theorem MN:smP cw:=by
 refine⟨by decide,λr hr=>?_,by decide,by decide,by decide⟩
 rw[xC.1 hr];decide
theorem j7{a:List Appoint}{i:List Interest}{b:List Budget}(ha:a.length<=9)(hi:i.length<=9)(hb:b.length<=9):smR ⟨a,aL.Deputies,i,b,aL.Versions,aL.Docs,aL.Approvals⟩:=by
 have h1:aL.Versions.length<=2000000:=by decide
 have h2:aL.Deputies.length<=2000000:=by decide
 have h3:aL.Docs.length<=2000000:=by decide
 have h4:aL.Approvals.length<=2000000:=by decide
 refine⟨⟨h1,λv hv=>?_⟩,by show a.length<=_;omega,h2,by show i.length<=_;omega,by show b.length<=_;omega,h3,h4⟩
 rw[xC.1 hv];exact MN
theorem Kh(no:Int):∀(l:List Document)(i:Nat),fo.L1 no fo.K1 l i=ad.L1 (λdC=>bA dC no) ad.K1 l i
 |[],i=>rfl
 |y::l,i=>by
  simp only[fo.L1,ad.L1,bA,Bool.cond_eq_ite]
  split
  .rfl
  .exact Kh no l (i+1)
theorem L8{r:Register}{t:Int}(hd:0<=fo r doc)(ht:0<=t/\t<1099511627776)(hk:0<=known/\known<1099511627776):lV r doc t known=.ok ⟨r,nthI r.Docs (fo r doc),t,known⟩:=by
 have e:ad r.Docs (λdC=>bA dC doc)=fo r doc:=(Kh doc r.Docs 0).symm
 unfold lV
 rw[e]
 have h1:decide (fo r doc<0)=false:=decide_eq_false (by omega)
 have h2:decide (min t known<0)=false:=decide_eq_false (by omega)
 have h3:decide (1099511627776<=max t known)=false:=decide_eq_false (by omega)
 rw[h1,h2,h3];rfl
structure RY(r:Register)(doc version t known:Int):Prop where
 pol:(lM r version).2=true
 chk:lk r=0
 doc:0<=fo r doc
 time:0<=t/\t<1099511627776
 know:0<=known/\known<1099511627776
theorem Bd{l:List Int}{k:Nat}{i:Int}(h:∀x∈l,0<=x/\x<n)(hi:0<=i/\i<n):∀x∈(l.take k++[i])++l.drop k,0<=x/\x<n:=by
 intro x hx
 rcases kF.1 hx with hx|hx
 .rcases kF.1 hx with hx|hx
  .exact h x (List.mem_of_mem_take hx)
  .rw[xC.1 hx];exact hi
 .exact h x (List.mem_of_mem_drop hx)
theorem PW{l:List Int}(h:∀x∈l,0<=x/\x<n)(hn:0<n)(i:Int):0<=nthI l i/\nthI l i<n:=
 Bf (P:=λx:Int=>0<=x/\x<n) h ⟨Int.le_refl _,hn⟩ i
theorem Gj:∀{l:List Int},fP l n=true->n∈l:=by
 have h:∀l:List Int,fP.L1 n (fP.K1) l=true->n∈l:=by
  intro l
  induction l with
  |nil=>intro h;simp[fP.L1,fP.K1]at h
  |cons y l ih=>
   intro h
   simp only[fP.L1,Bool.cond_eq_ite]at h
   split at h
   .rename_i e;rw[eq_of_beq e];exact jB
   .exact xB _ (ih h)
 intro l;exact h l
theorem Fh{l:List Int}{i:Int}{n m:Nat}(h:∀x∈l,0<=x/\x<(n:Int))(e:m=n)(c:(!(fP l i))=false):0<=i/\i<(m:Int):=by
 subst e;exact h i (Gj (by simpa using c))
theorem sn(signed:List Int)(t:Int):∀x∈bV signed t,0<=x/\x<(signed.length:Int):=by
 have h3:∀(y1:Int)(g:List Int)(k:Nat->List Int)(P:List Int->Prop),(∀i,P (k i))->∀(s:List Nat)(i:Nat),P (bV.L3 signed y1 g k s i):=by
  intro y1 g k P hk s
  induction s with
  |nil=>intro i;exact hk i
  |cons y s ih=>intro i;simp only[bV.L3,Bool.cond_eq_ite];split;exact ih _;exact hk _
 have h1:∀(s:List Int)(i:Nat)(g:List Int),i+s.length=signed.length->(∀x∈g,0<=x/\x<(signed.length:Int)) ->
   ∀x∈bV.L1 signed t (bV.K1) s i g,0<=x/\x<(signed.length:Int):=by
  intro s
  induction s with
  |nil=>intro i g _ hg;exact hg
  |cons y s ih=>
   intro i g hi hg
   simp only[xA]at hi
   simp only[bV.L1,Bool.cond_eq_ite]
   split
   .exact ih _ _ (by omega) hg
   .exact h3 _ _ _ (λr=>∀x∈r,0<=x/\x<(signed.length:Int)) (λk=>ih _ _ (by omega) (Bd hg (by omega))) _ _
 exact h1 signed 0 [] (by omega) (λx hx=>(kA hx).elim)
theorem vO{l:List Document}(h:eM l signed=true):signed.length=l.length:=by
 have h1:∀s:List Int,eM.L1 (eM.K1 l signed) s=true->eM.K1 l signed=true:=by
  intro s
  induction s with
  |nil=>intro h;exact h
  |cons y s ih=>
   intro h
   simp only[eM.L1,Bool.cond_eq_ite]at h
   split at h
   .cases h
   .exact ih h
 have h2:=h1 signed h
 simp only[eM.K1,beq_iff_eq]at h2
 omega
theorem Nn(l:List Document)(signed:List Int)(t:Int)(hsg:signed.length=l.length):(bW l signed t).length=l.length:=by
 have h4:∀(i2:Nat)(y2:Int)(g:List Bool)(k:List Int->List Int)(P:List Int->Prop)(n:Nat),(∀r:List Int,r.length=n->P (k r)) ->
   ∀(s:List Nat)(i:Nat)(r:List Int),r.length=n->P (bW.L4 l signed t i2 y2 g k s i r):=by
  intro i2 y2 g k P n hk s
  induction s with
  |nil=>intro i r hr;exact hk r hr
  |cons y s ih=>
   intro i r hr
   simp only[bW.L4,Bool.cond_eq_ite]
   split
   .exact ih _ _ (by rw[List.length_set];exact hr)
   .exact ih _ _ hr
 have h2:∀(s:List Int)(i:Nat)(g:List Bool)(r:List Int),(bW.L2 l signed t (bW.K2) s i g r).length=r.length:=by
  intro s
  induction s with
  |nil=>intro i g r;rfl
  |cons y s ih=>
   intro i g r
   simp only[bW.L2]
   exact h4 _ _ _ _ (λx=>x.length=r.length) r.length (λq hq=>by rw[ih];exact hq) _ _ _ rfl
 have h1:∀(s:List Document)(g:List Int),(bW.L1 (bW.K1 l signed t) s g).length=g.length+s.length:=by
  intro s
  induction s with
  |nil=>intro g;simp only[bW.L1,bW.K1];rw[h2];rfl
  |cons y s ih=>intro g;simp only[bW.L1];rw[ih];simp only[jA,xA,vB];omega
 have:=h1 l []
 simpa[bW]using this
theorem Ks{l:List Document}(h:((dL l) != 0)=false):∀d∈l,d.Needs.length<=16:=by
 intro d hd
 have h0:dL l=0:=by simpa using h
 exact(CN ((Pj h0).2 d hd)).needs.2
theorem zY{l:List Budget}{t:Int}{x:Budget}(h:x∈eY l n t known):x∈l:=by
 have h1:∀(s:List Budget)(i:Nat)(g:List Budget),x∈eY.L1 l n t known (eY.K1) s i g->x∈g\/x∈s:=by
  intro s
  induction s with
  |nil=>intro i g h;exact .inl h
  |cons y s ih=>
   intro i g h
   simp only[eY.L1,Bool.cond_eq_ite]at h
   split at h
   .rcases ih _ _ h with h|h
    .rcases kF.1 h with h|h
     .exact .inl h
     .rw[xC.1 h];exact .inr jB
    .exact .inr (xB _ h)
   .rcases ih _ _ h with h|h
    .exact .inl h
    .exact .inr (xB _ h)
 rcases h1 l 0 [] h with h|h
 .exact(kA h).elim
 .exact h
theorem H4{l:List Budget}{t:Int}{x:Budget}(h:fE l=0)(hx:x∈eY l n t known):x.Period≠0:=by
 have h2:cu l=0:=(yh l).trans h
 exact zk (uO h2 x (zY hx))
theorem CO{r:Register}{t:Int}(h:ki r signed u doc t known=true):r.Docs.length<20/\signed.length<=40/\u.length<=30:=by
 simp only[ki,zB,decide_eq_true_eq]at h
 obtain⟨⟨⟨h1,h2⟩,h3⟩,_⟩:=h
 refine⟨?_,by omega,by omega⟩
 simp only[lF,Bool.cond_eq_ite]at h1
 split at h1
 .cases h1
 .next hc=>simp only[xD,not_or,decide_eq_true_eq]at hc;omega
theorem MO{l:List Document}{sg:List Int}:cj l sg=true↔sg.length=l.length/\∀x∈sg,ig x=false:=by
 unfold cj
 rw[zB,beq_iff_eq,containsF]
 simp only[qE,List.any_eq_false,Bool.not_eq_true]
 constructor
 .rintro⟨h1,h2⟩;exact⟨by omega,h2⟩
 .rintro⟨h1,h2⟩;exact⟨by omega,h2⟩
theorem MV{l:List Budget}(hc:cu l=0)(hl:u.length<=4096)(hu:gF u=true):(bM l u 0 0 0 0).2.2=0:=by
 unfold bM
 have c1:decide (4096<(u.length:Int))=false:=by simp;omega
 rw[hc,c1,hu]
 have c2:(((!(aN 0 15 ([0])))||(!(aN 0 1099511627776 ([0]))))||(!(aN 0 1099511627775 ([0,0]))))=false:=by decide
 rw[c2]
 exact HY u 0 0 0 _
section
variable {r:Register} {d:Document} {t known:Int} {signed:List Int} {u:List Use} (hco:iH ⟨r,d,t,known⟩) (hs:cj r.Docs signed=true) (hr:(bM r.Budgets u 0 0 0 0).2.2=0)
include hco hs hr
end
theorem I7(b:List Int):∀(l pre:List Int),b=pre++l->gf.L1 b true l pre.length=true
 |[],_,_=>rfl
 |y::l,pre,h=>by
  have hy:nthI b (pre.length:Int)=y:=pb (by rw[h];simp)
  have ih:=I7 b l (pre++[y]) (by rw[h];simp)
  rw[jA,xA,vB,Nat.zero_add]at ih
  have e:(y != y)=false:=by simp
  simp only[gf.L1,hy,e,cond_false]
  exact ih
theorem zI(s:List Int):gf s s=true:=by
 unfold gf
 have e:((s.length:Int) != (s.length:Int))=false:=by simp
 rw[e]
 exact I7 s s [] rfl
theorem uses18(h:fd u=true):gF u=true:=by
 have h3:∀(y:Use)(k:Bool)(s:List Nat)(j:Nat),fd.L3 u y k s j=true->k=true/\∀q:Nat,j<=q->q<j+s.length->(nthI u (q:Int)).Doc≠y.Doc:=by
  intro y k s
  induction s with
  |nil=>intro j h;exact⟨h,λq h1 h2=>by simp at h2;omega⟩
  |cons z s ih=>
   intro j h
   simp only[fd.L3,Bool.cond_eq_ite]at h
   split at h
   .cases h
   .next hc=>
    obtain⟨h1,h2⟩:=ih _ h
    refine⟨h1,λq hq hq2=>?_⟩
    rcases jL j q with e|e
    .exact h2 q e (by simp only[xA]at hq2;omega)
    .have:q=j:=by omega
     subst this
     intro hh;exact hc (by rw[hh];exact beq_self_eq_true _)
 have h1:∀(s:List Use)(i:Nat)(m:List (Int×Bool)),u.drop i=s->(∀x,mgetD m x false=true->∃q:Nat,q<i/\(nthI u (q:Int)).Doc=x)->fd.L1 u (fd.K1) s i=true->gF.L1 gF.K1 s m=true:=by
  intro s
  induction s with
  |nil=>intro i m _ _ _;rfl
  |cons y s ih=>
   intro i m hd hm h
   simp only[fd.L1,Bool.cond_eq_ite]at h
   split at h
   .cases h
   .next hc=>
    simp only[xD,not_or,Bool.not_eq_true,Bool.not_eq_false',fJ,pQ,gP,zB,decide_eq_true_eq]at hc
    obtain⟨⟨⟨⟨c1,c2⟩,c3⟩,c4⟩,c5⟩:=hc
    obtain⟨h4,h5⟩:=h3 _ _ _ _ h
    have e0:mgetD m y.Doc false=false:=by
     cases e:mgetD m y.Doc false with
     |false=>rfl
     |true=>
      obtain⟨q,hq,he⟩:=hm _ e
      exact absurd he (h5 q (qM _) (by rw[List.length_range];omega))
    simp only[gF.L1,e0,(rm (a:=0) (b:=4095) (z:=y.Doc)).2 ⟨by omega,by omega⟩,(rm (a:=0) (b:=15) (z:=y.Kind)).2 ⟨by omega,by omega⟩,(rm (a:=0) (b:=1099511627776) (z:=y.Value)).2 ⟨by omega,by omega⟩,(Dq (a:=0) (b:=1099511627775) (y:=y.At) (z:=y.Known)).2 ⟨⟨by omega,by omega⟩,⟨by omega,by omega⟩⟩,Bool.not_true,Bool.or_false,cond_false]
    refine ih (i+1) _ (kw hd) (λx hx=>?_) h4
    unfold mgetD at hx
    rw[uG]at hx
    split at hx
    .next e=>exact⟨i,Nat.lt_succ_self _,by rw[e,pb (rE hd)]⟩
    .obtain⟨q,hq,he⟩:=hm x hx;exact⟨q,by omega,he⟩
 exact h1 u 0 [] rfl (λx hx=>by cases hx) h
theorem signs17{l:List Document}(h:eM l signed=true):cj l signed=true:=by
 rw[MO]
 refine⟨vO h,?_⟩
 have h1:∀s:List Int,eM.L1 (eM.K1 l signed) s=true->∀x∈s,ig x=false:=by
  intro s
  induction s with
  |nil=>intro _ x hx;exact(kA hx).elim
  |cons y s ih=>
   intro h x hx
   simp only[eM.L1,Bool.cond_eq_ite]at h
   split at h
   .cases h
   .next hc=>
    rcases qC.1 hx with rfl|hx
    .exact Bool.eq_false_iff.2 hc
    .exact ih h x hx
 exact h1 signed h
theorem He{r:Register}(hsm:smR r){t:Int}(hg:ki r signed u doc t known=true):
  dD r=0/\0<=fo r doc/\(0<=t/\t<1099511627776)/\(0<=known/\known<1099511627776)/\cj r.Docs signed=true/\(bM r.Budgets u 0 0 0 0).2.2=0:=by
 simp only[ki,zB,beq_iff_eq]at hg
 have he:=hg.2
 unfold oD at he
 simp only[Bool.cond_eq_ite]at he
 split at he
 .cases he
 .next e1=>
  split at he
  .next e2=>exact absurd he (by simpa using e2)
  .next e2=>
   split at he
   .next e3=>exact absurd he (by simpa using e3)
   .next e3=>
    split at he
    .cases he
    .next e4=>
     have c1:lk r=0:=by simpa using e1
     have c2:(fp r.Docs signed 0).2=0:=by simpa using e2
     have c3:(gr r.Budgets u 0 0 0 0).2.2=0:=by simpa using e3
     simp only[xD,not_or,Bool.not_eq_true,Bool.not_eq_false',decide_eq_true_eq,mC,zB]at e4
     obtain⟨⟨h4,h5⟩,h6⟩:=e4
     have hc:=(judge30 hsm).2 c1
     have hs:cj r.Docs signed=true:=by
      refine signs17 ?_
      unfold fp at c2
      cases q1:dL r.Docs != 0 with
      |true=>rw[q1]at c2;simp only[cond_true]at c2;rw[c2]at q1;cases q1
      |false=>
       rw[q1]at c2
       cases q2:eM r.Docs signed with
       |true=>rfl
       |false=>rw[q2]at c2;simp at c2
     have hu:u.length<=4096/\gF u=true:=by
      unfold gr at c3
      cases q1:fE r.Budgets != 0 with
      |true=>rw[q1]at c3;simp only[cond_true]at c3;rw[c3]at q1;cases q1
      |false=>
       rw[q1]at c3
       cases q2:decide (4096<(u.length:Int))with
       |true=>rw[q2]at c3;simp at c3
       |false=>
        rw[q2]at c3
        cases q3:fd u with
        |true=>exact⟨by simp at q2;omega,uses18 q3⟩
        |false=>rw[q3]at c3;simp at c3
     exact⟨hc,by omega,h5,h6,hs,MV ((kO r).1 hc).2.2.2.1 hu.1 hu.2⟩
abbrev rCourt(r:Register)(doc t known:Int):bI:=⟨r,nthI r.Docs (fo r doc),t,known⟩
theorem Jj{r:Register}(hsm:smR r){t:Int}(hg:ki r signed u doc t known=true):
  iH (rCourt r doc t known)/\bJ r signed u doc t known=(judgeC (rCourt r doc t known) r signed u t known,0):=by
 obtain⟨hc,hd,ht,hk,hs,hr⟩:=He hsm hg
 have ho:=L8 hd ht hk
 obtain⟨_,hco,_,_⟩:=Ic hc ho
 have hdc:aU r.Docs=0:=((kO r).1 hc).2.2.2.2.2.1
 have hi:(bQ r.Docs signed 0).2=0:=xx hdc hs ⟨Int.le_refl _,by decide⟩
 refine⟨hco,?_⟩
 unfold bJ
 rw[hc,hi,hr,ho]
 rfl
structure RV(r:Register)(doc t known:Int):Prop where
 jdg:Jdg r.Versions (bw r.Versions ((nthI r.Docs (fo r doc)).At) t known)
 len:(bw r.Versions ((nthI r.Docs (fo r doc)).At) t known).1.length<=256
 pol:∀y,(lM r y).2=true->KH (lM r y).1
section
variable {α κ : Type} [DecidableEq κ] (key:α->κ) (at_ no:α->Int) (z0:α)
def gMap:List α->List (κ×α)->List (κ×α)
 |[],m=>m
 |y::l,m=>gMap l (bif(!(mhas m (key y)))||decide (at_ (mgetD m (key y) z0)<=at_ y)then mput m (key y) y else m)
def gOver(z w:α):Prop:=at_ z<at_ w\/(at_ w=at_ z/\no z<no w)
structure Px(pre:List α)(m:List (κ×α)):Prop where
 some:∀k z,mget? m k=some z->z∈pre/\key z=k/\∀w∈pre,key w=k->¬gOver at_ no z w
 none:∀k,mget? m k=none->∀w∈pre,key w≠k
theorem J4:∀(l pre:List α)(m:List (κ×α)),(pre++l).Pairwise (λa b=>no a<no b)->Px key at_ no pre m->Px key at_ no (pre++l) (gMap key at_ z0 l m)
 |[],pre,m,_,h=>by rw[List.append_nil];exact h
 |y::l,pre,m,hp,h=>by
  have hno:∀w∈pre,no w<no y:=λw hw=>(List.pairwise_append.1 hp).2.2 w hw y (jB ..)
  have hp2:((pre++[y])++l).Pairwise (λa b=>no a<no b):=by rw[kC];exact hp
  have go:∀m',Px key at_ no (pre++[y]) m'->Px key at_ no (pre++y::l) (gMap key at_ z0 l m'):=λm' h'=>by
   have:=J4 l (pre++[y]) m' hp2 h'
   rwa [kC]at this
  simp only[gMap,Bool.cond_eq_ite]
  split
  .next hn=>
   refine go _ ⟨λk z hz=>?_,λk hz w hw hk=>?_⟩
   .rw[uG]at hz
    split at hz
    .next hk=>
     cases hz
     refine⟨by simp,hk.symm,λw hw hkw=>?_⟩
     rcases kF.1 hw with hw|hw
     .have hb:=hno w hw
      cases hm:mget? m (key y)with
      |none=>exact(h.none _ hm w hw (by rw[hkw,hk])).elim
      |some z1=>
       have a4:=(h.some _ _ hm).2.2 w hw (by rw[hkw,hk])
       have:at_ z1<=at_ y:=by
        simp only[mhas,mgetD,hm]at hn
        simpa using hn
       unfold gOver at a4 ⊢;omega
     .rw[xC.1 hw];unfold gOver;omega
    .next hk=>
     obtain⟨a1,a2,a4⟩:=h.some k z hz
     refine⟨qV _ a1,a2,λw hw hkw=>?_⟩
     rcases kF.1 hw with hw|hw
     .exact a4 w hw hkw
     .rw[xC.1 hw]at hkw;exact(hk hkw.symm).elim
   .rw[uG]at hz
    split at hz
    .cases hz
    .next hk2=>
     rcases kF.1 hw with hw|hw
     .exact h.none k hz w hw hk
     .rw[xC.1 hw]at hk;exact(hk2 hk.symm).elim
  .next hn=>
   refine go m ⟨λk z hz=>?_,λk hz w hw hk=>?_⟩
   .obtain⟨a1,a2,a4⟩:=h.some k z hz
    refine⟨qV _ a1,a2,λw hw hkw=>?_⟩
    rcases kF.1 hw with hw|hw
    .exact a4 w hw hkw
    .rw[xC.1 hw]at hkw ⊢
     subst hkw
     have:¬at_ z<=at_ y:=by
      simp only[mhas,mgetD,hz]at hn
      simpa using hn
     unfold gOver;omega
   .rcases kF.1 hw with hw|hw
    .exact h.none k hz w hw hk
    .rw[xC.1 hw]at hk
     subst hk
     simp only[mhas,mgetD,hz]at hn
     simp at hn
theorem OL{L:List α}(hp:L.Pairwise (λa b=>no a<no b)){y:α}(hy:y∈L):mgetD (gMap key at_ z0 L []) (key y) z0=y↔∀w∈L,key w=key y->¬gOver at_ no y w:=by
 have hv:Px key at_ no L (gMap key at_ z0 L []):=by
  have:=J4 key at_ no z0 L [] [] hp ⟨λk z h=>(by simp[mget?]at h),λk h w hw=>(kA hw).elim⟩
  exact this
 cases hm:mget? (gMap key at_ z0 L []) (key y)with
 |none=>exact(hv.none _ hm y hy rfl).elim
 |some z=>
  obtain⟨a1,a2,a4⟩:=hv.some _ _ hm
  simp only[mgetD,hm,Option.getD]
  constructor
  .rintro rfl;exact a4
  .intro b2
   have c1:=a4 y hy rfl
   have c2:=b2 z a1 a2
   have:no z=no y:=by unfold gOver at c1 c2;omega
   exact Ox (f:=no) hp a1 hy this
end
def cntA(doc t known:Int)(y:Approval):Bool:=((y.Doc==doc)&&decide (y.At<=t))&&decide (y.Known<=known)
theorem vz(doc t known:Int):∀l:List Approval,bx.L1 doc t known bx.K1 l=l.filter (cntA doc t known)
 |[]=>rfl
 |y::l=>by
  simp only[bx.L1,vz doc t known l,List.filter_cons]
  show(bif cntA doc t known y then _ else _)=(if cntA doc t known y=true then _ else _)
  cases cntA doc t known y<;>rfl
abbrev z0A:Approval:=Approval.mk 0 0 0 0 0 0 0 false
theorem Lx(k:List (eu×Approval)->List Approval):∀(l:List Approval)(m:List (eu×Approval)),aB.L1 k l m=k (gMap aE (·.At) z0A l m)
 |[],m=>rfl
 |y::l,m=>by
  simp only[aB.L1,Lx k l,gMap]
  cases(!(mhas m (aE y)))||decide ((mgetD m (aE y) z0A).At<=y.At)<;>rfl
theorem Lw(v:List (eu×Approval)):∀(l g:List Approval),aB.L2 v aB.K2 l g=g++l.filter λy=>(!y.Gone)&&decide ((mgetD v (aE y) z0A)=y)
 |[],g=>by simp[aB.L2,aB.K2]
 |y::l,g=>by
  simp only[aB.L2,Lw v l,List.filter_cons]
  cases(!y.Gone)&&decide ((mgetD v (aE y) z0A)=y)<;>simp
theorem rP{x:Approval}{t known:Int}:∀l:List Approval,iC.L1 x t known iC.K1 l=true↔∀w∈l,lg w t known=true->qt w x=true->¬tD w x=true
 |[]=>by simp[iC.L1,iC.K1]
 |y::l=>by
  simp only[iC.L1,Bool.cond_eq_ite,List.forall_mem_cons,zB]
  split
  .next hc=>exact⟨λh=>(by cases h),λh=>(h.1 hc.1.1 hc.1.2 hc.2).elim⟩
  .next hc=>rw[rP l];exact⟨λh=>⟨λa b c=>hc ⟨⟨a,b⟩,c⟩,h⟩,λh=>h.2⟩
theorem about28(w y:Approval):qt w y=true↔aE w=aE y:=by
 simp only[qt,aE,zB,beq_iff_eq,eu.mk.injEq,and_assoc]
theorem after28(w y:Approval):tD w y=true↔gOver (λx:Approval=>x.At) (λx=>x.No) y w:=by
 simp only[tD,gOver,xD,zB,beq_iff_eq,decide_eq_true_eq]
theorem astanding28{l:List Approval}(hp:l.Pairwise (λa b=>a.No<b.No))(doc t known:Int):aB l doc t known=l.filter λy=>(y.Doc==doc)&&iC l y t known:=by
 unfold aB
 rw[Lx]
 unfold aB.K1
 rw[Lw,xG]
 have hc:eC l doc t known=l.filter (cntA doc t known):=vz doc t known l
 rw[hc,List.filter_filter]
 apply List.filter_congr
 intro y hy
 rw[vM]
 cases hcy:cntA doc t known y with
 |false=>
  rw[Bool.and_false]
  constructor
  .intro h;cases h
  .intro h
   simp only[zB,iC,Bool.cond_eq_ite]at h
   obtain⟨h1,h2⟩:=h
   split at h2
   .cases h2
   .next hq=>
    simp only[xD,not_or,Bool.not_eq_true,Bool.not_eq_false',lg,zB]at hq
    simp[cntA,h1,hq.2.1,hq.2.2]at hcy
 |true=>
  have hcy':=hcy
  simp only[cntA,zB,beq_iff_eq,decide_eq_true_eq]at hcy'
  rw[Bool.and_true,zB,decide_eq_true_eq]
  have hm:y∈l.filter (cntA doc t known):=kS.2 ⟨hy,hcy⟩
  rw[OL aE (λx:Approval=>x.At) (λx=>x.No) z0A (hp.sublist List.filter_sublist) hm]
  have hcn:lg y t known=true:=by simp[lg,hcy'.1.2,hcy'.2]
  unfold iC
  rw[hcn,hcy'.1.1]
  cases hg:y.Gone with
  |true=>simp
  |false=>
   simp only[Bool.not_false,true_and,beq_self_eq_true,Bool.not_true,Bool.or_self,cond_false,Bool.true_and,rP]
   constructor
   .intro h w hw h1 h2 h3
    have h4:=(about28 w y).1 h2
    refine h w (kS.2 ⟨hw,?_⟩) h4 ((after28 w y).1 h3)
    have h5:w.Doc=y.Doc:=congrArg eu.doc h4
    simp only[lg,zB,decide_eq_true_eq]at h1
    simp[cntA,h5,hcy'.1.1,h1.1,h1.2]
   .intro h w hw h4 h5
    obtain⟨h6,h7⟩:=kS.1 hw
    simp only[cntA,zB,beq_iff_eq,decide_eq_true_eq]at h7
    exact h w h6 (by simp[lg,h7.1.2,h7.2]) ((about28 w y).2 h4) ((after28 w y).2 h5)
def walkN(E:List Deputy)(b:Int):Nat->Int->Prop
 |0,a=>a=b
 |n+1,a=>∃x∈E,x.From=a/\walkN E b n x.To
structure Far(E:List Deputy)(b:Int)(i:Nat)(g:List (Int×Int)):Prop where
 sound:∀p v,mget? g p=some v->∃m:Nat,v=(m:Int)/\m<=i/\walkN E b m p
 start:mget? g b=some 0
 closed:∀x∈E,∀m:Nat,mget? g x.To=some (m:Int)->m<i->∃m':Nat,mget? g x.From=some (m':Int)/\m'<=m+1
structure RU(E:List Deputy)(b:Int)(i:Nat)(g0:List (Int×Int))(done:List Deputy)(g:List (Int×Int)):Prop where
 keep:∀p v,mget? g0 p=some v->mget? g p=some v
 new:∀p v,mget? g p=some v->mget? g0 p=some v\/(v=((i+1:Nat):Int)/\walkN E b (i+1) p)
 met:∀x∈done,mget? g0 x.To=some (i:Int)->∃v,mget? g x.From=some v
def BR(all:List Interest)(w:List rn):Prop:=(w.map (·.To)).Nodup/\(∀x∈w,x.To∈all.map (·.Party))/\∀x∈w,x.Ly.length<=8
theorem BR.nil:BR all []:=⟨SK,λ_ h=>(kA h).elim,λ_ h=>(kA h).elim⟩
theorem BR.len{w:List rn}(h:BR all w):w.length<=all.length:=by
 have:=yt h.1 (b:=all.map (·.Party)) (λt ht=>by obtain⟨x,hx,rfl⟩:=kM.1 ht;exact h.2.1 x hx)
 simpa using this
theorem BR.put{w:List rn}(h:BR all w){x:rn}(ht:x.To∈all.map (·.Party))(hp:x.Ly.length<=8):BR all (rwPut w x):=by
 unfold rwPut
 cases hb:w.any (λw=>w.To==x.To)with
 |true=>exact h
 |false=>
  simp only[cond_false]
  refine⟨?_,λy hy=>?_,λy hy=>?_⟩
  .rw[Su,List.nodup_append]
   refine⟨h.1,by simp,λa ha c hc e=>?_⟩
   obtain⟨y,hy,rfl⟩:=kM.1 ha
   simp only[kH,Uq,xC]at hc
   have:w.any (λw=>w.To==x.To)=true:=List.any_eq_true.2 ⟨y,hy,by simp[e,hc]⟩
   rw[hb]at this;cases this
  .rcases kF.1 hy with hy|hy
   .exact h.2.1 y hy
   .rw[xC.1 hy];exact ht
  .rcases kF.1 hy with hy|hy
   .exact h.2.2 y hy
   .rw[xC.1 hy];exact hp
theorem BR.at{w:List rn}(h:BR all w){k:Nat}(hk:k<w.length):(nthI w (k:Int)).Ly.length<=8:=h.2.2 _ (ni ⟨by omega,by omega⟩)
theorem qj{l:List Approval}(h:aX l=0):l.length<=4096/\l.Pairwise (λa b=>a.No<b.No):=by
 unfold aX at h
 rw[approvalsP]at h
 cases hd:decide (4096<(l.length:Int))with
 |true=>rw[hd]at h;simp at h
 |false=>
  rw[hd,cond_false,pR (by decide)]at h
  have:=of_decide_eq_false hd
  exact⟨by omega,h.2⟩
theorem D3(y:Approval)(t:Int):ip y t<0↔y.No<t:=by
 have h1:∀x,cmp_isNaN_int x=false:=λx=>by simp[cmp_isNaN_int]
 unfold ip cmp_Compare_int
 rw[h1,h1,cond_false,cond_false]
 by_cases h:y.No<t
 .simp[h]
 .by_cases h2:t<y.No
  .simp[h,h2]
  .simp[h,h2]
theorem MA(y:Approval)(t:Int):(ip y t==0)=(y.No==t):=by
 have h1:∀x,cmp_isNaN_int x=false:=λx=>by simp[cmp_isNaN_int]
 unfold ip cmp_Compare_int
 rw[h1,h1,cond_false,cond_false]
 by_cases h:y.No<t
 .simp[h];omega
 .by_cases h2:t<y.No
  .simp[h,h2];omega
  .have:y.No=t:=by omega
   simp[this]
def addAt(l:List Approval)(t:Int):Nat:=(l.takeWhile λy=>decide (y.No<t)).length
theorem F5(l:List Approval)(t:Int):addAt l t<=l.length:=by
 have:=congrArg List.length (List.takeWhile_append_dropWhile (p:=λy:Approval=>decide (y.No<t)) (l:=l))
 rw[jA]at this
 unfold addAt;omega
theorem F4(l:List Approval)(t:Int):l.take (addAt l t)=l.takeWhile λy=>decide (y.No<t):=by
 have e:=List.takeWhile_append_dropWhile (p:=λy:Approval=>decide (y.No<t)) (l:=l)
 unfold addAt
 conv=>lhs;rw[←e]
 rw[e]
 conv=>lhs;arg 2;rw[←e]
 exact List.take_left' rfl
theorem F6(l:List Approval)(t:Int):l.drop (addAt l t)=l.dropWhile λy=>decide (y.No<t):=by
 have e:=List.takeWhile_append_dropWhile (p:=λy:Approval=>decide (y.No<t)) (l:=l)
 unfold addAt
 conv=>lhs;arg 2;rw[←e]
 exact List.drop_left' rfl
theorem KD(l:List Approval)(t:Int)(i:Nat)(y:Approval)(hi:i<addAt l t)(hy:l[i]? = some y):ip y t<0:=by
 rw[D3]
 have hm:y∈l.take (addAt l t):=by
  have:(l.take (addAt l t))[i]? = some y:=by rw[List.getElem?_take,if_pos hi];exact hy
  exact zE this
 rw[F4]at hm
 have hall:=List.all_takeWhile (p:=λy:Approval=>decide (y.No<t)) (l:=l)
 rw[R6]at hall
 exact of_decide_eq_true (hall y hm)
theorem KE{l:List Approval}(h:l.Pairwise (λa b=>a.No<b.No))(t:Int)(i:Nat)(y:Approval)(hi:addAt l t<=i)(hy:l[i]? = some y):¬ip y t<0:=by
 rw[D3]
 have key:∀z∈l.dropWhile (λy=>decide (y.No<t)),¬z.No<t:=by
  cases hd:l.dropWhile (λy=>decide (y.No<t))with
  |nil=>exact λz hz=>(kA hz).elim
  |cons z r=>
   have hz:¬z.No<t:=by
    have:=List.head?_dropWhile_not (λy:Approval=>decide (y.No<t)) l
    rw[hd]at this
    simpa using this
   have hp:(z::r).Pairwise (λa b=>a.No<b.No):=by rw[←hd];exact h.sublist (List.dropWhile_sublist _)
   intro w hw
   rcases qC.1 hw with rfl|hw
   .exact hz
   .have:=(List.pairwise_cons.1 hp).1 w hw;omega
 have hm:y∈l.drop (addAt l t):=by
  have:(l.drop (addAt l t))[i-addAt l t]? = some y:=by rw[List.getElem?_drop,show addAt l t+(i-addAt l t)=i by omega];exact hy
  exact zE this
 rw[F6]at hm
 exact key y hm
theorem KF{l:List Approval}(h:l.Pairwise (λa b=>a.No<b.No))(t:Int):((l[addAt l t]?).any λy=>ip y t==0)=l.any (λy=>y.No==t):=by
 have hlo:=KD l t
 have hhi:=KE h t
 apply vM.2
 rw[List.any_eq_true]
 constructor
 .intro hf
  cases hg:l[addAt l t]? with
  |none=>rw[hg]at hf;cases hf
  |some y=>rw[hg]at hf;exact⟨y,zE hg,by rw[←MA];exact hf⟩
 .rintro⟨y,hy,he⟩
  obtain⟨i,hi⟩:=List.mem_iff_getElem?.1 hy
  have hyt:y.No=t:=by simpa using he
  have h1:addAt l t<=i:=by
   rcases jL i (addAt l t)with h1|h1
   .have:=hlo i y h1 hi;rw[D3]at this;omega
   .exact h1
  rcases jL (addAt l t) i with h2|h2
  .have hil:=(List.getElem?_eq_some_iff.1 hi).1
   have hg:l[addAt l t]? = some l[addAt l t]:=qF (by omega)
   have h3:=hhi _ _ (jG _) hg
   rw[D3]at h3
   have h4:=List.pairwise_iff_getElem.1 h (addAt l t) i (by omega) hil h2
   rw[(List.getElem?_eq_some_iff.1 hi).2]at h4
   omega
  .have:addAt l t=i:=by omega
   rw[this,hi]
   show(ip y t==0)=true
   rw[MA];exact he
theorem Qn(l:List Approval)(x:Approval):(bY l x).1.length<=4097:=by
 unfold bY
 cases h1:aX l != 0 with
 |true=>simp
 |false=>
  have hl:=(qj (l:=l) (by simpa using h1)).1
  have e:=congrArg List.length (List.takeWhile_append_dropWhile (p:=λy:Approval=>decide (y.No<x.No)) (l:=l))
  rw[jA]at e
  rw[cond_false]
  cases !(fC x)with
  |true=>simp
  |false=>
   rw[cond_false]
   cases l.any (λy=>y.No==x.No)with
   |true=>simp
   |false=>
    rw[cond_false]
    cases(l.length:Int)==4096 with
    |true=>simp
    |false=>simp only[cond_false,jA,xA];omega
theorem Pq{r:Register}(h:smR r)(x:Approval):smR ⟨r.Appoints,r.Deputies,r.Interests,r.Budgets,r.Versions,r.Docs,(bY r.Approvals x).1⟩:=
 ⟨h.1,h.2.1,h.2.2.1,h.2.2.2.1,h.2.2.2.2.1,h.2.2.2.2.2.1,vT (Qn _ _) (by decide)⟩
theorem KL{a:Int}:cy a [z]=true↔0<=z/\z<=a:=by
 simp only[cy,containsF,gh,List.any_cons,List.any_nil,Bool.or_false,qE,Bool.or_eq_false_iff,decide_eq_false_iff_not];omega
theorem KK{a y:Int}:cy a [y,z]=true↔(0<=y/\y<=a)/\(0<=z/\z<=a):=by
 simp only[cy,containsF,gh,List.any_cons,List.any_nil,Bool.or_false,qE,Bool.or_eq_false_iff,decide_eq_false_iff_not];omega
def addL(l:List Approval)(x:Approval):List Approval:=l.takeWhile (λy=>decide (y.No<x.No))++x::l.dropWhile (λy=>decide (y.No<x.No))
theorem Iz{l:List Approval}{x:Approval}(h:(bY l x).2=0):aX l=0/\fC x=true/\(∀y∈l,y.No≠x.No)/\l.length≠4096/\(bY l x).1=addL l x:=by
 unfold bY at h ⊢
 cases h1:aX l != 0 with
 |true=>rw[h1,cond_true]at h;rw[show aX l=0 from h]at h1;cases h1
 |false=>
  rw[h1,cond_false]at h
  cases h2:fC x with
  |false=>rw[h2]at h;cases h
  |true=>
   rw[h2,Bool.not_true,cond_false]at h
   cases h3:l.any (λy=>y.No==x.No)with
   |true=>rw[h3]at h;cases h
   |false=>
    rw[h3,cond_false]at h
    cases h4:(l.length:Int)==4096 with
    |true=>rw[h4]at h;cases h
    |false=>
     refine⟨by simpa using h1,rfl,λy hy hn=>?_,λhn=>?_,rfl⟩
     .have:=List.any_eq_false.1 h3 y hy
      simp[hn]at this
     .rw[hn]at h4;simp at h4
theorem E5{l:List Approval}{x:Approval}:y∈addL l x↔y=x\/y∈l:=by
 have e:=List.takeWhile_append_dropWhile (p:=λy:Approval=>decide (y.No<x.No)) (l:=l)
 unfold addL
 conv=>rhs;rw[←e]
 simp only[kF,qC]
 constructor
 .rintro(h|h|h)
  .exact .inr (.inl h)
  .exact .inl h
  .exact .inr (.inr h)
 .rintro(h|h|h)
  .exact .inr (.inl h)
  .exact .inl h
  .exact .inr (.inr h)
theorem KC{l:List Approval}{x:Approval}(h:l.Pairwise (λa b=>a.No<b.No))(hx:∀y∈l,y.No≠x.No):(addL l x).Pairwise (λa b=>a.No<b.No):=by
 have e:=List.takeWhile_append_dropWhile (p:=λy:Approval=>decide (y.No<x.No)) (l:=l)
 have hp:(l.takeWhile (λy=>decide (y.No<x.No))++l.dropWhile (λy=>decide (y.No<x.No))).Pairwise (λa b=>a.No<b.No):=by rw[e];exact h
 rw[List.pairwise_append]at hp
 obtain⟨p1,p2,p3⟩:=hp
 have hlo:∀y∈l.takeWhile (λy=>decide (y.No<x.No)),y.No<x.No:=by
  have hall:=List.all_takeWhile (p:=λy:Approval=>decide (y.No<x.No)) (l:=l)
  rw[R6]at hall
  exact λy hy=>of_decide_eq_true (hall y hy)
 have hhi:∀y∈l.dropWhile (λy=>decide (y.No<x.No)),x.No<y.No:=by
  intro y hy
  have hm:y∈l:=(List.dropWhile_sublist _).subset hy
  have hn:=hx y hm
  cases hd:l.dropWhile (λy=>decide (y.No<x.No))with
  |nil=>rw[hd]at hy;exact(kA hy).elim
  |cons z s=>
   have hz:¬z.No<x.No:=by
    have:=List.head?_dropWhile_not (λy:Approval=>decide (y.No<x.No)) l
    rw[hd]at this
    simpa using this
   have hzm:z∈l:=(List.dropWhile_sublist _).subset (by rw[hd];exact jB ..)
   have hzn:=hx z hzm
   rw[hd]at hy p2
   rcases qC.1 hy with rfl|hy
   .omega
   .have:=(List.pairwise_cons.1 p2).1 y hy;omega
 unfold addL
 rw[List.pairwise_append]
 refine⟨p1,List.pairwise_cons.2 ⟨hhi,p2⟩,λa ha b hb=>?_⟩
 rcases qC.1 hb with rfl|hb
 .exact hlo a ha
 .exact p3 a ha b hb
theorem HE{l:List Approval}{x:Approval}(h:(bY l x).2=0):aX (addL l x)=0:=by
 obtain⟨h1,h2,h3,h4,h5⟩:=Iz h
 have hi:=qj h1
 have hlen:(addL l x).length=l.length+1:=by
  have e:=congrArg List.length (List.takeWhile_append_dropWhile (p:=λy:Approval=>decide (y.No<x.No)) (l:=l))
  rw[jA]at e
  unfold addL
  rw[jA,xA];omega
 unfold aX at h1 ⊢
 rw[approvalsP]at h1 ⊢
 have hd:decide (4096<(l.length:Int))=false:=by have:=hi.1;simp;omega
 have hd2:decide (4096<((addL l x).length:Int))=false:=by have:=hi.1;simp;omega
 rw[hd,cond_false,pR (by decide)]at h1
 rw[hd2,cond_false,pR (by decide)]
 refine⟨λy hy=>?_,KC hi.2 h3⟩
 rcases E5.1 hy with rfl|hy
 .refine⟨h2,?_⟩
  simp only[fC,zB]at h2
  have:=KL.1 h2.1.1.1.1
  omega
 .exact h1.1 y hy
theorem Gc{l:List Approval}{x:Approval}(h:(bY l x).2=0)(hs:∀y∈l,aE y≠aE x){t:Int}(hy:y∈aB l doc t known):y∈aB (addL l x) doc t known:=by
 obtain⟨h1,h2,h3,h4,h5⟩:=Iz h
 have hi:=(qj h1).2
 rw[astanding28 hi,kS]at hy
 rw[astanding28 (KC hi h3),kS]
 refine⟨E5.2 (.inr hy.1),?_⟩
 obtain⟨hm,hq⟩:=hy
 rw[zB]at hq ⊢
 refine⟨hq.1,?_⟩
 have hq2:=hq.2
 unfold iC at hq2 ⊢
 cases hg:(y.Gone||(!(lg y t known)))with
 |true=>rw[hg]at hq2;cases hq2
 |false=>
  rw[hg,cond_false,rP]at hq2
  rw[cond_false,rP]
  intro w hw hc ha
  rcases E5.1 hw with rfl|hw
  .exact absurd ((about28 _ _).1 ha).symm (hs y hm)
  .exact hq2 w hw hc ha
theorem GL{l:List Approval}{x:Approval}(h:(bY l x).2=0)(hs:∀y∈l,aE y≠aE x){b th t:Int}(hy:y∈(cm l doc b th t known).1):y∈(cm (addL l x) doc b th t known).1:=by
 have h1:=(Iz h).1
 unfold cm at hy ⊢
 rw[h1]at hy
 rw[HE h]
 cases hw:((!(cy 4095 ([doc])))||(!(cy 1099511627775 ([b,th,t,known]))))with
 |true=>rw[hw]at hy;exact(kA hy).elim
 |false=>
  rw[hw]at hy
  simp only[bne_self_eq_false,cond_false,e9,kS]at hy ⊢
  exact⟨Gc h hs hy.1,hy.2⟩
def addR(r:Register)(x:Approval):Register:=⟨r.Appoints,r.Deputies,r.Interests,r.Budgets,r.Versions,r.Docs,addL r.Approvals x⟩
section
variable {r:Register} {x:Approval} (ha:(bY r.Approvals x).2=0) (hs:∀y∈r.Approvals,aE y≠aE x) {d:Document} {t known:Int}
include ha
theorem F3(hc:dD r=0):dD (addR r x)=0:=by
 rw[kO]at hc ⊢
 obtain⟨d1,d2,d3,d4,d5,d6,d7⟩:=hc
 exact⟨d1,d2,d3,d4,d5,d6,HE ha⟩
include hs
theorem M8{p:Policy}(hy:y∈fK ⟨r,d,t,known⟩ p):y∈fK ⟨addR r x,d,t,known⟩ p:=by
 rw[DZ]at hy ⊢
 dsimp only at hy ⊢
 cases hk:decide ((p.Kinds.length:Int)<=d.Kind)with
 |true=>rw[hk]at hy;exact(kA hy).elim
 |false=>
  rw[hk,cond_false,kS]at hy
  rw[cond_false,kS]
  exact⟨GL ha hs hy.1,hy.2⟩
theorem CZ{p:Policy}(hz:z∈bB ⟨r,d,t,known⟩ p):z∈bB ⟨addR r x,d,t,known⟩ p:=by
 rw[Cc,(DQ _).2,kM]at hz ⊢
 obtain⟨y,hy,e⟩:=hz
 exact⟨y,M8 ha hs hy,e⟩
end
theorem P5{p:Policy}(hy:y∈fK c p):y∈c.Register.Approvals:=by
 rw[DZ,Bool.cond_eq_ite]at hy
 split at hy
 .exact(kA hy).elim
 .have h1:=(kS.1 hy).1
  unfold cm at h1
  simp only[Bool.cond_eq_ite]at h1
  split at h1
  .exact(kA h1).elim
  .split at h1
   .exact(kA h1).elim
   .have h2:=(kS.1 h1).1
    unfold aB at h2
    rw[Lx]at h2
    unfold aB.K1 at h2
    rw[Lw,xG]at h2
    have h3:=(kS.1 h2).1
    have hc:eC c.Register.Approvals c.doc.No c.at_ c.known=c.Register.Approvals.filter (cntA c.doc.No c.at_ c.known):=vz _ _ _ _
    rw[hc]at h3
    exact(kS.1 h3).1
theorem Jr(h:dD c.Register=0)(p:Policy):el (bB c p)=true:=by
 rw[Hi,Cc]
 refine⟨λz hz=>?_,(DQ _).1⟩
 rw[(DQ _).2,kM]at hz
 obtain⟨y,hy,rfl⟩:=hz
 have hm:=P5 hy
 have h7:=((kO _).1 h).2.2.2.2.2.2
 have hr:fC y=true:=by
  unfold aX at h7
  rw[approvalsP,Bool.cond_eq_ite]at h7
  split at h7
  .cases h7
  .rw[pR (by decide)]at h7;exact(h7.1 y hm).1
 simp only[fC,zB]at hr
 have:=KK.1 hr.1.2
 omega
theorem EV(c:bI)(hl:c.Register.Appoints.length<=2000000):∀(s:List ByteArray)(i:Nat)(g:List (List Holder)),(∀l∈g,l.length<=2000000)->∃H,(∀l∈H,l.length<=2000000)/\∀k,dG.L1 c k s i g=k H
 |[],i,g,hg=>⟨g,hg,λ_=>rfl⟩
 |y::s,i,g,hg=>by
  obtain⟨H,h1,h⟩:=EV c hl s (i+1) (g++[(eQ c.Register.Appoints (i:Int) c.at_ c.known).1]) (λl hl2=>by
   rcases kF.1 hl2 with h|h
   .exact hg l h
   .rw[xC.1 h];exact vT (Dt _ _ _ _) hl)
  exact⟨H,h1,λk=>h k⟩
theorem CY(r:Register)(x:Approval)(d:Document)(t known:Int)(k:List (List Holder)->Bool):∀(s:List ByteArray)(i:Nat)(g:List (List Holder)),dG.L1 ⟨addR r x,d,t,known⟩ k s i g=dG.L1 ⟨r,d,t,known⟩ k s i g
 |[],i,g=>rfl
 |y::s,i,g=>CY r x d t known k s (i+1) _
section
variable {r:Register} {x:Approval} (hsm:smR r) (hc:dD r=0) (ha:(bY r.Approvals x).2=0) (hs:∀y∈r.Approvals,aE y≠aE x) {d:Document} {t known:Int}
include hsm hc ha hs
theorem EU{p:Policy}(hp:KH p)(h:dG ⟨r,d,t,known⟩ p (bB ⟨r,d,t,known⟩ p)=true):
  dG ⟨addR r x,d,t,known⟩ p (bB ⟨addR r x,d,t,known⟩ p)=true:=by
 have hA:(bI.mk r d t known).Register.Appoints.length<=2000000:=hsm.2.1
 obtain⟨H,hH,hk⟩:=EV ⟨r,d,t,known⟩ hA p.Offices 0 [] (λ_ h=>(kA h).elim)
 unfold dG at h ⊢
 rw[CY,hk]
 rw[hk]at h
 have hkd:d.Kind<(p.Rules.length:Int):=by
  rcases Int.lt_or_le d.Kind (p.Rules.length:Int)with q|q
  .exact q
  .exfalso
   rw[hp.rules.1]at q
   have h2:((dx p d.Kind d.Value H (bB ⟨r,d,t,known⟩ p)).1&&((dx p d.Kind d.Value H (bB ⟨r,d,t,known⟩ p)).2==0))=true:=h
   unfold dx at h2
   rw[show decide ((p.Kinds.length:Int)<=d.Kind)=true from decide_eq_true q]at h2
   cases h3:cQ p != 0<;>rw[h3]at h2<;>simp at h2
 have h2:((dx p d.Kind d.Value H (bB ⟨r,d,t,known⟩ p)).1&&((dx p d.Kind d.Value H (bB ⟨r,d,t,known⟩ p)).2==0))=true:=h
 show((dx p d.Kind d.Value H (bB ⟨addR r x,d,t,known⟩ p)).1&&((dx p d.Kind d.Value H (bB ⟨addR r x,d,t,known⟩ p)).2==0))=true
 exact IA (w:=bB ⟨r,d,t,known⟩ p) (w':=bB ⟨addR r x,d,t,known⟩ p) hp.sm hH (λl _ y _ hy=>CZ ha hs hy) (Jr (c:=⟨addR r x,d,t,known⟩) (F3 ha hc) p) hkd h2
end
theorem Kp(r:Register)(x:Approval)(d:Document)(t known:Int)(signed:List Int):fy ⟨addR r x,d,t,known⟩ signed=fy ⟨r,d,t,known⟩ signed:=by
 rfl
section
variable {r:Register} {x:Approval} (hsm:smR r) (hc:dD r=0) (ha:(bY r.Approvals x).2=0) (hs:∀y∈r.Approvals,aE y≠aE x) {d:Document} {t known:Int} (hco:iH ⟨r,d,t,known⟩)
include hsm hc ha hs hco
theorem Kz(hle:d.At<=t){no:Int}(hn:no∈(askJ ⟨r,d,t,known⟩).1)(h:askAns ⟨r,d,t,known⟩ no=true):askAns ⟨addR r x,d,t,known⟩ no=true:=by
 have hj:=HI hco.vers hco.good.at_ hco.time hco.know hle
 obtain⟨v,hv,hvn⟩:=hj.mem no hn
 have hp:KH (askP ⟨r,d,t,known⟩ no):=by
  obtain⟨p,hp⟩:∃p,fe ⟨r,d,t,known⟩ no=.ok p:=by
   have:=AZ (c:=⟨r,d,t,known⟩) ⟨v,hv,hvn⟩
   cases hq:fe ⟨r,d,t,known⟩ no with
   |ok p=>exact⟨p,rfl⟩
   |error e=>rw[hq]at this;exact this.elim
  have:=vu hco hsm hp
  unfold askP
  rw[Q5 hp]
  exact this
 exact EU hsm hc ha hs hp h
theorem Po(hle:d.At<=t)(h:fj ⟨r,d,t,known⟩=true):fj ⟨addR r x,d,t,known⟩=true:=by
 unfold fj at h ⊢
 rw[show askJ ⟨addR r x,d,t,known⟩=askJ ⟨r,d,t,known⟩from rfl]
 cases h1:(askJ ⟨r,d,t,known⟩).2.1==0 with
 |true=>rw[h1]at h;cases h
 |false=>
  rw[h1,cond_false,HM]at h
  rw[cond_false,HM]
  have e:ga (askJ ⟨r,d,t,known⟩).2.1 ((askJ ⟨r,d,t,known⟩).1.map (askAns ⟨addR r x,d,t,known⟩))=ga (askJ ⟨r,d,t,known⟩).2.1 ((askJ ⟨r,d,t,known⟩).1.map (askAns ⟨r,d,t,known⟩)):=by
   unfold ga;rw[List.length_map,List.length_map]
  rw[e]
  cases h2:ga (askJ ⟨r,d,t,known⟩).2.1 ((askJ ⟨r,d,t,known⟩).1.map (askAns ⟨r,d,t,known⟩)) != 0 with
  |true=>rw[h2]at h;cases h
  |false=>
   rw[h2]at h
   exact Ng _ (λno hn=>Kz hsm hc ha hs hco hle hn) h
omit hsm hc hco in
theorem KA(hz:z∈askAll ⟨r,d,t,known⟩):z∈askAll ⟨addR r x,d,t,known⟩:=by
 have h1:z∈setI ((askJ ⟨r,d,t,known⟩).1.flatMap (askWho ⟨r,d,t,known⟩)):=hz
 show z∈setI ((askJ ⟨r,d,t,known⟩).1.flatMap (askWho ⟨addR r x,d,t,known⟩))
 rw[(DQ _).2,List.mem_flatMap]at h1 ⊢
 obtain⟨no,hn,h2⟩:=h1
 exact⟨no,hn,CZ ha hs h2⟩
end
theorem Md(x:Approval)(k:Bool)(hk:(∀y∈([]:List Approval),False)->True):∀l:List Approval,((∀y∈l,aE y≠aE x)->k=true)->cz.L1 x k l=true
 |[],h=>h (λ_ h=>(kA h).elim)
 |y::s,h=>by
  simp only[cz.L1]
  cases hy:((((y.Doc==x.Doc)&&(y.By==x.By))&&(y.For==x.For))&&(y.Office==x.Office))with
  |true=>rfl
  |false=>
   refine Md x k hk s λhs=>h λz hz=>?_
   rcases qC.1 hz with rfl|hz
   .intro e
    have:=(about28 z x).2 e
    rw[show qt z x=((((z.Doc==x.Doc)&&(z.By==x.By))&&(z.For==x.For))&&(z.Office==x.Office))from rfl,hy]at this
    cases this
   .exact hs z hz
theorem DX(k:List (Int×Bool)->Bool):∀(s:List Int)(m:List (Int×Bool)),cz.L2 k s m=k (s.foldl (λm y=>mput m y true) m)
 |[],m=>rfl
 |y::s,m=>DX k s _
theorem Jp:∀(s:List Int)(m:List (Int×Bool))(z:Int),(mgetD m z false=true\/z∈s)->mgetD (s.foldl (λm y=>mput m y true) m) z false=true
 |[],m,z,h=>by rcases h with h|h;exact h;exact(kA h).elim
 |y::s,m,z,h=>by
  refine Jp s _ z ?_
  rw[vi]
  split
  .exact .inl rfl
  .next hn=>
   rcases h with h|h
   .exact .inl h
   .exact .inr ((qC.1 h).resolve_left hn)
theorem DW(m:List (Int×Bool))(k:Bool):∀s:List Int,(∀z∈s,mgetD m z false=true)->cz.L3 m k s=k
 |[],_=>rfl
 |y::s,h=>by
  simp only[cz.L3,h y (jB ..),Bool.not_true,cond_false]
  exact DW m k s λz hz=>h z (xB _ hz)
theorem more_true{r:Register}(hsm:smR r)(signed:List Int)(u:List Use)(doc t known:Int)(x:Approval):cz r signed u doc t known x=true:=by
 unfold cz
 rw[show vl=true from rfl,Bool.not_true,cond_false]
 cases hg:(!(ki r signed u doc t known))||x.Gone with
 |true=>rfl
 |false=>
  rw[cond_false]
  simp only[Bool.or_eq_false_iff,Bool.not_eq_false']at hg
  refine Md x _ (λ_=>trivial) _ λhs=>?_
  unfold cz.K1
  cases ha:(bY r.Approvals x).2 != 0 with
  |true=>rfl
  |false=>
   have ha:(bY r.Approvals x).2=0:=by simpa using ha
   rw[cond_false]
   obtain⟨hc,hd,ht,hk,hsg,hr⟩:=He hsm hg.1
   obtain⟨hco,hJ⟩:=Jj hsm hg.1
   have hR:Register.mk r.Appoints r.Deputies r.Interests r.Budgets r.Versions r.Docs (bY r.Approvals x).1=addR r x:=by
    rw[(Iz ha).2.2.2.2];rfl
   have hc2:=F3 ha hc
   have hJ2:bJ (addR r x) signed u doc t known=(judgeC ⟨addR r x,nthI r.Docs (fo r doc),t,known⟩ r signed u t known,0):=by
    have hdc:aU r.Docs=0:=((kO r).1 hc).2.2.2.2.2.1
    have hi:(bQ r.Docs signed 0).2=0:=xx hdc hsg ⟨Int.le_refl _,by decide⟩
    have ho:lV (addR r x) doc t known=.ok ⟨addR r x,nthI r.Docs (fo r doc),t,known⟩:=L8 (r:=addR r x) hd ht hk
    unfold bJ
    rw[hc2,ho,show(bQ (addR r x).Docs signed 0).2=0 from hi,show(bM (addR r x).Budgets u 0 0 0 0).2.2=0 from hr]
    rfl
   rw[hR,hJ2,hJ]
   unfold cz.K2 cz.K3
   rw[hR,hJ2,hJ]
   dsimp only
   have hcl:=Kp r x (nthI r.Docs (fo r doc)) t known signed
   have hla:gD ⟨addR r x,nthI r.Docs (fo r doc),t,known⟩ signed=gD (rCourt r doc t known) signed:=rfl
   have hro:judgeRoom ⟨addR r x,nthI r.Docs (fo r doc),t,known⟩ r u t known=judgeRoom (rCourt r doc t known) r u t known:=rfl
   have haj:askJ ⟨addR r x,nthI r.Docs (fo r doc),t,known⟩=askJ (rCourt r doc t known):=rfl
   have key:∀z∈askAll (rCourt r doc t known),mgetD ((askAll ⟨addR r x,nthI r.Docs (fo r doc),t,known⟩).foldl (λm y=>mput m y true) []) z false=true:=
    λz hz=>Jp _ _ _ (.inr (KA ha hs hz))
   unfold judgeC
   rw[hcl,hla,hro,haj]
   cases h1:fy (rCourt r doc t known) signed with
   |true=>rfl
   |false=>
    have hle:(nthI r.Docs (fo r doc)).At<=t:=HB h1
    cases h2:gD (rCourt r doc t known) signed with
    |true=>rfl
    |false=>
     have hask:=Po hsm hc ha hs hco hle
     cases h3:fj (rCourt r doc t known)with
     |true=>
      rw[hask h3]
      cases h4:(judgeRoom (rCourt r doc t known) r u t known).2.1 with
      |true=>simp only[Bool.not_true,Bool.not_false,cond_true,cond_false,DX,DW _ _ _ key,zI];rfl
      |false=>simp only[Bool.not_true,Bool.not_false,cond_true,cond_false,DX,DW _ _ _ key,zI];rfl
     |false=>
      cases h5:fj ⟨addR r x,nthI r.Docs (fo r doc),t,known⟩<;>cases h4:(judgeRoom (rCourt r doc t known) r u t known).2.1 <;>
       (simp only[Bool.not_true,Bool.not_false,cond_true,cond_false,DX,DW _ _ _ key,zI];rfl)
end
variable {S:List Nat}{e':Env}
section
section
variable {P:Program} {b:Frame} {n:Nat} {k:List Item} {F:List Frame->(Machine->Prop)->Prop} {e:Env} {ds:List Deferred} {X:Cx} {h:HF} {L:LH}
variable {ops:Array Oper} {l:List Oper} {d:Nat} {ty:TypeId} {pos:String} {af:Array Edge} {g:Option (Nat×Bool)}
def memN:List Nat->Nat->Bool
 |[],_=>false
 |a::l,s=>bif S6 s a then true else memN l s
def mix(S:List Nat)(e' e:Env):Env:=λs=>bif memN S s then e' s else e s
def subN:List Nat->List Nat->Bool
 |[],_=>true
 |a::l,S=>memN S a&&subN l S
def Agr(S:List Nat)(e e':Env):Prop:=∀s,memN S s=false->e' s=e s
theorem yj{e:Env}:Agr S e e:=λ_ _=>rfl
theorem BL{e:Env}{d:Nat}{w:Value}(hd:memN S d=true)(h:Agr S e e'):Agr S e (upd e' d w):=λs hs=>by
 unfold upd
 cases hb:S6 s d with
 |true=>rw[kV hb,hd]at hs;cases hs
 |false=>exact h s hs
theorem OA{T:List Nat}(h:subN T S=true){s:Nat}(hs:memN S s=false):memN T s=false:=by
 induction T with
 |nil=>rfl
 |cons a T ih=>
  simp only[subN,zB]at h
  simp only[memN]
  cases hb:S6 s a with
  |true=>rw[kV hb,h.1]at hs;cases hs
  |false=>exact ih h.2
theorem BM{T:List Nat}{e e2:Env}(hT:subN T S=true)(h:Agr S e e'):Agr S e (mix T e2 e'):=λs hs=>by
 unfold mix
 rw[OA hT hs];exact h s hs
theorem LT(m:Nat)(S:List Nat)(d:Nat)(v:Value)(t':(∀e',e' d=v->(ha:Agr S e e':=by repeat (first|exact yj|refine BL rfl ?_|refine BM rfl ?_))->TO P b n ops (l.drop m) k F e' ds X h L)->TO P b n ops l k F e ds X h L)(hk:∀e'',TO P b n ops (l.drop m) k F (upd (mix S e'' e) d v) ds X h L):TO P b n ops l k F e ds X h L:=
 t' λe' hv ha=>by
  have e1:upd (mix S e' e) d v=e':=funext λs=>by
   unfold upd
   cases hb:S6 s d with
   |true=>rw[kV hb];exact hv.symm
   |false=>
    show mix S e' e s=e' s
    unfold mix
    cases hm:memN S s with
    |true=>rfl
    |false=>exact(ha s hm).symm
  have:=hk e'
  rw[e1]at this
  exact this
theorem ae{x y z:α}{c:Bool}{o:Operand}{p q:Code}(hs:x=bif c then y else z)(hx:e.ev o=.bool c)(t1:c=true->x=y->TT P b n (.code p::k) F e ds X h L)(t2:c=false->x=z->TT P b n (.code q::k) F e ds X h L):TT P b n (.code (.cond o p q)::k) F e ds X h L:=
 j0 hx (λe'=>t1 e' (hs.trans (by rw[e'];rfl))) (λe'=>t2 e' (hs.trans (by rw[e'];rfl)))
end
end
variable {op:Op}{ops:Array Oper}{v:Go.Value}
section
inductive Qs
 |tt (k:List Item) (e:Env)
 |to (ops:Array Oper) (l:List Oper) (k:List Item) (e:Env)
@[reducible] def Qs.holds (P:Program) (b:Frame) (n:Nat) (F:List Frame->(Machine->Prop)->Prop) (ds:List Deferred) (X:Cx) (h:HF) (L:LH):Qs->Prop
 |.tt k e=>TT P b n k F e ds X h L
 |.to ops l k e=>TO P b n ops l k F e ds X h L
def opQ(e:Env):Op->Option Value
 |.move x=>some (e.ev x)
 |.assign x=>some (e.ev x)
 |.pick c x y=>match e.ev c with
  |.bool s=>some (bif s then e.ev x else e.ev y)
  |_=>none
 |.extract x i=>match e.ev x with
  |.tuple ⟨vs⟩=>nth vs i
  |_=>none
 |.unOp .not _ x=>match e.ev x with
  |.bool s=>some (.bool !s)
  |_=>none
 |.binOp op _ x y _=>binV op (e.ev x) (e.ev y)
 |_=>none
def qstepO(n:Nat)(ops:Array Oper)(l:List Oper)(k:List Item)(e:Env):Option Qs:=
 match l with
 |[]=>some (.tt k e)
 |⟨some d,op,ty,pos,af,g⟩::l=>
  match qS d n with
  |false=>none
  |true=>match guardB ops e ⟨some d,op,ty,pos,af,g⟩with
   |false=>some (.to ops l k (upd e d undef))
   |true=>match opQ e op with
    |some v=>some (.to ops l k (upd e d v))
    |none=>none
 |_=>none
def qstepT(k:List Item)(e:Env):Option Qs:=
 match k with
 |.code .skip::k=>some (.tt k e)
 |.code (.seq x y)::k=>some (.tt (.code x::.code y::k) e)
 |.code (.block id c)::k=>some (.tt (.code c::.inBlock id::k) e)
 |.inBlock _::k=>some (.tt k e)
 |.code (.exit id)::k=>match exitTo id k with
  |some k'=>some (.tt k' e)
  |none=>none
 |.code (.cond c x y)::k=>match e.ev c with
  |.bool true=>some (.tt (.code x::k) e)
  |.bool false=>some (.tt (.code y::k) e)
  |_=>none
 |.code (.region _ ⟨l⟩ false)::k=>some (.to ⟨l⟩ l k e)
 |_=>none
def runQ(n:Nat):Nat->Qs->Option Qs
 |0,s=>some s
 |m+1,.tt k e=>match qstepT k e with
  |some s=>runQ n m s
  |none=>none
 |m+1,.to ops l k e=>match qstepO n ops l k e with
  |some s=>runQ n m s
  |none=>none
section
variable {P:Program} {b:Frame} {n:Nat} {k:List Item} {F:List Frame->(Machine->Prop)->Prop} {e:Env} {ds:List Deferred} {X:Cx} {h:HF} {L:LH}
theorem Id(hv:opQ e op=some v):noDefer op=true/\∀(d:Option Nat)(ty:TypeId)(pos:String)(af:Array Edge)(g:Option (Nat×Bool))w,(execOp e.ev ⟨d,op,ty,pos,af,g⟩).run P w=.ok (.value v) w:=by
 unfold opQ at hv
 split at hv
 .cases hv;exact⟨rfl,λ_ _ _ _ _ w=>by simp[execOp]⟩
 .cases hv;exact⟨rfl,λ_ _ _ _ _ w=>by simp[execOp]⟩
 .split at hv
  .next s hc=>cases hv;exact⟨rfl,λ_ _ _ _ _ w=>by cases s<;>simp[execOp,hc,asBool]⟩
  .cases hv
 .split at hv
  .next vs hx=>exact⟨rfl,λ_ _ _ _ _ w=>by rw[gC]at hv;simp[execOp,hx,Instr.extract,hv]⟩
  .cases hv
 .split at hv
  .next s hx=>cases hv;exact⟨rfl,λ_ _ _ _ _ w=>by simp[execOp,hx,Op.unary]⟩
  .cases hv
 .next op t x y u=>
  exact⟨rfl,λ_ _ _ _ _ w=>by
   have:=Ev (P:=P) (t:=t) (x:=x) (y:=y) hv w
   simp only[execOp,xP]at this ⊢
   simp[this]⟩
 .cases hv
theorem MZ{l:List Oper}{s:Qs}(hs:qstepO n ops l k e=some s)(t:s.holds P b n F ds X h L):TO P b n ops l k F e ds X h L:=by
 unfold qstepO at hs
 split at hs
 .cases hs;exact aF t
 .split at hs
  .cases hs
  .next hd=>
   split at hs
   .next hg=>cases hs;exact Ie t hd hg
   .next hg=>
    split at hs
    .next v hv=>
     cases hs
     obtain⟨h1,h2⟩:=Id (P:=P) hv
     exact tQ v h1 (λw _=>h2 _ _ _ _ _ w) hd hg t
    .cases hs
 .cases hs
theorem Hg{s:Qs}(hs:qstepT k e=some s)(t:s.holds P b n F ds X h L):TT P b n k F e ds X h L:=by
 unfold qstepT at hs
 split at hs
 .cases hs;exact aI t
 .cases hs;exact dK t
 .cases hs;exact me t
 .cases hs;exact eS t
 .split at hs
  .next hx=>cases hs;exact lK hx t
  .cases hs
 .split at hs
  .next hc=>cases hs;exact ls hc t
  .next hc=>cases hs;exact oM hc t
  .cases hs
 .cases hs;exact bC t
 .cases hs
theorem DS:∀(m:Nat)(a:Qs){s:Qs},runQ n m a=some s->s.holds P b n F ds X h L->a.holds P b n F ds X h L
 |0,_,_,hr,t=>by cases hr;exact t
 |m+1,.tt k e,s,hr,t=>by
  unfold runQ at hr
  split at hr
  .next s' hs=>exact Hg hs (DS m s' hr t)
  .cases hr
 |m+1,.to ops l k e,s,hr,t=>by
  unfold runQ at hr
  split at hr
  .next s' hs=>exact MZ hs (DS m s' hr t)
  .cases hr
theorem qT(m:Nat){s:Qs}(hr:runQ n m (.tt k e)=some s)(t:s.holds P b n F ds X h L):TT P b n k F e ds X h L:=DS m (.tt k e) hr t
theorem qO{l:List Oper}(m:Nat){s:Qs}(hr:runQ n m (.to ops l k e)=some s)(t:s.holds P b n F ds X h L):TO P b n ops l k F e ds X h L:=DS m (.to ops l k e) hr t
end
end
variable {P:Program}{a:Bool}{args vs:List Go.Value}{ass:Array Operand}{ats:Array TypeId}{f:FuncId}{fn:Func}{id:Nat}{p:Prop}{x:Operand}{x0:ρ}{γ:Type}
section
section
variable {P:Program} {b:Frame} {n:Nat} {k:List Item} {F:List Frame->(Machine->Prop)->Prop} {e:Env} {ds:List Deferred} {X:Cx} {h:HF} {L:LH}
theorem rds(h:p:=by repeat (first|exact trivial|refine⟨rfl,?_⟩)):p:=h
theorem sws(h:p:=by first|exact λw hw=>hw|(intro w hw;first|simpa only[List.append_assoc,List.cons_append,List.nil_append,List.append_nil]using hw|(simp only[List.append_assoc,List.cons_append,List.nil_append,List.append_nil]at hw ⊢;exact hw))):p:=h
theorem ndA(h:p:=by(intro i g hd hf hx e;refine dK (bC (io (v':=.bool false) rfl (congrArg Value.bool hf) (aF (dK (oM rfl (lK rfl (hx _ ?_)))))));exact rds)):p:=h
theorem ndB(h:p:=by(intro i hd hf hx e;refine dK (bC (io (v':=.bool false) rfl (congrArg Value.bool hf) (aF (dK (oM rfl (lK rfl (hx _ ?_)))))));exact rds)):p:=h
theorem lpG{c:Code}(xs:List α)(sl:Nat->γ->List (Nat×Value))(hh:γ->HF)(LL:γ->LH)(J:Nat->γ->Prop)(Lf:List α->Nat->γ->ρ)(g0:γ)(hb:xs.length<=9223372036854775807)(hs:x0=Lf xs 0 g0)(hJ:J 0 g0)(h0:i5 e (sl 0 g0))(hw:∀w,St X h L w->St X (hh g0) (LL g0) w)(after:∀i g,i<=xs.length->x0=Lf [] i g->J i g->∀e',TT P b n k F (upds e' (sl i g)) ds X (hh g) (LL g))(cons:∀i g y r,xs.drop i=y::r->decide ((i:Int)<(xs.length:Int))=true->xs[i]? = some y->i<xs.length->xs.length<=9223372036854775807->x0=Lf (y::r) i g->J i g ->
   (∀i' g' {e'},x0=Lf [] i' g'->J i' g'->i'<=xs.length->i5 e' (sl i' g')->TT P b n k F e' ds X (hh g') (LL g')) ->
   (∀g' {e'},x0=Lf r (i+1) g'->J (i+1) g'->i5 e' (sl (i+1) g')->TT P b n (.inLoop c::.inBlock id::k) F e' ds X (hh g') (LL g')) ->
   ∀e',TT P b n (.code c::.inLoop c::.inBlock id::k) F (upds e' (sl i g)) ds X (hh g) (LL g))(nil:∀i g,xs.drop i=[]->decide ((i:Int)<(xs.length:Int))=false->(∀e',i5 e' (sl i g)->TT P b n k F e' ds X (hh g) (LL g)) ->
   ∀e',TT P b n (.code c::.inLoop c::.inBlock id::k) F (upds e' (sl i g)) ds X (hh g) (LL g)):
  TT P b n (.code (.block id (.loop c))::k) F e ds X h L:=by
 refine ir (ι:=Nat×γ) (λi=>sl i.1 i.2) (λi=>hh i.2) (λi=>LL i.2) (λi=>i.1<=xs.length/\x0=Lf [] i.1 i.2/\J i.1 i.2) ?_ (λhx=>?_)
 .rintro⟨i,g⟩ ⟨h1,h2,h3⟩ e'
  exact after i g h1 h2 h3 e'
 .refine jZ (ι:=Nat×γ×List α) (λi=>sl i.1 i.2.1) (λi=>hh i.2.1) (λi=>LL i.2.1) (λi=>xs.drop i.1=i.2.2/\i.1<=xs.length/\x0=Lf i.2.2 i.1 i.2.1/\J i.1 i.2.1) (λi=>i.2.2.length) (0,g0,xs) h0 hw ⟨rfl,qM _,hs,hJ⟩ ?_
  rintro⟨i,g,s⟩ ⟨hd,hi,hs,hJ⟩ ag e'
  dsimp only at hd hi hs hJ
  rcases s with _|⟨y,r⟩
  .exact nil i g hd (mR hd) (λe'' hr=>hx (i,g) e'' ⟨hi,hs,hJ⟩ hr) e'
  .exact cons i g y r hd (s8 hd) (rE hd) (hY hd) hb hs hJ (λi' g' e'' a b c d=>hx (i',g') e'' ⟨c,a,b⟩ d)
    (λg' e'' a b hr=>ag (i+1,g',r) e'' (Nat.lt_succ_self _) ⟨kw hd,hY hd,a,b⟩ hr) e'
theorem lp2{c:Code}(xs:List α)(sl:Nat->γ->List (Nat×Value))(hh:γ->HF)(LL:γ->LH)(J:Nat->γ->Prop)(Lf:List α->Nat->γ->ρ)(g0:γ)(hb:xs.length<=9223372036854775807)(hs:x0=Lf xs 0 g0)(hJ:J 0 g0)(after:∀i g,i<=xs.length->x0=Lf [] i g->J i g->∀e',TT P b n k F (upds e' (sl i g)) ds X (hh g) (LL g))(cons:∀i g y r,xs.drop i=y::r->decide ((i:Int)<(xs.length:Int))=true->xs[i]? = some y->i<xs.length->xs.length<=9223372036854775807->x0=Lf (y::r) i g->J i g ->
   (∀i' g' {e'},x0=Lf [] i' g'->J i' g'->(hi:i'<=xs.length:=by omega)->(hr:i5 e' (sl i' g'):=by exact rds)->TT P b n k F e' ds X (hh g') (LL g')) ->
   (∀g' {e'},x0=Lf r (i+1) g'->J (i+1) g'->(hr:i5 e' (sl (i+1) g'):=by exact rds)->TT P b n (.inLoop c::.inBlock id::k) F e' ds X (hh g') (LL g')) ->
   ∀e',TT P b n (.code c::.inLoop c::.inBlock id::k) F (upds e' (sl i g)) ds X (hh g) (LL g))(nil:∀i g,xs.drop i=[]->decide ((i:Int)<(xs.length:Int))=false->(∀e',i5 e' (sl i g)->TT P b n k F e' ds X (hh g) (LL g)) ->
   ∀e',TT P b n (.code c::.inLoop c::.inBlock id::k) F (upds e' (sl i g)) ds X (hh g) (LL g):=by exact ndA)(h0:i5 e (sl 0 g0):=by exact rds)(hw:∀w,St X h L w->St X (hh g0) (LL g0) w:=by exact sws):
  TT P b n (.code (.block id (.loop c))::k) F e ds X h L:=
 lpG xs sl hh LL J Lf g0 hb hs hJ h0 hw after cons nil
theorem lp1{c:Code}(xs:List α)(sl:Nat->γ->List (Nat×Value))(L':LH)(Lf:List α->Nat->γ->ρ)(g0:γ)(hb:xs.length<=9223372036854775807)(hs:x0=Lf xs 0 g0)(after:∀i g,i<=xs.length->x0=Lf [] i g->∀e',TT P b n k F (upds e' (sl i g)) ds X h L')(cons:∀i g y r,xs.drop i=y::r->decide ((i:Int)<(xs.length:Int))=true->xs[i]? = some y->i<xs.length->xs.length<=9223372036854775807->x0=Lf (y::r) i g ->
   (∀i' g' {e'},x0=Lf [] i' g'->(hi:i'<=xs.length:=by omega)->(hr:i5 e' (sl i' g'):=by exact rds)->TT P b n k F e' ds X h L') ->
   (∀g' {e'},x0=Lf r (i+1) g'->(hr:i5 e' (sl (i+1) g'):=by exact rds)->TT P b n (.inLoop c::.inBlock id::k) F e' ds X h L') ->
   ∀e',TT P b n (.code c::.inLoop c::.inBlock id::k) F (upds e' (sl i g)) ds X h L')(nil:∀i g,xs.drop i=[]->decide ((i:Int)<(xs.length:Int))=false->(∀e',i5 e' (sl i g)->TT P b n k F e' ds X h L') ->
   ∀e',TT P b n (.code c::.inLoop c::.inBlock id::k) F (upds e' (sl i g)) ds X h L':=by exact ndA)(h0:i5 e (sl 0 g0):=by exact rds)(hw:∀w,St X h L w->St X h L' w:=by exact sws):
  TT P b n (.code (.block id (.loop c))::k) F e ds X h L:=
 lpG xs sl (λ_=>h) (λ_=>L') (λ_ _=>True) Lf g0 hb hs trivial h0 hw (λi g a b _=>after i g a b) (λi g y r a1 a2 a3 a4 a5 a6 _ hx ag=>cons i g y r a1 a2 a3 a4 a5 a6 (λi' g' _ a hi hr=>hx i' g' a trivial hi hr) (λg' _ a hr=>ag g' a trivial hr)) nil
theorem lp0{c:Code}(xs:List α)(sl:Nat->List (Nat×Value))(L':LH)(Lf:List α->Nat->ρ)(hb:xs.length<=9223372036854775807)(hs:x0=Lf xs 0)(after:∀i,i<=xs.length->x0=Lf [] i->∀e',TT P b n k F (upds e' (sl i)) ds X h L')(cons:∀i y r,xs.drop i=y::r->decide ((i:Int)<(xs.length:Int))=true->xs[i]? = some y->i<xs.length->xs.length<=9223372036854775807->x0=Lf (y::r) i ->
   (∀i' {e'},x0=Lf [] i'->(hi:i'<=xs.length:=by omega)->(hr:i5 e' (sl i'):=by exact rds)->TT P b n k F e' ds X h L') ->
   (∀{e'},x0=Lf r (i+1)->(hr:i5 e' (sl (i+1)):=by exact rds)->TT P b n (.inLoop c::.inBlock id::k) F e' ds X h L') ->
   ∀e',TT P b n (.code c::.inLoop c::.inBlock id::k) F (upds e' (sl i)) ds X h L')(nil:∀i,xs.drop i=[]->decide ((i:Int)<(xs.length:Int))=false->(∀e',i5 e' (sl i)->TT P b n k F e' ds X h L') ->
   ∀e',TT P b n (.code c::.inLoop c::.inBlock id::k) F (upds e' (sl i)) ds X h L':=by exact ndB)(h0:i5 e (sl 0):=by exact rds)(hw:∀w,St X h L w->St X h L' w:=by exact sws):
  TT P b n (.code (.block id (.loop c))::k) F e ds X h L:=
 lpG (γ:=Unit) xs (λi _=>sl i) (λ_=>h) (λ_=>L') (λ_ _=>True) (λl i _=>Lf l i) () hb hs trivial h0 hw (λi _ a b _=>after i a b) (λi _ y r a1 a2 a3 a4 a5 a6 _ hx ag=>cons i y r a1 a2 a3 a4 a5 a6 (λi' _ a hi hr=>hx i' () a trivial hi hr) (λa hr=>ag () a trivial hr)) (λi _=>nil i)
theorem bT{l:List Oper}(m:Nat)(S:List Nat)(s d:Nat)(y:Bool){x:Bool}(hx:e s=.bool x)(t':x=false->(∀e',e' d=.bool y->(ha:Agr S e e':=by repeat (first|exact yj|refine BL rfl ?_|refine BM rfl ?_))->TO P b n ops (l.drop m) k F e' ds X h L)->TO P b n ops l k F (upd e s (.bool false)) ds X h L)(hk:∀e'',TO P b n ops (l.drop m) k F (upd (mix S e'' e) d (.bool (x||y))) ds X h L)(hq:∃e2,runQ n m (.to ops l k (upd e s (.bool true)))=some (.to ops (l.drop m) k e2)/\e2 d=.bool true/\Agr S e e2:=by exact⟨_,rfl,rfl,by repeat (first|exact yj|refine BL rfl ?_|refine BM rfl ?_)⟩):TO P b n ops l k F e ds X h L:=by
 refine LT m S d (.bool (x||y)) (λhj=>?_) hk
 refine uz s hx (λc=>?_) (λc=>t' c (λe' he ha=>hj e' (he.trans (by rw[c];rfl)) ha))
 obtain⟨e2,h1,h2,h3⟩:=hq
 exact qO m h1 (hj e2 (h2.trans (by rw[c];rfl)) h3)
theorem bp{l:List Oper}(m:Nat)(S:List Nat)(s d:Nat)(y:Bool){x:Bool}(hx:e s=.bool x)(t':x=true->(∀e',e' d=.bool y->(ha:Agr S e e':=by repeat (first|exact yj|refine BL rfl ?_|refine BM rfl ?_))->TO P b n ops (l.drop m) k F e' ds X h L)->TO P b n ops l k F (upd e s (.bool true)) ds X h L)(hk:∀e'',TO P b n ops (l.drop m) k F (upd (mix S e'' e) d (.bool (x&&y))) ds X h L)(hq:∃e2,runQ n m (.to ops l k (upd e s (.bool false)))=some (.to ops (l.drop m) k e2)/\e2 d=.bool false/\Agr S e e2:=by exact⟨_,rfl,rfl,by repeat (first|exact yj|refine BL rfl ?_|refine BM rfl ?_)⟩):TO P b n ops l k F e ds X h L:=by
 refine LT m S d (.bool (x&&y)) (λhj=>?_) hk
 refine uz s hx (λc=>t' c (λe' he ha=>hj e' (he.trans (by rw[c];rfl)) ha)) (λc=>?_)
 obtain⟨e2,h1,h2,h3⟩:=hq
 exact qO m h1 (hj e2 (h2.trans (by rw[c];rfl)) h3)
theorem Qt{l:List Oper}(s:Nat)(v:Value)(hv:e s=v)(t:TO P b n ops l k F (upd e s v) ds X h L):TO P b n ops l k F e ds X h L:=by
 rw[←hv,uu]at t;exact t
end
def look3:List (Nat×Nat×Nat)->Nat->Nat->Option Nat
 |[],_,_=>none
 |(a,b,c)::l,s,i=>bif S6 a s&&S6 b i then some c else look3 l s i
def tabOk(P:Program)(tF:List (Nat×Nat×Nat))(tY tS:List Nat):Bool:=
 tF.all (λx=>fldOf P x.1 x.2.1==some x.2.2)&&tY.all (λt=>tySz P t==some (1,false))&&tS.all (λt=>match P.underlying t with|some (.slice _)=>true|_=>false)
def Qo:List (Nat×Nat)->Prop
 |[]=>True
 |(a,b)::q=>a=b/\Qo q
def runL(tF:List (Nat×Nat×Nat))(tY tS:List Nat)(n:Nat)(L:LH):Nat->List Nat->Qs->Option (Qs×List (Nat×Nat))
 |0,_,s=>some (s,[])
 |m+1,is,.tt k e=>match qstepT k e with
  |some s=>runL tF tY tS n L m is s
  |none=>none
 |m+1,is,.to ops [] k e=>runL tF tY tS n L m is (.tt k e)
 |m+1,is,.to ops (⟨some d,op,ty,pos,af,g⟩::l) k e=>match qS d n with
  |false=>none
  |true=>match guardB ops e ⟨some d,op,ty,pos,af,g⟩with
   |false=>runL tF tY tS n L m is (.to ops l k (upd e d undef))
   |true=>match op with
    |.fieldAddr s x i=>match e.ev x,look3 tF s i with
     |.pointer (some a),some off=>runL tF tY tS n L m is (.to ops l k (upd e d (.pointer (some (a.add off)))))
     |_,_=>none
    |.load t x=>match e.ev x,is with
     |.pointer (some ⟨bk,off,none⟩),i::is=>match nth L i with
      |some (bk',.cells ⟨cl⟩ _ _)=>match nth cl off,memN tY t with
       |some v,true=>match runL tF tY tS n L m is (.to ops l k (upd e d v))with
        |some (s,q)=>some (s,(bk,bk')::q)
        |none=>none
       |_,_=>none
      |_=>none
     |_,_=>none
    |.call ⟨.builtin .len,⟨[x]⟩,⟨[t]⟩⟩=>match e.ev x,memN tS t with
     |.slice _ m' _,true=>runL tF tY tS n L m is (.to ops l k (upd e d (.int .i64 (m':Int))))
     |_,_=>none
    |op=>match opQ e op with
     |some v=>runL tF tY tS n L m is (.to ops l k (upd e d v))
     |none=>none
 |_+1,_,.to _ _ _ _=>none
theorem E6:∀{l:List Nat}{a:Nat},memN l a=true->a∈l
 |[],_,h=>by cases h
 |b::l,a,h=>by
  unfold memN at h
  cases hb:S6 a b with
  |true=>rw[kV hb];exact jB ..
  |false=>rw[hb]at h;exact xB _ (E6 h)
theorem Ch:∀{l:List (Nat×Nat×Nat)}{s i o:Nat},look3 l s i=some o->(s,i,o)∈l
 |[],_,_,_,h=>by cases h
 |(a,b,c)::l,s,i,o,h=>by
  unfold look3 at h
  cases hb:S6 a s&&S6 b i with
  |true=>
   rw[hb]at h;cases h
   simp only[zB]at hb
   rw[kV hb.1,kV hb.2];exact jB ..
  |false=>rw[hb]at h;exact xB _ (Ch h)
section
variable {P:Program} {b:Frame} {n:Nat} {k:List Item} {F:List Frame->(Machine->Prop)->Prop} {e:Env} {ds:List Deferred} {X:Cx} {h:HF} {L:LH}
theorem rU{tF:List (Nat×Nat×Nat)}{tY tS:List Nat}(hT:tabOk P tF tY tS=true):∀(m:Nat)(is:List Nat)(a:Qs){s:Qs}{q:List (Nat×Nat)},runL tF tY tS n L m is a=some (s,q)->Qo q->s.holds P b n F ds X h L->a.holds P b n F ds X h L
 |0,is,a,s,q,hr,hq,t=>by
  simp only[runL,kQ,TL]at hr;rw[hr.1];exact t
 |m+1,is,.tt k e,s,q,hr,hq,t=>by
  unfold runL at hr
  split at hr
  .next hs=>exact Hg hs (rU hT m _ _ hr hq t)
  .cases hr
 |m+1,is,.to ops [] k e,s,q,hr,hq,t=>by
  unfold runL at hr
  exact aF (rU hT m _ _ hr hq t)
 |m+1,is,.to ops (⟨none,op,ty,pos,af,g⟩::l) k e,s,q,hr,hq,t=>by
  unfold runL at hr
  cases hr
 |m+1,is,.to ops (⟨some d,op,ty,pos,af,g⟩::l) k e,s,q,hr,hq,t=>by
  have hT':=hT
  simp only[tabOk,zB,R6]at hT'
  obtain⟨⟨h1,h2⟩,h3⟩:=hT'
  unfold runL at hr
  split at hr
  .cases hr
  .next hd=>
   split at hr
   .next hg=>exact Ie (rU hT m _ _ hr hq t) hd hg
   .next hg=>
    split at hr
    .split at hr
     .next hx hl=>exact jq (by simpa using h1 _ (Ch hl)) hx (rU hT m _ _ hr hq t) hd hg
     .cases hr
    .split at hr
     .next hx=>
      split at hr
      .next hn=>
       split at hr
       .next hv hm=>
        split at hr
        .next hr2=>
         cases hr
         obtain⟨e1,hq⟩:=hq
         subst e1
         exact nN _ (by simpa using h2 _ (E6 hm)) hx hn hv (rU hT m _ _ hr2 hq t) hd hg
        .cases hr
       .cases hr
      .cases hr
     .cases hr
    .split at hr
     .next hx hm=>
      have:=h3 _ (E6 hm)
      split at this
      .next hu=>exact Ma hu hx (rU hT m _ _ hr hq t) hd hg
      .cases this
     .cases hr
    .split at hr
     .next v hv=>
      obtain⟨g1,g2⟩:=Id (P:=P) hv
      exact tQ v g1 (λw _=>g2 _ _ _ _ _ w) hd hg (rU hT m _ _ hr hq t)
     .cases hr
end
theorem sT{c:Code}{n:Nat}{h:HF}{A:LH}{R:Ending->HF->LH->Prop}(hf:P.funcs[f]? = some fn)(hb:fn.body=some c)(hn:fn.ntmps=n)(hle:Nat.ble args.length n=true)(t:∀X:Cx,X.M=A.map (·.1)->X.h0=h->P.funcs[f]? = some fn->TT P (bodyFrame f) n [.code c] (lQ P X R) (envArgs args) [] X h A):nu P f args.toArray h A R:=
 cB hf hb hn hle λX a b=>t X a b hf
section
variable {P:Program} {f:FuncId} {n:Nat} {k:List Item} {e:Env} {X:Cx} {h:HF} {L:LH} {fn:Func} {rs:List ResultVar} {φ : Value->HF->Prop}
theorem nretP{hh:HF}(vs:List Value)(hvv:retVal vs=v)(hf:P.funcs[f]? = some fn:=by assumption)(hr:fn.results=rs.toArray:=by rfl)(hX:X.h0=hh:=by assumption)(hv:tZ P e L rs vs:=by exact rds):
  TT P (bodyFrame f) n (.code .ret::k) (lQ P X (λx h' B=>x=.returned v/\h'=hh/\B=[])) e [] X h L:=tx vs hf hr hX hv hvv
theorem nretH(vs:List Value)(hφ : φ (retVal vs) h)(hf:P.funcs[f]? = some fn:=by assumption)(hr:fn.results=rs.toArray:=by rfl)(hv:tZ P e L rs vs:=by exact rds):
  TT P (bodyFrame f) n (.code .ret::k) (lQ P X (λx h' B=>B=[]/\∃v,x=.returned v/\φ v h')) e [] X h L:=jY vs hf hr hv hφ
end
section grows
variable {P:Program} {b:Frame} {n:Nat} {ops:Array Oper} {F:List Frame->(Machine->Prop)->Prop} {e:Env} {ds:List Deferred} {X:Cx} {h:HF} {L:LH} {K:Env->HF->LH->Prop} {d:Option Nat} {ty:TypeId} {pos:String} {af:Array Edge} {g:Option (Nat×Bool)}
variable {α : Type} {R:Rp α} {E:TypeId} {xs:List α} {base:Option Addr} {cap bk:Nat} {G:LH}
theorem uk{α:Type}{R:Rp α}{C:α->ρ->List Value}{ok:HF->α->ρ->Prop}{t E:TypeId}{ix:Operand}{base:Option Addr}{m cap:Nat}{xs:List α}{y:α}(hT:P.underlying t=some (.slice E))(hS:tySz P E=some (R.sz,a))(hR:SlB R h base xs)(hz:0<=z/\z<(xs.length:Int))(hj:xs[z.toNat]? = some y)(hx:e.ev x=.slice base m cap)(hm:m=xs.length)(hix:e.ev ix=.int .i64 z)(hC:∀h cs y,R.rep h cs y->∃r,cs=C y r/\ok h y r)(t':∀q r,At h q (C y r)->ok h y r->K (pute e d (.pointer (some q))) h L)(hg:guardB ops e ⟨d,.indexAddr t x ix,ty,pos,af,g⟩=true:=by rfl):Stp P b n ops F ds X ⟨d,.indexAddr t x ix,ty,pos,af,g⟩ e h L K:=
 LY hT hS hR hz hj hx hm hix (λq cs A ln rr=>by obtain⟨r,e1,o1⟩:=hC _ _ _ rr;subst e1;exact t' q r A o1) hg
theorem AR(A0 G Q:LH)(LL:LH->LH){ys:List α}(hc:∀args w,(callFunc f args).run P w=.ok (.enter f args) w)(hs:nu P f vs.toArray h G (λr h' G'=>∃b c,h'=h/\r=.returned (.slice b ys.length c)/\du R E h ys b c G'))(hL:L=A0++(G++Q))(hLL:∀G,A0++(G++Q)=LL G)(hvs:ass.toList.map e.ev=vs)(t':∀b c G',du R E h ys b c G'->K (pute e d (.slice b ys.length c)) h (LL G'))(hg:guardB ops e ⟨d,.call ⟨.value (.func f),ass,ats⟩,ty,pos,af,g⟩=true:=by rfl):
  Stp P b n ops F ds X ⟨d,.call ⟨.value (.func f),ass,ats⟩,ty,pos,af,g⟩ e h L K:=by
 unfold Stp
 rw[if_pos hg]
 intro w hw
 subst hL
 have hp:∀G:LH,(A0++(G++Q)).Perm (G++(A0++Q)):=λG=>by
  rw[←kC,←kC];exact List.Perm.append_right Q kJ
 have hw':=hw.perm (hp G)
 have harr:ass.map e.ev=vs.toArray:=Sd (by simp[←hvs])
 have hr:(execOp e.ev ⟨d,.call ⟨.value (.func f),ass,ats⟩,ty,pos,af,g⟩).run P w=.ok (.enter f vs.toArray) w:=by
  simp[execOp,resolve,Env.ev,xJ,invoke,harr,hc]
 rw[hr]
 refine lr (by simp) (je (rq.mono (hs w hw'.pre.left) ?_))
 rintro x w' ⟨h',B,hst,bb,cc,rfl,rfl,hG⟩
 exact⟨h',_,hLL B▸(St.after (A:=G) (F:=A0++Q) hw' hst).perm (hp B).symm,t' bb cc B hG⟩
end grows
end
variable {K:LH}{R:Rp α}{af:Array Edge}{dn dn':List Nat}{e:Env}{g:Option (Nat×Bool)}{m':Nat}{pos:String}{ty:TypeId}
section
theorem U.{u}{α : Sort u}{a:α}:a=a:=rfl
theorem kr(h:p:=by kernel_rfl):p:=h
theorem ob(h:p:=by first|assumption|omega|(simp only[] ;assumption)|(simp only[decide_eq_true_eq,decide_eq_false_iff_not,Bool.and_eq_true,Bool.or_eq_true,Bool.not_eq_true',Bool.not_eq_false',Bool.and_eq_false_iff,Bool.or_eq_false_iff,beq_iff_eq,beq_eq_false_iff_ne,bne_iff_ne,bne_eq_false_iff_eq,List.length_append,List.length_cons,List.length_nil,List.length_drop]at *;omega)):p:=h
theorem lo(h:p:=by simp only[List.length_append,List.length_cons,List.length_nil,List.length_take,List.length_drop];omega):p:=h
theorem ap(h:p:=by first|rfl|(simp only[List.append_assoc,List.cons_append,List.nil_append,List.append_nil];done)|(simp only[List.append_assoc,List.cons_append,List.nil_append,List.append_nil];rfl)|(rw[List.append_nil]<;>rfl)|(simp only[dropNth,List.append_assoc,List.cons_append,List.nil_append,List.append_nil];done)):p:=h
theorem lc(h:p:=by first|omega|(simp only[List.length_nil,List.length_cons]at *;omega)):p:=h
theorem rd(h:p:=by repeat (first|exact trivial|refine⟨rfl,?_⟩)):p:=h
theorem jn{h:HF}{L:LH}(hs:K.Sublist L:=by repeat (first|exact List.Sublist.refl _|exact List.nil_sublist _|exact List.sublist_append_left _ _|refine List.Sublist.cons_cons _ ?_|refine List.Sublist.cons _ ?_)):Jst h K h L:=Bh hs
theorem js{L:LH}(hs:K.Sublist L:=by repeat (first|exact List.Sublist.refl _|exact List.nil_sublist _|exact List.sublist_append_left _ _|refine List.Sublist.cons_cons _ ?_|refine List.Sublist.cons _ ?_)):K.Sublist L:=hs
theorem mh{G L:LH}(h:∀p∈G,p∈L:=by intro p hp;simp only[List.mem_append,List.mem_cons,hp,true_or,or_true]):∀p∈G,p∈L:=h
theorem ei{enc:α->List Value}(h:∀h cs x,R.rep h cs x->cs=enc x:=by exact λ_ _ _ e=>e):∀h cs x,R.rep h cs x->cs=enc x:=h
theorem lf{h:HF}:h.le h:=HF.le_refl h
theorem xf(h:p:=by first|exact λ_ _ _ h=>h.elim|exact λ_ _ _ _ h=>h.elim):p:=h
theorem cb{b:Bool}(h:a=b):SA a=SA b:=congrArg SA h
theorem cs{b:Bool}(h:a=b):SA b=SA a:=congrArg SA h.symm
theorem ci{a b:Int}(h:a=b):zD .i64 b=zD .i64 a:=congrArg (zD .i64) h.symm
abbrev O(l:List Value)(t:Nat):Obj:=jJ l.toArray t (0,0)
abbrev Y(x:Int):Value:=.int .u8 x
abbrev Q(b:Nat):Value:=.pointer (some ⟨b,0,none⟩)
abbrev I(x:Int):Value:=.int .i64 x
theorem HF.le.t{a b c:HF}(x:a.le b)(y:b.le c):a.le c:=HF.le_trans x y
section
variable {P:Program} {b:Frame} {n:Nat} {k:List Item} {F:List Frame->(Machine->Prop)->Prop} {ds:List Deferred} {X:Cx}
theorem tf(i:Nat){l:List Oper}{h1:HF}{m d:Nat}{oi:Oper}{h:HF}{L:LH}(hi:nth l i=some oi)(hd:oi.dst=some d)(hr:∀h' L',Jst h1 K h' L'->∀w,St X h' L' w->(execOp e.ev oi).run P w=.ok (.value v) w)(t:TA P b n l.toArray k F ds X (Jst h1 K) m (i::dn) (upd e d v) h L)(hsep:sepAll l.toArray=true:=by assumption)(hJ:Jst h1 K h L:=by exact jn)(hn:(nexts l.toArray dn).contains i=true:=by kernel_rfl)(hg:guardB l.toArray e oi=true:=by rfl):TA P b n l.toArray k F ds X (Jst h1 K) (m+1) dn e h L:=
 gz i hsep hJ hi hd hn hg hr t
theorem tm(i:Nat){l:List Oper}{h1:HF}{m d:Nat}{h:HF}{L:LH}(hi:nth l i=some ⟨some d,.move x,ty,pos,af,g⟩)(t:TA P b n l.toArray k F ds X (Jst h1 K) m (i::dn) (upd e d (e.ev x)) h L)(hsep:sepAll l.toArray=true:=by assumption)(hJ:Jst h1 K h L:=by exact jn)(hn:(nexts l.toArray dn).contains i=true:=by kernel_rfl)(hg:guardB l.toArray e ⟨some d,.move x,ty,pos,af,g⟩=true:=by rfl):TA P b n l.toArray k F ds X (Jst h1 K) (m+1) dn e h L:=
 gz i hsep hJ hi rfl hn hg (λ_ _ _=>ja) t
theorem tk(i:Nat){l:List Oper}{h1:HF}{m d:Nat}{oi:Oper}{h:HF}{L:LH}(hi:nth l i=some oi)(hd:oi.dst=some d)(t:TA P b n l.toArray k F ds X (Jst h1 K) m (i::dn) (upd e d undef) h L)(hsep:sepAll l.toArray=true:=by assumption)(hJ:Jst h1 K h L:=by exact jn)(hn:(nexts l.toArray dn).contains i=true:=by kernel_rfl)(hg:guardB l.toArray e oi=false:=by rfl):TA P b n l.toArray k F ds X (Jst h1 K) (m+1) dn e h L:=
 mv i hsep hJ hi hd hn hg t
theorem tn(i:Nat){l:List Oper}{h1:HF}{m:Nat}{oi:Oper}{h:HF}{L:LH}(hi:nth l i=some oi)(t:Stp P b n l.toArray F ds X oi e h L λe' h' L'=>Jst h1 K h' L'/\TA P b n l.toArray k F ds X (Jst h1 K) m (i::dn) e' h' L')(hn:nexts l.toArray dn=[i]:=by kernel_rfl):TA P b n l.toArray k F ds X (Jst h1 K) (m+1) dn e h L:=
 QH i hn hi t
theorem sr{l:List Oper}{y:Code}{h:HF}{L:LH}(t:TO P b n l.toArray l (.code y::k) F e ds X h L):TT P b n (.code (.seq (.region id l.toArray false) y)::k) F e ds X h L:=dK (bC t)
theorem an{d:Nat}{h:HF}{L:LH}(t:TT P b n k F (upd e d (e.ev x)) ds X h L)(hd:Nat.blt d n=true:=by rfl)(hg:guardB ops e ⟨some d,.assign x,ty,pos,af,g⟩=true:=by rfl):TO P b n ops [⟨some d,.assign x,ty,pos,af,g⟩] k F e ds X h L:=gg (aF t) hd hg
theorem kq{l:List Oper}{d d':Nat}{op':Op}{ty':TypeId}{pos':String}{af':Array Edge}{g':Option (Nat×Bool)}{h:HF}{L:LH}(t:TO P b n ops l k F (upd (upd e d undef) d' undef) ds X h L)(hd:Nat.blt d n=true:=by rfl)(hg:guardB ops e ⟨some d,op,ty,pos,af,g⟩=false:=by rfl)(hd':Nat.blt d' n=true:=by rfl)(hg':guardB ops (upd e d undef) ⟨some d',op',ty',pos',af',g'⟩=false:=by rfl):TO P b n ops (⟨some d,op,ty,pos,af,g⟩::⟨some d',op',ty',pos',af',g'⟩::l) k F e ds X h L:=Ie (Ie t hd' hg') hd hg
def runA(l:List Oper):List Nat->Nat->List Nat->Env->Option (Nat×List Nat×Env)
 |[],m,dn,e=>some (m,dn,e)
 |i::is,m,dn,e=>match m with
  |0=>none
  |m+1=>match nth l i with
   |some ⟨some d,op,ty,pos,af,g⟩=>match guardB l.toArray e ⟨some d,op,ty,pos,af,g⟩with
    |false=>runA l is m (i::dn) (upd e d undef)
    |true=>match opQ e op with
     |some v=>runA l is m (i::dn) (upd e d v)
     |none=>none
   |_=>none
def allNext(l:List Oper):List Nat->List Nat->Bool
 |[],_=>true
 |i::is,dn=>(nexts l.toArray dn).contains i&&allNext l is (i::dn)
theorem DU{l:List Oper}{h1:HF}{K:LH}{h:HF}{L:LH}(hsep:sepAll l.toArray=true)(hJ:Jst h1 K h L):∀(is:List Nat)(m:Nat)(dn:List Nat)(e:Env){m':Nat}{dn':List Nat}{e':Env},runA l is m dn e=some (m',dn',e')->allNext l is dn=true->TA P b n l.toArray k F ds X (Jst h1 K) m' dn' e' h L->TA P b n l.toArray k F ds X (Jst h1 K) m dn e h L
 |[],m,dn,e,_,_,_,hr,_,t=>by cases hr;exact t
 |i::is,0,dn,e,_,_,_,hr,_,_=>by simp[runA]at hr
 |i::is,m+1,dn,e,_,_,_,hr,hn,t=>by
  simp only[allNext,zB]at hn
  simp only[runA]at hr
  split at hr
  .next hi=>
   split at hr
   .next hg=>exact mv i hsep hJ hi rfl hn.1 hg (DU hsep hJ is m _ _ hr hn.2 t)
   .next hg=>
    split at hr
    .next v hv=>exact gz i hsep hJ hi rfl hn.1 hg (λ_ _ _ w _=>(Id hv).2 _ _ _ _ _ w) (DU hsep hJ is m _ _ hr hn.2 t)
    .cases hr
  .cases hr
theorem qA(is:List Nat){l:List Oper}{h1:HF}{m:Nat}{h:HF}{L:LH}(hr:runA l is m dn e=some (m',dn',e'))(t:TA P b n l.toArray k F ds X (Jst h1 K) m' dn' e' h L)(hsep:sepAll l.toArray=true:=by assumption)(hJ:Jst h1 K h L:=by exact jn)(hn:allNext l is dn=true:=by kernel_rfl):TA P b n l.toArray k F ds X (Jst h1 K) m dn e h L:=DU hsep hJ is m dn e hr hn t
theorem qR(a c:Nat){l:List Oper}{h1:HF}{m:Nat}{h:HF}{L:LH}(hr:runA l (List.range' a c) m dn e=some (m',dn',e'))(t:TA P b n l.toArray k F ds X (Jst h1 K) m' dn' e' h L)(hsep:sepAll l.toArray=true:=by assumption)(hJ:Jst h1 K h L:=by exact jn)(hn:allNext l (List.range' a c) dn=true:=by kernel_rfl):TA P b n l.toArray k F ds X (Jst h1 K) m dn e h L:=DU hsep hJ _ m dn e hr hn t
def opB(tF:List (Nat×Nat×Nat))(e:Env):Op->Option Value
 |.fieldAddr s x i=>match e.ev x,look3 tF s i with
  |.pointer (some a),some off=>some (.pointer (some (a.add off)))
  |_,_=>none
 |op=>opQ e op
theorem QV{tF:List (Nat×Nat×Nat)}(hT:(tF.all λx=>fldOf P x.1 x.2.1==some x.2.2)=true)(hv:opB tF e op=some v)(h:HF)(L:LH)(d:Option Nat)(ty:TypeId)(pos:String)(af:Array Edge)(g:Option (Nat×Bool)):∀w,St X h L w->(execOp e.ev ⟨d,op,ty,pos,af,g⟩).run P w=.ok (.value v) w:=by
 unfold opB at hv
 split at hv
 .split at hv
  .next hx hl=>
   cases hv
   exact tL (by simpa using(R6.1 hT) _ (Ch hl)) hx
  .cases hv
 .exact λw _=>(Id hv).2 _ _ _ _ _ w
def runB(tF:List (Nat×Nat×Nat))(l:List Oper):List Nat->Nat->List Nat->Env->Option (Nat×List Nat×Env)
 |[],m,dn,e=>some (m,dn,e)
 |i::is,m,dn,e=>match m with
  |0=>none
  |m+1=>match nth l i with
   |some ⟨some d,op,ty,pos,af,g⟩=>match guardB l.toArray e ⟨some d,op,ty,pos,af,g⟩with
    |false=>runB tF l is m (i::dn) (upd e d undef)
    |true=>match opB tF e op with
     |some v=>runB tF l is m (i::dn) (upd e d v)
     |none=>none
   |_=>none
theorem DT{tF:List (Nat×Nat×Nat)}(hT:(tF.all λx=>fldOf P x.1 x.2.1==some x.2.2)=true){l:List Oper}{h1:HF}{K:LH}{h:HF}{L:LH}(hsep:sepAll l.toArray=true)(hJ:Jst h1 K h L):∀(is:List Nat)(m:Nat)(dn:List Nat)(e:Env){m':Nat}{dn':List Nat}{e':Env},runB tF l is m dn e=some (m',dn',e')->allNext l is dn=true->TA P b n l.toArray k F ds X (Jst h1 K) m' dn' e' h L->TA P b n l.toArray k F ds X (Jst h1 K) m dn e h L
 |[],m,dn,e,_,_,_,hr,_,t=>by cases hr;exact t
 |i::is,0,dn,e,_,_,_,hr,_,_=>by simp[runB]at hr
 |i::is,m+1,dn,e,_,_,_,hr,hn,t=>by
  simp only[allNext,zB]at hn
  simp only[runB]at hr
  split at hr
  .next hi=>
   split at hr
   .next hg=>exact mv i hsep hJ hi rfl hn.1 hg (DT hT hsep hJ is m _ _ hr hn.2 t)
   .next hg=>
    split at hr
    .next v hv=>exact gz i hsep hJ hi rfl hn.1 hg (λh' L' _ w hw=>QV hT hv h' L' _ _ _ _ _ w hw) (DT hT hsep hJ is m _ _ hr hn.2 t)
    .cases hr
  .cases hr
theorem tu{h1 h2:HF}(hle:h1.le h2){m:Nat}{h:HF}{L:LH}(t:TA P b n ops k F ds X (Jst h2 K) m dn e h L):TA P b n ops k F ds X (Jst h1 K) m dn e h L:=nH hle (λ_ hp=>hp) t
end
theorem jl{h h2:HF}{L:LH}(hle:h.le h2)(hs:K.Sublist L:=by repeat (first|exact List.Sublist.refl _|exact List.nil_sublist _|exact List.sublist_append_left _ _|refine List.Sublist.cons_cons _ ?_|refine List.Sublist.cons _ ?_)):Jst h K h2 L:=⟨hle,λ_ hp=>hs.subset hp⟩
theorem sw(h:p:=by first|exact λw hw=>hw|(intro w hw;first|simpa only[List.append_assoc,List.cons_append,List.nil_append,List.append_nil]using hw|(simp only[List.append_assoc,List.cons_append,List.nil_append,List.append_nil]at hw ⊢;exact hw))):p:=h
section
variable {P:Program} {b:Frame} {n:Nat} {k:List Item} {F:List Frame->(Machine->Prop)->Prop} {ds:List Deferred} {X:Cx} {ops:Array Oper} {l:List Oper} {d:Nat} {op:BinOp} {t u ty:TypeId} {x y:Operand} {pos:String} {af:Array Edge} {g:Option (Nat×Bool)} {e:Env} {h:HF} {L:LH}
theorem oi(i:Nat)(hv:binV op (e.ev x) (e.ev y)=some (.int .i64 (IntKind.i64.wrap ((i:Int)+1))))(t':TO P b n ops l k F (upd e d (.int .i64 (((i+1):Nat):Int))) ds X h L)(hb:i<9223372036854775807:=by exact ob)(hd:Nat.blt d n=true:=by rfl)(hg:guardB ops e ⟨some d,.binOp op t x y u,ty,pos,af,g⟩=true:=by rfl):
  TO P b n ops (⟨some d,.binOp op t x y u,ty,pos,af,g⟩::l) k F e ds X h L:=io hv (xZ hb) t' hd hg
theorem tO(ha:a=true)(hv:binV op (e.ev x) (e.ev y)=some (.bool a))(t':TO P b n ops l k F (upd e d (.bool true)) ds X h L)(hd:Nat.blt d n=true:=by rfl)(hg:guardB ops e ⟨some d,.binOp op t x y u,ty,pos,af,g⟩=true:=by rfl):
  TO P b n ops (⟨some d,.binOp op t x y u,ty,pos,af,g⟩::l) k F e ds X h L:=io hv (cb ha) t' hd hg
theorem fO(ha:a=false)(hv:binV op (e.ev x) (e.ev y)=some (.bool a))(t':TO P b n ops l k F (upd e d (.bool false)) ds X h L)(hd:Nat.blt d n=true:=by rfl)(hg:guardB ops e ⟨some d,.binOp op t x y u,ty,pos,af,g⟩=true:=by rfl):
  TO P b n ops (⟨some d,.binOp op t x y u,ty,pos,af,g⟩::l) k F e ds X h L:=io hv (cb ha) t' hd hg
end
section
variable {P:Program} {d:Option Nat} {ty t:TypeId} {pos:String} {af:Array Edge} {g:Option (Nat×Bool)} {x:Operand} {m bk off T:Nat} {fz:Nat×Nat} {cl cs:List Value} {v:Value} {e:Env} {X:Cx} {h1:HF} {K:LH} {q:Addr}
theorem rj(i:Nat)(hT:tySz P t=some (m,false))(hx:e.ev x=.pointer (some ⟨bk,off,none⟩))(hi:nth K i=some (bk,jJ cl.toArray T fz))(hv:nth cl off=some v):∀h' L',Jst h1 K h' L'->∀w,St X h' L' w->(execOp e.ev ⟨d,.load t x,ty,pos,af,g⟩).run P w=.ok (.value v) w:=λ_ _ hj=>zZ hT hx (hj.nth hi) hv
theorem rh(hT:tySz P t=some (m,false))(ha:At h1 q (v::cs))(hx:e.ev x=.pointer (some q)):∀h' L',Jst h1 K h' L'->∀w,St X h' L' w->(execOp e.ev ⟨d,.load t x,ty,pos,af,g⟩).run P w=.ok (.value v) w:=λ_ _ hj=>QQ hT (ha.mono hj.1) hx
theorem rH(j:Nat)(hT:tySz P t=some (m,false))(ha:At h1 q cs)(hx:e.ev x=.pointer (some (q.add j)))(hv:nth cs j=some v):∀h' L',Jst h1 K h' L'->∀w,St X h' L' w->(execOp e.ev ⟨d,.load t x,ty,pos,af,g⟩).run P w=.ok (.value v) w:=λ_ _ hj=>Qw j hT (ha.mono hj.1) hx hv
end
section
variable {P:Program} {b:Frame} {n:Nat} {ops:Array Oper} {F:List Frame->(Machine->Prop)->Prop} {ds:List Deferred} {X:Cx} {e:Env} {h:HF} {L:LH} {d:Option Nat} {ty:TypeId} {pos:String} {af:Array Edge} {g:Option (Nat×Bool)} {K:Env->HF->LH->Prop} {α : Type} {R:Rp α} {t E:TypeId} {x ix:Operand} {a:Bool} {base:Option Addr} {m cap:Nat} {xs:List α} {y:α} {i:Nat}
theorem iF(enc:α->List Value)(hT:P.underlying t=some (.slice E))(hS:tySz P E=some (R.sz,a))(hR:SlB R h base xs)(hj:xs[i]? = some y)(hx:e.ev x=.slice base m cap)(hm:m=xs.length)(hix:e.ev ix=.int .i64 (i:Int))(t':∀q,At h q (enc y)->K (pute e d (.pointer (some q))) h L)(hR':∀h cs x,R.rep h cs x->cs=enc x:=by exact λ_ _ _ e=>e)(hg:guardB ops e ⟨d,.indexAddr t x ix,ty,pos,af,g⟩=true:=by rfl):Stp P b n ops F ds X ⟨d,.indexAddr t x ix,ty,pos,af,g⟩ e h L K:=oP hR' hT hS hR (nthZ hj) (fh hj) hx hm hix t' hg
theorem iG(hT:P.underlying t=some (.slice E))(hS:tySz P E=some (R.sz,a))(hR:SlB R h base xs)(hj:xs[i]? = some y)(hx:e.ev x=.slice base m cap)(hm:m=xs.length)(hix:e.ev ix=.int .i64 (i:Int))(t':∀q cs,At h q cs->cs.length=R.sz->R.rep h cs y->K (pute e d (.pointer (some q))) h L)(hg:guardB ops e ⟨d,.indexAddr t x ix,ty,pos,af,g⟩=true:=by rfl):Stp P b n ops F ds X ⟨d,.indexAddr t x ix,ty,pos,af,g⟩ e h L K:=LY hT hS hR (nthZ hj) (fh hj) hx hm hix t' hg
theorem iR{C:α->ρ->List Value}{ok:HF->α->ρ->Prop}(hT:P.underlying t=some (.slice E))(hS:tySz P E=some (R.sz,a))(hR:SlB R h base xs)(hj:xs[i]? = some y)(hx:e.ev x=.slice base m cap)(hm:m=xs.length)(hix:e.ev ix=.int .i64 (i:Int))(hC:∀h cs y,R.rep h cs y->∃r,cs=C y r/\ok h y r)(t':∀q r,At h q (C y r)->ok h y r->K (pute e d (.pointer (some q))) h L)(hg:guardB ops e ⟨d,.indexAddr t x ix,ty,pos,af,g⟩=true:=by rfl):Stp P b n ops F ds X ⟨d,.indexAddr t x ix,ty,pos,af,g⟩ e h L K:=uk hT hS hR (nthZ hj) (fh hj) hx hm hix hC t' hg
end
theorem cE(y:α){h:HF}{cs:List Value}(hl:cs.length=R.sz)(hr:R.rep h cs y):bz R h cs [y]:=⟨cs,[],by simp,hl,hr,rfl⟩
end
section
open Go.Proofs
abbrev ec := @Tryz.underlying31
abbrev mH := @Tryz.underlying3
abbrev lB := @Tryz.underlying60
abbrev md := @Tryz.underlying28
abbrev nP := @Tryz.underlying27
abbrev uv := @Tryz.underlying25
abbrev wu := @Tryz.underlying59
abbrev wq := @Tryz.call100
abbrev zx := @Tryz.underlying26
abbrev zw := @Tryz.call363
abbrev uy := @Tryz.underlying32
abbrev ux := @Tryz.call51
abbrev uw := @Tryz.underlying57
abbrev vY := @Tryz.underlying58
abbrev vX := @Tryz.underlying24
abbrev AD := @Tryz.underlying9
abbrev vW := @Tryz.call47
abbrev wM := @Tryz.underlying23
abbrev yT := @Tryz.call324
abbrev Ec := @Tryz.func8
abbrev AC := @Tryz.call149
abbrev AB := @Tryz.underlying190
abbrev AA := @Tryz.func195
abbrev CH := @Tryz.call201
abbrev CG := @Tryz.call207
abbrev Eb := @Tryz.underlying22
abbrev Ea := @Tryz.call90
abbrev tz_27 := @Tryz.underlying4
abbrev D9 := @Tryz.func205
abbrev D8 := @Tryz.func50
abbrev D7 := @Tryz.func27
abbrev D6 := @Tryz.call227
abbrev GU := @Tryz.call175
abbrev GT := @Tryz.func329
abbrev GS := @Tryz.func280
abbrev GR := @Tryz.call103
abbrev GP := @Tryz.underlying270
abbrev GO := @Tryz.call11
abbrev GN := @Tryz.call48
abbrev IU := @Tryz.underlying182
abbrev IT := @Tryz.call132
abbrev IS := @Tryz.call281
abbrev IR := @Tryz.call199
abbrev IQ := @Tryz.func208
abbrev IP := @Tryz.underlying56
abbrev Iq_ := @Tryz.ntmps50
abbrev IN := @Tryz.call50
abbrev IM := @Tryz.underlying153
abbrev IL := @Tryz.func22
abbrev IK := @Tryz.underlying236
abbrev IJ := @Tryz.underlying129
abbrev II := @Tryz.call243
abbrev IH := @Tryz.call228
abbrev IG := @Tryz.call307
abbrev IF := @Tryz.call252
abbrev LQ := @Tryz.underlying64
abbrev NT := @Tryz.underlying30
abbrev LP := @Tryz.underlying267
abbrev LO := @Tryz.underlying279
abbrev LN := @Tryz.underlying284
abbrev LM := @Tryz.call282
abbrev LK := @Tryz.func278
abbrev LJ := @Tryz.func279
abbrev LI := @Tryz.func277
abbrev RN := @Tryz.func211
abbrev Rh := @Tryz.underlying245
abbrev LG := @Tryz.underlying162
abbrev LF := @Tryz.func31
abbrev LE := @Tryz.underlying193
abbrev LD := @Tryz.func255
abbrev LC := @Tryz.func16
abbrev LB := @Tryz.func249
abbrev RM := @Tryz.underlying5
abbrev Qr := @Tryz.underlying81
abbrev NS := @Tryz.underlying274
abbrev NR := @Tryz.call89
abbrev NQ := @Tryz.call202
abbrev NP := @Tryz.call200
abbrev NO := @Tryz.call284
abbrev NN := @Tryz.underlying20
abbrev NM := @Tryz.func323
abbrev NL := @Tryz.func185
abbrev NK := @Tryz.call125
abbrev NJ := @Tryz.underlying37
abbrev tz_84 := @Tryz.underlying0
abbrev Qq := @Tryz.underlying249
abbrev NI := @Tryz.func288
abbrev NH := @Tryz.func105
abbrev NF := @Tryz.func262
abbrev NE := @Tryz.underlying240
abbrev ND := @Tryz.func275
abbrev NC := @Tryz.call88
abbrev NB := @Tryz.call13
abbrev NA := @Tryz.func167
abbrev Nz := @Tryz.func333
abbrev Ny := @Tryz.func293
abbrev Nx := @Tryz.underlying68
abbrev Nw := @Tryz.func177
abbrev Nv := @Tryz.underlying67
abbrev Nu := @Tryz.func330
abbrev KS := @Tryz.func186
abbrev KR := @Tryz.call97
abbrev KQ := @Tryz.underlying126
abbrev KP := @Tryz.call157
abbrev KO := @Tryz.call160
abbrev KN := @Tryz.func120
end
variable {E T:TypeId}{H:Type}{fuel:Nat}{ps:List MemPlace}{w:World}
section
open Go.Proofs Go.Proofs.Tryz
set_option maxHeartbeats 2000000
def hOf(w:World):HF:=λb=>w.heap[b]?
theorem pre_hOf(w:World):Pre (hOf w) [] w:=⟨λ_ _ h=>h,λ_ hp=>(kA hp).elim,SK,λ_ hp=>(kA hp).elim⟩
theorem My{a:Addr}(h:w.cell? a=some v):a.spot=none/\∃c T fz,w.heap[a.block]? = some (.cells c T fz)/\c[a.off]? = some v:=by
 unfold TB at h
 split at h
 .next c T fz e=>
  split at h
  .cases h
  .next hs=>exact⟨by simpa using hs,c,T,fz,e,h⟩
 .cases h
theorem JJ{α β : Type}{f:α->Option β}:∀{l:List α}{r:List β},l.mapM f=some r->l.length=r.length/\∀(j:Nat)(x:α),l[j]? = some x->f x=r[j]?
 |[],r,h=>by simp at h;subst h;exact⟨rfl,λj x hj=>by simp at hj⟩
 |a::l,r,h=>by
  rw[List.mapM_cons]at h
  simp only[Option.bind_eq_bind,Option.bind_eq_some_iff,Option.pure_def,kQ]at h
  obtain⟨b,hb,r',hr,rfl⟩:=h
  obtain⟨h1,h2⟩:=JJ hr
  refine⟨by simp[h1],λj x hj=>?_⟩
  cases j with
  |zero=>simp at hj;subst hj;simpa using hb
  |succ j=>simpa using h2 j x (by simpa using hj)
theorem Pi{base n:Nat}{a:Addr}{cs:List Value}(hn:0<n)(h:w.cells? base a n=some cs):At (hOf w) a cs/\cs.length=n:=by
 unfold World.cells? at h
 split at h
 .obtain⟨h1,h2⟩:=JJ h
  rw[List.length_range]at h1
  have hc:∀j v,cs[j]? = some v->w.cell? (a.add j)=some v:=λj v hv=>by
   have hj:=(List.getElem?_eq_some_iff.1 hv).1
   rw[h2 j j (List.getElem?_range (by omega))];exact hv
  obtain⟨v,hv⟩:∃v,cs[0]? = some v:=⟨cs[0],qF (by omega)⟩
  obtain⟨s1,c,T,fz,s2,s3⟩:=My (hc 0 v hv)
  have hsp:a.spot=none:=by simpa[vS]using s1
  have hbl:∀j,(a.add j).block=a.block/\(a.add j).off=a.off+j:=λj=>by
   unfold vS
   split
   .next e=>subst e;exact⟨rfl,rfl⟩
   .exact⟨rfl,rfl⟩
  refine⟨⟨c,T,fz,?_,hsp,λj u hu=>?_⟩,h1.symm⟩
  .rw[(hbl 0).1]at s2;exact s2
  .obtain⟨_,c',T',fz',t2,t3⟩:=My (hc j u hu)
   rw[(hbl j).1]at t2
   rw[(hbl 0).1,t2]at s2
   cases s2
   rw[(hbl j).2]at t3;exact t3
 .cases h
def szL{α : Type}(f:α->Nat):List α->Nat
 |[]=>0
 |x::xs=>f x+szL f xs
theorem Ek{α : Type}(f:α->Nat):∀(l r:List α),szL f (l++r)=szL f l+szL f r
 |[],r=>by simp[szL]
 |x::l,r=>by simp[szL,Ek f l r,Nat.add_assoc]
theorem szL_len{α : Type}{f:α->Nat}(hf:∀x,1<=f x):∀(l:List α),l.length<=szL f l
 |[]=>jG _
 |x::l=>by have:=szL_len hf l;have:=hf x;simp[szL];omega
theorem HS{α : Type}{f:α->Nat}{x:α}:∀{l:List α},x∈l->f x<=szL f l
 |y::l,h=>by
  rcases qC.1 h with rfl|h
  .simp[szL]
  .have:=HS (f:=f) h;simp[szL];omega
theorem LU:∀(l:List Expr),szL Expr.dep l=TY l
 |[]=>rfl
 |y::l=>by simp[szL,TY,LU l]
open YtpplkjhgggjaoaaGreatDoor.Rows in
theorem bulk_one(d:DataW H):1<=uptoBulk d:=by
 cases d with
 |lit l=>cases l<;>simp[uptoBulk]
 |nil=>simp[uptoBulk]
 |ptr d=>simp[uptoBulk]
 |slice elems spare=>simp[uptoBulk]
 |agg parts=>simp[uptoBulk]
 |iface t d=>simp[uptoBulk]
 |map entries=>simp[uptoBulk]
 |held h=>simp[uptoBulk]
open YtpplkjhgggjaoaaGreatDoor.Rows in
theorem Kx(l r:List (DataW H)):uptoBulkAll (l++r)=uptoBulkAll l+uptoBulkAll r:=by
 induction l with
 |nil=>simp[uptoBulkAll]
 |cons x l ih=>simp only[zQ,uptoBulkAll,ih];omega
section opn
open YtpplkjhgggjaoaaGreatDoor.Rows
variable {H:Type} {enc:TypeId×Value->H} {P:Program} {w:World} {base:Nat} {sp:Nat->Bool} {held:Bool}
def Opn(enc:TypeId×Value->H)(P:Program)(w:World)(base:Nat)(sp:Nat->Bool)(held:Bool){α : Type}(T:TypeId)(R:Rp α)(sz:α->Nat)(fuel:Nat):Prop:=
 ∀cs d ps,DataW.trod enc P w base sp held fuel T cs=some (d,ps)->∃x,R.rep (hOf w) cs x/\sz x<=uptoBulk d
theorem opn_slice{sz:α->Nat}(ht:P.underlying T=some (.slice E))(hc:P.cellsOf E=R.sz)(hp:0<R.sz)(he:∀n,fuel=n+1->Opn enc P w base sp held E R sz n){cs:List Value}{d:DataW H}(h:DataW.trod enc P w base sp held fuel T cs=some (d,ps)):∃b c xs,cs=[.slice b (List.length xs) c]/\SlC R (hOf w) b c xs/\szL sz xs+1<=uptoBulk d:=by
 rcases DataW.trod_slice ht h with⟨rfl,e⟩|⟨a,len,cap,elems,rest,n,hn,rfl,hx,h1,h2,h3,h4,h5,_,_⟩
 .cases e
  exact⟨none,0,[],rfl,SlC.nil,by simp[szL,uptoBulk]⟩
 .cases hx
  have key:∀k,k<=len->∃xs:List α,xs.length=k/\(∀i x,xs[i]? = some x->∃cs',At (hOf w) (a.add (i*R.sz)) cs'/\cs'.length=R.sz/\R.rep (hOf w) cs' x)/\szL sz xs<=uptoBulkAll ((elems.take k).map (·.1)):=by
   intro k
   induction k with
   |zero=>exact λ_=>⟨[],rfl,λi x hx=>by simp at hx,by simp[szL]⟩
   |succ k ih=>
    intro hk
    obtain⟨xs,e1,e2,e3⟩:=ih (by omega)
    have hkl:k<elems.length:=by omega
    have c0:=h5 k (by omega)
    rw[qF hkl]at c0
    obtain⟨cs',c1,c2⟩:=Option.bind_eq_some_iff.1 c0
    rw[hc]at c1
    obtain⟨x,x1,x2⟩:=he n hn _ _ _ c2
    obtain⟨k1,k2⟩:=Pi hp c1
    refine⟨xs++[x],by simp[e1],λi y hy=>?_,?_⟩
    .rcases jL i xs.length with hi|hi
     .rw[List.getElem?_append_left hi]at hy;exact e2 i y hy
     .rw[List.getElem?_append_right hi]at hy
      have hi2:i=k:=by
       have:=(List.getElem?_eq_some_iff.1 hy).1
       simp at this;omega
      subst hi2
      rw[show i-xs.length=0 from by omega]at hy
      simp at hy;subst hy
      exact⟨cs',k1,k2,x1⟩
    .rw[Ek,List.take_add_one,Su,Kx,qF hkl]
     simp only[szL,Option.toList_some,kH,Uq,uptoBulkAll]
     have x3:sz x<=uptoBulk (elems[k]).1:=x2
     omega
  obtain⟨xs,e1,e2,e3⟩:=key len (jG _)
  refine⟨some a,cap,xs,by rw[e1],⟨⟨?_,λi x hx=>?_⟩,by omega⟩,?_⟩
  .have:maxLen<=9223372036854775807:=by decide
   omega
  .obtain⟨cs',k1,k2,k3⟩:=e2 i x hx
   exact⟨a,cs',rfl,k1,k2,k3⟩
  .rw[List.take_of_length_le (by omega)]at e3
   simp only[uptoBulk]
   omega
theorem opn_int(ht:P.underlying T=some (.int .i64))(n:Nat):Opn enc P w base sp held T Rp.int (λ_=>1) n:=by
 intro cs d ps h
 refine(?_:∃x,Rp.int.rep (hOf w) cs x).imp λ_ h=>⟨h,bulk_one d⟩
 cases n with
 |zero=>simp[DataW.trod]at h
 |succ n=>
  unfold DataW.trod at h
  rw[ht]at h
  split at h<;>simp_all
  next k k' z e=>
   obtain⟨⟨h1,_⟩,h2,_⟩:=h
   subst h1
   exact⟨z,by first|rfl|(subst e;rfl)|(cases e;rfl)⟩
theorem QU(ht:P.underlying T=some (.int .u8))(n:Nat):Opn enc P w base sp held T ⟨1,λ_ cs(x:Int)=>cs=[.int .u8 x]⟩ (λ_=>1) n:=by
 intro cs d ps h
 refine(?_:∃x:Int,cs=[.int .u8 x]).imp λ_ h=>⟨h,bulk_one d⟩
 cases n with
 |zero=>simp[DataW.trod]at h
 |succ n=>
  unfold DataW.trod at h
  rw[ht]at h
  split at h<;>simp_all
theorem uE(ht:P.underlying T=some .bool)(n:Nat):Opn enc P w base sp held T Rp.bool (λ_=>1) n:=by
 intro cs d ps h
 obtain⟨b,rfl,_⟩:=DataW.trod_bool ht h
 exact⟨b,rfl,bulk_one d⟩
theorem Be(ht:P.underlying T=some .string)(n:Nat):Opn enc P w base sp held T Rp.str (λ_=>1) n:=by
 intro cs d ps h
 refine(?_:∃x,Rp.str.rep (hOf w) cs x).imp λ_ h=>⟨h,bulk_one d⟩
 cases n with
 |zero=>simp[DataW.trod]at h
 |succ n=>
  unfold DataW.trod at h
  rw[ht]at h
  split at h<;>simp_all
  all_goals exact⟨_,rfl⟩
def TrF(enc:TypeId×Value->H)(P:Program)(w:World)(base:Nat)(sp:Nat->Bool)(held:Bool)(fuel:Nat):List TypeId->List Value->List (DataW H)->Prop
 |[],cs,ds=>cs=[]/\ds=[]
 |t::ts,cs,ds=>∃c cs' d ds' p,cs=c++cs'/\ds=d::ds'/\DataW.trod enc P w base sp held fuel t c=some (d,p)/\TrF enc P w base sp held fuel ts cs' ds'
def contig(P:Program):List Field->Nat->Option Nat
 |[],o=>some o
 |f::fs,o=>if f.offset=o then contig P fs (o+P.cellsOf f.type)else none
theorem NW{n:Nat}{cs:List Value}:∀(fs:List Field)(xs:List (DataW H×List MemPlace))(o:Nat),xs.length=fs.length->contig P fs o=some cs.length ->
  (∀(i:Nat)(f:Field),fs[i]? = some f->DataW.trod enc P w base sp held n f.type ((cs.drop f.offset).take (P.cellsOf f.type))=xs[i]?)->TrF enc P w base sp held n (fs.map (·.type)) (cs.drop o) (xs.map (·.1))
 |[],xs,o,hl,hc,_=>by
  simp only[contig,kQ]at hc
  subst hc
  rw[vB,List.length_eq_zero_iff]at hl
  subst hl
  exact⟨by simp,rfl⟩
 |f::fs,[],o,hl,hc,hx=>by simp at hl
 |f::fs,x::xs,o,hl,hc,hx=>by
  unfold contig at hc
  split at hc
  .next ho=>
   have h0:=hx 0 f rfl
   rw[ho]at h0
   simp only[List.getElem?_cons_zero]at h0
   refine⟨(cs.drop o).take (P.cellsOf f.type),cs.drop (o+P.cellsOf f.type),x.1,xs.map (·.1),x.2,?_,rfl,h0,NW fs xs _ (by simpa using hl) hc (λi g hg=>by simpa using hx (i+1) g (by simpa using hg))⟩
   rw[←List.drop_drop,List.take_append_drop]
  .cases hc
theorem lE{fs:Array Field}{cs:List Value}{d:DataW H}(ht:P.underlying T=some (.struct fs))(hk:contig P fs.toList 0=some (P.cellsOf T))(h:DataW.trod enc P w base sp held fuel T cs=some (d,ps)):
  ∃n ds,fuel=n+1/\d=.agg ds/\TrF enc P w base sp held n (fs.toList.map (·.type)) cs ds:=by
 obtain⟨xs,n,hn,hx,hl,hlen,hf⟩:=DataW.trod_struct ht h
 cases hx
 refine⟨n,_,hn,rfl,?_⟩
 have:=NW (enc:=enc) (w:=w) (base:=base) (sp:=sp) (held:=held) (n:=n) (cs:=cs) fs.toList xs 0 (by simpa using hlen) (by rw[hk,hl]) (λi f hi=>hf i f (by simpa using hi))
 simpa using this
theorem M1{m:Nat}(ht:P.underlying T=some (.array m E))(hE:P.underlying E=some (.int .u8))(hc:P.cellsOf E=1)(hcT:P.cellsOf T=m){n:Nat}{cs:List Value}{d:DataW H}(h:DataW.trod enc P w base sp held n T cs=some (d,ps)):∃f:Nat->Int,cs=(qH m).map λi=>zD .u8 (f i):=by
 obtain⟨xs,k,hk,hx,hl,hlen,hf⟩:=DataW.trod_array ht h
 rw[hcT]at hl
 have h1:∀i,∃z:Int,i<m->cs[i]? = some (.int .u8 z):=by
  intro i
  rcases jL i m with hi|hi
  .have h0:=hf i hi
   rw[hc,Nat.mul_one,qF (by omega)]at h0
   obtain⟨z,hz,_⟩:=QU (enc:=enc) (w:=w) (base:=base) (sp:=sp) (held:=held) hE k _ _ _ h0
   refine⟨z,λ_=>?_⟩
   have hz':(cs.drop i).take 1=[.int .u8 z]:=hz
   have:=congrArg (·[0]?) hz'
   simpa using this
  .exact⟨0,λh=>by omega⟩
 obtain⟨f,hf'⟩:=Classical.axiomOfChoice h1
 refine⟨f,Tm λi=>?_⟩
 rcases jL i m with hi|hi
 .rw[hf' i hi];simp[hi]
 .rw[vL (by omega)];simp[hi]
end opn
section openings
variable {H:Type} {enc:TypeId×Value->H} {w:World} {base:Nat} {sp:Nat->Bool} {held:Bool}
theorem Jx(n:Nat):Opn enc prog w base sp held 89 Appoint.rp (λ_=>1) n:=by
 intro cs d ps h
 obtain⟨m,ds,rfl,rfl,c0,_,d0,_,p0,rfl,rfl,h0,c1,_,d1,_,p1,rfl,rfl,h1,c2,_,d2,_,p2,rfl,rfl,h2,c3,_,d3,_,p3,rfl,rfl,h3,c4,_,d4,_,p4,rfl,rfl,h4,c5,_,d5,_,p5,rfl,rfl,h5,c6,_,d6,_,p6,rfl,rfl,h6,rfl,rfl⟩:=lE (fs:=_) underlying89 (by kernel_rfl) h
 obtain⟨x0,rfl,_⟩:=(opn_int (by kernel_rfl)) m _ _ _ h0
 obtain⟨x1,rfl,_⟩:=(opn_int (by kernel_rfl)) m _ _ _ h1
 obtain⟨x2,rfl,_⟩:=(opn_int (by kernel_rfl)) m _ _ _ h2
 obtain⟨x3,rfl,_⟩:=(opn_int (by kernel_rfl)) m _ _ _ h3
 obtain⟨x4,rfl,_⟩:=(opn_int (by kernel_rfl)) m _ _ _ h4
 obtain⟨x5,rfl,_⟩:=(opn_int (by kernel_rfl)) m _ _ _ h5
 obtain⟨x6,rfl,_⟩:=(uE (by kernel_rfl)) m _ _ _ h6
 exact⟨⟨x0,x1,x2,x3,x4,x5,x6⟩,rfl,bulk_one _⟩
theorem K9(n:Nat):Opn enc prog w base sp held 93 Deputy.rp (λ_=>1) n:=by
 intro cs d ps h
 obtain⟨m,ds,rfl,rfl,c0,_,d0,_,p0,rfl,rfl,h0,c1,_,d1,_,p1,rfl,rfl,h1,c2,_,d2,_,p2,rfl,rfl,h2,c3,_,d3,_,p3,rfl,rfl,h3,c4,_,d4,_,p4,rfl,rfl,h4,c5,_,d5,_,p5,rfl,rfl,h5,c6,_,d6,_,p6,rfl,rfl,h6,c7,_,d7,_,p7,rfl,rfl,h7,c8,_,d8,_,p8,rfl,rfl,h8,c9,_,d9,_,p9,rfl,rfl,h9,rfl,rfl⟩:=lE (fs:=_) underlying93 (by kernel_rfl) h
 obtain⟨x0,rfl,_⟩:=(opn_int (by kernel_rfl)) m _ _ _ h0
 obtain⟨x1,rfl,_⟩:=(opn_int (by kernel_rfl)) m _ _ _ h1
 obtain⟨x2,rfl,_⟩:=(opn_int (by kernel_rfl)) m _ _ _ h2
 obtain⟨x3,rfl,_⟩:=(opn_int (by kernel_rfl)) m _ _ _ h3
 obtain⟨x4,rfl,_⟩:=(opn_int (by kernel_rfl)) m _ _ _ h4
 obtain⟨x5,rfl,_⟩:=(opn_int (by kernel_rfl)) m _ _ _ h5
 obtain⟨x6,rfl,_⟩:=(opn_int (by kernel_rfl)) m _ _ _ h6
 obtain⟨x7,rfl,_⟩:=(opn_int (by kernel_rfl)) m _ _ _ h7
 obtain⟨x8,rfl,_⟩:=(opn_int (by kernel_rfl)) m _ _ _ h8
 obtain⟨x9,rfl,_⟩:=(uE (by kernel_rfl)) m _ _ _ h9
 exact⟨⟨x0,x1,x2,x3,x4,x5,x6,x7,x8,x9⟩,rfl,bulk_one _⟩
theorem Ia(n:Nat):Opn enc prog w base sp held 97 Interest.rp (λ_=>1) n:=by
 intro cs d ps h
 obtain⟨m,ds,rfl,rfl,c0,_,d0,_,p0,rfl,rfl,h0,c1,_,d1,_,p1,rfl,rfl,h1,c2,_,d2,_,p2,rfl,rfl,h2,c3,_,d3,_,p3,rfl,rfl,h3,c4,_,d4,_,p4,rfl,rfl,h4,c5,_,d5,_,p5,rfl,rfl,h5,c6,_,d6,_,p6,rfl,rfl,h6,rfl,rfl⟩:=lE (fs:=_) underlying97 (by kernel_rfl) h
 obtain⟨x0,rfl,_⟩:=(opn_int (by kernel_rfl)) m _ _ _ h0
 obtain⟨x1,rfl,_⟩:=(opn_int (by kernel_rfl)) m _ _ _ h1
 obtain⟨x2,rfl,_⟩:=(opn_int (by kernel_rfl)) m _ _ _ h2
 obtain⟨x3,rfl,_⟩:=(opn_int (by kernel_rfl)) m _ _ _ h3
 obtain⟨x4,rfl,_⟩:=(opn_int (by kernel_rfl)) m _ _ _ h4
 obtain⟨x5,rfl,_⟩:=(uE (by kernel_rfl)) m _ _ _ h5
 obtain⟨x6,rfl,_⟩:=(uE (by kernel_rfl)) m _ _ _ h6
 exact⟨⟨x0,x1,x2,x3,x4,x5,x6⟩,rfl,bulk_one _⟩
theorem La(n:Nat):Opn enc prog w base sp held 101 Budget.rp (λ_=>1) n:=by
 intro cs d ps h
 obtain⟨m,ds,rfl,rfl,c0,_,d0,_,p0,rfl,rfl,h0,c1,_,d1,_,p1,rfl,rfl,h1,c2,_,d2,_,p2,rfl,rfl,h2,c3,_,d3,_,p3,rfl,rfl,h3,c4,_,d4,_,p4,rfl,rfl,h4,c5,_,d5,_,p5,rfl,rfl,h5,c6,_,d6,_,p6,rfl,rfl,h6,c7,_,d7,_,p7,rfl,rfl,h7,rfl,rfl⟩:=lE (fs:=_) underlying101 (by kernel_rfl) h
 obtain⟨x0,rfl,_⟩:=(opn_int (by kernel_rfl)) m _ _ _ h0
 obtain⟨x1,rfl,_⟩:=(opn_int (by kernel_rfl)) m _ _ _ h1
 obtain⟨x2,rfl,_⟩:=(opn_int (by kernel_rfl)) m _ _ _ h2
 obtain⟨x3,rfl,_⟩:=(opn_int (by kernel_rfl)) m _ _ _ h3
 obtain⟨x4,rfl,_⟩:=(opn_int (by kernel_rfl)) m _ _ _ h4
 obtain⟨x5,rfl,_⟩:=(opn_int (by kernel_rfl)) m _ _ _ h5
 obtain⟨x6,rfl,_⟩:=(opn_int (by kernel_rfl)) m _ _ _ h6
 obtain⟨x7,rfl,_⟩:=(uE (by kernel_rfl)) m _ _ _ h7
 exact⟨⟨x0,x1,x2,x3,x4,x5,x6,x7⟩,rfl,bulk_one _⟩
abbrev Expr.hold(x:Expr):Nat:=x.dep
theorem Jw(n:Nat):Opn enc prog w base sp held 62 Expr.rp Expr.hold n:=by
 induction n using Nat.strongRecOn with
 |_ n ih=>
 intro cs d ps h
 obtain⟨m,ds,rfl,rfl,c0,_,d0,_,p0,rfl,rfl,h0,c1,_,d1,_,p1,rfl,rfl,h1,c2,_,d2,_,p2,rfl,rfl,h2,c3,_,d3,_,p3,rfl,rfl,h3,c4,_,d4,_,p4,rfl,rfl,h4,rfl,rfl⟩:=lE (fs:=_) underlying62 (by kernel_rfl) h
 obtain⟨x0,rfl,_⟩:=(opn_int (by kernel_rfl)) m _ _ _ h0
 obtain⟨x1,rfl,_⟩:=(opn_int (by kernel_rfl)) m _ _ _ h1
 obtain⟨x2,rfl,_⟩:=(opn_int (by kernel_rfl)) m _ _ _ h2
 obtain⟨x3,rfl,_⟩:=(Be (by kernel_rfl)) m _ _ _ h3
 obtain⟨b4,k4,x4,rfl,o4,q4⟩:=opn_slice lB (by kernel_rfl) (by decide) (λk hk=>ih k (by omega)) h4
 refine⟨Expr.mk x0 x1 x2 x3 x4,⟨⟨b4,k4⟩,rfl,Expr.ok.of o4⟩,?_⟩
 rw[LU]at q4
 simp only[Expr.hold,Expr.dep,YtpplkjhgggjaoaaGreatDoor.Rows.uptoBulk,YtpplkjhgggjaoaaGreatDoor.Rows.uptoBulkAll]at *
 omega
def Rule.hold(x:Rule):Nat:=Expr.hold x.Expr+1
theorem Ot(n:Nat):Opn enc prog w base sp held 79 Rule.rp Rule.hold n:=by
 intro cs d ps h
 obtain⟨m,ds,rfl,rfl,c0,_,d0,_,p0,rfl,rfl,h0,c1,_,d1,_,p1,rfl,rfl,h1,c2,_,d2,_,p2,rfl,rfl,h2,c3,_,d3,_,p3,rfl,rfl,h3,rfl,rfl⟩:=lE (fs:=_) underlying79 (by kernel_rfl) h
 obtain⟨x0,rfl,_⟩:=(Be (by kernel_rfl)) m _ _ _ h0
 obtain⟨x1,rfl,_⟩:=(opn_int (by kernel_rfl)) m _ _ _ h1
 obtain⟨x2,rfl,_⟩:=(opn_int (by kernel_rfl)) m _ _ _ h2
 obtain⟨x3,⟨r3,rfl,o3⟩,q3⟩:=Jw m _ _ _ h3
 refine⟨⟨x0,x1,x2,x3⟩,⟨⟨r3⟩,rfl,⟨o3⟩⟩,?_⟩
 simp only[Rule.hold,YtpplkjhgggjaoaaGreatDoor.Rows.uptoBulk,YtpplkjhgggjaoaaGreatDoor.Rows.uptoBulkAll]
 omega
def Policy.hold(x:Policy):Nat:=szL (λ_=>1) x.Kinds+szL (λ_=>1) x.Offices+szL Rule.hold x.Rules+Expr.hold x.Change+1
theorem K8(n:Nat):Opn enc prog w base sp held 64 Policy.rp Policy.hold n:=by
 intro cs d ps h
 obtain⟨m,ds,rfl,rfl,c0,_,d0,_,p0,rfl,rfl,h0,c1,_,d1,_,p1,rfl,rfl,h1,c2,_,d2,_,p2,rfl,rfl,h2,c3,_,d3,_,p3,rfl,rfl,h3,c4,_,d4,_,p4,rfl,rfl,h4,c5,_,d5,_,p5,rfl,rfl,h5,rfl,rfl⟩:=lE (fs:=_) LQ (by kernel_rfl) h
 obtain⟨x0,rfl,_⟩:=(Be (by kernel_rfl)) m _ _ _ h0
 obtain⟨b1,k1,x1,rfl,o1,q1⟩:=opn_slice vY (by kernel_rfl) (by decide) (λk _=>(Be (by kernel_rfl)) k) h1
 obtain⟨b2,k2,x2,rfl,o2,q2⟩:=opn_slice vY (by kernel_rfl) (by decide) (λk _=>(Be (by kernel_rfl)) k) h2
 obtain⟨b3,k3,x3,rfl,o3,q3⟩:=opn_slice wu (by kernel_rfl) (by decide) (λk _=>Ot k) h3
 obtain⟨x4,⟨r4,rfl,o4⟩,q4⟩:=Jw m _ _ _ h4
 obtain⟨x5,rfl,_⟩:=(opn_int (by kernel_rfl)) m _ _ _ h5
 refine⟨⟨x0,x1,x2,x3,x4,x5⟩,⟨⟨b1,k1,b2,k2,b3,k3,r4⟩,rfl,⟨o1,o2,o3,o4⟩⟩,?_⟩
 simp only[Policy.hold,YtpplkjhgggjaoaaGreatDoor.Rows.uptoBulk,YtpplkjhgggjaoaaGreatDoor.Rows.uptoBulkAll]
 omega
def Version.hold(x:Version):Nat:=Policy.hold x.Policy+1
theorem Jv(n:Nat):Opn enc prog w base sp held 105 Version.rp Version.hold n:=by
 intro cs d ps h
 obtain⟨m,ds,rfl,rfl,c0,_,d0,_,p0,rfl,rfl,h0,c1,_,d1,_,p1,rfl,rfl,h1,c2,_,d2,_,p2,rfl,rfl,h2,c3,_,d3,_,p3,rfl,rfl,h3,rfl,rfl⟩:=lE (fs:=_) underlying105 (by kernel_rfl) h
 obtain⟨x0,rfl,_⟩:=(opn_int (by kernel_rfl)) m _ _ _ h0
 obtain⟨x1,rfl,_⟩:=(opn_int (by kernel_rfl)) m _ _ _ h1
 obtain⟨x2,rfl,_⟩:=(opn_int (by kernel_rfl)) m _ _ _ h2
 obtain⟨x3,⟨r3,rfl,o3⟩,q3⟩:=K8 m _ _ _ h3
 refine⟨⟨x0,x1,x2,x3⟩,⟨⟨r3⟩,rfl,⟨o3⟩⟩,?_⟩
 simp only[Version.hold,YtpplkjhgggjaoaaGreatDoor.Rows.uptoBulk,YtpplkjhgggjaoaaGreatDoor.Rows.uptoBulkAll]
 omega
def Document.hold(x:Document):Nat:=szL (λ_=>1) x.Parties+szL (λ_=>1) x.Revokes+szL (λ_=>1) x.Needs+1
theorem Ib(n:Nat):Opn enc prog w base sp held 51 Document.rp Document.hold n:=by
 intro cs d ps h
 obtain⟨m,ds,rfl,rfl,c0,_,d0,_,p0,rfl,rfl,h0,c1,_,d1,_,p1,rfl,rfl,h1,c2,_,d2,_,p2,rfl,rfl,h2,c3,_,d3,_,p3,rfl,rfl,h3,c4,_,d4,_,p4,rfl,rfl,h4,c5,_,d5,_,p5,rfl,rfl,h5,c6,_,d6,_,p6,rfl,rfl,h6,c7,_,d7,_,p7,rfl,rfl,h7,c8,_,d8,_,p8,rfl,rfl,h8,c9,_,d9,_,p9,rfl,rfl,h9,rfl,rfl⟩:=lE (fs:=_) underlying51 (by kernel_rfl) h
 obtain⟨x0,rfl,_⟩:=(opn_int (by kernel_rfl)) m _ _ _ h0
 obtain⟨x1,rfl,_⟩:=(opn_int (by kernel_rfl)) m _ _ _ h1
 obtain⟨x2,rfl,_⟩:=(opn_int (by kernel_rfl)) m _ _ _ h2
 obtain⟨x3,rfl,_⟩:=(opn_int (by kernel_rfl)) m _ _ _ h3
 obtain⟨x4,rfl,_⟩:=(opn_int (by kernel_rfl)) m _ _ _ h4
 obtain⟨x5,rfl,_⟩:=(opn_int (by kernel_rfl)) m _ _ _ h5
 obtain⟨b6,k6,x6,rfl,o6,q6⟩:=opn_slice ec (by kernel_rfl) (by decide) (λk _=>(opn_int (by kernel_rfl)) k) h6
 obtain⟨b7,k7,x7,rfl,o7,q7⟩:=opn_slice ec (by kernel_rfl) (by decide) (λk _=>(opn_int (by kernel_rfl)) k) h7
 obtain⟨b8,k8,x8,rfl,o8,q8⟩:=opn_slice ec (by kernel_rfl) (by decide) (λk _=>(opn_int (by kernel_rfl)) k) h8
 obtain⟨x9,rfl⟩:=M1 underlying49 RM (by kernel_rfl) (by kernel_rfl) h9
 refine⟨⟨x0,x1,x2,x3,x4,x5,x6,x7,x8,x9⟩,⟨⟨b6,k6,b7,k7,b8,k8⟩,rfl,⟨o6,o7,o8⟩⟩,?_⟩
 simp only[Document.hold,YtpplkjhgggjaoaaGreatDoor.Rows.uptoBulk,YtpplkjhgggjaoaaGreatDoor.Rows.uptoBulkAll]
 omega
theorem opn_Approval(n:Nat):Opn enc prog w base sp held 81 Approval.rp (λ_=>1) n:=by
 intro cs d ps h
 obtain⟨m,ds,rfl,rfl,c0,_,d0,_,p0,rfl,rfl,h0,c1,_,d1,_,p1,rfl,rfl,h1,c2,_,d2,_,p2,rfl,rfl,h2,c3,_,d3,_,p3,rfl,rfl,h3,c4,_,d4,_,p4,rfl,rfl,h4,c5,_,d5,_,p5,rfl,rfl,h5,c6,_,d6,_,p6,rfl,rfl,h6,c7,_,d7,_,p7,rfl,rfl,h7,rfl,rfl⟩:=lE (fs:=_) Qr (by kernel_rfl) h
 obtain⟨x0,rfl,_⟩:=(opn_int (by kernel_rfl)) m _ _ _ h0
 obtain⟨x1,rfl,_⟩:=(opn_int (by kernel_rfl)) m _ _ _ h1
 obtain⟨x2,rfl,_⟩:=(opn_int (by kernel_rfl)) m _ _ _ h2
 obtain⟨x3,rfl,_⟩:=(opn_int (by kernel_rfl)) m _ _ _ h3
 obtain⟨x4,rfl,_⟩:=(opn_int (by kernel_rfl)) m _ _ _ h4
 obtain⟨x5,rfl,_⟩:=(opn_int (by kernel_rfl)) m _ _ _ h5
 obtain⟨x6,rfl,_⟩:=(opn_int (by kernel_rfl)) m _ _ _ h6
 obtain⟨x7,rfl,_⟩:=(uE (by kernel_rfl)) m _ _ _ h7
 exact⟨⟨x0,x1,x2,x3,x4,x5,x6,x7⟩,rfl,bulk_one _⟩
def Register.hold(x:Register):Nat:=szL (λ_=>1) x.Appoints+szL (λ_=>1) x.Deputies+szL (λ_=>1) x.Interests+szL (λ_=>1) x.Budgets+szL Version.hold x.Versions+szL Document.hold x.Docs+szL (λ_=>1) x.Approvals+1
theorem opn_Register(n:Nat):Opn enc prog w base sp held 30 Register.rp Register.hold n:=by
 intro cs d ps h
 obtain⟨m,ds,rfl,rfl,c0,_,d0,_,p0,rfl,rfl,h0,c1,_,d1,_,p1,rfl,rfl,h1,c2,_,d2,_,p2,rfl,rfl,h2,c3,_,d3,_,p3,rfl,rfl,h3,c4,_,d4,_,p4,rfl,rfl,h4,c5,_,d5,_,p5,rfl,rfl,h5,c6,_,d6,_,p6,rfl,rfl,h6,rfl,rfl⟩:=lE (fs:=_) NT (by kernel_rfl) h
 obtain⟨b0,k0,x0,rfl,o0,q0⟩:=opn_slice Eb (by kernel_rfl) (by decide) (λk _=>Jx k) h0
 obtain⟨b1,k1,x1,rfl,o1,q1⟩:=opn_slice wM (by kernel_rfl) (by decide) (λk _=>K9 k) h1
 obtain⟨b2,k2,x2,rfl,o2,q2⟩:=opn_slice vX (by kernel_rfl) (by decide) (λk _=>Ia k) h2
 obtain⟨b3,k3,x3,rfl,o3,q3⟩:=opn_slice uv (by kernel_rfl) (by decide) (λk _=>La k) h3
 obtain⟨b4,k4,x4,rfl,o4,q4⟩:=opn_slice zx (by kernel_rfl) (by decide) (λk _=>Jv k) h4
 obtain⟨b5,k5,x5,rfl,o5,q5⟩:=opn_slice nP (by kernel_rfl) (by decide) (λk _=>Ib k) h5
 obtain⟨b6,k6,x6,rfl,o6,q6⟩:=opn_slice md (by kernel_rfl) (by decide) (λk _=>opn_Approval k) h6
 refine⟨⟨x0,x1,x2,x3,x4,x5,x6⟩,⟨⟨b0,k0,b1,k1,b2,k2,b3,k3,b4,k4,b5,k5,b6,k6⟩,rfl,⟨o0,o1,o2,o3,o4,o5,o6⟩⟩,?_⟩
 simp only[Register.hold,YtpplkjhgggjaoaaGreatDoor.Rows.uptoBulk,YtpplkjhgggjaoaaGreatDoor.Rows.uptoBulkAll]
 omega
theorem opn_Use(n:Nat):Opn enc prog w base sp held 111 Use.rp (λ_=>1) n:=by
 intro cs d ps h
 obtain⟨m,ds,rfl,rfl,c0,_,d0,_,p0,rfl,rfl,h0,c1,_,d1,_,p1,rfl,rfl,h1,c2,_,d2,_,p2,rfl,rfl,h2,c3,_,d3,_,p3,rfl,rfl,h3,c4,_,d4,_,p4,rfl,rfl,h4,rfl,rfl⟩:=lE (fs:=_) underlying111 (by kernel_rfl) h
 obtain⟨x0,rfl,_⟩:=(opn_int (by kernel_rfl)) m _ _ _ h0
 obtain⟨x1,rfl,_⟩:=(opn_int (by kernel_rfl)) m _ _ _ h1
 obtain⟨x2,rfl,_⟩:=(opn_int (by kernel_rfl)) m _ _ _ h2
 obtain⟨x3,rfl,_⟩:=(opn_int (by kernel_rfl)) m _ _ _ h3
 obtain⟨x4,rfl,_⟩:=(opn_int (by kernel_rfl)) m _ _ _ h4
 exact⟨⟨x0,x1,x2,x3,x4⟩,rfl,bulk_one _⟩
end openings
theorem QL{p:Policy}(h:Policy.hold p<=1048576):smP p:=by
 unfold Policy.hold Expr.hold at h
 have h1:=szL_len (f:=λ_:ByteArray=>1) (λ_=>jG _) p.Kinds
 have h2:=szL_len (f:=λ_:ByteArray=>1) (λ_=>jG _) p.Offices
 have h3:=szL_len (f:=Rule.hold) (λx=>by unfold Rule.hold;omega) p.Rules
 refine⟨by omega,λr hr=>?_,by omega,by omega,by omega⟩
 have h4:=HS (f:=Rule.hold) hr
 unfold Rule.hold Expr.hold at h4
 have:szL (λx=>Rule.hold x) p.Rules=szL Rule.hold p.Rules:=rfl
 unfold Rule.hold Expr.hold at this h
 omega
theorem QK{l:List Version}(h:szL Version.hold l<=1048576):smV l:=by
 have h1:=szL_len (f:=Version.hold) (λx=>by unfold Version.hold;omega) l
 refine⟨by omega,λv hv=>QL ?_⟩
 have h2:=HS (f:=Version.hold) hv
 have h3:Policy.hold v.Policy<=Version.hold v:=by unfold Version.hold;omega
 omega
theorem smR_of{r:Register}(h:Register.hold r<=1048576):smR r:=by
 unfold Register.hold at h
 have h1:=szL_len (f:=λ_:Appoint=>1) (λ_=>jG _) r.Appoints
 have h2:=szL_len (f:=λ_:Deputy=>1) (λ_=>jG _) r.Deputies
 have h3:=szL_len (f:=λ_:Interest=>1) (λ_=>jG _) r.Interests
 have h4:=szL_len (f:=λ_:Budget=>1) (λ_=>jG _) r.Budgets
 have h5:=szL_len (f:=Document.hold) (λx=>by unfold Document.hold;omega) r.Docs
 have h6:=szL_len (f:=λ_:Approval=>1) (λ_=>jG _) r.Approvals
 exact⟨QK (by omega),by omega,by omega,by omega,by omega,by omega,by omega⟩
end
variable {h:HF}
section
def Rz(P:Program)(f:FuncId)(X:Cx)(v:Value)(cs:List Frame)(Φ : Machine->Prop):Prop:=
 X.M=[]/\∀fr w',UR X.w0.heap.size X.w0 w'->fr.fn=f->fr.leaving P w' (.returned v)->To P Φ (lone fr cs w')
theorem Kw{c:Code}{n:Nat}(hp:Pre h [] w)(hf:P.funcs[f]? = some fn)(hb:fn.body=some c)(hn:fn.ntmps=n)(hle:Nat.ble args.length n=true)(t:∀X:Cx,X.M=([]:LH).map (·.1)->X.h0=h->TT P (bodyFrame f) n [.code c] (Rz P f X v) (envArgs args) [] X h []):Calls P f args.toArray w λe w'=>e=.returned v/\UR w.heap.size w w':=by
 intro cs
 have hle:=Nat.le_of_ble_eq_true hle
 have henter:Sb P f args.toArray .normal=(bodyFrame f).atR { tmps:=args.toArray++SM (n-args.length) undef,defers:=[] } [.code c]:=by
  simp[Sb,Frame.atR,hf,hb,hn,bodyFrame]
 obtain⟨m',s,w',fr,rfl,h1,h2,h3⟩:=t ⟨w,h,[]⟩ rfl rfl w (St.start hp) { tmps:=args.toArray++SM (n-args.length) undef,defers:=[] } cs
  (λm=>∃w' fr,m=lone fr cs w'/\UR w.heap.size w w'/\fr.fn=f/\fr.leaving P w' (.returned v)) (by simp;omega) (ow _ _) rfl
  ⟨rfl,λfr w' hb hfn hl=>.now ⟨w',fr,rfl,hb,hfn,hl⟩⟩
 refine⟨.returned v,w',fr,⟨rfl,h1⟩,?_,h2,h3⟩
 rw[henter];exact s
section ending
variable {P:Program} {f:FuncId} {n:Nat} {k:List Item} {e:Env} {X:Cx} {h:HF} {L:LH} {fn:Func}
theorem sB{rs:List ResultVar}{hh:HF}(vs:List Value)(hf:P.funcs[f]? = some fn)(hr:fn.results=rs.toArray)(_:X.h0=hh)(hv:tZ P e L rs vs)(hvv:retVal vs=v):
  TT P (bodyFrame f) n (.code .ret::k) (Rz P f X v) e [] X h L:=by
 intro w hw a cs Φ hn he hds hF
 exact .step (stepR_ret rfl) (hF.2 _ w (hw.below hF.1) rfl ⟨rfl,hds,rfl,fn,hf,hvv▸mB hr hv a he w hw⟩)
end ending
end
variable {W:World}{i:Nat}{sp:Nat->Bool}
section
open Go.Proofs Go.Proofs.Tryz
theorem Nb{m:Nat}{ps rs:Array TypeId}{vd:Bool}{c:List Value}{b:UInt8}{r:List UInt8}{p:List MemPlace}(hE:P.underlying E=some (.func ps rs vd))(h:DataW.trod (funcToken P) P w 0 sp true m E c=some (.held (b::r),p)):∃f fn,c=[.func (.func f) #[] #[]]/\P.funcs[f]? = some fn/\P.funcNamed fn.name=some f/\fn.name.toUTF8.data.toList=b::r:=by
 cases m with
 |zero=>simp[DataW.trod]at h
 |succ m=>
  unfold DataW.trod at h
  rw[hE]at h
  split at h<;>try (simp_all;done)
  next fn fi ca _ _=>
   simp only[if_true,kQ,TL,DataW.held.injEq]at h
   obtain⟨f,g,e,h1,h2,h3⟩:=funcToken_tells h.1
   exact⟨f,g,by rw[e],h1,h2,h3⟩
theorem P7{k:FuncId}{g:Func}{l:List UInt8}(hg:P.funcNamed g.name=some k)(hl:g.name.toUTF8.data.toList=l)(h2:P.funcNamed fn.name=some f)(h3:fn.name.toUTF8.data.toList=l):f=k:=by
 have:fn.name=g.name:=bytes_inj (h3.trans hl.symm)
 rw[this,hg]at h2
 exact(R4 h2).symm
theorem N1{l:List α}{x:α}(h:(l.drop i).take 1=[x]):l[i]? = some x:=by
 have:=congrArg (·[0]?) h
 simpa using this
theorem kinds_of(hL:laidMetH prog YtpplkjhgggjaoaaGreatDoor.Rows.judgeReasonUptoRow.laid W):Kinds (hOf W):=by
 obtain⟨d, hd⟩ : ∃d, (YtpplkjhgggjaoaaGreatDoor.Rows.laid_signatory_policies_kinds : DataW Unit) = .iface "func table" d := ⟨_, rfl⟩
 obtain⟨g,t,cs,fuel,p,hg,ht,hv,hr⟩:=hL.funcs (d:=d) (by rw[←hd];exact jB ..)
 unfold World.var? at hv
 rw[hg]at hv
 obtain rfl:g=0:=R4 (hg.symm.trans (by kernel_rfl))
 obtain rfl:t=365:=R4 (ht.symm.trans (by kernel_rfl))
 obtain⟨xs,m,_,hx,hl,hlen,hf⟩:=DataW.trod_array (n:=5) (e:=168) (by kernel_rfl) hr
 rw[show prog.cellsOf 365=5 by kernel_rfl]at hl
 rw[show prog.cellsOf 168=1 by kernel_rfl]at hf
 unfold YtpplkjhgggjaoaaGreatDoor.Rows.laid_signatory_policies_kinds at hd
 cases hd
 simp only[DataW.funcsOut,DataW.funcsOutAll,TL]at hx
 match xs,hlen with
 |[x0,x1,x2,x3,x4],_=>
  simp only[kH,Uq,beq_self_eq_true,if_true,DataW.agg.injEq,List.cons.injEq,and_true]at hx
  have key:∀(i:Nat)(x:DataW (List UInt8)×List MemPlace)(b:UInt8)(r:List UInt8)(k:FuncId)(fk:Func),i<5->[x0,x1,x2,x3,x4][i]? = some x->DataW.held (b::r)=x.1->prog.funcNamed fk.name=some k->fk.name.toUTF8.data.toList=b::r->cs.toList[i]? = some (.func (.func k) #[] #[]):=by
   intro i x b r k fk hi hxi hb hk hn
   have h0:=hf i hi
   rw[hxi,Nat.mul_one]at h0
   obtain⟨f,fn,e,_,h2,h3⟩:=Nb (P:=prog) (E:=168) underlying168 (h0.trans (show some x=some (DataW.held (b::r),x.2) by rw[hb]))
   obtain rfl:=P7 hk hn h2 h3
   exact N1 e
  obtain⟨⟨e0,e1,e2,e3,e4⟩,_⟩:=hx
  have k0:=key 0 x0 _ _ 405 Tryz.f405 (by omega) rfl e0 (by kernel_rfl) (by kernel_rfl)
  have k1:=key 1 x1 _ _ 406 Tryz.f406 (by omega) rfl e1 (by kernel_rfl) (by kernel_rfl)
  have k2:=key 2 x2 _ _ 407 Tryz.f407 (by omega) rfl e2 (by kernel_rfl) (by kernel_rfl)
  have k3:=key 3 x3 _ _ 408 Tryz.f408 (by omega) rfl e3 (by kernel_rfl) (by kernel_rfl)
  have k4:=key 4 x4 _ _ 409 Tryz.f409 (by omega) rfl e4 (by kernel_rfl) (by kernel_rfl)
  have hcs:cs=kindsC.toArray:=by
   apply Array.toList_inj.1
   apply Tm
   intro i
   match i with
   |0=>exact k0
   |1=>exact k1
   |2=>exact k2
   |3=>exact k3
   |4=>exact k4
   |i+5=>rw[vL (by omega)];rfl
  simp only[Option.bind_some]at hv
  split at hv
  .next c T fz e=>
   cases hv
   exact⟨T,fz,by rw[←hcs];exact e⟩
  .cases hv
end
section
open Go.ChangeShapes Go.WideShapes Go.RowKit
variable {H:Type} {enc:TypeId×Value->H} {P:Program}
theorem post_below{f:Func}{s:ChangeSpec}{apart fresh handsOn again:Bool}{W':World}{args:Array Value}{ds gs:List (DataW H)}{before pa pv:List MemPlace}(hW:DataW.Whole enc P f.params.toList s.vars apart W args.toList ds gs before)(hres:∀(b:Nat)(sp:Nat->Bool)(hd:Bool),DataW.TrodAll enc P W' b sp hd f.resultTypes.toList (v.resultList f.resultTypes.size) (s.fn H (ds++gs)).results [])(hargs:∀sp:Nat->Bool,(∀p∈before,sp p.block=true)->DataW.TrodAll enc P W' 0 sp true f.params.toList args.toList (s.fn H (ds++gs)).args pa)(hvars:∀sp:Nat->Bool,(∀p∈before,sp p.block=true)->DataW.TrodVars enc P W' sp s.vars (s.fn H (ds++gs)).vars pv)(hps:before=pa++pv)(hb:Below W.heap.size W W')(hok:∀(j:Nat)(t:TypeId)(r:Value),f.resultTypes[j]? = some t->(v.resultList f.resultTypes.size)[j]? = some r->Value.okWide P W' .any 0 t r):
  s.post enc P f apart fresh handsOn again W args v W':=by
 have hlt:=hW.lt
 have hold:∀p∈before,(λb=>decide (b<W.heap.size)) p.block=true:=λp hp=>by simpa using hlt p hp
 refine⟨ds,gs,before,[],pa,pv,hW,hres _ _ _,hargs _ hold,hvars _ hold,World.keptBut_mono (λp hp=>⟨hp,?_⟩) (hb.frame (·∈before)),λ_=>?_⟩
 .rw[hps,kF]at hp
  exact Or.inr hp
 .obtain⟨_,_,_,_,_,hz,hn⟩:=hW
  refine⟨hok,_,_,([]++pa)++pv,⟨[]++pa,pv,trodAll_append (hargs _ (λ_ _=>rfl)) (hres _ _ _),hvars _ (λ_ _=>rfl),rfl,?_,?_⟩,?_⟩
  .intro b off hp
   have hp':MemPlace.cell b off∈before:=by rw[hps];simpa using hp
   rw[hb.frozen (p:=⟨b,off,none⟩) (hlt _ hp')]
   exact hz b off hp'
  .intro ha
   have:=hn ha
   rw[hps]at this
   simpa using this
  .intro p hp _
   rw[hps]
   simpa using hp
theorem stays{t:TypeId}(hl:laidOutB P=true)(hr:P.readableRec t=true)(hrow:decide (t<P.types.size)=true){W':World}{d:DataW H}{before:List MemPlace}(h:DataW.Trod enc P W 0 (λ_=>true) true t v d ps)(hb:Below W.heap.size W W')(hlt:∀x∈before,x.block<W.heap.size)(hm:∀x∈ps,x∈before)(hsp:∀p∈before,sp p.block=true):DataW.Trod enc P W' 0 sp true t v d ps:=
 WideElems.Trod_stays hl hr (of_decide_eq_true hrow) h (λx hx=>hb.same (hlt x (hm x hx))) (λx hx=>hsp _ (hm x hx))
end
section
def agB(ops:Array Oper)(o:Oper)(t:Nat):Bool:=ops.toList.all λo'=>(o'.dst != some t)||(qH ops.size).all λi=>match ops[i]? with
 |some oi=>(oi.dst != o.dst)||o'.after.toList.any λed=>Region.binds .any ed&&ed.on==i
 |none=>true
theorem AgE.at_{o:Oper}(h:AgE ops o e e')(t:Nat)(hb:agB ops o t=true:=by rfl):e' t=e t:=by
 refine h t λo' ho' hd i hi=>?_
 have h1:=R6.1 hb o' (by simpa using ho')
 simp only[hd,bne_self_eq_false,Bool.false_or]at h1
 have h2:=R6.1 h1 i (List.mem_range.2 (Array.getElem?_eq_some_iff.1 hi).1)
 simp only[hi,bne_self_eq_false,Bool.false_or,List.any_eq_true,zB,beq_iff_eq]at h2
 obtain⟨ed,h3,h4,h5⟩:=h2
 exact⟨ed,by simpa using h3,h4,h5⟩
end
variable {vx:Nat}
section
theorem bz.rep{α : Type}{R:Rp α}{h:HF}{z:Value}{x:α}(h1:R.sz=1)(hr:R.rep h [z] x):∀m,bz R h (List.replicate m z) (List.replicate m x)
 |0=>rfl
 |m+1=>⟨[z],List.replicate m z,by simp[List.replicate_succ],h1.symm▸rfl,hr,bz.rep h1 hr m⟩
section
variable {P:Program} {b:Frame} {n:Nat} {ops:Array Oper} {F:List Frame->(Machine->Prop)->Prop} {e:Env} {ds:List Deferred} {X:Cx} {h:HF} {L:LH} {K:Env->HF->LH->Prop}
variable {d:Option Nat} {ty:TypeId} {pos:String} {af:Array Edge} {g:Option (Nat×Bool)}
theorem Ob{x0:α}(LL:LH->LH){t:TypeId}{ln cp:Operand}{m:Nat}{z:Value}(h1:R.sz=1)(hr:R.rep h [z] x0)(hLL:∀G,L++G=LL G)(hT:P.underlying t=some (.slice E))(hz:zeroC P E=some [z])(hS:tySz P E=some (1,a))(hby:bytesOf P E=some vx)(hl:e.ev ln=.int .i64 (m:Nat))(hc:e.ev cp=.int .i64 (m:Nat))(hb:vx*m<=281474976710656)(h63:m<=9223372036854775807)(t':∀bk G,du R E h (List.replicate m x0) (some ⟨bk,0,none⟩) m G->K (pute e d (.slice (some ⟨bk,0,none⟩) (List.replicate m x0).length m)) h (LL G))(hg:guardB ops e ⟨d,.makeSlice t ln cp,ty,pos,af,g⟩=true:=by rfl):Stp P b n ops F ds X ⟨d,.makeSlice t ln cp,ty,pos,af,g⟩ e h L K:=
 gT hg λw hw=>by
  obtain⟨i,hi,hby'⟩:∃i,P.info? E=some i/\i.bytes=vx:=by
   unfold bytesOf at hby
   cases hi:P.info? E with
   |none=>simp[hi]at hby
   |some i=>exact⟨i,rfl,by simpa[hi]using hby⟩
  have hsz:i.size=1:=by
   have:=fw hS w
   simpa[sizeOf,typeInfo,hi]using this
  obtain⟨zv,hzz,hzc⟩:∃zv,i.zero=some zv/\zv.cells=#[z]:=by
   unfold zeroC at hz
   cases hzz:i.zero with
   |none=>simp[hi,hzz]at hz
   |some zv=>exact⟨zv,rfl,by simp[hi,hzz]at hz;rw[lC,hz]⟩
  have hr':=run_make (P:=P) w t E i zv hT hi hzz .i64 .i64 (m:Int) (m:Int) (by omega) (Int.le_refl _) (by rw[hby'];omega) (by omega)
  have hcells:madeCells zv.cells ((m:Int).toNat*i.size)=(List.replicate m z).toArray:=by
   rw[hzc,hsz]
   apply Array.ext
   .simp[madeCells]
   .intro j h1 h2;simp[madeCells,Nat.mod_one]
  rw[hcells]at hr'
  simp only[Int.toNat_natCast]at hr'
  have hG:du R E h (List.replicate m x0) (some ⟨w.heap.size,0,none⟩) m [(w.heap.size,.cells (List.replicate m z).toArray E (0,0))]:=du.lit (bz.rep h1 hr m) (by simp) (by simp;omega)
  have ht:=t' w.heap.size _ hG
  rw[←hLL,show(List.replicate m x0).length=m from List.length_replicate]at ht
  refine⟨_,_,h,_,?_,(hw.alloc (.cells (List.replicate m z).toArray E (0,0))).perm (kJ (l₁:=[_])),ht⟩
  have e1:w.alloc (.cells (List.replicate m z).toArray E)={ w with heap:=w.heap.push (.cells (List.replicate m z).toArray E (0,0)) }:=rfl
  rw[e1]at hr'
  simp[execOp,hl,hc,hr']
end
theorem Mt{N:Nat}(h:i<N)(hb:N<=9223372036854775807):zD .i64 (IntKind.i64.wrap ((((N-i:Nat):Int)-1)-1))=.int .i64 (((N-(i+1):Nat):Int)-1):=by
 rw[jh (by omega)]
 congr 1;omega
section
variable {P:Program} {b:Frame} {n:Nat} {k:List Item} {F:List Frame->(Machine->Prop)->Prop} {e:Env} {ds:List Deferred} {X:Cx} {h:HF} {L:LH}
theorem lp4{c:Code}(xs:List α)(sl:Nat->γ->List (Nat×Value))(hh:γ->HF)(LL:γ->LH)(J JX:Nat->γ->Prop)(hJX:∀i g,i=xs.length->J i g->JX i g)(Lf:List α->Nat->γ->ρ)(g0:γ)(hb:xs.length<=9223372036854775807)(hs:x0=Lf xs 0 g0)(hJ:J 0 g0)(after:∀i g,i<=xs.length->x0=Lf [] i g->JX i g->∀e',TT P b n k F (upds e' (sl i g)) ds X (hh g) (LL g))(cons:∀i g y r,xs.drop i=y::r->decide ((i:Int)<(xs.length:Int))=true->xs[i]? = some y->i<xs.length->xs.length<=9223372036854775807->x0=Lf (y::r) i g->J i g ->
   (∀i' g' {e'},x0=Lf [] i' g'->JX i' g'->(hi:i'<=xs.length:=by omega)->(hr:i5 e' (sl i' g'):=by exact rds)->TT P b n k F e' ds X (hh g') (LL g')) ->
   (∀g' {e'},x0=Lf r (i+1) g'->J (i+1) g'->(hr:i5 e' (sl (i+1) g'):=by exact rds)->TT P b n (.inLoop c::.inBlock id::k) F e' ds X (hh g') (LL g')) ->
   ∀e',TT P b n (.code c::.inLoop c::.inBlock id::k) F (upds e' (sl i g)) ds X (hh g) (LL g))(nil:∀i g,xs.drop i=[]->decide ((i:Int)<(xs.length:Int))=false->(∀e',i5 e' (sl i g)->TT P b n k F e' ds X (hh g) (LL g)) ->
   ∀e',TT P b n (.code c::.inLoop c::.inBlock id::k) F (upds e' (sl i g)) ds X (hh g) (LL g):=by exact ndA)(h0:i5 e (sl 0 g0):=by exact rds)(hw:∀w,St X h L w->St X (hh g0) (LL g0) w:=by exact sws):
  TT P b n (.code (.block id (.loop c))::k) F e ds X h L:=by
 refine ir (ι:=Nat×γ) (λi=>sl i.1 i.2) (λi=>hh i.2) (λi=>LL i.2) (λi=>i.1<=xs.length/\x0=Lf [] i.1 i.2/\JX i.1 i.2) ?_ (λhx=>?_)
 .rintro⟨i,g⟩ ⟨h1,h2,h3⟩ e'
  exact after i g h1 h2 h3 e'
 .refine jZ (ι:=Nat×γ×List α) (λi=>sl i.1 i.2.1) (λi=>hh i.2.1) (λi=>LL i.2.1) (λi=>xs.drop i.1=i.2.2/\i.1<=xs.length/\x0=Lf i.2.2 i.1 i.2.1/\J i.1 i.2.1) (λi=>i.2.2.length) (0,g0,xs) h0 hw ⟨rfl,qM _,hs,hJ⟩ ?_
  rintro⟨i,g,s⟩ ⟨hd,hi,hs,hJ⟩ ag e'
  dsimp only at hd hi hs hJ
  rcases s with _|⟨y,r⟩
  .exact nil i g hd (mR hd) (λe'' hr=>hx (i,g) e'' ⟨hi,hs,hJX _ _ (Nat.le_antisymm hi (by rcases jL i xs.length with q|q;(rw[List.drop_eq_getElem_cons q]at hd;cases hd);exact q)) hJ⟩ hr) e'
  .exact cons i g y r hd (s8 hd) (rE hd) (hY hd) hb hs hJ (λi' g' e'' a b c d=>hx (i',g') e'' ⟨c,a,b⟩ d)
    (λg' e'' a b hr=>ag (i+1,g',r) e'' (Nat.lt_succ_self _) ⟨kw hd,hY hd,a,b⟩ hr) e'
end
end
variable {base:Option Addr}{kn:IntKind}{sz:Nat}{xs:List α}{zs:List Go.Value}
section
theorem MU{t t':TypeId}{n1 n2 c1 c2 off off2 bk bk2:Nat}{cl:List Value}(hT:P.underlying t=some (.slice E))(hS:tySz P E=some (sz,a))(hb:w.heap[bk]? = some (.cells cl.toArray E (0,0)))(hv:vs.length=Nat.min n2 n1*sz)(hr:∀j v,vs[j]? = some v->w.cell? ⟨bk2,off2+j,none⟩=some v)(hle:off+vs.length<=cl.length)(h1:∀v∈vs,one v=true):
  (Builtin.copy_ #[t,t'] ty #[.slice (some ⟨bk,off,none⟩) n1 c1,.slice (some ⟨bk2,off2,none⟩) n2 c2]).run P w=.ok (.int .i64 ((Nat.min n2 n1:Nat):Int)) { w with heap:=w.heap.setIfInBounds bk (.cells (splice cl off vs).toArray E (0,0)) }:=by
 have hf:=run_firstCells_some (P:=P) w sz (Nat.min n2 n1) ⟨bk2,off2,none⟩ n2 c2 vs hv (λj v hj=>by
  have:(⟨bk2,off2,none⟩:Addr).add j=⟨bk2,off2+j,none⟩:=by
   by_cases e:j=0
   .subst e;simp[vS]
   .simp[vS,e]
  rw[this];exact hr j v hj)
 have hst:=lv (P:=P) off vs 0 cl w hb (by simpa using hle) h1
 rw[Nat.add_zero]at hst
 have hz:=fw hS w
 simp[Builtin.copy_,run_underlying hT,Builtin.lenOf,hz,hf,hst,goInt]
section
variable {P:Program} {b:Frame} {n:Nat} {ops:Array Oper} {F:List Frame->(Machine->Prop)->Prop} {e:Env} {ds:List Deferred} {X:Cx} {h:HF} {L:LH} {K:Env->HF->LH->Prop}
variable {d:Option Nat} {ty:TypeId} {pos:String} {af:Array Edge} {g:Option (Nat×Bool)}
theorem HW(i j:Nat){t t' E2:TypeId}{y:Operand}{n1 n2 c1 c2 off off2 bk bk2:Nat}{cl cl2:List Value}(hT:P.underlying t=some (.slice E))(hS:tySz P E=some (sz,a))(hL:nth L i=some (bk,.cells cl.toArray E (0,0)))(hx:e.ev x=.slice (some ⟨bk,off,none⟩) n1 c1)(hL2:nth L j=some (bk2,.cells cl2.toArray E2 (0,0)))(hy:e.ev y=.slice (some ⟨bk2,off2,none⟩) n2 c2)(hv:vs.length=Nat.min n2 n1*sz)(hr:∀q v,vs[q]? = some v->cl2[off2+q]? = some v)(hle:off+vs.length<=cl.length)(h1:∀v∈vs,one v=true)(t2:K (pute e d (.int .i64 ((Nat.min n2 n1:Nat):Int))) h (setNth L i (bk,.cells (splice cl off vs).toArray E (0,0))))(hg:guardB ops e ⟨d,.call ⟨.builtin .copy,#[x,y],#[t,t']⟩,ty,pos,af,g⟩=true:=by rfl):Stp P b n ops F ds X ⟨d,.call ⟨.builtin .copy,#[x,y],#[t,t']⟩,ty,pos,af,g⟩ e h L K:=
 gT hg λw hw=>by
  have hb:w.heap[bk]? = some (.cells cl.toArray E (0,0)):=by
   have h2:=hL
   rw[gC]at h2
   exact hw.own _ (zE h2)
  have hru:=MU (P:=P) (t':=t') (ty:=ty) (c1:=c1) (c2:=c2) (off2:=off2) hT hS hb hv (λq v hq=>hw.cell hL2 (by rw[gC];exact hr q v hq)) hle h1
  refine⟨_,_,h,_,?_,hw.write hL _,t2⟩
  simp only[execOp,resolve,invoke,builtin]
  simp[hx,hy,hru]
theorem QM(i j:Nat){tS tR:TypeId}{n1 n2 c1 c2 off1 off2 b1 b2 T1 T2:Nat}{cl1 cl2:List Value}(hc:∀args w,(callFunc f args).run P w=((Extern.SlicesOverlaps.overlaps #[tS,tS] #[tR] args).run P w).andThen λv w'=>.ok (.value v) w')(hT:P.underlying tS=some (.slice E))(hS:tySz P E=some (sz,a))(hvs:ass.toList.map e.ev=[.slice (some ⟨b1,off1,none⟩) n1 c1,.slice (some ⟨b2,off2,none⟩) n2 c2])(hL1:nth L i=some (b1,.cells cl1.toArray T1 (0,0)))(hL2:nth L j=some (b2,.cells cl2.toArray T2 (0,0)))(hij:i≠j)(hl2:cl2.length≠0)(t2:K (pute e d (.bool false)) h L)(hg:guardB ops e ⟨d,.call ⟨.value (.func f),ass,ats⟩,ty,pos,af,g⟩=true:=by rfl):Stp P b n ops F ds X ⟨d,.call ⟨.value (.func f),ass,ats⟩,ty,pos,af,g⟩ e h L K:=
 gT hg λw hw=>by
  have hb1:w.heap[b1]? = some (.cells cl1.toArray T1 (0,0)):=by
   have h2:=hL1
   rw[gC]at h2
   exact hw.own _ (zE h2)
  have hb2:w.heap[b2]? = some (.cells cl2.toArray T2 (0,0)):=by
   have h2:=hL2
   rw[gC]at h2
   exact hw.own _ (zE h2)
  have hne:b1≠b2:=λhbb=>hij (by
   have h1:=hL1
   have h2:=hL2
   rw[gC]at h1 h2
   have hd:=List.pairwise_iff_getElem.1 hw.dis
   obtain⟨hi,ei⟩:=List.getElem?_eq_some_iff.1 h1
   obtain⟨hj,ej⟩:=List.getElem?_eq_some_iff.1 h2
   rcases Nat.lt_trichotomy i j with hlt|heq|hlt
   .exact(hd i j (by simpa using hi) (by simpa using hj) hlt (by simp[ei,ej,hbb])).elim
   .exact heq
   .exact(hd j i (by simpa using hj) (by simpa using hi) hlt (by simp[ei,ej,hbb])).elim)
  have hru:=Lib.run_overlaps_apart (P:=P) w tS tR E hT sz (λw=>fw hS w) ⟨b1,off1,none⟩ ⟨b2,off2,none⟩ n1 c1 n2 c2 hne T1 T2 cl1.length cl2.length
   (by simp[World.shape?,hb1]) (by simp[World.shape?,hb2]) hl2 (by simp[World.frozen?,hb1]) (by simp[World.frozen?,hb1])
  refine⟨.bool false,w,h,_,?_,hw,t2⟩
  have harr:ass.map e.ev=#[.slice (some ⟨b1,off1,none⟩) n1 c1,.slice (some ⟨b2,off2,none⟩) n2 c2]:=Sd (by simp[hvs])
  simp only[execOp,resolve,Env.ev,xJ,invoke,harr,xP,Sem.run_pure,Result.andThen_ok]
  rw[hc,show ∀z:Array Value,(#[]++z++#[]:Array Value)=z from λz=>by simp,hru];rfl
theorem MY{t:TypeId}{hi:Operand}{bk n m:Nat}(hT:P.underlying t=some (.slice E))(hS:tySz P E=some (sz,a))(hx:e.ev x=.slice (some ⟨bk,0,none⟩) n cap)(hhi:e.ev hi=.int .i64 (m:Nat))(hm:m<=cap):
  ∀w,St X h L w->(execOp e.ev ⟨d,.slice t x none (some hi) none,ty,pos,af,g⟩).run P w=.ok (.value (.slice (some ⟨bk,0,none⟩) m cap)) w:=λw hw=>by
 simp[execOp,Instr.sliceAt,Instr.slice,Instr.sliceBounds,Instr.sliceBound,hx,hhi,asIntOf,run_underlying hT,fw hS,hm,vS]
theorem K6{t:TypeId}{lo:Operand}{n:Nat}(hT:P.underlying t=some (.slice E))(hS:tySz P E=some (sz,a))(hx:e.ev x=.slice base n cap)(hlo:e.ev lo=.int .i64 (i:Nat))(hi:i<=n):
  ∃v,∀w,St X h L w->(execOp e.ev ⟨d,.slice t x (some lo) none none,ty,pos,af,g⟩).run P w=.ok (.value v) w:=by
 by_cases h2:cap=i
 .exact⟨_,λw hw=>by simp[execOp,Instr.sliceAt,Instr.slice,Instr.sliceBounds,Instr.sliceBound,hx,hlo,asIntOf,run_underlying hT,fw hS,h2,hi];rfl⟩
 .exact⟨_,λw hw=>by simp[execOp,Instr.sliceAt,Instr.slice,Instr.sliceBounds,Instr.sliceBound,hx,hlo,asIntOf,run_underlying hT,fw hS,h2,hi];rfl⟩
theorem KV{t:TypeId}{lo:Operand}{n1:Nat}(hT:P.underlying t=some (.slice E))(hS:tySz P E=some (sz,a))(hx:e.ev x=.slice base n1 cap)(hlo:e.ev lo=.int .i64 (i:Nat))(hi:i<=n1)(t':∀v,K (pute e d v) h L)(hg:guardB ops e ⟨d,.slice t x (some lo) none none,ty,pos,af,g⟩=true:=by rfl):Stp P b n ops F ds X ⟨d,.slice t x (some lo) none none,ty,pos,af,g⟩ e h L K:=by
 obtain⟨v,hv⟩:=K6 (P:=P) (X:=X) (h:=h) (L:=L) (d:=d) (ty:=ty) (pos:=pos) (af:=af) (g:=g) hT hS hx hlo hi
 exact eT (v:=v) hv (t' v) hg
theorem wO{todo:List Item}(sl:List (Nat×Value))(hr:i5 e sl)(t:∀e',TT P b n todo F (upds e' sl) ds X h L):TT P b n todo F e ds X h L:=by rw[←hr.upds];exact t e
theorem Rj{t:TypeId}{m c:Nat}(hT:P.underlying t=some (.slice E))(hx:e.ev x=.slice base m c):
  ∀w,St X h L w->(execOp e.ev ⟨d,.call ⟨.builtin .cap,#[x],#[t]⟩,ty,pos,af,g⟩).run P w=.ok (.value (.int .i64 (c:Nat))) w:=
 λw _=>by simp[execOp,resolve,invoke,builtin,Builtin.cap_,hx,run_underlying hT,goInt]
theorem PP{t u:TypeId}{y:Operand}{n m c:Nat}(hT:P.underlying t=some (.slice E))(hx:e.ev x=.slice base n cap)(hy:e.ev y=.slice none m c):
  ∀w,St X h L w->(execOp e.ev ⟨d,.binOp .eql t x y u,ty,pos,af,g⟩).run P w=.ok (.value (.bool base.isNone)) w:=λw hw=>by
 have he:(Op.equal t (.slice base n cap) (.slice none m c)).run P w=.ok base.isNone w:=by
  rw[Op.equal,Op.maxDepth,show(10000:Nat)=9999+1 from rfl,Op.equalIn]
  cases base<;>simp[run_underlying hT]
 simp[execOp,hx,hy,eqGuard,binOp,he]
theorem On{s t:TypeId}{S:TypeDesc}{kk k2:IntKind}{m m':Int}(hS:P.underlying s=some S)(hT:P.underlying t=some (.int k2))(hx:e.ev x=.int kk m)(hm:IntKind.wrap k2 m=m'):
  ∀w,St X h L w->(execOp e.ev ⟨d,.convert s t x,ty,pos,af,g⟩).run P w=.ok (.value (.int k2 m')) w:=λw hw=>by
 simp[execOp,convert,run_underlying hS,run_underlying hT,hx,Conv.intToInt,hm]
theorem QR{t u:TypeId}{y:Operand}{m:Nat}(hx:e.ev x=.int .u64 (m:Nat))(hy:e.ev y=.int .u64 1):
  ∀w,St X h L w->(execOp e.ev ⟨d,.binOp .shr t x y u,ty,pos,af,g⟩).run P w=.ok (.value (.int .u64 ((m/2:Nat):Int))) w:=λw hw=>by
 have:min 1 64=1:=rfl
 simp[execOp,hx,hy,eqGuard,binOp,Op.shift,IntKind.bits,this,Int.fdiv_eq_ediv_of_nonneg]
end
theorem Jf{X:Cx}(A Q:LH){t tn:TypeId}{G:LH}{k:Nat}(hw:St X h (A++(G++Q)) w)(hT:P.underlying t=some (.slice E))(hN:P.underlying tn=some (.int kn))(hS:tySz P E=some (R.sz,a))(hz:zeroC P E=some zs)(hzl:zs.length=R.sz)(hpos:0<R.sz)(hby:bytesOf P E=some vx)(hG:du R E h xs base cap G)(hk:0<k)(hno:cap<xs.length+k)(hb:(xs.length+k)*vx<=140737488355328)(hb2:xs.length+k<=9223372036854775807):
  ∃bk cl sp cap' w',(Builtin.append_ #[t,tn] ty #[.slice base xs.length cap,.int kn k]).run P w=.ok (.slice (some ⟨bk,0,none⟩) (xs.length+k) cap') w'/\bz R h cl xs/\(cl++sp).length=cap'*R.sz/\xs.length+k<=cap' /\
   St X h ((bk,.cells (cl++sp).toArray E (0,0))::(A++(G++Q))) w':=by
 obtain⟨i,hi,hby'⟩:∃i,P.info? E=some i/\i.bytes=vx:=by
  unfold bytesOf at hby
  cases hi:P.info? E with
  |none=>simp[hi]at hby
  |some i=>exact⟨i,rfl,by simpa[hi]using hby⟩
 have hsz:i.size=R.sz:=by
  have:=fw hS w
  simpa[sizeOf,typeInfo,hi]using this
 obtain⟨z,hzz,hzc⟩:∃z,i.zero=some z/\z.cells=zs.toArray:=by
  unfold zeroC at hz
  cases hzz:i.zero with
  |none=>simp[hi,hzz]at hz
  |some z=>exact⟨z,rfl,by simp[hi,hzz]at hz;rw[lC,hz]⟩
 have hwd:St X h (A++(G++Q)) w.drew:=hw.drew _
 obtain⟨cl0,hc0,hf0⟩:∃cl0,bz R h cl0 xs/\(Builtin.firstCells R.sz xs.length (.slice base xs.length cap)).run P w.drew=.ok cl0.toArray w.drew:=by
  rcases hG with⟨rfl,rfl,rfl,rfl⟩|⟨bk,cl0,sp,rfl,hc0,hlen,hle,_,rfl⟩
  .exact⟨[],rfl,by simp[Builtin.firstCells]⟩
  .refine⟨cl0,hc0,run_firstCells_some _ _ _ _ _ _ _ hc0.len λj v hj=>?_⟩
   have hown:w.drew.heap[bk]? = some (.cells (cl0++sp).toArray E (0,0)):=hwd.own (bk,_) (by simp)
   have hlt:=(List.getElem?_eq_some_iff.1 hj).1
   rw[pz]
   simp only[TB,hown]
   simp[List.getElem?_append_left hlt,hj]
 have hfit:Builtin.nextslicecap (xs.length+k) cap*i.bytes<=281474976710656:=growslice_fits hno (by rw[hby'];exact hb)
 have h48':¬(281474976710656<Builtin.nextslicecap (xs.length+k) cap*i.bytes):=by omega
 have h63':¬(9223372036854775807<((xs.length:Int)+(k:Int))):=by omega
 have hroom:¬(xs.length+k<=cap):=by omega
 have hge:=grownCap_ge w (xs.length+k) cap E
 have hn:k≠0:=by omega
 have hwr:IntKind.i64.wrap (k:Int)=k:=by rw[IntKind.wrap_i64];omega
 have h48i:¬(281474976710656<(k:Int)*(i.bytes:Int)):=by
  rw[←Int.natCast_mul,hby']
  have:k*vx<=(xs.length+k)*vx:=Nat.mul_le_mul_right _ (by omega)
  omega
 have hneg:¬((k:Int)<0):=by omega
 have hns:¬(k*i.size=0):=Nat.mul_ne_zero hn (by omega)
 let nc:=grownCap w (xs.length+k) cap E
 let rest:=(Builtin.zeroCells z.cells k++Builtin.zeroCells z.cells (nc-(xs.length+k))).toList
 refine⟨w.heap.size,cl0,rest,nc,w.drew.alloc (.cells (cl0++rest).toArray E),?_,hc0,?_,hge,hwd.alloc (.cells (cl0++rest).toArray E (0,0))⟩
 .rw[←hsz]at hf0
  simp[Builtin.append_,run_underlying hT,run_underlying hN,asInt,asIntOf,hwr,hneg,h48i,hns,sizeOf,typeInfo,zeroValue,hi,hzz,hroom,h63',h48',Question.forced,hf0,newRow,grownCap,nc,rest]
  congr 2
  apply Sd
  simp
 .have h1:rest.length=k*R.sz+(nc-(xs.length+k))*R.sz:=by
   simp[rest,Builtin.zeroCells,hzc,hzl]
  simp only[jA,h1,hc0.len,←Nat.add_mul]
  congr 1
  omega
section
variable {P:Program} {b:Frame} {n:Nat} {ops:Array Oper} {F:List Frame->(Machine->Prop)->Prop} {e:Env} {ds:List Deferred} {X:Cx} {h:HF} {L:LH} {K:Env->HF->LH->Prop}
variable {d:Option Nat} {ty:TypeId} {pos:String} {af:Array Edge} {g:Option (Nat×Bool)}
theorem MT(A G Q:LH){t tn:TypeId}{s y:Operand}{m:Nat}{k:Nat}(hL:L=A++(G++Q))(hT:P.underlying t=some (.slice E))(hN:P.underlying tn=some (.int kn))(hS:tySz P E=some (R.sz,a))(hz:zeroC P E=some zs)(hzl:zs.length=R.sz)(hpos:0<R.sz)(hby:bytesOf P E=some vx)(hG:du R E h xs base cap G)(hx:e.ev s=.slice base m cap)(hm:m=xs.length)(hy:e.ev y=.int kn (k:Nat))(hk:0<k)(hno:cap<xs.length+k)(hb:(xs.length+k)*vx<=140737488355328)(hb2:xs.length+k<=9223372036854775807)(t':∀bk cl sp cap',bz R h cl xs->(cl++sp).length=cap'*R.sz->xs.length+k<=cap'->K (pute e d (.slice (some ⟨bk,0,none⟩) (xs.length+k) cap')) h ((bk,.cells (cl++sp).toArray E (0,0))::L))(hgd:guardB ops e ⟨d,.call ⟨.builtin .append,#[s,y],#[t,tn]⟩,ty,pos,af,g⟩=true:=by rfl):Stp P b n ops F ds X ⟨d,.call ⟨.builtin .append,#[s,y],#[t,tn]⟩,ty,pos,af,g⟩ e h L K:=
 gT hgd λw hw=>by
  subst hL hm
  obtain⟨bk,cl,sp,cap',w',hr,h1,h2,h3,hst⟩:=Jf (P:=P) (ty:=ty) A Q hw hT hN hS hz hzl hpos hby hG hk hno hb hb2
  refine⟨_,w',h,_,?_,hst,t' _ _ _ _ h1 h2 h3⟩
  simp[execOp,resolve,invoke,builtin,hx,hy,hr]
end
end
end Go.Sg
