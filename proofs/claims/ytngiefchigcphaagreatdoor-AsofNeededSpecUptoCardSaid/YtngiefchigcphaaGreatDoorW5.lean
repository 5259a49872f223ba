import Derived.Test.YtngiefchigcphaaGreatDoorProg
import Derived.ChangeArms
import Derived.OpenShut
import Derived.Test.YtngiefchigcphaaGreatDoorRows
import Derived.LaidHandle
import Derived.WordedOn
import Derived.ChangeSame
import Derived.Carry
import Derived.Test.YtngiefchigcphaaGreatDoorW4
/- A part of the proof of AsofNeededSpec. -/
set_option linter.unusedVariables false
set_option linter.unusedSimpArgs false
set_option maxRecDepth 100000
namespace Go.Sg
theorem JD (s:ByteArray):fA s=dc s:=by
 rw [Bool.eq_iff_iff]
 refine ⟨F8,fun h=>?_⟩
 unfold dc at h
 unfold fA
 rw [wf,CV] at h
 rw [Bool.cond_eq_ite] at h ⊢
 split at h
 ·cases h
 ·next hc=>
  simp only [Bool.or_eq_true,not_or,decide_eq_true_eq,Bool.not_eq_true] at hc
  obtain ⟨⟨h1,h2⟩,h3⟩:=hc
  have hs:¬ ((s.size:Int) < 1):=fun hlt=>by
   have h9:=qt s
   have:s.toList=[]:=List.length_eq_zero_iff.1 (by omega)
   rw [this] at h1
   have e2:(⟨#[]⟩:ByteArray).toList=[]:=by
    have:=qt (⟨#[]⟩:ByteArray)
    exact List.length_eq_zero_iff.1 this
   rw [e2] at h1;simp at h1
  rw [if_neg]
  ·exact h
  ·simp only [Bool.or_eq_true,not_or,decide_eq_true_eq]
   exact ⟨⟨hs,h2⟩,by simpa using h3⟩
theorem Gt (s:ByteArray):kE s=da s:=by
 rw [Cg];unfold kE;rw [JD]
theorem xQ (l:List ByteArray):dI l=bo l da:=by
 have key:∀ (L l:List ByteArray) (i:Nat),dI.L1 L dI.K1 l i=bo.L1 L da bo.K1 l i:=by
  intro L l
  induction l with
  | nil=>intros;rfl
  | cons y l ih=>intro i;simp only [dI.L1,bo.L1,Gt,rindex,ih]
 exact key l l 0
theorem zH (off:List ByteArray) (x:Expr):(∀ z∈a8 x 1,((!(cC z.x))||cr off z.x.Name)=true)→bC off x=true:=by
 refine Expr.ind (P:=fun x=>(∀ z∈a8 x 1,((!(cC z.x))||cr off z.x.Name)=true)→bC off x=true) ?_ x
 intro x ih h
 have h:=(ni (fun y=>((!(cC y))||cr off y.Name)=true) x 1).1 h
 rw [D7]
 unfold bC.F
 have hx:=h.1
 unfold cC cr at hx
 rw [Bool.cond_eq_ite,if_neg]
 ·have:∀ l:List Expr,(∀ y∈l,bC off y=true)→bC.L1 bC off bC.K1 l=true:=by
   intro l
   induction l with
   | nil=>intro _;rfl
   | cons y l ih2=>
    intro hl
    simp only [bC.L1,hl y (List.mem_cons_self ..),Bool.not_true,cond_false]
    exact ih2 fun z hz=>hl z (List.mem_cons_of_mem _ hz)
  exact this x.L fun y hy=>ih y hy (h.2 y hy)
 ·rw [rindex]
  simp only [Bool.and_eq_true,decide_eq_true_eq,not_and]
  intro hk hi
  rw [hk] at hx
  simp only [Bool.not_true,Bool.false_or,decide_eq_true_eq] at hx
  omega
theorem As {x:Expr} {u:Bool} (h:(aH x.Kind 1 4&&kindsP x.Kind x)=true) (h4:u=false→x.Kind≠4):aB.K1 x u=true:=by
 simp only [Bool.and_eq_true] at h
 have hb:1≤x.Kind∧x.Kind≤4:=by have:=h.1;simpa [aH] using this
 have hc:x.Kind=1∨x.Kind=2∨x.Kind=3∨x.Kind=4:=by omega
 have h2:=h.2
 unfold aB.K1
 rcases hc with e | e | e | e
 ·rw [e] at h2 ⊢
  have h2:io x=true:=h2
  unfold io at h2
  rw [show ((1:Int)==1)=true from rfl,cond_true];exact h2
 ·rw [e] at h2 ⊢
  have h2:im x=true:=h2
  unfold im aH at h2
  rw [show ((2:Int)==1)=false from rfl,show ((2:Int)==2)=true from rfl,cond_false,cond_true];exact h2
 ·rw [e] at h2 ⊢
  have h2:il x=true:=h2
  unfold il aH at h2
  rw [show ((3:Int)==1)=false from rfl,show ((3:Int)==2)=false from rfl,show ((3:Int)==3)=true from rfl,cond_false,cond_false,cond_true]
  simp only [Bool.and_eq_true] at h2 ⊢
  exact ⟨⟨⟨⟨h2.1.1,h2.1.2.1⟩,h2.1.2.2⟩,h2.2.1⟩,h2.2.2⟩
 ·have hu:u=true:=by
   cases u with
   | true=>rfl
   | false=>exact absurd e (h4 rfl)
  subst hu
  rw [e] at h2 ⊢
  have h2:gP x=true:=h2
  unfold gP aH at h2
  rw [show ((4:Int)==1)=false from rfl,show ((4:Int)==2)=false from rfl,show ((4:Int)==3)=false from rfl,show ((4:Int)==4)=true from rfl,cond_false,cond_false,cond_false,cond_true]
  simp only [Bool.and_eq_true] at h2 ⊢
  exact ⟨⟨⟨⟨trivial,h2.1.1⟩,h2.1.2⟩,h2.2.1⟩,h2.2.2⟩
theorem xK (u:Bool) (x:Expr):(∀ z∈a8 x 1,(aH z.x.Kind 1 4&&kindsP z.x.Kind z.x)=true∧(u=false→z.x.Kind≠4))→aB x u=true:=by
 refine Expr.ind (P:=fun x=>(∀ z∈a8 x 1,(aH z.x.Kind 1 4&&kindsP z.x.Kind z.x)=true∧(u=false→z.x.Kind≠4))→aB x u=true) ?_ x
 intro x ih h
 have h:=(ni (fun y=>(aH y.Kind 1 4&&kindsP y.Kind y)=true∧(u=false→y.Kind≠4)) x 1).1 h
 rw [Ci]
 unfold aB.F
 have:∀ (k:Bool) (l:List Expr),(∀ y∈l,aB y u=true)→aB.L1 aB u k l=k:=by
  intro k l
  induction l with
  | nil=>intro _;rfl
  | cons y l ih2=>
   intro hl
   simp only [aB.L1,hl y (List.mem_cons_self ..),Bool.not_true,cond_false]
   exact ih2 fun z hz=>hl z (List.mem_cons_of_mem _ hz)
 rw [this _ x.L fun y hy=>ih y hy (h.2 y hy)]
 exact As h.1.1 h.1.2
theorem Hh (l:List Expr):∀ a:Int,aY.L1 aY (fun g=>g) l a=a∨∃ y∈l,aY.L1 aY (fun g=>g) l a=aY y:=by
 induction l with
 | nil=>intro a;exact .inl rfl
 | cons y l ih=>
  intro a
  simp only [aY.L1]
  rcases ih (max a (aY y)) with h | ⟨z,hz,h⟩
  ·rw [h]
   rcases Int.le_total a (aY y) with q | q
   ·exact .inr ⟨y,List.mem_cons_self ..,by omega⟩
   ·exact .inl (by omega)
  ·exact .inr ⟨z,List.mem_cons_of_mem _ hz,h⟩
theorem AA (x:Expr):x.dep≤1500000→∀ d:Int,∃ z∈a8 x d,z.depth=d+aY x - 1:=by
 refine Expr.ind (P:=fun x=>x.dep≤1500000→∀ d:Int,∃ z∈a8 x d,z.depth=d+aY x - 1) ?_ x
 intro x ih hx d
 have hd:=(EO x hx).2
 rw [ls]
 rcases Hh x.L 0 with h | ⟨y,hy,h⟩
 ·exact ⟨⟨x,d⟩,List.mem_cons_self ..,by rw [hd,h];show d=d+(0+1) - 1;omega⟩
 ·have hlt:=Expr.gj hy
  obtain ⟨z,hz,e⟩:=ih y hy (by omega) (d+1)
  exact ⟨z,List.mem_cons_of_mem _ (List.mem_flatMap.2 ⟨y,hy,hz⟩),by rw [e,hd,h];omega⟩
theorem Fk {x:Expr} (hx:x.dep≤1500000) (h1:(a8 x 1).length≤256) (h2:∀ z∈a8 x 1,z.depth≤16):ig x=false:=by
 unfold ig
 rw [Co x 256 (by decide) (by decide)]
 obtain ⟨z,hz,e⟩:=AA x hx 1
 have:=h2 z hz
 have hc:cnt x≤256:=h1
 simp only [Bool.or_eq_false_iff,decide_eq_false_iff_not]
 exact ⟨by omega,by omega⟩
theorem GO (off:List ByteArray) (x:Expr):(∀ z∈a8 x 1,z.x.No=rno off z.x)→aX (aa off x) x=true:=by
 refine Expr.ind (P:=fun x=>(∀ z∈a8 x 1,z.x.No=rno off z.x)→aX (aa off x) x=true) ?_ x
 intro x ih h
 have h:=(ni (fun y=>y.No=rno off y) x 1).1 h
 rw [F3,xr]
 unfold aX.F
 have e:(((((x.Kind != x.Kind)||(x.N != x.N))||(rno off x != x.No))||(!(x.Name.toList==x.Name.toList)))||(((x.L.map (aa off)).length:Int) != (x.L.length:Int)))=false:=by simp [h.1]
 show (bif (((((x.Kind != x.Kind)||(x.N != x.N))||(rno off x != x.No))||(!(x.Name.toList==x.Name.toList)))||(((x.L.map (aa off)).length:Int) != (x.L.length:Int))) then false else aX.L1 aX x aX.K1 (x.L.map (aa off)) 0)=true
 rw [e,cond_false]
 have:∀ (l pre:List Expr),x.L=pre++l→aX.L1 aX x aX.K1 (l.map (aa off)) pre.length=true:=by
  intro l
  induction l with
  | nil=>intro _ _;rfl
  | cons y l ih2=>
   intro pre hp
   have hy:nthI x.L (pre.length:Int)=y:=iE (by rw [hp];simp)
   have hm:y∈x.L:=by rw [hp];simp
   have:=ih2 (pre++[y]) (by rw [hp];simp)
   rw [List.length_append,List.length_cons,List.length_nil,Nat.zero_add] at this
   simp only [List.map_cons,aX.L1,hy,ih y hm (h.2 y hm),Bool.not_true,cond_false]
   exact this
 exact this x.L [] rfl
theorem yV (l:List ByteArray):dC l l=true:=by
 have:∀ (s pre:List ByteArray),l=pre++s→dC.L1 l dC.K1 s pre.length=true:=by
  intro s
  induction s with
  | nil=>intro _ _;rfl
  | cons y s ih=>
   intro pre hp
   have hy:nthI l (pre.length:Int)=y:=iE (by rw [hp];simp)
   have:=ih (pre++[y]) (by rw [hp];simp)
   rw [List.length_append,List.length_cons,List.length_nil,Nat.zero_add] at this
   simp only [dC.L1,hy,beq_self_eq_true,Bool.not_true,cond_false]
   exact this
 unfold dC
 rw [bne_self_eq_false,cond_false]
 exact this l [] rfl
theorem zc (off:List ByteArray):∀ (l:List Rule) (i:Nat),(rrules off l i).length=l.length
 | [],_=>rfl
 | y::l,i=>by simp only [rrules,List.length_cons,zc off l]
theorem AD {p:Policy} (hs:smP p) (h:cj p=0):dX p=0:=by
 obtain ⟨h1,h2,h3⟩:=(wg p).1 h
 obtain ⟨s1,s2,s3⟩:=(pk p).1 h1
 obtain ⟨⟨a1,a2,a3⟩,a4⟩:=(vp p).1 s1
 obtain ⟨⟨n1,n2,n3⟩,n4⟩:=(zG p).1 s2
 unfold aZ aZ.K1 aZ.K2 at s3
 rw [nj,vU,yG] at s3
 obtain ⟨f1,f2,f3⟩:=s3
 simp only [Bool.and_eq_true,decide_eq_true_eq,beq_iff_eq,aH] at f1
 have hlen:(ai p).length=p.Rules.length+1:=by rw [kv];simp
 have hrule:∀ r∈p.Rules,r.Expr∈ai p:=fun r hr=>uW hr
 have hch:p.Change∈ai p:=by rw [kv];simp
 have hdep:∀ x∈ai p,x.dep≤1500000:=fun x hx=>by
  rw [kv] at hx
  simp only [List.mem_append,List.mem_map,List.mem_singleton] at hx
  rcases hx with ⟨r,hr,rfl⟩ | rfl
  ·exact hs.2.1 r hr
  ·exact hs.2.2.1
 have hlarge:∀ x∈ai p,ig x=false:=fun x hx=>Fk (hdep x hx) (a4 x hx).1 (a4 x hx).2
 have hT:el p=false:=by
  unfold el
  rw [Bool.cond_eq_ite,if_neg]
  ·have:∀ l:List Rule,(∀ r∈l,ig r.Expr=false)→el.L1 el.K1 l=false:=by
    intro l
    induction l with
    | nil=>intro _;rfl
    | cons y l ih=>
     intro hl
     simp only [el.L1,hl y (List.mem_cons_self ..),cond_false]
     exact ih fun z hz=>hl z (List.mem_cons_of_mem _ hz)
   exact this p.Rules fun r hr=>hlarge _ (hrule r hr)
  ·simp only [Bool.or_eq_true,decide_eq_true_eq,not_or,hlarge _ hch,Bool.false_eq_true,not_false_eq_true,and_true]
   omega
 have hN:fH p=true:=by
  unfold fH
  rw [Gt,xQ,xQ,n1,n2,n3]
  simp only [Bool.not_true,Bool.or_self,cond_false]
  have:∀ (k:Bool) (l:List Rule),(∀ r∈l,bC p.Offices r.Expr=true)→fH.L1 p k l=k:=by
   intro k l
   induction l with
   | nil=>intro _;rfl
   | cons y l ih=>
    intro hl
    simp only [fH.L1,hl y (List.mem_cons_self ..),Bool.not_true,cond_false]
    exact ih fun z hz=>hl z (List.mem_cons_of_mem _ hz)
  rw [this _ p.Rules fun r hr=>zH p.Offices _ (n4 _ (hrule r hr))]
  exact zH p.Offices _ (n4 _ hch)
 have hget:∀ (j:Nat) (r:Rule),p.Rules[j]? = some r→(ai p)[j]? = some r.Expr:=fun j r hj=>by
  have hlt:=(List.getElem?_eq_some_iff.1 hj).1
  rw [kv,List.getElem?_append_left (by simpa using hlt),List.getElem?_map,hj];rfl
 have hgetc:(ai p)[p.Rules.length]? = some p.Change:=by
  rw [kv,List.getElem?_append_right (by simp)];simp
 have hFm:eX p=true:=by
  unfold eX
  rw [Bool.cond_eq_ite,if_neg]
  ·have:∀ (l pre:List Rule),p.Rules=pre++l→eX.L1 p (eX.K1 p) l pre.length=true:=by
    intro l
    induction l with
    | nil=>
     intro pre _
     refine xK false _ fun z hz=>?_
     obtain ⟨q1,q2⟩:=f3 _ _ hgetc z hz
     refine ⟨q1,fun _ he=>?_⟩
     rw [hlen,wrap64 (by omega),Nat.zero_add] at q2
     have e1:decide ((p.Rules.length:Int) < ((p.Rules.length+1:Nat):Int) - 1)=false:=decide_eq_false (by omega)
     rw [e1,Bool.false_or,he] at q2
     simp at q2
    | cons y l ih=>
     intro pre hp
     have hj:p.Rules[pre.length]? = some y:=by rw [hp];simp
     have q:=f2 pre.length y hj
     rw [Nat.zero_add] at q
     simp only [Bool.and_eq_true,aH,decide_eq_true_eq] at q
     have hfe:aB y.Expr true=true:=xK true _ fun z hz=>⟨(f3 _ _ (hget _ _ hj) z hz).1,fun hh=>by cases hh⟩
     have d1:decide (y.Think < 0)=false:=by simp;omega
     have d2:decide (1099511627776≤y.Think)=false:=by simp;omega
     have:=ih (pre++[y]) (by rw [hp];simp)
     rw [List.length_append,List.length_cons,List.length_nil,Nat.zero_add] at this
     simp only [eX.L1,q.1,d1,d2,hfe,Bool.not_true,Bool.or_self,cond_false]
     exact this
   exact this p.Rules [] rfl
  ·simp only [Bool.or_eq_true,decide_eq_true_eq,bne_iff_ne,not_or,ne_eq,Decidable.not_not]
   omega
 have hRes:df p=(Policy.mk p.Name p.Kinds p.Offices (rrules p.Offices p.Rules 0) (aa p.Offices p.Change) p.Mode,0):=by
  unfold df
  rw [hT,hN,hFm]
  simp only [cond_false,Bool.not_true]
  rw [vg,List.nil_append]
 have hsame:∀ x,bF p.Offices x=true→aX (aa p.Offices x) x=true:=fun x hx=>by
  refine GO p.Offices x ?_
  unfold bF bF.K1 at hx
  exact (nq p.Offices _).1 hx
 have hSame:fY (Policy.mk p.Name p.Kinds p.Offices (rrules p.Offices p.Rules 0) (aa p.Offices p.Change) p.Mode) p=true:=by
  unfold fY
  rw [Bool.cond_eq_ite,if_neg]
  ·have:∀ (l pre:List Rule),p.Rules=pre++l→fY.L1 p fY.K1 (rrules p.Offices l pre.length) pre.length=true:=by
    intro l
    induction l with
    | nil=>intro _ _;rfl
    | cons y l ih=>
     intro pre hp
     have hy:nthI p.Rules (pre.length:Int)=y:=iE (by rw [hp];simp)
     have hj:p.Rules[pre.length]? = some y:=by rw [hp];simp
     obtain ⟨g1,g2⟩:=h2 pre.length y hj
     have:=ih (pre++[y]) (by rw [hp];simp)
     rw [List.length_append,List.length_cons,List.length_nil,Nat.zero_add] at this
     simp only [rrules,fY.L1,hy,hsame _ g2,g1,beq_self_eq_true,bne_self_eq_false,Bool.not_true,Bool.or_self,cond_false]
     exact this
   exact this p.Rules [] rfl
  ·show ¬ ((((((!(p.Name.toList==p.Name.toList))||(p.Mode != p.Mode))||(!(dC p.Offices p.Offices)))||(!(dC p.Kinds p.Kinds)))||(((rrules p.Offices p.Rules 0).length:Int) != (p.Rules.length:Int)))||(!(aX (aa p.Offices p.Change) p.Change)))=true
   rw [yV,yV,zc,hsame _ h3]
   simp
 unfold dX
 rw [hRes]
 dsimp only
 rw [hSame];rfl
theorem pQ {l:List Version} (hs:smV l) (h:bh l=0):cy l=0:=by
 have g:=(je l).1 h
 have hlen:=g.len
 unfold cy
 rw [Bool.cond_eq_ite,if_neg (by simp;omega)]
 have:∀ (s pre:List Version),l=pre++s→cy.L1 l cy.K1 s pre.length=0:=by
  intro s
  induction s with
  | nil=>intro _ _;rfl
  | cons y s ih=>
   intro pre hp
   have hy:y∈l:=by rw [hp];simp
   obtain ⟨q1,q2,q3,q4⟩:=g.each y hy
   have hlast:(decide (0 < (pre.length:Int))&&decide (y.No≤(nthI l ((pre.length:Int) - 1)).No))=false:=by
    rcases List.eq_nil_or_concat pre with rfl | ⟨a,x,e⟩
    ·rfl
    ·rw [List.concat_eq_append] at e
     subst e
     have hx:nthI l (((a++[x]).length:Int) - 1)=x:=by
      rw [show (((a++[x]).length:Int) - 1)=(a.length:Int) from by simp]
      exact iE (by rw [hp];simp)
     have hi:=g.inc
     rw [hp,List.pairwise_append] at hi
     have:=hi.2.2 x (by simp) y (List.mem_cons_self ..)
     rw [hx]
     have e2:decide (y.No≤x.No)=false:=by simp;omega
     rw [e2,Bool.and_false]
   have:=ih (pre++[y]) (by rw [hp];simp)
   rw [List.length_append,List.length_cons,List.length_nil,Nat.zero_add] at this
   simp only [cy.L1,Bool.cond_eq_ite]
   rw [if_neg]
   ·exact this
   ·have hck:=AD (hs.2 y hy) q4
    simp only [Bool.or_eq_true,not_or,decide_eq_true_eq,Bool.and_eq_true,Bool.not_eq_true',Bool.not_eq_false,bne_iff_ne,ne_eq,Classical.not_not,bM,hck,and_true]
    simp only [Bool.and_eq_false_iff,decide_eq_false_iff_not] at hlast
    omega
 exact this l [] rfl
theorem qH {B:Int→Bool} {k:Bool} {L:List Int} (hB:∀ y∈L,B y=false) (hL:L.Pairwise (· < ·)) (hk:k=true):∀ (l pre:List Int),L=pre++l→refLs B L k l pre.length=true
 | [],_,_=>hk
 | y::l,pre,h=>by
  have hlast:(decide (0 < (pre.length:Int))&&decide (y≤nthI L ((pre.length:Int) - 1)))=false:=by
   rcases List.eq_nil_or_concat pre with rfl | ⟨a,x,e⟩
   ·rfl
   ·rw [List.concat_eq_append] at e
    subst e
    have hx:nthI L (((a++[x]).length:Int) - 1)=x:=by
     rw [show (((a++[x]).length:Int) - 1)=(a.length:Int) from by simp]
     exact iE (by rw [h];simp)
    have hi:=hL
    rw [h,List.pairwise_append] at hi
    have:=hi.2.2 x (by simp) y (List.mem_cons_self ..)
    rw [hx]
    have e2:decide (y≤x)=false:=by simp;omega
    rw [e2,Bool.and_false]
  have ih:=qH hB hL hk l (pre++[y]) (by rw [h];simp)
  rw [List.length_append,List.length_cons,List.length_nil,Nat.zero_add] at ih
  have hy:y∈L:=by rw [h];simp
  simp only [refLs,hB y hy,hlast,Bool.or_self,cond_false]
  exact ih
theorem uz {l:List Int} {limit:Int} (h:((∀ x∈l,0≤x∧x < limit)∧l.Pairwise (· < ·))∧l.length≤16):dN l limit=true:=by
 have e:∀ (L l:List Int) i,dN.L1 L limit (dN.K1 L) l i=refLs (fun y=>decide (y < 0)||decide (limit≤y)) L (dN.K1 L) l i:=by
  intro L l
  induction l with
  | nil=>intro i;rfl
  | cons y l ih=>intro i;simp only [dN.L1,refLs,ih]
 unfold dN
 rw [e]
 refine qH (fun y hy=>?_) h.1.2 ?_ l [] rfl
 ·have:=h.1.1 y hy
  simp only [Bool.or_eq_false_iff,decide_eq_false_iff_not];omega
 ·unfold dN.K1;rw [decide_eq_true_eq];omega
theorem people21 {l:List Int}:eD l=true↔(∀ x∈l,0≤x∧x < 64)∧l.Pairwise (· < ·):=by
 refine ⟨Fc,fun h=>?_⟩
 have e:∀ (L l:List Int) i,eD.L1 L eD.K1 l i=refLs (fun y=>decide (y < 0)||decide (64≤y)) L true l i:=by
  intro L l
  induction l with
  | nil=>intro i;rfl
  | cons y l ih=>intro i;simp only [eD.L1,refLs,ih]
 unfold eD
 rw [e]
 refine qH (fun y hy=>?_) h.2 rfl l [] rfl
 have:=h.1 y hy
 simp only [Bool.or_eq_false_iff,decide_eq_false_iff_not];omega
theorem Ck (no:Int):∀ (l:List Document) (i:Nat),(l.any fun d=>d.No==no)=true→0≤fy.L1 no fy.K1 l i
 | [],i,h=>by cases h
 | y::l,i,h=>by
  simp only [fy.L1,Bool.cond_eq_ite]
  split
  ·omega
  ·next hc=>
   rw [List.any_cons,Bool.eq_false_iff.2 hc,Bool.false_or] at h
   exact Ck no l (i+1) h
theorem yN (L:List Document):∀ nos:List Int,(∀ x∈nos,(L.any fun d=>d.No==x)=true)→cE.L1 L cE.K1 nos=true
 | [],_=>rfl
 | y::nos,h=>by
  have h1:=Ck y L 0 (h y (List.mem_cons_self ..))
  have:decide (fy L y < 0)=false:=by unfold fy;simp;omega
  simp only [cE.L1,this,cond_false]
  exact yN L nos fun x hx=>h x (List.mem_cons_of_mem _ hx)
theorem IB {L:List Document} {d:Document} (h:dO (bi L) d=true):cE L d.Revokes=true∧cE L d.Needs=true:=by
 have hs:=(yS L L 0 []).2
 have key:∀ nos:List Int,cV nos (fun ed=>dE ed (bi L))=false→cE L nos=true:=by
  intro nos hn
  rw [containsF,List.any_eq_false] at hn
  refine yN L nos fun x hx=>?_
  have h1:=hn x hx
  unfold dE at h1
  have e:mhas (bi L).at_ x=(mhas [] x||L.any fun d=>d.No==x):=hs x
  rw [e] at h1
  simpa [mhas,mget?] using h1
 unfold dO at h
 simp only [Bool.and_eq_true,Bool.not_eq_true'] at h
 exact ⟨key _ h.1,key _ h.2⟩
theorem Ay {l:List Document} (h:bI l=0):eU l=0:=by
 have L:∀ (L l:List Document) (i:Nat),bI.L1 L bI.K1 l i=0→eU.L1 L eU.K1 l i=0:=by
  intro L l
  induction l with
  | nil=>intros;rfl
  | cons y l ih=>
   intro i h
   simp only [bI.L1,Bool.cond_eq_ite] at h
   split at h
   ·omega
   ·next hc=>
    simp only [Bool.or_eq_true,not_or,Bool.not_eq_true',Bool.not_eq_false,Bool.not_eq_true] at hc
    obtain ⟨⟨c1,c2⟩,c3⟩:=hc
    obtain ⟨t1,t2⟩:=IB c3
    have hR:gL y=true:=by
     simp only [fE,Bool.and_eq_true,decide_eq_true_eq,jd] at c1
     obtain ⟨⟨⟨⟨⟨⟨⟨⟨⟨⟨⟨⟨p1,p2⟩,p3⟩,p4⟩,p5⟩,p6⟩,p7⟩,p8⟩,p9⟩,p10⟩,p11⟩,p12⟩,p13⟩:=c1
     unfold gL
     rw [Bool.cond_eq_ite,if_neg]
     ·rw [uz ((yC _ _).1 p11),uz ((yC _ _).1 p12),uz ((yC _ _).1 p13)]
      simp only [Bool.and_eq_true,decide_eq_true_eq,Bool.and_true]
      exact ⟨⟨p8,p9⟩,p10⟩
     ·simp only [mp,Bool.or_eq_true,decide_eq_true_eq,Bool.not_eq_true',Bool.and_eq_false_iff,decide_eq_false_iff_not,not_or]
      omega
    simp only [eU.L1,hR,c2,t1,t2,Bool.not_true,Bool.or_false,Bool.or_self,cond_false]
    exact ih (i+1) h
 unfold bI at h
 unfold eU
 rw [Bool.cond_eq_ite] at h ⊢
 split at h
 ·omega
 ·next hc=>rw [if_neg hc];exact L l l 0 h
theorem judge30 {r:Register} (hs:smR r):eH r=0↔gJ r=0:=by
 constructor
 ·intro h
  obtain ⟨d1,d2,d3,d4,d5,d6,d7⟩:=(nz r).1 h
  simp only [gJ,(sv r.Appoints).symm.trans d1,(vZ r.Deputies).symm.trans d2,(nm r.Interests).symm.trans d3,(xX r.Budgets).symm.trans d4,pQ hs.vers d5,Ay d6,(ur r.Approvals).symm.trans d7]
  rfl
 ·intro h
  obtain ⟨c1,c2,c3,c4,c5,c6,c7⟩:=xS h
  exact (nz r).2 ⟨(sv r.Appoints).trans c1,(vZ _).trans c2,(nm r.Interests).trans c3,(xX _).trans c4,xT hs.vers c5,Bg c6,(ur _).trans c7⟩
def wtOk (y:Holder):Bool:=!(decide (y.Weight < 1)||decide (64 < y.Weight))
theorem J1 (k:List Int→Bool):∀ (l:List Holder) (g:List Int),ck.L3 k l g=(l.all wtOk&&k (g++l.map (·.Person)))
 | [],g=>by simp [ck.L3]
 | y::l,g=>by
  simp only [ck.L3,List.all_cons,List.map_cons,J1 k l,wtOk]
  cases decide (y.Weight < 1)||decide (64 < y.Weight) <;> simp
def rowOk (l:List Holder):Bool:=l.all wtOk&&cv (l.map (·.Person))
theorem J2 (k:Bool):∀ hs:List (List Holder),ck.L1 k hs=(hs.all rowOk&&k)
 | []=>by simp [ck.L1]
 | l::hs=>by
  simp only [ck.L1,J1,J2 k hs,List.all_cons,rowOk,List.nil_append]
  cases l.all wtOk <;> cases cv (l.map (·.Person)) <;> simp
theorem Ih (k:Bool) (L:List Holder):∀ (l pre:List Holder) (g:Int),L=pre++l→(pre=[]∧g=-1)∨(0≤g∧∃ a z,pre=a++[z]∧g=z.Person) →
  cZ.L3 L k l pre.length=((l.all wtOk&&cv.L1 cv.K1 (l.map (·.Person)) g)&&k)
 | [],_,_,_,_=>by simp [cZ.L3,cv.L1,cv.K1]
 | y::l,pre,g,e,hg=>by
  have hc:(decide (y.Person < 0)||(decide (0 < (pre.length:Int))&&decide (y.Person≤(nthI L ((pre.length:Int) - 1)).Person)))=decide (y.Person≤g):=by
   rcases hg with ⟨rfl,rfl⟩ | ⟨h0,a,z,rfl,rfl⟩
   ·simp;omega
   ·have hx:nthI L (((a++[z]).length:Int) - 1)=z:=by
     rw [show (((a++[z]).length:Int) - 1)=(a.length:Int) from by simp]
     exact iE (by rw [e];simp)
    rw [hx,Bool.eq_iff_iff]
    simp only [List.length_append,List.length_cons,List.length_nil,Bool.or_eq_true,Bool.and_eq_true,decide_eq_true_eq]
    omega
  have ih:=fun hy:0≤y.Person=>Ih k L l (pre++[y]) y.Person (by rw [e];simp) (.inr ⟨hy,pre,y,rfl,rfl⟩)
  rw [List.length_append,List.length_cons,List.length_nil,Nat.zero_add] at ih
  simp only [cZ.L3,List.all_cons,List.map_cons,cv.L1,wtOk]
  rw [show (((((decide (y.Person < 0)||decide (64≤y.Person))||decide (y.Weight < 1))||decide (64 < y.Weight))||(decide (0 < (pre.length:Int))&&decide (y.Person≤(nthI L ((pre.length:Int) - 1)).Person)))) =
   ((decide (y.Person≤g)||decide (64≤y.Person))||(decide (y.Weight < 1)||decide (64 < y.Weight))) from by
    rw [← hc]
    cases decide (y.Person < 0) <;> cases decide (64≤y.Person) <;> cases decide (y.Weight < 1) <;> cases decide (64 < y.Weight) <;> simp]
  cases h1:(decide (y.Person≤g)||decide (64≤y.Person)) <;> cases h2:(decide (y.Weight < 1)||decide (64 < y.Weight)) <;> simp only [Bool.or_true,Bool.or_false,Bool.true_or,Bool.false_or,cond_true,cond_false,Bool.not_true,Bool.not_false,Bool.true_and,Bool.false_and,Bool.and_false,Bool.or_self]
  rw [ih (by
   simp only [Bool.or_eq_false_iff,decide_eq_false_iff_not] at h1
   rcases hg with ⟨_,rfl⟩ | ⟨h0,_⟩ <;> omega)]
theorem Ii (k:Bool):∀ hs:List (List Holder),cZ.L1 k hs=(hs.all rowOk&&k)
 | []=>by simp [cZ.L1]
 | l::hs=>by
  simp only [cZ.L1,List.all_cons]
  have:=Ih (cZ.L1 k hs) l l [] (-1) rfl (.inl ⟨rfl,rfl⟩)
  rw [List.length_nil] at this
  rw [this,Ii k hs,rowOk,cv]
  simp only [Bool.and_assoc]
theorem right21 (hs:List (List Holder)) (n:Int):ck hs n=cZ hs n:=by
 unfold ck cZ
 rw [J2,Ii,ck.K1,cZ.K1]
 cases e:((hs.length:Int)==n) with
 | true=>rw [show ((hs.length:Int) != n)=false from by rw [bne,e];rfl];rfl
 | false=>rw [show ((hs.length:Int) != n)=true from by rw [bne,e];rfl,Bool.and_false];rfl
theorem ppeople21 (l:List Int):cv l=eD l:=by
 rw [Bool.eq_iff_iff,BM,people21]
theorem check20 {p:Policy} (hs:smP p):cj p=0↔dX p=0:=⟨AD hs,wh hs⟩
theorem permits21 {p:Policy} {kind value:Int} {hs:List (List Holder)} {w:List Int} (hp:smP p) (hl:∀ l∈hs,l.length≤2000000):
  (bY p kind value hs w).1=(fJ p kind value hs w).1∧((bY p kind value hs w).2=0↔(fJ p kind value hs w).2=0):=by
 unfold bY fJ
 have h1:=check20 hp
 by_cases hc:cj p=0
 ·rw [hc,h1.1 hc,← right21,← ppeople21]
  simp only [bne_self_eq_false,cond_false]
  cases hk:(((decide (kind < 0)||decide ((p.Kinds.length:Int)≤kind))||decide (value < 0))||decide (1099511627776 < value)) with
  | true=>simp
  | false=>
   cases hr:ck hs (p.Offices.length:Int) with
   | false=>simp
   | true=>
    cases hw:cv w with
    | false=>simp
    | true=>
     obtain ⟨a1,a2,a3⟩:=mA hc
     simp only [Bool.or_eq_false_iff,decide_eq_false_iff_not] at hk
     have hm:nthI p.Rules kind∈p.Rules:=fw (by rw [a1];omega)
     have ho:OkX (p.Offices.length:Int) (nthI p.Rules kind).Expr:=a3 _ (by rw [kv];exact List.mem_append_left _ (List.mem_map_of_mem hm))
     have hd:=hp.2.1 _ hm
     simp only [Bool.not_true,cond_false,co,bd]
     rw [fulfil21 (rightH hr) hl _ _ (by omega) ho]
     exact ⟨rfl,trivial⟩
 ·have hc2:dX p≠0:=fun h=>hc (h1.2 h)
  rw [show (cj p != 0)=true from by simp [hc],show (dX p != 0)=true from by simp [hc2]]
  simp only [cond_true]
  exact ⟨trivial,fun h=>(hc h).elim,fun h=>(hc2 h).elim⟩
theorem Ir {α : Type} {f:α→Int}:∀ {l:List α},l.Pairwise (fun a b=>f a < f b)→∀ {a b:α},a∈l→b∈l→f a=f b→a=b
 | [],_,_,_,ha,_,_=>(List.not_mem_nil ha).elim
 | y::l,h,a,b,ha,hb,e=>by
  rw [List.pairwise_cons] at h
  rcases List.mem_cons.1 ha with e1 | ha2
  ·rcases List.mem_cons.1 hb with e2 | hb2
   ·rw [e1,e2]
   ·have:=h.1 b hb2;rw [e1] at e;omega
  ·rcases List.mem_cons.1 hb with e2 | hb2
   ·have:=h.1 a ha2;rw [e2] at e;omega
   ·exact Ir h.2 ha2 hb2 e
def sKey (y:Interest):cp:=cp.mk y.Person y.Party y.Of
def sCnt (t known:Int) (y:Interest):Prop:=y.At≤t∧y.Known≤known
def sOver (z w:Interest):Prop:=z.At < w.At∨(w.At=z.At∧z.No < w.No)
structure Cn (t known:Int) (pre:List Interest) (m:List (cp×Interest)):Prop where
 some:∀ k z,mget? m k=some z→z∈pre∧sKey z=k∧sCnt t known z∧∀ w∈pre,sKey w=k→sCnt t known w→¬ sOver z w
 none:∀ k,mget? m k=none→∀ w∈pre,sKey w=k→¬ sCnt t known w
theorem Bz {t known:Int}:∀ (l pre:List Interest) (m:List (cp×Interest)),(pre++l).Pairwise (fun a b=>a.No < b.No)→Cn t known pre m→Cn t known (pre++l) (stMap t known l m)
 | [],pre,m,_,h=>by rw [List.append_nil];exact h
 | y::l,pre,m,hp,h=>by
  have hno:∀ w∈pre,w.No < y.No:=fun w hw=>(List.pairwise_append.1 hp).2.2 w hw y (List.mem_cons_self ..)
  have hp2:((pre++[y])++l).Pairwise (fun a b=>a.No < b.No):=by rw [List.append_assoc];exact hp
  have go:∀ m',Cn t known (pre++[y]) m'→Cn t known (pre++y::l) (stMap t known l m'):=fun m' h'=>by
   have:=Bz l (pre++[y]) m' hp2 h'
   rwa [List.append_assoc] at this
  have stay:(∀ z,mget? m (sKey y)=some z→sCnt t known y→¬ sOver z y)→(mget? m (sKey y)=none→¬ sCnt t known y)→Cn t known (pre++[y]) m:=fun h1 h2=>by
   constructor
   ·intro k z hz
    obtain ⟨a1,a2,a3,a4⟩:=h.some k z hz
    refine ⟨List.mem_append_left _ a1,a2,a3,fun w hw hk hc=>?_⟩
    rcases List.mem_append.1 hw with hw | hw
    ·exact a4 w hw hk hc
    ·rw [List.mem_singleton.1 hw] at hk hc ⊢
     exact h1 z (by rw [hk];exact hz) hc
   ·intro k hz w hw hk
    rcases List.mem_append.1 hw with hw | hw
    ·exact h.none k hz w hw hk
    ·rw [List.mem_singleton.1 hw] at hk ⊢
     exact h2 (by rw [hk];exact hz)
  simp only [stMap,Bool.cond_eq_ite]
  split
  ·next hc=>
   have hc:¬ sCnt t known y:=by
    simp only [Bool.or_eq_true,decide_eq_true_eq] at hc
    intro h;unfold sCnt at h;omega
   exact go m (stay (fun _ _ h=>(hc h).elim) (fun _=>hc))
  ·next hc=>
   have hc:sCnt t known y:=by
    simp only [Bool.or_eq_true,decide_eq_true_eq] at hc
    unfold sCnt;omega
   split
   ·next hn=>
    refine go _ ⟨fun k z hz=>?_,fun k hz w hw hk=>?_⟩
    ·rw [jO] at hz
     split at hz
     ·next hk=>
      cases hz
      refine ⟨by simp,hk.symm,hc,fun w hw hkw hcw=>?_⟩
      rcases List.mem_append.1 hw with hw | hw
      ·have hb:=hno w hw
       cases hm:mget? m (sKey y) with
       | none=>exact (h.none _ hm w hw (by rw [hkw,hk];rfl) hcw).elim
       | some z0=>
        have a4:=(h.some _ _ hm).2.2.2 w hw (by rw [hkw,hk];rfl) hcw
        have:z0.At≤y.At:=by
         simp only [mhas,mgetD,show mget? m (cp.mk y.Person y.Party y.Of)=some z0 from hm] at hn
         simpa using hn
        unfold sOver at a4 ⊢;omega
      ·rw [List.mem_singleton.1 hw];unfold sOver;omega
     ·next hk=>
      obtain ⟨a1,a2,a3,a4⟩:=h.some k z hz
      refine ⟨List.mem_append_left _ a1,a2,a3,fun w hw hkw hcw=>?_⟩
      rcases List.mem_append.1 hw with hw | hw
      ·exact a4 w hw hkw hcw
      ·rw [List.mem_singleton.1 hw] at hkw;exact (hk hkw.symm).elim
    ·rw [jO] at hz
     split at hz
     ·cases hz
     ·next hk2=>
      rcases List.mem_append.1 hw with hw | hw
      ·exact h.none k hz w hw hk
      ·rw [List.mem_singleton.1 hw] at hk;exact (hk2 hk.symm).elim
   ·next hn=>
    refine go m (stay (fun z hz _=>?_) (fun hz=>?_))
    ·have:¬ z.At≤y.At:=by
      simp only [mhas,mgetD,show mget? m (cp.mk y.Person y.Party y.Of)=some z from hz] at hn
      simpa using hn
     unfold sOver;omega
    ·simp only [mhas,mgetD,show mget? m (cp.mk y.Person y.Party y.Of)=none from hz] at hn
     simp at hn
theorem yQ {x:Interest} {t known:Int}:∀ l:List Interest,eR.L1 x t known eR.K1 l=true↔∀ w∈l,sKey w=sKey x→sCnt t known w→¬ sOver x w
 | []=>by simp [eR.L1,eR.K1]
 | y::l=>by
  have ih:=yQ (x:=x) (t:=t) (known:=known) l
  simp only [eR.L1,Bool.cond_eq_ite,List.forall_mem_cons]
  have e:(((iM y x)&&(fS y t known))&&(decide (x.At < y.At)||((y.At==x.At)&&decide (x.No < y.No))))=true↔sKey y=sKey x∧sCnt t known y∧sOver x y:=by
   simp only [iM,fS,Bool.and_eq_true,Bool.or_eq_true,beq_iff_eq,decide_eq_true_eq,sKey,sCnt,sOver,cp.mk.injEq,and_assoc]
  split
  ·next hc=>
   obtain ⟨a,b,c⟩:=e.1 hc
   constructor
   ·intro h;cases h
   ·intro h;exact (h.1 a b c).elim
  ·next hc=>
   rw [ih]
   constructor
   ·exact fun h=>⟨fun a b c=>hc (e.2 ⟨a,b,c⟩),h⟩
   ·exact fun h=>h.2
theorem standing29 {l:List Interest} {t known:Int} (ht:0≤t) (hk:0≤known) (hp:l.Pairwise (fun a b=>a.No < b.No)):bO l t known=l.filter (fun x=>eR l x t known):=by
 unfold bO
 rw [xk]
 unfold bO.K1 bp bp.K1
 have hv:Cn t known l (stMap t known l []):=by
  have:=Bz (t:=t) (known:=known) l [] [] hp ⟨fun k z h=>(by simp [mget?] at h),fun k h w hw=>(List.not_mem_nil hw).elim⟩
  exact this
 generalize stMap t known l []=v at *
 rw [pV]
 apply List.filter_congr
 intro y hy
 rw [Bool.eq_iff_iff]
 unfold eR
 rw [Bool.cond_eq_ite]
 have hg:mgetD v (sKey y) (Interest.mk 0 0 0 0 0 false false)=y↔sCnt t known y∧∀ w∈l,sKey w=sKey y→sCnt t known w→¬ sOver y w:=by
  cases hm:mget? v (sKey y) with
  | none=>
   have h1:=hv.none _ hm y hy rfl
   constructor
   ·intro h
    simp only [mgetD,hm,Option.getD] at h
    exact (h1 (by rw [← h];exact ⟨ht,hk⟩)).elim
   ·exact fun h=>(h1 h.1).elim
  | some z=>
   obtain ⟨a1,a2,a3,a4⟩:=hv.some _ _ hm
   simp only [mgetD,hm,Option.getD]
   constructor
   ·rintro rfl;exact ⟨a3,a4⟩
   ·rintro ⟨b1,b2⟩
    have c1:=a4 y hy rfl b1
    have c2:=b2 z a1 a2 a3
    have:z.No=y.No:=by unfold sOver at c1 c2;omega
    exact Ir (f:=fun x:Interest=>x.No) hp a1 hy this
 split
 ·next hc=>
  constructor
  ·intro h
   simp only [Bool.and_eq_true,decide_eq_true_eq] at h
   have:=(hg.1 h.2).1
   unfold sCnt at this
   simp [fS,this.1,this.2] at hc
   simp [hc] at h
  ·intro h;cases h
 ·next hc=>
  simp only [Bool.or_eq_true,not_or,Bool.not_eq_true,Bool.not_eq_false',fS,Bool.and_eq_true,decide_eq_true_eq] at hc
  rw [yQ,hc.1]
  simp only [Bool.not_false,Bool.true_and,decide_eq_true_eq]
  exact hg.trans ⟨fun h=>h.2,fun h=>⟨hc.2,h⟩⟩
def rwFill (who:Int):List Interest→List dJ→List dJ
 | [],w=>w
 | x::l,w=>bif (!x.Of)&&(x.Person==who) then rwFill who l (rwPut w ⟨[x.No],x.Party⟩) else rwFill who l w
def rwStep (path:List Int) (to:Int):List Interest→List dJ→List dJ
 | [],w=>w
 | x::l,w=>bif x.Of&&(x.Person==to) then rwStep path to l (rwPut w ⟨path++[x.No],x.Party⟩) else rwStep path to l w
def rwLoop (parties:List Int) (all:List Interest):Nat→Nat→List dJ→List Int×Bool
 | 0,_,_=>([],false)
 | n+1,k,w=>match w[k]? with
  | none=>([],false)
  | some x=>bif iJ parties x.To then (x.gT,true) else bif (x.gT.length:Int)==8 then rwLoop parties all n (k+1) w
   else rwLoop parties all n (k+1) (rwStep x.gT x.To all w)
def standR (l:List Interest) (t known:Int):List Interest:=l.filter (fun x=>eR l x t known)
def conflictR (l:List Interest) (who:Int) (parties:List Int) (t known:Int):List Int×Bool×Int:=
 bif gK l who parties t known != 0 then ([],false,gK l who parties t known)
 else ((rwLoop parties (standR l t known) (l.length+1) 0 (rwFill who (standR l t known) [])).1,(rwLoop parties (standR l t known) (l.length+1) 0 (rwFill who (standR l t known) [])).2,0)
def toI (w:dJ):fN:=⟨w.gT,w.To⟩
def Met (m:List (Int×Bool)) (w:List dJ):Prop:=∀ t,mgetD m t false=w.any (fun x=>x.To==t)
theorem BC {m:List (Int×Bool)} {d e:List dJ} (x:dJ) (h:Met m (d++e)):∃ e',rwPut (d++e) x=d++e'∧(conPut (toI x) m (e.map toI)).2=e'.map toI∧Met (conPut (toI x) m (e.map toI)).1 (d++e'):=by
 unfold rwPut conPut
 rw [show (toI x).to=x.To from rfl,h x.To]
 cases hb:(d++e).any (fun w=>w.To==x.To) with
 | true=>exact ⟨e,rfl,rfl,h⟩
 | false=>
  refine ⟨e++[x],by simp,by simp,fun t=>?_⟩
  show mgetD (mput m x.To true) t false=_
  rw [qS,h t,← List.append_assoc,List.any_append]
  by_cases ht:t=x.To
  ·subst ht;simp
  ·rw [if_neg ht]
   have:(x.To==t)=false:=by simp;exact fun e=>ht e.symm
   simp [this]
theorem ux (path:List Int) (to:Int):∀ (l:List Interest) {m:List (Int×Bool)} {d e:List dJ},Met m (d++e)→∃ e',rwStep path to l (d++e)=d++e'∧(conStep path (l.filter fun x=>x.Of&&(x.Person==to)) m (e.map toI)).2=e'.map toI∧Met (conStep path (l.filter fun x=>x.Of&&(x.Person==to)) m (e.map toI)).1 (d++e')
 | [],m,d,e,h=>⟨e,rfl,rfl,h⟩
 | x::l,m,d,e,h=>by
  simp only [rwStep,List.filter_cons,Bool.cond_eq_ite]
  split
  ·obtain ⟨e1,a1,a2,a3⟩:=BC ⟨path++[x.No],x.Party⟩ h
   simp only [conStep]
   rw [a1]
   rw [show (conPut ⟨path++[x.No],x.Party⟩ m (e.map toI)).2=e1.map toI from a2]
   exact ux path to l a3
  ·exact ux path to l h
theorem qC (who:Int):∀ (l:List Interest) (f:List (Int×List Interest)) {m:List (Int×Bool)} {e:List dJ},Met m e→∃ e',rwFill who l e=e'∧(conFill who l f m (e.map toI)).2.2=e'.map toI∧Met (conFill who l f m (e.map toI)).2.1 e'∧∀ to,mgetD (conFill who l f m (e.map toI)).1 to []=mgetD f to []++l.filter fun x=>x.Of&&(x.Person==to)
 | [],f,m,e,h=>⟨e,rfl,rfl,h,fun to=>by simp [conFill]⟩
 | x::l,f,m,e,h=>by
  simp only [rwFill,conFill,List.filter_cons]
  cases ho:x.Of with
  | true=>
   simp only [Bool.not_true,Bool.false_and,cond_false,cond_true,Bool.true_and]
   obtain ⟨e',a1,a2,a3,a4⟩:=qC who l (mput f x.Person (mgetD f x.Person []++[x])) h
   refine ⟨e',a1,a2,a3,fun to=>?_⟩
   rw [a4,qS]
   by_cases ht:to=x.Person
   ·subst ht;simp
   ·rw [if_neg ht]
    have:(x.Person==to)=false:=by simp;exact fun e=>ht e.symm
    simp [this]
  | false=>
   simp only [Bool.not_false,Bool.true_and,cond_false,Bool.false_and,Bool.false_eq_true,if_false]
   cases hw:x.Person==who with
   | true=>
    simp only [cond_true]
    obtain ⟨e1,a1,a2,a3⟩:=BC (d:=[]) (e:=e) ⟨[x.No],x.Party⟩ h
    rw [List.nil_append,List.nil_append] at a1
    rw [a1]
    rw [show (conPut ⟨[x.No],x.Party⟩ m (e.map toI)).2=e1.map toI from a2]
    exact qC who l f a3
   | false=>exact qC who l f h
theorem has29 (n:Int):∀ l:List Int,iJ l n=l.contains n
 | []=>rfl
 | y::l=>by
  have ih:=has29 n l
  unfold iJ at ih ⊢
  simp only [iJ.L1,List.contains_cons,ih,Bool.cond_eq_ite]
  by_cases h:y=n
  ·subst h;simp
  ·have h1:(y==n)=false:=by simpa using h
   have h2:(n==y)=false:=by simpa using fun e=>h (Eq.symm e)
   simp [h1,h2]
theorem uy {ps:List Int} {all:List Interest} {f:List (Int×List Interest)} (hf:∀ to,mgetD f to []=all.filter fun x=>x.Of&&(x.Person==to)):∀ (n:Nat) {m:List (Int×Bool)} {d e:List dJ},Met m (d++e)→rwLoop ps all n d.length (d++e)=conLoop ps f n m (e.map toI)
 | 0,m,d,e,h=>rfl
 | n+1,m,d,[],h=>by simp [rwLoop,conLoop]
 | n+1,m,d,x::e,h=>by
  have hx:(d++x::e)[d.length]? = some x:=by simp
  have hl:d.length+1=(d++[x]).length:=by simp
  have hd:d++x::e=(d++[x])++e:=by simp
  simp only [rwLoop,hx,List.map_cons,conLoop]
  rw [has29,show (toI x).to=x.To from rfl,show (toI x).path=x.gT from rfl]
  cases ps.contains x.To with
  | true=>rfl
  | false=>
   simp only [cond_false]
   rw [hd] at h ⊢
   rw [hl]
   cases (x.gT.length:Int)==8 with
   | true=>exact uy hf n h
   | false=>
    simp only [cond_false]
    obtain ⟨e',a1,a2,a3⟩:=ux x.gT x.To all h
    rw [a1,hf,a2]
    exact uy hf n a3
theorem sU (b:Bool):∀ (l:List Int) (g:Int),bP.L1 (fun _=>bif b then 1 else 0) l g=bif b||!(decide ((∀ x∈l,g < x∧x≤1048576)∧l.Pairwise (· < ·))) then 1 else 0
 | [],g=>by simp [bP.L1]
 | y::l,g=>by
  simp only [bP.L1,sU b l y]
  cases hc:(decide (y≤g)||decide (1048576 < y)) with
  | true=>
   rw [show decide ((∀ x∈y::l,g < x∧x≤1048576)∧(y::l).Pairwise (· < ·))=false from by
    simp only [Bool.or_eq_true,decide_eq_true_eq] at hc
    simp only [decide_eq_false_iff_not]
    intro h;have:=h.1 y (List.mem_cons_self ..);omega]
   simp
  | false=>
   simp only [Bool.or_eq_false_iff,decide_eq_false_iff_not] at hc
   simp only [cond_false]
   congr 3
   rw [decide_eq_decide,List.pairwise_cons,List.forall_mem_cons]
   constructor
   ·exact fun ⟨h1,h2⟩=>⟨⟨by omega,fun x hx=>by have:=h1 x hx;omega⟩,fun x hx=>(h1 x hx).1,h2⟩
   ·exact fun ⟨h1,h2,h3⟩=>⟨fun x hx=>⟨h2 x hx,(h1.2 x hx).2⟩,h3⟩
theorem parties29 {l:List Int}:eA l=true↔((∀ x∈l,-1 < x∧x≤1048576)∧l.Pairwise (· < ·))∧l.length≤16:=by
 have e:∀ (L l:List Int) i,eA.L1 L (eA.K1 L) l i=refLs (fun y=>!(gz y)) L (eA.K1 L) l i:=by
  intro L l
  induction l with
  | nil=>intro i;rfl
  | cons y l ih=>intro i;simp only [eA.L1,refLs,ih]
 have hB:∀ y:Int,(!(gz y))=false↔-1 < y∧y≤1048576:=fun y=>by
  simp only [gz,Bool.not_eq_false',Bool.and_eq_true,decide_eq_true_eq];omega
 have hK:eA.K1 l=true↔l.length≤16:=by simp only [eA.K1,decide_eq_true_eq];omega
 unfold eA
 rw [e]
 constructor
 ·intro h
  obtain ⟨⟨h1,h2⟩,h3⟩:=zg h
  exact ⟨⟨fun x hx=>(hB x).1 (h1 x hx),h3⟩,hK.1 h2⟩
 ·intro h
  exact qH (fun y hy=>(hB y).2 (h.1.1 y hy)) h.1.2 (hK.2 h.2) l [] rfl
theorem examine29 (l:List Interest) (p:Int) (ps:List Int) (t known:Int):bP l p ps t known=gK l p ps t known:=by
 unfold bP gK
 rw [nm]
 cases e9 l != 0 with
 | true=>rfl
 | false=>
  simp only [cond_false]
  have e:=sU ((((!(aS p 64))||decide (16 < (ps.length:Int)))||(!(aS t 1099511627776)))||(!(aS known 1099511627776))) ps (-1)
  rw [show bP.K1 p ps t known=fun _=>bif ((((!(aS p 64))||decide (16 < (ps.length:Int)))||(!(aS t 1099511627776)))||(!(aS known 1099511627776))) then 1 else 0 from rfl,e]
  congr 1
  have hp:eA ps=(decide ((∀ x∈ps,-1 < x∧x≤1048576)∧ps.Pairwise (· < ·))&&!(decide (16 < (ps.length:Int)))):=by
   rw [Bool.eq_iff_iff,parties29]
   simp only [Bool.and_eq_true,decide_eq_true_eq,Bool.not_eq_true',decide_eq_false_iff_not]
   constructor
   ·exact fun h=>⟨h.1,by omega⟩
   ·exact fun h=>⟨h.1,by omega⟩
  rw [hp]
  simp only [aS,jR,iw]
  cases (decide (0≤p)&&decide (p < 64)) <;> cases decide (16 < (ps.length:Int)) <;> cases (decide (0≤t)&&decide (t < 1099511627776)) <;> cases (decide (0≤known)&&decide (known < 1099511627776)) <;> cases decide ((∀ x∈ps,-1 < x∧x≤1048576)∧ps.Pairwise (· < ·)) <;> rfl
theorem Ba {l:List Interest} (h:bJ l=0):l.Pairwise (fun a b=>a.No < b.No):=by
 unfold bJ at h
 rw [interestsP,Bool.cond_eq_ite] at h
 split at h
 ·omega
 ·exact ((th (by omega) l _).1 h).2
theorem conflict29 (l:List Interest) (p:Int) (ps:List Int) (t known:Int):dB l p ps t known=conflictR l p ps t known:=by
 unfold dB conflictR
 rw [examine29]
 cases he:gK l p ps t known != 0 with
 | true=>rfl
 | false=>
  have h0:gK l p ps t known=0:=by simpa using he
  have hc:bJ l=0∧0≤t∧0≤known:=by
   rw [nm]
   unfold gK at h0
   rw [Bool.cond_eq_ite] at h0
   split at h0
   ·next h=>simp [h0] at h
   ·next h=>
    rw [Bool.cond_eq_ite] at h0
    split at h0
    ·omega
    ·next h2=>
     simp only [Bool.or_eq_true,not_or,Bool.not_eq_true,Bool.not_eq_false',iw,Bool.and_eq_true,decide_eq_true_eq] at h2
     exact ⟨by simpa using h,by omega,by omega⟩
  have hs:bO l t known=standR l t known:=standing29 hc.2.1 hc.2.2 (Ba hc.1)
  simp only [cond_false,conFind,hs]
  obtain ⟨e',a1,a2,a3,a4⟩:=qC p (standR l t known) [] (m:=[]) (e:=[]) (fun t=>rfl)
  have:=uy (ps:=ps) (all:=standR l t known) (f:=(conFill p (standR l t known) [] [] []).1) (fun to=>by
   have:=a4 to
   rw [List.map_nil] at this
   rw [this];rfl) (l.length+1) (d:=[]) (e:=e') a3
  rw [List.length_nil,List.nil_append] at this
  rw [a1,this]
  rw [List.map_nil] at a2 
  rw [a2]
  rfl
def freeR (r:Register) (d:Document) (who:List Int) (t known:Int):List Int:=who.filter fun x=>!(conflictR r.Interests x d.Parties t known).2.1
def holdR (r:Register) (p:Policy) (t known:Int):List (List Holder):=(List.range p.Offices.length).map fun (i:Nat)=>(bu r.Appoints (i:Int) t known).1
def wouldR (r:Register) (p:Policy) (d:Document) (who:List Int) (t known:Int):Bool:=
 bif decide ((p.Kinds.length:Int)≤d.Kind)||decide (t < d.At+(nthI p.Rules d.Kind).Think) then false
 else (fJ p d.Kind d.Value (holdR r p t known) (freeR r d who t known)).1
def couldR (r:Register) (d:Document) (who:List Int) (t known:Int):Bool:=
 bif decide (t < d.At)||decide (d.Until≤t) then false
 else (iy (cN r.Versions d.At t known).2.1 ((cN r.Versions d.At t known).1.map fun no=>wouldR r (aV r no).Policy d who t known)).1
theorem DW {p:Policy} {kind value:Int} {hs:List (List Holder)} {w:List Int}:((bY p kind value hs w).1&&((bY p kind value hs w).2==0))=(bY p kind value hs w).1:=by
 unfold bY
 cases (cj p != 0) <;> cases (((decide (kind < 0)||decide ((p.Kinds.length:Int)≤kind))||decide (value < 0))||decide (1099511627776 < value)) <;> cases ck hs (p.Offices.length:Int) <;> cases cv w <;> simp
theorem Hj {r:Register} {d:Document} {who:List Int} {t known:Int} (hs:smR r) (ho:cn r.Appoints=0) (hi:bJ r.Interests=0) (hv:o9 r.Versions) (hd:wn d) (hw:∀ x∈who,0≤x∧x < 64)
  (ht:0≤t∧t < 1099511627776) (hk:0≤known∧known < 1099511627776):cT ⟨r,d,known⟩ who t=couldR r d who t known:=by
 unfold cT couldR
 cases hc:(decide (t < d.At)||decide (d.Until≤t)) with
 | true=>simp only [cond_true,hc]
 | false=>
  simp only [cond_false,hc]
  simp only [Bool.or_eq_false_iff,decide_eq_false_iff_not] at hc
  have j:=tH hv (begun:=d.At) (at_:=t) (known:=known) hd.at_ ht hk (by omega)
  have hv0:bh r.Versions=0:=(je _).2 hv
  have jr:=EY hv (pQ hs.vers hv0) (begun:=d.At) (at_:=t) (known:=known) hd.at_ ht hk (by omega)
  have ej:aw ⟨r,d,known⟩ t=((ay r.Versions d.At t known).1.map fun no=>(aV r no).Policy,(ay r.Versions d.At t known).2.1):=by
   unfold aw
   show (bif ((ay r.Versions d.At t known).2.2 != 0) then _ else _)=_
   rw [j.err]
   simp only [bne_self_eq_false,cond_false]
   rw [qe,List.nil_append]
   show ((List.map _ (List.filter (fun v=>dM (ay r.Versions d.At t known).1 v.No) r.Versions)),_)=_
   rw [zP hv j,List.map_map]
   rfl
  have hlen:=Fy r.Versions d.At t known
  have hl256:=hv.len
  rw [ej,jr]
  dsimp only
  rw [Kd,decide27]
  have hfree:bv who (fun ed=>bB ed ⟨r,d,known⟩ t)=freeR r d who t known:=by
   unfold bv freeR
   apply List.filter_congr
   intro x hx
   unfold bB
   dsimp only
   rw [Dc hi (hw x hx) hd.parties ht hk,conflict29]
   rfl
  generalize hJ:ay r.Versions d.At t known=J at *
  have hval:(J.1.map fun no=>(aV r no).Policy).map (cval ⟨r,d,known⟩ who t)=J.1.map fun no=>wouldR r (aV r no).Policy d who t known:=by
   rw [List.map_map]
   apply List.map_congr_left
   intro no hno
   obtain ⟨v,hvm,hve⟩:=j.mem no hno
   have hr:aV r no=v:=yB no _ _ hv.inc v hvm hve
   have hof:=(hv.okV.2 v hvm).1.2
   have hpc:=(hv.each v hvm).2.2.2
   obtain ⟨hkr,_,_⟩:=mA hpc
   show cval ⟨r,d,known⟩ who t (aV r no).Policy=_
   rw [hr]
   unfold cval wouldR
   dsimp only
   rw [DW,hfree]
   have hh:ar ⟨r,d,known⟩ v.Policy t=holdR r v.Policy t known:=by
    rw [nu]
    unfold holdR
    apply List.map_congr_left
    intro i hi
    rw [w8 ho (by have:=List.mem_range.1 hi;omega) ht hk]
   have hb:∀ y∈ar ⟨r,d,known⟩ v.Policy t,y.length≤2000000:=sj hs.2.1 v.Policy t
   rw [hh] at hb
   rw [hh,(permits21 (hs.vers.2 v hvm) hb).1,hkr]
   by_cases h1:d.Kind < (v.Policy.Kinds.length:Int)
   ·have e1:decide ((v.Policy.Kinds.length:Int)≤d.Kind)=false:=by simp;omega
    rw [e1]
    by_cases h2:d.At+(nthI v.Policy.Rules d.Kind).Think≤t
    ·have e2:decide (t < d.At+(nthI v.Policy.Rules d.Kind).Think)=false:=by simp;omega
     simp [h1,h2,e2]
    ·have e2:decide (t < d.At+(nthI v.Policy.Rules d.Kind).Think)=true:=by simp;omega
     simp [h1,h2,e2]
   ·have e1:decide ((v.Policy.Kinds.length:Int)≤d.Kind)=true:=by simp;omega
    simp [h1,e1]
  rw [hval,List.nil_append]
  unfold cT.K1
  rw [ej]
  dsimp only
  by_cases hn:J.1=[]
  ·rw [hn,List.map_nil,Fz];rfl
  ·have he:=FA (mode:=J.2.1) (j.mode hn) (l:=J.1.map fun no=>wouldR r (aV r no).Policy d who t known) (by rw [List.length_map];omega)
   rw [he];simp
def insT (t:Int):List Int→List Int
 | []=>[t]
 | y::l=>bif decide (y < t) then y::insT t l else bif y==t then y::l else t::y::l
theorem nA {t x:Int}:∀ {l:List Int},x∈insT t l↔x=t∨x∈l
 | []=>by simp [insT]
 | y::l=>by
  have ih:=nA (t:=t) (x:=x) (l:=l)
  simp only [insT,Bool.cond_eq_ite,decide_eq_true_eq,beq_iff_eq]
  split
  ·rw [List.mem_cons,ih,List.mem_cons]
   constructor
   ·rintro (h | h | h) <;> simp [h]
   ·rintro (h | h | h) <;> simp [h]
  ·split
   ·next h=>subst h;simp
   ·simp
theorem vK {t:Int}:∀ {l:List Int},l.Pairwise (· < ·)→(insT t l).Pairwise (· < ·)
 | [],_=>by simp [insT]
 | y::l,h=>by
  obtain ⟨h1,h2⟩:=List.pairwise_cons.1 h
  simp only [insT,Bool.cond_eq_ite,decide_eq_true_eq,beq_iff_eq]
  split
  ·next hy=>
   refine List.pairwise_cons.2 ⟨fun x hx=>?_,vK h2⟩
   rcases nA.1 hx with rfl | hx
   ·exact hy
   ·exact h1 x hx
  ·split
   ·exact h
   ·next hy hn=>
    refine List.pairwise_cons.2 ⟨fun x hx=>?_,h⟩
    rcases List.mem_cons.1 hx with rfl | hx
    ·omega
    ·have:=h1 x hx;omega
theorem DV (t:Int) (L:List Int):∀ (l pre:List Int),L=pre++l→iI.L1 t (iI.K1 L t) l pre.length=pre++insT t l
 | [],pre,e=>by
  rw [List.append_nil] at e
  subst e
  simp [iI.L1,iI.K1,insT]
 | y::l,pre,e=>by
  simp only [iI.L1,insT]
  cases hy:decide (y < t) with
  | true=>
   have:=DV t L l (pre++[y]) (by rw [e];simp)
   rw [List.length_append,List.length_cons,List.length_nil,Nat.zero_add] at this
   simp only [cond_true]
   rw [this];simp
  | false=>
   have h1:decide ((pre.length:Int) < (L.length:Int))=true:=by rw [e];simp;omega
   have h2:nthI L (pre.length:Int)=y:=iE (by rw [e];simp)
   simp only [cond_false,iI.K1]
   rw [h1,h2]
   simp only [Bool.true_and]
   cases y==t with
   | true=>simp [e]
   | false=>simp [e]
theorem Ks (l:List Int) (t:Int):iI l t=bif bM t then insT t l else l:=by
 unfold iI
 have:=DV t l l [] rfl
 rw [List.length_nil,List.nil_append] at this
 rw [this]
 cases bM t <;> rfl
structure ChL (l:List Int):Prop where
 inc:l.Pairwise (· < ·)
 zero:∃ l',l=0::l'
 tm:∀ x∈l,0≤x∧x < 1099511627776
theorem r20Time (t:Int):bM t=true↔0≤t∧t < 1099511627776:=by simp [bM]
theorem ChL.put {l:List Int} (h:ChL l) (t:Int):ChL (iI l t)∧(∀ x∈l,x∈iI l t)∧(0≤t→t < 1099511627776→t∈iI l t):=by
 rw [Ks]
 cases ht:bM t with
 | false=>exact ⟨h,fun x hx=>hx,fun a b=>absurd ((r20Time t).2 ⟨a,b⟩) (by rw [ht];decide)⟩
 | true=>
  have ht:=(r20Time t).1 ht
  refine ⟨⟨vK h.inc,?_,fun x hx=>?_⟩,fun x hx=>nA.2 (.inr hx),fun _ _=>nA.2 (.inl rfl)⟩
  ·obtain ⟨l',e⟩:=h.zero
   subst e
   simp only [cond_true,insT]
   by_cases h1:(0:Int) < t
   ·exact ⟨insT t l',by simp [h1]⟩
   ·have h2:t=0:=by omega
    exact ⟨l',by subst h2;simp⟩
  ·rcases nA.1 hx with rfl | hx
   ·exact ht
   ·exact h.tm x hx
theorem JP (r:Register) (doc known:Int):(cG r doc known).2=!(decide (bq r doc < 0)||!(bM known)):=by
 have e:ab r.Docs (fun ed=>bQ ed doc)=bq r doc:=askIdx doc r.Docs 0
 unfold cG
 rw [e,show jp known=bM known from rfl]
 cases decide (bq r doc < 0) <;> cases bM known <;> rfl
def chooseR:Nat→List Int→List (List Int)
 | 0,_=>[[]]
 | m+1,p=>(List.range (p.length - m)).flatMap fun i=>(chooseR m (p.drop (i+1))).map (nthI p (i:Int)::·)
theorem I1 {c:List Int→Bool} (ws:List Int) (x:Int) (L:List (List Int)):
  (L.find? fun s=>c ((ws++[x])++s)).map ((ws++[x])++·)=((L.map (x::·)).find? fun s=>c (ws++s)).map (ws++·):=by
 rw [List.find?_map,Option.map_map]
 have e:(fun s=>c ((ws++[x])++s))=(fun s=>c (ws++s))∘(x::·):=by funext s;simp
 have e2:((ws++[x])++·)=(ws++·)∘(x::·):=by funext s;simp
 rw [e,e2]
theorem xi {c:List Int→Bool} {help:List Int}:∀ (m fr:Nat) (ws:List Int),tryP c help m fr ws=((chooseR m (help.drop fr)).find? fun s=>c (ws++s)).map (ws++·)
 | 0,fr,ws=>by
  simp only [tryP,chooseR,List.find?_cons,List.append_nil,List.find?_nil]
  cases c ws <;> simp
 | m+1,fr,ws=>by
  simp only [tryP,chooseR]
  rw [List.find?_flatMap,List.map_findSome?,List.range'_eq_map_range,List.findSome?_map]
  rw [show help.length - m - fr=(help.drop fr).length - m from by rw [List.length_drop];omega]
  congr 1
  funext i
  simp only [Function.comp]
  rw [xi m,List.drop_drop,I1]
  have e1:fr+(i+1)=fr+i+1:=by omega
  have e2:nthI (help.drop fr) (i:Int)=nthI help ((fr+i:Nat):Int):=by
   have:((fr:Int)+(i:Int)).toNat=fr+i:=by omega
   simp [nthI,List.getElem?_drop,this]
  rw [e1,e2]
theorem AB:∀ (m:Nat) (p s:List Int),s∈chooseR m p→s.Sublist p
 | 0,p,s,h=>by
  simp only [chooseR,List.mem_singleton] at h
  rw [h];exact List.nil_sublist _
 | m+1,p,s,h=>by
  simp only [chooseR,List.mem_flatMap,List.mem_range,List.mem_map] at h
  obtain ⟨i,hi,s',hs',rfl⟩:=h
  have:=CU (help:=p) (fr:=0) (i:=i) (S:=s') (Nat.zero_le _) (by omega) (AB m _ _ hs')
  rwa [List.drop_zero] at this
theorem BZ (t:Int) (L:List Int):∀ (l pre:List Int),L=pre++l→cd.L1 t (cd.K1 L t) l pre.length=pre++insT t l
 | [],pre,e=>by
  rw [List.append_nil] at e
  subst e
  simp [cd.L1,cd.K1,insT]
 | y::l,pre,e=>by
  simp only [cd.L1,insT]
  cases hy:decide (y < t) with
  | true=>
   have:=BZ t L l (pre++[y]) (by rw [e];simp)
   rw [List.length_append,List.length_cons,List.length_nil,Nat.zero_add] at this
   simp only [cond_true]
   rw [this];simp
  | false=>
   have h1:decide ((pre.length:Int) < (L.length:Int))=true:=by rw [e];simp;omega
   have h2:nthI L (pre.length:Int)=y:=iE (by rw [e];simp)
   simp only [cond_false,cd.K1]
   rw [h1,h2]
   simp only [Bool.true_and]
   cases y==t with
   | true=>simp [e]
   | false=>simp [e]
theorem tz (l:List Int) (t:Int):cd l t=insT t l:=by
 unfold cd
 have:=BZ t l l [] rfl
 rw [List.length_nil,List.nil_append] at this
 exact this
theorem BE {a b:List Int} (ha:a.Pairwise (· < ·)) (hb:b.Pairwise (· < ·)) (h:∀ x,x∈a↔x∈b):a=b:=
 (vw ha hb fun x hx=>(h x).1 hx).eq_of_length_le (vw hb ha fun x hx=>(h x).2 hx).length_le
theorem Dw {w:List Int} {n:Int} (hp:w.Pairwise (· < ·)) (hm:n∉w):sortI (w++[n])=cd w n:=by
 rw [tz]
 refine BE (pU (jw _) ((gS _).nodup_iff.2 ?_)) (vK hp) fun x=>?_
 ·exact List.nodup_append.2 ⟨hp.imp fun h=>Int.ne_of_lt h,List.nodup_cons.2 ⟨List.not_mem_nil,List.nodup_nil⟩,fun a ha b hb e=>hm (by rw [List.mem_singleton.1 hb] at e;rw [← e];exact ha)⟩
 ·rw [(gS _).mem_iff,nA,List.mem_append,List.mem_singleton]
  exact or_comm
def insF (person:Int) (l:List Holder) (g:List Int):List Int:=l.foldl (fun g y=>bif y.Person != person then cd g y.Person else g) g
theorem B1 (person:Int) (y:Holder) (l:List Holder) (g:List Int):insF person (y::l) g=insF person l (bif y.Person != person then cd g y.Person else g):=rfl
theorem Eo {person:Int}:∀ {l:List Holder} {g:List Int},g.Pairwise (· < ·)→(insF person l g).Pairwise (· < ·)
 | [],g,h=>h
 | y::l,g,h=>by
  rw [B1]
  apply Eo
  cases y.Person != person with
  | true=>rw [cond_true,tz];exact vK h
  | false=>exact h
theorem En {person x:Int}:∀ {l:List Holder} {g:List Int},x∈insF person l g↔x∈g∨((∃ y∈l,x=y.Person)∧x≠person)
 | [],g=>by simp [insF]
 | y::l,g=>by
  rw [B1,En (l:=l)]
  by_cases hy:y.Person=person
  ·have e0:(y.Person != person)=false:=by simp [hy]
   rw [e0,cond_false]
   constructor
   ·rintro (h | ⟨⟨z,hz,e⟩,h⟩)
    ·exact .inl h
    ·exact .inr ⟨⟨z,List.mem_cons_of_mem _ hz,e⟩,h⟩
   ·rintro (h | ⟨⟨z,hz,e⟩,h⟩)
    ·exact .inl h
    ·rcases List.mem_cons.1 hz with rfl | hz
     ·exact (h (e.trans hy)).elim
     ·exact .inr ⟨⟨z,hz,e⟩,h⟩
  ·have e0:(y.Person != person)=true:=by simp [hy]
   rw [e0,cond_true,tz,nA]
   constructor
   ·rintro ((h | h) | ⟨⟨z,hz,e⟩,h⟩)
    ·exact .inr ⟨⟨y,List.mem_cons_self ..,h⟩,by rw [h];exact hy⟩
    ·exact .inl h
    ·exact .inr ⟨⟨z,List.mem_cons_of_mem _ hz,e⟩,h⟩
   ·rintro (h | ⟨⟨z,hz,e⟩,h⟩)
    ·exact .inl (.inr h)
    ·rcases List.mem_cons.1 hz with rfl | hz
     ·exact .inl (.inl e)
     ·exact .inr ⟨⟨z,hz,e⟩,h⟩
theorem xD (person:Int) (a b:List Holder) (g:List Int):insF person (a++b) g=insF person b (insF person a g):=List.foldl_append ..
theorem JW (person:Int) (k:List Int→List Int):∀ (l:List Holder) (g:List Int),ba.L7 person k l g=k (insF person l g)
 | [],g=>rfl
 | y::l,g=>by
  simp only [ba.L7,JW person k l]
  show _=k (insF person l (bif y.Person != person then cd g y.Person else g))
  cases y.Person != person <;> rfl
theorem JY (r:Register) (person t known:Int) (k:List Int→List Int):∀ (l:List ByteArray) (i:Nat) (g:List Int),ba.L5 r person t known k l i g=k (insF person ((List.range' i l.length).flatMap fun (j:Nat)=>(bu r.Appoints (j:Int) t known).1) g)
 | [],i,g=>rfl
 | y::l,i,g=>by
  simp only [ba.L5,JW,JY r person t known k l,List.length_cons,List.range'_succ,List.flatMap_cons,xD]
theorem JZ (r:Register) (person t known:Int) (k:List Int→List Int):∀ (l:List Int) (g:List Int),ba.L1 r person t known k l g=k (insF person (l.flatMap fun no=>(List.range' 0 (aV r no).Policy.Offices.length).flatMap fun (j:Nat)=>(bu r.Appoints (j:Int) t known).1) g)
 | [],g=>rfl
 | y::l,g=>by
  simp only [ba.L1,JY,JZ r person t known k l,List.flatMap_cons,xD]
theorem Ha {r:Register} {d:Document} {t known:Int} (hv:o9 r.Versions) (hd:wn d) (ht:0≤t∧t < 1099511627776) (hk:0≤known∧known < 1099511627776) (hle:d.At≤t):
  aw ⟨r,d,known⟩ t=((ay r.Versions d.At t known).1.map fun no=>(aV r no).Policy,(ay r.Versions d.At t known).2.1):=by
 have j:=tH hv (begun:=d.At) (at_:=t) (known:=known) hd.at_ ht hk hle
 unfold aw
 show (bif ((ay r.Versions d.At t known).2.2 != 0) then _ else _)=_
 rw [j.err]
 simp only [bne_self_eq_false,cond_false]
 rw [qe,List.nil_append]
 show ((List.map _ (List.filter (fun v=>dM (ay r.Versions d.At t known).1 v.No) r.Versions)),_)=_
 rw [zP hv j,List.map_map]
 rfl
theorem help33 {r:Register} {d:Document} {person t known:Int} (hs:smR r) (hj:eH r=0) (hd:wn d) (ht:0≤t∧t < 1099511627776) (hk:0≤known∧known < 1099511627776):
  az ⟨r,d,known⟩ person t=ba r d person t known:=by
 obtain ⟨d1,d2,d3,d4,d5,d6,d7⟩:=(nz r).1 hj
 have hv:=(je r.Versions).1 d5
 by_cases hle:t < d.At
 ·unfold az ba
  rw [show decide (t < (aC.mk r d known).doc.At)=true from by simpa using hle]
  rfl
 ·have jr:=EY hv (pQ hs.vers d5) (begun:=d.At) (at_:=t) (known:=known) hd.at_ ht hk (by omega)
  have j:=tH hv (begun:=d.At) (at_:=t) (known:=known) hd.at_ ht hk (by omega)
  have e:ba r d person t known=insF person ((ay r.Versions d.At t known).1.flatMap fun no=>(List.range' 0 (aV r no).Policy.Offices.length).flatMap fun (j:Nat)=>(bu r.Appoints (j:Int) t known).1) []:=by
   unfold ba
   rw [show decide (t < d.At)=false from by simpa using hle,jr,JZ]
   rfl
  rw [e]
  refine BE (B4 _ _ _) (Eo List.Pairwise.nil) fun x=>?_
  rw [zY hle,En,Ha hv hd ht hk (by omega)]
  simp only [List.not_mem_nil,false_or,List.mem_map,List.mem_flatMap,List.mem_range'_1,nu]
  have hoff:∀ no∈(ay r.Versions d.At t known).1,(aV r no).Policy.Offices.length≤32:=fun no hno=>by
   obtain ⟨v,hvm,hve⟩:=j.mem no hno
   rw [yB no aV.K1 _ hv.inc v hvm hve |> fun h=>(show aV r no=v from h)]
   exact (hv.okV.2 v hvm).1.2
  constructor
  ·rintro ⟨⟨p,⟨no,hno,rfl⟩,l,⟨i,hi,rfl⟩,y,hy,rfl⟩,hx⟩
   have hi2:=List.mem_range.1 hi
   have h32:=hoff no hno
   refine ⟨⟨y,⟨no,hno,i,by omega,?_⟩,rfl⟩,hx⟩
   rw [w8 d1 (by omega) ht hk];exact hy
  ·rintro ⟨⟨y,⟨no,hno,i,hi,hy⟩,rfl⟩,hx⟩
   have h32:=hoff no hno
   rw [w8 d1 (by omega) ht hk] at hy
   exact ⟨⟨_,⟨no,hno,rfl⟩,_,⟨i,List.mem_range.2 (by omega),rfl⟩,y,hy,rfl⟩,hx⟩
def needLoopR (r:Register) (d:Document) (person t known:Int) (help:List Int):Option (List Int):=
 (List.range' 0 (help.length+1)).findSome? fun many=>(chooseR many help).find? fun s=>couldR r d (cd s person) t known
def neededR (r:Register) (doc person t known:Int):List Int×Bool×Int:=
 bif gJ r != 0 then ([],false,300)
 else bif (((decide (bq r doc < 0)||decide (person < 0))||decide (64≤person))||(!(bM t)))||(!(bM known)) then ([],false,1)
 else bif decide (12 < (((ba r (nthI r.Docs (bq r doc)) person t known).length:Nat):Int)) then ([],false,2)
 else match needLoopR r (nthI r.Docs (bq r doc)) person t known (ba r (nthI r.Docs (bq r doc)) person t known) with
  | some l=>(l,true,0)
  | none=>([],false,0)
theorem xM {α : Type} {p q:α→Bool}:∀ (l:List α),(∀ x∈l,p x=q x)→l.find? p=l.find? q
 | [],_=>rfl
 | x::l,h=>by
  rw [List.find?_cons,List.find?_cons,h x (List.mem_cons_self ..),xM l fun y hy=>h y (List.mem_cons_of_mem _ hy)]
theorem Eu {r:Register} {d:Document} {person t known:Int} (hj:eH r=0):∀ x∈az ⟨r,d,known⟩ person t,0≤x∧x < 64:=by
 by_cases ha:t < d.At
 ·have:az ⟨r,d,known⟩ person t=[]:=by
   unfold az
   rw [Bool.cond_eq_ite,if_pos (by simpa using ha)]
  rw [this]
  intro x hx;exact (List.not_mem_nil hx).elim
 ·intro x hx
  obtain ⟨⟨p,hpm,hl,hlm2,y,hy,e⟩,_⟩:=(zY ha x).1 hx
  rw [e]
  rw [nu] at hlm2
  obtain ⟨j,_,rfl⟩:=List.mem_map.1 hlm2
  exact AJ ((nz r).1 hj).1 y hy
theorem needLoop33 {r:Register} {d:Document} {person t known:Int} (hs:smR r) (hj:eH r=0) (hd:wn d) (hp:0≤person∧person < 64) (ht:0≤t∧t < 1099511627776) (hk:0≤known∧known < 1099511627776):
  needLoop (needC ⟨r,d,known⟩ person t) (az ⟨r,d,known⟩ person t)=needLoopR r d person t known (az ⟨r,d,known⟩ person t):=by
 obtain ⟨d1,d2,d3,d4,d5,d6,d7⟩:=(nz r).1 hj
 have hv:=(je r.Versions).1 d5
 have hpe:=Eu (d:=d) (person:=person) (t:=t) (known:=known) hj
 have hrise:=B4 ⟨r,d,known⟩ person t
 have hnot:=Iz ⟨r,d,known⟩ person t
 generalize az ⟨r,d,known⟩ person t=help at *
 unfold needLoop needLoopR
 congr 1
 funext many
 rw [xi,List.drop_zero]
 simp only [List.nil_append]
 rw [show (fun x:List Int=>x)=id from rfl,Option.map_id,id]
 refine xM _ fun s hs2=>?_
 have hsub:=AB _ _ _ hs2
 unfold needC
 rw [Dw (hrise.sublist hsub) fun h=>hnot (hsub.subset h)]
 refine Hj hs d1 d3 hv hd (fun x hx=>?_) ht hk
 rw [tz,nA] at hx
 rcases hx with rfl | hx
 ·exact hp
 ·exact hpe x (hsub.subset hx)
theorem needed33 {r:Register} (hs:smR r) (doc person t known:Int):dP r doc person t known=neededR r doc person t known:=by
 by_cases hj:eH r=0
 ·have h30:=(judge30 hs).1 hj
  unfold dP neededR
  rw [h30,hj,JP,show jp t=bM t from rfl]
  simp only [bne_self_eq_false,cond_false]
  have eb:((((!(!(decide (bq r doc < 0)||!(bM known))))||decide (person < 0))||decide (64≤person))||(!(bM t)))=((((decide (bq r doc < 0)||decide (person < 0))||decide (64≤person))||(!(bM t)))||(!(bM known))):=by
   cases decide (bq r doc < 0) <;> cases bM known <;> cases decide (person < 0) <;> cases decide (64≤person) <;> cases bM t <;> rfl
  rw [eb]
  cases ha:((((decide (bq r doc < 0)||decide (person < 0))||decide (64≤person))||(!(bM t)))||(!(bM known))) with
  | true=>rfl
  | false=>
   simp only [Bool.or_eq_false_iff,decide_eq_false_iff_not,Bool.not_eq_false'] at ha
   obtain ⟨⟨⟨⟨a1,a2⟩,a3⟩,a4⟩,a5⟩:=ha
   have ht:=(r20Time t).1 a4
   have hk:=(r20Time known).1 a5
   have hd:=wX ((nz r).1 hj).2.2.2.2.2.1 _ (vC (r:=r) (no:=doc) (by omega)).2.1
   rw [KP (by omega) hk]
   simp only [cond_false]
   rw [needLoop33 hs hj hd ⟨by omega,by omega⟩ ht hk,help33 hs hj hd ht hk]
   rfl
 ·have h30:gJ r≠0:=fun h=>hj ((judge30 hs).2 h)
  unfold dP neededR
  rw [show (eH r != 0)=true from by simp [hj],show (gJ r != 0)=true from by simp [h30]]
  rfl
theorem DC (b:List Int):∀ (l pre:List Int),b=pre++l→eT.L1 b true l pre.length=true
 | [],_,_=>rfl
 | y::l,pre,h=>by
  have hy:nthI b (pre.length:Int)=y:=iE (by rw [h];simp)
  have ih:=DC b l (pre++[y]) (by rw [h];simp)
  rw [List.length_append,List.length_cons,List.length_nil,Nat.zero_add] at ih
  have e:(y != y)=false:=by simp
  simp only [eT.L1,hy,e,cond_false]
  exact ih
theorem E4 (s:List Int):eT s s=true:=by
 unfold eT
 have e:((s.length:Int) != (s.length:Int))=false:=by simp
 rw [e]
 exact DC s s [] rfl
theorem wJ {r:Register} (hs:smR r) (doc person t known:Int):
  ((eT (dP r doc person t known).1 (neededR r doc person t known).1&&((dP r doc person t known).2.1==(neededR r doc person t known).2.1))&&((dP r doc person t known).2.2==(neededR r doc person t known).2.2))=true:=by
 rw [needed33 hs,E4,beq_self_eq_true,beq_self_eq_true];rfl
def nR (all:List Interest) (w:List dJ):Prop:=(w.map (·.To)).Nodup∧(∀ x∈w,x.To∈all.map (·.Party))∧∀ x∈w,x.gT.length≤8
theorem nR.nil {all:List Interest}:nR all []:=⟨List.nodup_nil,fun _ h=>(List.not_mem_nil h).elim,fun _ h=>(List.not_mem_nil h).elim⟩
theorem nR.len {all:List Interest} {w:List dJ} (h:nR all w):w.length≤all.length:=by
 have:=tv h.1 (b:=all.map (·.Party)) (fun t ht=>by obtain ⟨x,hx,rfl⟩:=List.mem_map.1 ht;exact h.2.1 x hx)
 simpa using this
theorem nR.put {all:List Interest} {w:List dJ} (h:nR all w) {x:dJ} (ht:x.To∈all.map (·.Party)) (hp:x.gT.length≤8):nR all (rwPut w x):=by
 unfold rwPut
 cases hb:w.any (fun w=>w.To==x.To) with
 | true=>exact h
 | false=>
  simp only [cond_false]
  refine ⟨?_,fun y hy=>?_,fun y hy=>?_⟩
  ·rw [List.map_append,List.nodup_append]
   refine ⟨h.1,by simp,fun a ha c hc e=>?_⟩
   obtain ⟨y,hy,rfl⟩:=List.mem_map.1 ha
   simp only [List.map_cons,List.map_nil,List.mem_singleton] at hc
   have:w.any (fun w=>w.To==x.To)=true:=List.any_eq_true.2 ⟨y,hy,by simp [e,hc]⟩
   rw [hb] at this;cases this
  ·rcases List.mem_append.1 hy with hy | hy
   ·exact h.2.1 y hy
   ·rw [List.mem_singleton.1 hy];exact ht
  ·rcases List.mem_append.1 hy with hy | hy
   ·exact h.2.2 y hy
   ·rw [List.mem_singleton.1 hy];exact hp
theorem DK (w:List dJ) (x:dJ):w.length≤(rwPut w x).length:=by
 unfold rwPut
 cases w.any (fun w=>w.To==x.To) <;> simp
theorem BD {w:List dJ} (x:dJ) {k:Nat} (hk:k < w.length):nthI (rwPut w x) (k:Int)=nthI w (k:Int):=by
 unfold rwPut
 cases w.any (fun w=>w.To==x.To) with
 | true=>rfl
 | false=>
  have h1:w[k]? = some w[k]:=List.getElem?_eq_getElem hk
  rw [iE h1]
  exact iE (by rw [cond_false,List.getElem?_append_left hk];exact h1)
theorem qF (l:List Interest) (t known:Int):cu l t known=standR l t known:=by
 have key:∀ (s g:List Interest),cu.L1 l t known cu.K1 s g=g++s.filter fun x=>eR l x t known:=by
  intro s
  induction s with
  | nil=>intro g;simp [cu.L1,cu.K1]
  | cons y s ih=>
   intro g
   simp only [cu.L1,List.filter_cons]
   cases eR l y t known with
   | true=>rw [cond_true,ih];simp
   | false=>rw [cond_false,ih];simp
 unfold cu standR
 rw [key,List.nil_append]
theorem AL (l:List Interest) (t known:Int):(cu l t known).length≤l.length:=by
 rw [qF];exact List.length_filter_le _ _
theorem BO {all:List Interest} {x:Interest} (h:x∈all):x.Party∈all.map (·.Party):=List.mem_map_of_mem h
theorem nR.at {all:List Interest} {w:List dJ} (h:nR all w) {k:Nat} (hk:k < w.length):(nthI w (k:Int)).gT.length≤8:=h.2.2 _ (fw ⟨by omega,by omega⟩)
theorem cL1 (who:Int) (k:List dJ→List Int×Bool×Int):∀ (s:List Interest) (g:List dJ),br.L1 who k s g=k (rwFill who s g)
 | [],g=>rfl
 | y::s,g=>by
  simp only [br.L1,rwFill,cL1 who k s]
  cases (!y.Of)&&(y.Person==who) <;> rfl
theorem cL3 (i:Nat) (k:List dJ→List Int×Bool×Int) (x:dJ):∀ (s:List Interest) (g:List dJ),i < g.length→nthI g (i:Int)=x→br.L3 i k s g=k (rwStep x.gT x.To s g)
 | [],g,_,_=>rfl
 | y::s,g,hi,hx=>by
  simp only [br.L3,rwStep,hx]
  rw [cL3 i k x s g hi hx,cL3 i k x s (rwPut g ⟨x.gT++[y.No],y.Party⟩) (Nat.lt_of_lt_of_le hi (DK _ _)) ((BD _ hi).trans hx)]
  cases y.Of&&(y.Person==x.To) <;> rfl
theorem cL2 (l:List Interest) (ps:List Int) (t known:Int):∀ (n i:Nat) (g:List dJ),br.L2 l ps t known br.K2 n i g=((rwLoop ps (standR l t known) n i g).1,(rwLoop ps (standR l t known) n i g).2,0)
 | 0,i,g=>rfl
 | n+1,i,g=>by
  simp only [br.L2,rwLoop]
  rcases Nat.lt_or_ge i g.length with hi | hi
  ·have h1:g[i]? = some g[i]:=List.getElem?_eq_getElem hi
   have h2:decide ((i:Int) < (g.length:Int))=true:=decide_eq_true (by omega)
   rw [h2,cond_true,iE h1,h1,cL3 i _ g[i] _ g hi (iE h1),cL2 l ps t known n (i+1) g,cL2 l ps t known n (i+1),qF]
   dsimp only
   cases iJ ps g[i].To with
   | true=>rfl
   | false=>cases ((g[i].gT.length:Nat):Int)==8 <;> rfl
  ·have h2:decide ((i:Int) < (g.length:Int))=false:=decide_eq_false (by omega)
   rw [h2,cond_false,List.getElem?_eq_none hi]
   rfl
theorem EP (l:List Interest) (who:Int) (ps:List Int) (t known:Int):br l who ps t known=conflictR l who ps t known:=by
 unfold br conflictR
 cases gK l who ps t known != 0 with
 | true=>rfl
 | false=>
  simp only [cond_false]
  rw [cL1,qF]
  exact cL2 l ps t known _ _ _
theorem free33 (r:Register) (d:Document) (who:List Int) (t known:Int):fp r d who t known=freeR r d who t known:=by
 have key:∀ (s g:List Int),fp.L1 r d t known fp.K1 s g=g++s.filter fun x=>!(conflictR r.Interests x d.Parties t known).2.1:=by
  intro s
  induction s with
  | nil=>intro g;simp [fp.L1,fp.K1]
  | cons y s ih=>
   intro g
   simp only [fp.L1,List.filter_cons,EP,ih]
   cases (conflictR r.Interests y d.Parties t known).2.1 <;> simp
 unfold fp freeR
 rw [key,List.nil_append]
theorem Fv (r:Register) (d:Document) (who:List Int) (t known:Int):(fp r d who t known).length≤who.length:=by
 rw [free33];exact List.length_filter_le _ _
theorem would33 (r:Register) (p:Policy) (d:Document) (who:List Int) (t known:Int):eS r p d who t known=wouldR r p d who t known:=by
 have key:∀ (s:List ByteArray) (i:Nat) (g:List (List Holder)) (k:List (List Holder)→Bool),eS.L1 r t known k s i g=k (g++(List.range' i s.length).map fun (j:Nat)=>(bu r.Appoints (j:Int) t known).1):=by
  intro s
  induction s with
  | nil=>intro i g k;simp [eS.L1]
  | cons y s ih=>
   intro i g k
   simp only [eS.L1,ih,List.length_cons,List.range'_succ,List.map_cons,List.append_assoc,List.cons_append,List.nil_append]
 unfold eS wouldR
 rw [key,List.nil_append]
 unfold eS.K1 holdR
 rw [free33,List.range_eq_range']
theorem could33 (r:Register) (d:Document) (who:List Int) (t known:Int):gm r d who t known=couldR r d who t known:=by
 have key:∀ (s:List Int) (g:List Bool) (k:List Bool→Bool),gm.L1 r d who t known k s g=k (g++s.map fun no=>wouldR r (aV r no).Policy d who t known):=by
  intro s
  induction s with
  | nil=>intro g k;simp [gm.L1]
  | cons y s ih=>
   intro g k
   simp only [gm.L1,would33,ih,List.map_cons,List.append_assoc,List.cons_append,List.nil_append]
 unfold gm couldR
 rw [key,List.nil_append]
 rfl
theorem Ei {r:Register} (g:o9 r.Versions) (no:Int):(aV r no).Policy.Rules.length=(aV r no).Policy.Kinds.length:=by
 unfold aV
 rcases ll no r.Versions aV.K1 with e | e
 ·rw [e];rfl
 ·exact (mA (g.each _ e).2.2.2).1
theorem Fb {r:Register} (h:okV r.Versions) (no:Int):∀ y∈(aV r no).Policy.Rules,0≤y.Think∧y.Think≤1099511627775:=by
 unfold aV
 rcases ll no r.Versions aV.K1 with e | e
 ·rw [e];intro y hy;exact (List.not_mem_nil hy).elim
 ·exact (h.2 _ e).2
structure KS (r:Register):Prop where
 vers:o9 r.Versions
 lens:r.Appoints.length≤100000∧r.Interests.length≤100000∧r.Versions.length≤256
 docs:∀ d∈r.Docs,wn d
theorem few9 {r:Register} (hs:smR r) (h:gJ r=0):KS r:=by
 obtain ⟨d1,d2,d3,d4,d5,d6,d7⟩:=(nz r).1 ((judge30 hs).2 h)
 have hv:=(je r.Versions).1 d5
 refine ⟨hv,⟨?_,?_,hv.len⟩,wX d6⟩
 ·unfold cn at d1
  rw [Bool.cond_eq_ite] at d1
  split at d1
  ·omega
  ·next hc=>simp only [decide_eq_true_eq] at hc;omega
 ·unfold bJ at d3
  rw [Bool.cond_eq_ite] at d3
  split at d3
  ·omega
  ·next hc=>simp only [decide_eq_true_eq] at hc;omega
theorem KS.doc {r:Register} (f:KS r) {i:Int} (hi:0≤i∧i < (r.Docs.length:Int)):(0≤(nthI r.Docs i).At∧(nthI r.Docs i).At≤1099511627776)∧0≤(nthI r.Docs i).Kind:=by
 have g:=f.docs _ (fw hi)
 exact ⟨⟨g.at_.1,Int.le_of_lt g.at_.2⟩,g.kind.1⟩
theorem chL3 (p:List Int) (i:Nat) (k:List (List Int)→List (List Int)):∀ (s g:List (List Int)),aU.L3 p i k s g=k (g++s.map (nthI p (i:Int)::·))
 | [],g=>by simp [aU.L3]
 | y::s,g=>by
  simp only [aU.L3,chL3 p i k s,List.map_cons,List.append_assoc,List.cons_append,List.nil_append]
theorem chL1 (rec:List Int→Int→List (List Int)) (p:List Int) (n:Int):∀ (s:List Nat) (i:Nat) (g:List (List Int)),aU.L1 rec p n aU.K1 s i g=g++(List.range' i s.length).flatMap fun j=>(rec (p.drop (j+1)) (n - 1)).map (nthI p (j:Int)::·)
 | [],i,g=>by simp [aU.L1,aU.K1]
 | y::s,i,g=>by
  have e:((((i+1):Nat):Int):Int).toNat=i+1:=by omega
  simp only [aU.L1,chL3,e,chL1 rec p n s,List.length_cons,List.range'_succ,List.flatMap_cons,List.append_assoc]
theorem chF (rec:List Int→Int→List (List Int)) (p:List Int) (n:Int):aU.F rec p n=bif n==0 then [[]] else (List.range (p.length+1 - n.toNat)).flatMap fun j=>(rec (p.drop (j+1)) (n - 1)).map (nthI p (j:Int)::·):=by
 unfold aU.F
 rw [chL1,List.nil_append,List.length_range,List.range_eq_range']
theorem Cl:∀ (m M:Nat) (p:List Int),m < M→aU.go M p (m:Int)=chooseR m p
 | m,0,p,h=>absurd h (Nat.not_lt_zero _)
 | 0,M+1,p,_=>by
  show aU.F (aU.go M) p ((0:Nat):Int)=_
  rw [chF];rfl
 | m+1,M+1,p,h=>by
  show aU.F (aU.go M) p (((m+1:Nat)):Int)=_
  have e:((((m+1:Nat)):Int)==0)=false:=by simp;omega
  have e2:((((m+1:Nat)):Int)).toNat=m+1:=by omega
  have e3:(((m+1:Nat)):Int) - 1=(m:Int):=by omega
  rw [chF,e,cond_false,e2,e3,show p.length+1 - (m+1)=p.length - m from by omega]
  simp only [chooseR]
  congr 1
  funext j
  rw [Cl m M _ (by omega)]
theorem Hk (p:List Int) (m:Nat):aU p (m:Int)=chooseR m p:=by
 unfold aU
 exact Cl m _ p (by omega)
theorem yD:∀ (M:Nat) (p:List Int) (n:Int),0≤n→(∀ s∈aU.go M p n,s.length≤p.length)∧(aU.go M p n).length≤2 ^ p.length
 | 0,p,n,_=>⟨fun s hs=>(List.not_mem_nil hs).elim,Nat.zero_le _⟩
 | M+1,p,n,hn=>by
  show (∀ s∈aU.F (aU.go M) p n,s.length≤p.length)∧(aU.F (aU.go M) p n).length≤2 ^ p.length
  rw [chF]
  cases h0:n==0 with
  | true=>
   simp only [cond_true]
   exact ⟨fun s hs=>by rw [List.mem_singleton.1 hs];exact Nat.zero_le _,Nat.one_le_two_pow⟩
  | false=>
   have h0:n≠0:=by simpa using h0
   simp only [cond_false]
   have key:∀ (N:Nat),N≤p.length→((List.range N).flatMap fun i=>(aU.go M (p.drop (i+1)) (n - 1)).map (nthI p (i:Int)::·)).length+2 ^ (p.length - N)≤2 ^ p.length:=by
    intro N hN
    induction N with
    | zero=>simp
    | succ N ih=>
     have ih:=ih (by omega)
     rw [List.range_succ,List.flatMap_append,List.length_append]
     simp only [List.flatMap_cons,List.flatMap_nil,List.append_nil,List.length_map]
     have h1:=(yD M (p.drop (N+1)) (n - 1) (by omega)).2
     rw [List.length_drop] at h1
     have h2:2 ^ (p.length - N)=2 ^ (p.length - (N+1))+2 ^ (p.length - (N+1)):=by
      rw [show p.length - N=(p.length - (N+1))+1 from by omega,Nat.pow_succ];omega
     omega
   refine ⟨fun s hs=>?_,Nat.le_trans (Nat.le_add_right _ _) (key _ (by omega))⟩
   obtain ⟨i,hi,hs⟩:=List.mem_flatMap.1 hs
   obtain ⟨s',hs',rfl⟩:=List.mem_map.1 hs
   have h1:=(yD M (p.drop (i+1)) (n - 1) (by omega)).1 s' hs'
   rw [List.length_drop] at h1
   have:=List.mem_range.1 hi
   simp only [List.length_cons]
   omega
theorem xR (m:Nat) (p:List Int) (n:Int) (hn:0≤n) (hp:p.length≤12):(∀ s∈aU.go m p n,s.length≤12)∧(aU.go m p n).length≤4096:=
 ⟨fun s hs=>Nat.le_trans ((yD m p n hn).1 s hs) hp,Nat.le_trans (yD m p n hn).2 (Nat.le_trans (Nat.pow_le_pow_right (by decide) hp) (by decide))⟩
theorem Hl {p:List Int} {n:Int} (hn:0≤n) (hp:p.length≤12):(∀ s∈aU p n,s.length≤12)∧(aU p n).length≤4096:=xR _ p n hn hp
theorem ndL3 (r:Register) (doc person t known:Int) (k:List Int×Bool×Int):∀ s:List (List Int),cg.L3 r doc person t known k s=match s.find? fun x=>couldR r (nthI r.Docs (bq r doc)) (cd x person) t known with
  | some l=>(l,true,0)
  | none=>k
 | []=>rfl
 | y::s=>by
  simp only [cg.L3,could33,List.find?_cons,ndL3 r doc person t known k s]
  cases couldR r (nthI r.Docs (bq r doc)) (cd y person) t known <;> rfl
theorem ndL1 (r:Register) (doc person t known:Int):∀ (s:List Nat) (i:Nat),cg.L1 r doc person t known cg.K1 s i=match (List.range' i s.length).findSome? fun many=>(chooseR many (ba r (nthI r.Docs (bq r doc)) person t known)).find? fun x=>couldR r (nthI r.Docs (bq r doc)) (cd x person) t known with
  | some l=>(l,true,0)
  | none=>([],false,0)
 | [],i=>rfl
 | y::s,i=>by
  simp only [cg.L1,ndL3,Hk,ndL1 r doc person t known s,List.length_cons,List.range'_succ,List.findSome?_cons]
  cases (chooseR i (ba r (nthI r.Docs (bq r doc)) person t known)).find? fun x=>couldR r (nthI r.Docs (bq r doc)) (cd x person) t known <;> rfl
theorem Fd (r:Register) (doc person t known:Int):cg r doc person t known=neededR r doc person t known:=by
 unfold cg neededR needLoopR
 rw [ndL1,List.length_range] <;> rfl
theorem neededSpec_true {r:Register} (hs:smR r) (doc person t known:Int):jb r doc person t known=true:=by
 unfold jb
 rw [GN,Fd]
 simp only [Bool.not_true,cond_false]
 cases (!(jL r))||(!(kT r doc person t known)) with
 | true=>rfl
 | false=>exact wJ hs doc person t known
end Go.Sg
namespace Go.Sg
section
variable {P:Program} {b:Frame} {n:Nat} {k:List Item} {F:List Frame→(Machine→Prop)→Prop} {e:Env} {ds:List Deferred} {X:Cx} {h:HF} {L:LH}
variable {ops:Array Oper} {l:List Oper} {d:Nat} {ty:TypeId} {pos:String} {af:Array Edge} {g:Option (Nat×Bool)}
def memN:List Nat→Nat→Bool
 | [],_=>false
 | a::l,s=>bif Nat.beq s a then true else memN l s
def mix (S:List Nat) (e' e:Env):Env:=fun s=>bif memN S s then e' s else e s
def subN:List Nat→List Nat→Bool
 | [],_=>true
 | a::l,S=>memN S a&&subN l S
def Agr (S:List Nat) (e e':Env):Prop:=∀ s,memN S s=false→e' s=e s
theorem s6 {S:List Nat} {e:Env}:Agr S e e:=fun _ _=>rfl
theorem wj {S:List Nat} {e e':Env} {d:Nat} {w:Value} (hd:memN S d=true) (h:Agr S e e'):Agr S e (upd e' d w):=fun s hs=>by
 unfold upd
 cases hb:Nat.beq s d with
 | true=>rw [Nat.eq_of_beq_eq_true hb,hd] at hs;cases hs
 | false=>exact h s hs
theorem Iu {S T:List Nat} (h:subN T S=true) {s:Nat} (hs:memN S s=false):memN T s=false:=by
 induction T with
 | nil=>rfl
 | cons a T ih=>
  simp only [subN,Bool.and_eq_true] at h
  simp only [memN]
  cases hb:Nat.beq s a with
  | true=>rw [Nat.eq_of_beq_eq_true hb,h.1] at hs;cases hs
  | false=>exact ih h.2
theorem wk {S T:List Nat} {e e' e2:Env} (hT:subN T S=true) (h:Agr S e e'):Agr S e (mix T e2 e'):=fun s hs=>by
 unfold mix
 rw [Iu hT hs];exact h s hs
theorem FZ (m:Nat) (S:List Nat) (d:Nat) (v:Value)
  (t':(∀ e',e' d=v→(ha:Agr S e e':=by repeat (first | exact s6 | refine wj rfl ?_ | refine wk rfl ?_))→TO P b n ops (l.drop m) k F e' ds X h L)→TO P b n ops l k F e ds X h L)
  (hk:∀ e'',TO P b n ops (l.drop m) k F (upd (mix S e'' e) d v) ds X h L):TO P b n ops l k F e ds X h L:=
 t' fun e' hv ha=>by
  have e1:upd (mix S e' e) d v=e':=funext fun s=>by
   unfold upd
   cases hb:Nat.beq s d with
   | true=>rw [Nat.eq_of_beq_eq_true hb];exact hv.symm
   | false=>
    show mix S e' e s=e' s
    unfold mix
    cases hm:memN S s with
    | true=>rfl
    | false=>exact (ha s hm).symm
  have:=hk e'
  rw [e1] at this
  exact this
theorem ac {α : Type} {x y z:α} {c:Bool} {o:Operand} {p q:Code} (hs:x=bif c then y else z) (hx:e.ev o=.bool c)
  (t1:c=true→x=y→TT P b n (.code p::k) F e ds X h L) (t2:c=false→x=z→TT P b n (.code q::k) F e ds X h L):TT P b n (.code (.cond o p q)::k) F e ds X h L:=
 j7 hx (fun e'=>t1 e' (hs.trans (by rw [e'];rfl))) (fun e'=>t2 e' (hs.trans (by rw [e'];rfl)))
end
end Go.Sg
namespace Go.Sg
inductive Qs
 | tt (k:List Item) (e:Env)
 | to (ops:Array Oper) (l:List Oper) (k:List Item) (e:Env)
@[reducible] def Qs.holds (P:Program) (b:Frame) (n:Nat) (F:List Frame→(Machine→Prop)→Prop) (ds:List Deferred) (X:Cx) (h:HF) (L:LH):Qs→Prop
 | .tt k e=>TT P b n k F e ds X h L
 | .to ops l k e=>TO P b n ops l k F e ds X h L
def opQ (e:Env):Op→Option Value
 | .move x=>some (e.ev x)
 | .assign x=>some (e.ev x)
 | .pick c x y=>match e.ev c with
  | .bool s=>some (bif s then e.ev x else e.ev y)
  | _=>none
 | .extract x i=>match e.ev x with
  | .tuple ⟨vs⟩=>nth vs i
  | _=>none
 | .unOp .not _ x=>match e.ev x with
  | .bool s=>some (.bool !s)
  | _=>none
 | .binOp op _ x y _=>binV op (e.ev x) (e.ev y)
 | _=>none
def qstepO (n:Nat) (ops:Array Oper) (l:List Oper) (k:List Item) (e:Env):Option Qs:=
 match l with
 | []=>some (.tt k e)
 | ⟨some d,op,ty,pos,af,g⟩::l=>
  match Nat.blt d n with
  | false=>none
  | true=>match guardB ops e ⟨some d,op,ty,pos,af,g⟩ with
   | false=>some (.to ops l k (upd e d undef))
   | true=>match opQ e op with
    | some v=>some (.to ops l k (upd e d v))
    | none=>none
 | _=>none
def qstepT (k:List Item) (e:Env):Option Qs:=
 match k with
 | .code .skip::k=>some (.tt k e)
 | .code (.seq x y)::k=>some (.tt (.code x::.code y::k) e)
 | .code (.block id c)::k=>some (.tt (.code c::.inBlock id::k) e)
 | .inBlock _::k=>some (.tt k e)
 | .code (.exit id)::k=>match exitTo id k with
  | some k'=>some (.tt k' e)
  | none=>none
 | .code (.cond c x y)::k=>match e.ev c with
  | .bool true=>some (.tt (.code x::k) e)
  | .bool false=>some (.tt (.code y::k) e)
  | _=>none
 | .code (.region _ ⟨l⟩ false)::k=>some (.to ⟨l⟩ l k e)
 | _=>none
def runQ (n:Nat):Nat→Qs→Option Qs
 | 0,s=>some s
 | m+1,.tt k e=>match qstepT k e with
  | some s=>runQ n m s
  | none=>none
 | m+1,.to ops l k e=>match qstepO n ops l k e with
  | some s=>runQ n m s
  | none=>none
section
variable {P:Program} {b:Frame} {n:Nat} {k:List Item} {F:List Frame→(Machine→Prop)→Prop} {e:Env} {ds:List Deferred} {X:Cx} {h:HF} {L:LH}
theorem CR {op:Op} {v:Value} (hv:opQ e op=some v):noDefer op=true∧∀ (d:Option Nat) (ty:TypeId) (pos:String) (af:Array Edge) (g:Option (Nat×Bool)) w,(execOp e.ev ⟨d,op,ty,pos,af,g⟩).run P w=.ok (.value v) w:=by
 unfold opQ at hv
 split at hv
 ·cases hv;exact ⟨rfl,fun _ _ _ _ _ w=>by simp [execOp]⟩
 ·cases hv;exact ⟨rfl,fun _ _ _ _ _ w=>by simp [execOp]⟩
 ·split at hv
  ·next s hc=>cases hv;exact ⟨rfl,fun _ _ _ _ _ w=>by cases s <;> simp [execOp,hc,asBool]⟩
  ·cases hv
 ·split at hv
  ·next vs hx=>exact ⟨rfl,fun _ _ _ _ _ w=>by rw [gv] at hv;simp [execOp,hx,Instr.extract,hv]⟩
  ·cases hv
 ·split at hv
  ·next s hx=>cases hv;exact ⟨rfl,fun _ _ _ _ _ w=>by simp [execOp,hx,Op.unary]⟩
  ·cases hv
 ·next op t x y u=>
  exact ⟨rfl,fun _ _ _ _ _ w=>by
   have:=zb (P:=P) (t:=t) (x:=x) (y:=y) hv w
   simp only [execOp,Sem.run_bind] at this ⊢
   simp [this]⟩
 ·cases hv
theorem GU {ops:Array Oper} {l:List Oper} {s:Qs} (hs:qstepO n ops l k e=some s) (t:s.holds P b n F ds X h L):TO P b n ops l k F e ds X h L:=by
 unfold qstepO at hs
 split at hs
 ·cases hs;exact aM t
 ·split at hs
  ·cases hs
  ·next hd=>
   split at hs
   ·next hg=>cases hs;exact CT t hd hg
   ·next hg=>
    split at hs
    ·next v hv=>
     cases hs
     obtain ⟨h1,h2⟩:=CR (P:=P) hv
     exact pz v h1 (fun w _=>h2 _ _ _ _ _ w) hd hg t
    ·cases hs
 ·cases hs
theorem BH {s:Qs} (hs:qstepT k e=some s) (t:s.holds P b n F ds X h L):TT P b n k F e ds X h L:=by
 unfold qstepT at hs
 split at hs
 ·cases hs;exact aE t
 ·cases hs;exact dz t
 ·cases hs;exact lW t
 ·cases hs;exact dY t
 ·split at hs
  ·next hx=>cases hs;exact j6 hx t
  ·cases hs
 ·split at hs
  ·next hc=>cases hs;exact lV hc t
  ·next hc=>cases hs;exact lh hc t
  ·cases hs
 ·cases hs;exact bn t
 ·cases hs
theorem yy:∀ (m:Nat) (a:Qs) {s:Qs},runQ n m a=some s→s.holds P b n F ds X h L→a.holds P b n F ds X h L
 | 0,_,_,hr,t=>by cases hr;exact t
 | m+1,.tt k e,s,hr,t=>by
  unfold runQ at hr
  split at hr
  ·next s' hs=>exact BH hs (yy m s' hr t)
  ·cases hr
 | m+1,.to ops l k e,s,hr,t=>by
  unfold runQ at hr
  split at hr
  ·next s' hs=>exact GU hs (yy m s' hr t)
  ·cases hr
theorem qT (m:Nat) {s:Qs} (hr:runQ n m (.tt k e)=some s) (t:s.holds P b n F ds X h L):TT P b n k F e ds X h L:=yy m (.tt k e) hr t
theorem qO {ops:Array Oper} {l:List Oper} (m:Nat) {s:Qs} (hr:runQ n m (.to ops l k e)=some s) (t:s.holds P b n F ds X h L):TO P b n ops l k F e ds X h L:=yy m (.to ops l k e) hr t
end
end Go.Sg
namespace Go.Sg
section
variable {P:Program} {b:Frame} {n:Nat} {k:List Item} {F:List Frame→(Machine→Prop)→Prop} {e:Env} {ds:List Deferred} {X:Cx} {h:HF} {L:LH}
theorem rds {p:Prop} (h:p:=by repeat (first | exact trivial | refine ⟨rfl,?_⟩)):p:=h
theorem sws {p:Prop} (h:p:=by first | exact fun w hw=>hw | (intro w hw;first | simpa only [List.append_assoc,List.cons_append,List.nil_append,List.append_nil] using hw | (simp only [List.append_assoc,List.cons_append,List.nil_append,List.append_nil] at hw ⊢;exact hw))):p:=h
theorem ndA {p:Prop} (h:p:=by (intro i g hd hf hx e;refine dz (bn (ad (v':=.bool false) rfl (congrArg Value.bool hf) (aM (dz (lh rfl (j6 rfl (hx _ ?_)))))));exact rds)):p:=h
theorem ndB {p:Prop} (h:p:=by (intro i hd hf hx e;refine dz (bn (ad (v':=.bool false) rfl (congrArg Value.bool hf) (aM (dz (lh rfl (j6 rfl (hx _ ?_)))))));exact rds)):p:=h
theorem lpG {α γ ρ : Type} {id:Nat} {c:Code} {x0:ρ} (xs:List α) (sl:Nat→γ→List (Nat×Value)) (hh:γ→HF) (LL:γ→LH) (J:Nat→γ→Prop) (Lf:List α→Nat→γ→ρ) (g0:γ) (hb:xs.length≤9223372036854775807)
  (hs:x0=Lf xs 0 g0) (hJ:J 0 g0) (h0:jg e (sl 0 g0)) (hw:∀ w,St X h L w→St X (hh g0) (LL g0) w)
  (after:∀ i g,i≤xs.length→x0=Lf [] i g→J i g→∀ e',TT P b n k F (upds e' (sl i g)) ds X (hh g) (LL g))
  (cons:∀ i g y r,xs.drop i=y::r→decide ((i:Int) < (xs.length:Int))=true→xs[i]? = some y→i < xs.length→xs.length≤9223372036854775807→x0=Lf (y::r) i g→J i g →
   (∀ i' g' {e'},x0=Lf [] i' g'→J i' g'→i'≤xs.length→jg e' (sl i' g')→TT P b n k F e' ds X (hh g') (LL g')) →
   (∀ g' {e'},x0=Lf r (i+1) g'→J (i+1) g'→jg e' (sl (i+1) g')→TT P b n (.inLoop c::.inBlock id::k) F e' ds X (hh g') (LL g')) →
   ∀ e',TT P b n (.code c::.inLoop c::.inBlock id::k) F (upds e' (sl i g)) ds X (hh g) (LL g))
  (nil:∀ i g,xs.drop i=[]→decide ((i:Int) < (xs.length:Int))=false→(∀ e',jg e' (sl i g)→TT P b n k F e' ds X (hh g) (LL g)) →
   ∀ e',TT P b n (.code c::.inLoop c::.inBlock id::k) F (upds e' (sl i g)) ds X (hh g) (LL g)):
  TT P b n (.code (.block id (.loop c))::k) F e ds X h L:=by
 refine iH (ι:=Nat×γ) (fun i=>sl i.1 i.2) (fun i=>hh i.2) (fun i=>LL i.2) (fun i=>i.1≤xs.length∧x0=Lf [] i.1 i.2∧J i.1 i.2) ?_ (fun hx=>?_)
 ·rintro ⟨i,g⟩ ⟨h1,h2,h3⟩ e'
  exact after i g h1 h2 h3 e'
 ·refine j5 (ι:=Nat×γ×List α) (fun i=>sl i.1 i.2.1) (fun i=>hh i.2.1) (fun i=>LL i.2.1) (fun i=>xs.drop i.1=i.2.2∧i.1≤xs.length∧x0=Lf i.2.2 i.1 i.2.1∧J i.1 i.2.1) (fun i=>i.2.2.length) (0,g0,xs) h0 hw ⟨rfl,Nat.zero_le _,hs,hJ⟩ ?_
  rintro ⟨i,g,s⟩ ⟨hd,hi,hs,hJ⟩ ag e'
  dsimp only at hd hi hs hJ
  rcases s with _ | ⟨y,r⟩
  ·exact nil i g hd (nN hd) (fun e'' hr=>hx (i,g) e'' ⟨hi,hs,hJ⟩ hr) e'
  ·exact cons i g y r hd (uo hd) (u0 hd) (iY hd) hb hs hJ (fun i' g' e'' a b c d=>hx (i',g') e'' ⟨c,a,b⟩ d)
    (fun g' e'' a b hr=>ag (i+1,g',r) e'' (Nat.lt_succ_self _) ⟨lL hd,iY hd,a,b⟩ hr) e'
theorem lp2 {α γ ρ : Type} {id:Nat} {c:Code} {x0:ρ} (xs:List α) (sl:Nat→γ→List (Nat×Value)) (hh:γ→HF) (LL:γ→LH) (J:Nat→γ→Prop) (Lf:List α→Nat→γ→ρ) (g0:γ) (hb:xs.length≤9223372036854775807)
  (hs:x0=Lf xs 0 g0) (hJ:J 0 g0)
  (after:∀ i g,i≤xs.length→x0=Lf [] i g→J i g→∀ e',TT P b n k F (upds e' (sl i g)) ds X (hh g) (LL g))
  (cons:∀ i g y r,xs.drop i=y::r→decide ((i:Int) < (xs.length:Int))=true→xs[i]? = some y→i < xs.length→xs.length≤9223372036854775807→x0=Lf (y::r) i g→J i g →
   (∀ i' g' {e'},x0=Lf [] i' g'→J i' g'→(hi:i'≤xs.length:=by omega)→(hr:jg e' (sl i' g'):=by exact rds)→TT P b n k F e' ds X (hh g') (LL g')) →
   (∀ g' {e'},x0=Lf r (i+1) g'→J (i+1) g'→(hr:jg e' (sl (i+1) g'):=by exact rds)→TT P b n (.inLoop c::.inBlock id::k) F e' ds X (hh g') (LL g')) →
   ∀ e',TT P b n (.code c::.inLoop c::.inBlock id::k) F (upds e' (sl i g)) ds X (hh g) (LL g))
  (nil:∀ i g,xs.drop i=[]→decide ((i:Int) < (xs.length:Int))=false→(∀ e',jg e' (sl i g)→TT P b n k F e' ds X (hh g) (LL g)) →
   ∀ e',TT P b n (.code c::.inLoop c::.inBlock id::k) F (upds e' (sl i g)) ds X (hh g) (LL g):=by exact ndA)
  (h0:jg e (sl 0 g0):=by exact rds)
  (hw:∀ w,St X h L w→St X (hh g0) (LL g0) w:=by exact sws):
  TT P b n (.code (.block id (.loop c))::k) F e ds X h L:=
 lpG xs sl hh LL J Lf g0 hb hs hJ h0 hw after cons nil
theorem lp1 {α γ ρ : Type} {id:Nat} {c:Code} {x0:ρ} (xs:List α) (sl:Nat→γ→List (Nat×Value)) (L':LH) (Lf:List α→Nat→γ→ρ) (g0:γ) (hb:xs.length≤9223372036854775807) (hs:x0=Lf xs 0 g0)
  (after:∀ i g,i≤xs.length→x0=Lf [] i g→∀ e',TT P b n k F (upds e' (sl i g)) ds X h L')
  (cons:∀ i g y r,xs.drop i=y::r→decide ((i:Int) < (xs.length:Int))=true→xs[i]? = some y→i < xs.length→xs.length≤9223372036854775807→x0=Lf (y::r) i g →
   (∀ i' g' {e'},x0=Lf [] i' g'→(hi:i'≤xs.length:=by omega)→(hr:jg e' (sl i' g'):=by exact rds)→TT P b n k F e' ds X h L') →
   (∀ g' {e'},x0=Lf r (i+1) g'→(hr:jg e' (sl (i+1) g'):=by exact rds)→TT P b n (.inLoop c::.inBlock id::k) F e' ds X h L') →
   ∀ e',TT P b n (.code c::.inLoop c::.inBlock id::k) F (upds e' (sl i g)) ds X h L')
  (nil:∀ i g,xs.drop i=[]→decide ((i:Int) < (xs.length:Int))=false→(∀ e',jg e' (sl i g)→TT P b n k F e' ds X h L') →
   ∀ e',TT P b n (.code c::.inLoop c::.inBlock id::k) F (upds e' (sl i g)) ds X h L':=by exact ndA)
  (h0:jg e (sl 0 g0):=by exact rds)
  (hw:∀ w,St X h L w→St X h L' w:=by exact sws):
  TT P b n (.code (.block id (.loop c))::k) F e ds X h L:=
 lpG xs sl (fun _=>h) (fun _=>L') (fun _ _=>True) Lf g0 hb hs trivial h0 hw (fun i g a b _=>after i g a b) (fun i g y r a1 a2 a3 a4 a5 a6 _ hx ag=>cons i g y r a1 a2 a3 a4 a5 a6 (fun i' g' _ a hi hr=>hx i' g' a trivial hi hr) (fun g' _ a hr=>ag g' a trivial hr)) nil
theorem lp0 {α ρ : Type} {id:Nat} {c:Code} {x0:ρ} (xs:List α) (sl:Nat→List (Nat×Value)) (L':LH) (Lf:List α→Nat→ρ) (hb:xs.length≤9223372036854775807) (hs:x0=Lf xs 0)
  (after:∀ i,i≤xs.length→x0=Lf [] i→∀ e',TT P b n k F (upds e' (sl i)) ds X h L')
  (cons:∀ i y r,xs.drop i=y::r→decide ((i:Int) < (xs.length:Int))=true→xs[i]? = some y→i < xs.length→xs.length≤9223372036854775807→x0=Lf (y::r) i →
   (∀ i' {e'},x0=Lf [] i'→(hi:i'≤xs.length:=by omega)→(hr:jg e' (sl i'):=by exact rds)→TT P b n k F e' ds X h L') →
   (∀ {e'},x0=Lf r (i+1)→(hr:jg e' (sl (i+1)):=by exact rds)→TT P b n (.inLoop c::.inBlock id::k) F e' ds X h L') →
   ∀ e',TT P b n (.code c::.inLoop c::.inBlock id::k) F (upds e' (sl i)) ds X h L')
  (nil:∀ i,xs.drop i=[]→decide ((i:Int) < (xs.length:Int))=false→(∀ e',jg e' (sl i)→TT P b n k F e' ds X h L') →
   ∀ e',TT P b n (.code c::.inLoop c::.inBlock id::k) F (upds e' (sl i)) ds X h L':=by exact ndB)
  (h0:jg e (sl 0):=by exact rds)
  (hw:∀ w,St X h L w→St X h L' w:=by exact sws):
  TT P b n (.code (.block id (.loop c))::k) F e ds X h L:=
 lpG (γ:=Unit) xs (fun i _=>sl i) (fun _=>h) (fun _=>L') (fun _ _=>True) (fun l i _=>Lf l i) () hb hs trivial h0 hw (fun i _ a b _=>after i a b) (fun i _ y r a1 a2 a3 a4 a5 a6 _ hx ag=>cons i y r a1 a2 a3 a4 a5 a6 (fun i' _ a hi hr=>hx i' () a trivial hi hr) (fun a hr=>ag () a trivial hr)) (fun i _=>nil i)
theorem ce {ops:Array Oper} {l:List Oper} (m:Nat) (S:List Nat) (s d:Nat) (y:Bool) {x:Bool} (hx:e s=.bool x)
  (t':x=false→(∀ e',e' d=.bool y→(ha:Agr S e e':=by repeat (first | exact s6 | refine wj rfl ?_ | refine wk rfl ?_))→TO P b n ops (l.drop m) k F e' ds X h L)→TO P b n ops l k F (upd e s (.bool false)) ds X h L)
  (hk:∀ e'',TO P b n ops (l.drop m) k F (upd (mix S e'' e) d (.bool (x||y))) ds X h L) 
  (hq:∃ e2,runQ n m (.to ops l k (upd e s (.bool true)))=some (.to ops (l.drop m) k e2)∧e2 d=.bool true∧Agr S e e2:=by exact ⟨_,rfl,rfl,by repeat (first | exact s6 | refine wj rfl ?_ | refine wk rfl ?_)⟩):TO P b n ops l k F e ds X h L:=by
 refine FZ m S d (.bool (x||y)) (fun hj=>?_) hk
 refine mH s hx (fun c=>?_) (fun c=>t' c (fun e' he ha=>hj e' (he.trans (by rw [c];rfl)) ha))
 obtain ⟨e2,h1,h2,h3⟩:=hq
 exact qO m h1 (hj e2 (h2.trans (by rw [c];rfl)) h3)
theorem bx {ops:Array Oper} {l:List Oper} (m:Nat) (S:List Nat) (s d:Nat) (y:Bool) {x:Bool} (hx:e s=.bool x)
  (t':x=true→(∀ e',e' d=.bool y→(ha:Agr S e e':=by repeat (first | exact s6 | refine wj rfl ?_ | refine wk rfl ?_))→TO P b n ops (l.drop m) k F e' ds X h L)→TO P b n ops l k F (upd e s (.bool true)) ds X h L)
  (hk:∀ e'',TO P b n ops (l.drop m) k F (upd (mix S e'' e) d (.bool (x&&y))) ds X h L)
  (hq:∃ e2,runQ n m (.to ops l k (upd e s (.bool false)))=some (.to ops (l.drop m) k e2)∧e2 d=.bool false∧Agr S e e2:=by exact ⟨_,rfl,rfl,by repeat (first | exact s6 | refine wj rfl ?_ | refine wk rfl ?_)⟩):TO P b n ops l k F e ds X h L:=by
 refine FZ m S d (.bool (x&&y)) (fun hj=>?_) hk
 refine mH s hx (fun c=>t' c (fun e' he ha=>hj e' (he.trans (by rw [c];rfl)) ha)) (fun c=>?_)
 obtain ⟨e2,h1,h2,h3⟩:=hq
 exact qO m h1 (hj e2 (h2.trans (by rw [c];rfl)) h3)
end
def look3:List (Nat×Nat×Nat)→Nat→Nat→Option Nat
 | [],_,_=>none
 | (a,b,c)::l,s,i=>bif Nat.beq a s&&Nat.beq b i then some c else look3 l s i
def tabOk (P:Program) (tF:List (Nat×Nat×Nat)) (tY tS:List Nat):Bool:=
 tF.all (fun x=>fldOf P x.1 x.2.1==some x.2.2)&&tY.all (fun t=>tySz P t==some (1,false))&&tS.all (fun t=>match P.underlying t with | some (.slice _)=>true | _=>false)
def JT:List (Nat×Nat)→Prop
 | []=>True
 | (a,b)::q=>a=b∧JT q
def runL (tF:List (Nat×Nat×Nat)) (tY tS:List Nat) (n:Nat) (L:LH):Nat→List Nat→Qs→Option (Qs×List (Nat×Nat))
 | 0,_,s=>some (s,[])
 | m+1,is,.tt k e=>match qstepT k e with
  | some s=>runL tF tY tS n L m is s
  | none=>none
 | m+1,is,.to ops [] k e=>runL tF tY tS n L m is (.tt k e)
 | m+1,is,.to ops (⟨some d,op,ty,pos,af,g⟩::l) k e=>match Nat.blt d n with
  | false=>none
  | true=>match guardB ops e ⟨some d,op,ty,pos,af,g⟩ with
   | false=>runL tF tY tS n L m is (.to ops l k (upd e d undef))
   | true=>match op with
    | .fieldAddr s x i=>match e.ev x,look3 tF s i with
     | .pointer (some a),some off=>runL tF tY tS n L m is (.to ops l k (upd e d (.pointer (some (a.add off)))))
     | _,_=>none
    | .load t x=>match e.ev x,is with
     | .pointer (some ⟨bk,off,none⟩),i::is=>match nth L i with
      | some (bk',.cells ⟨cl⟩ _ _)=>match nth cl off,memN tY t with
       | some v,true=>match runL tF tY tS n L m is (.to ops l k (upd e d v)) with
        | some (s,q)=>some (s,(bk,bk')::q)
        | none=>none
       | _,_=>none
      | _=>none
     | _,_=>none
    | .call ⟨.builtin .len,⟨[x]⟩,⟨[t]⟩⟩=>match e.ev x,memN tS t with
     | .slice _ m' _,true=>runL tF tY tS n L m is (.to ops l k (upd e d (.int .i64 (m':Int))))
     | _,_=>none
    | op=>match opQ e op with
     | some v=>runL tF tY tS n L m is (.to ops l k (upd e d v))
     | none=>none
 | _+1,_,.to _ _ _ _=>none
theorem zL:∀ {l:List Nat} {a:Nat},memN l a=true→a∈l
 | [],_,h=>by cases h
 | b::l,a,h=>by
  unfold memN at h
  cases hb:Nat.beq a b with
  | true=>rw [Nat.eq_of_beq_eq_true hb];exact List.mem_cons_self ..
  | false=>rw [hb] at h;exact List.mem_cons_of_mem _ (zL h)
theorem wK:∀ {l:List (Nat×Nat×Nat)} {s i o:Nat},look3 l s i=some o→(s,i,o)∈l
 | [],_,_,_,h=>by cases h
 | (a,b,c)::l,s,i,o,h=>by
  unfold look3 at h
  cases hb:Nat.beq a s&&Nat.beq b i with
  | true=>
   rw [hb] at h;cases h
   simp only [Bool.and_eq_true] at hb
   rw [Nat.eq_of_beq_eq_true hb.1,Nat.eq_of_beq_eq_true hb.2];exact List.mem_cons_self ..
  | false=>rw [hb] at h;exact List.mem_cons_of_mem _ (wK h)
section
variable {P:Program} {b:Frame} {n:Nat} {k:List Item} {F:List Frame→(Machine→Prop)→Prop} {e:Env} {ds:List Deferred} {X:Cx} {h:HF} {L:LH}
theorem nV {tF:List (Nat×Nat×Nat)} {tY tS:List Nat} (hT:tabOk P tF tY tS=true):∀ (m:Nat) (is:List Nat) (a:Qs) {s:Qs} {q:List (Nat×Nat)},runL tF tY tS n L m is a=some (s,q)→JT q→s.holds P b n F ds X h L→a.holds P b n F ds X h L
 | 0,is,a,s,q,hr,hq,t=>by
  simp only [runL,Option.some.injEq,Prod.mk.injEq] at hr;rw [hr.1];exact t
 | m+1,is,.tt k e,s,q,hr,hq,t=>by
  unfold runL at hr
  split at hr
  ·next hs=>exact BH hs (nV hT m _ _ hr hq t)
  ·cases hr
 | m+1,is,.to ops [] k e,s,q,hr,hq,t=>by
  unfold runL at hr
  exact aM (nV hT m _ _ hr hq t)
 | m+1,is,.to ops (⟨none,op,ty,pos,af,g⟩::l) k e,s,q,hr,hq,t=>by
  unfold runL at hr
  cases hr
 | m+1,is,.to ops (⟨some d,op,ty,pos,af,g⟩::l) k e,s,q,hr,hq,t=>by
  have hT':=hT
  simp only [tabOk,Bool.and_eq_true,List.all_eq_true] at hT'
  obtain ⟨⟨h1,h2⟩,h3⟩:=hT'
  unfold runL at hr
  split at hr
  ·cases hr
  ·next hd=>
   split at hr
   ·next hg=>exact CT (nV hT m _ _ hr hq t) hd hg
   ·next hg=>
    split at hr
    ·split at hr
     ·next hx hl=>exact Io (by simpa using h1 _ (wK hl)) hx (nV hT m _ _ hr hq t) hd hg
     ·cases hr
    ·split at hr
     ·next hx=>
      split at hr
      ·next hn=>
       split at hr
       ·next hv hm=>
        split at hr
        ·next hr2=>
         cases hr
         obtain ⟨e1,hq⟩:=hq
         subst e1
         exact D3 _ (by simpa using h2 _ (zL hm)) hx hn hv (nV hT m _ _ hr2 hq t) hd hg
        ·cases hr
       ·cases hr
      ·cases hr
     ·cases hr
    ·split at hr
     ·next hx hm=>
      have:=h3 _ (zL hm)
      split at this
      ·next hu=>exact K6 hu hx (nV hT m _ _ hr hq t) hd hg
      ·cases this
     ·cases hr
    ·split at hr
     ·next v hv=>
      obtain ⟨g1,g2⟩:=CR (P:=P) hv
      exact pz v g1 (fun w _=>g2 _ _ _ _ _ w) hd hg (nV hT m _ _ hr hq t)
     ·cases hr
end
theorem sT {P:Program} {f:FuncId} {fn:Func} {c:Code} {n:Nat} {args:List Value} {h:HF} {A:LH} {R:Ending→HF→LH→Prop}
  (hf:P.funcs[f]? = some fn) (hb:fn.body=some c) (hn:fn.ntmps=n) (hle:Nat.ble args.length n=true)
  (t:∀ X:Cx,X.M=A.map (·.1)→X.h0=h→P.funcs[f]? = some fn→TT P (bodyFrame f) n [.code c] (lU P X R) (envArgs args) [] X h A):nI P f args.toArray h A R:=
 cU hf hb hn hle fun X a b=>t X a b hf
section
variable {P:Program} {f:FuncId} {n:Nat} {k:List Item} {e:Env} {X:Cx} {h:HF} {L:LH} {fn:Func} {rs:List ResultVar} {φ : Value→HF→Prop}
theorem nretP {v:Value} {hh:HF} (vs:List Value) (hvv:retVal vs=v) (hf:P.funcs[f]? = some fn:=by assumption) (hr:fn.results=rs.toArray:=by rfl) (hX:X.h0=hh:=by assumption) (hv:rD P e L rs vs:=by exact rds):
  TT P (bodyFrame f) n (.code .ret::k) (lU P X (fun x h' B=>x=.returned v∧h'=hh∧B=[])) e [] X h L:=Cq vs hf hr hX hv hvv
theorem nretH (vs:List Value) (hφ : φ (retVal vs) h) (hf:P.funcs[f]? = some fn:=by assumption) (hr:fn.results=rs.toArray:=by rfl) (hv:rD P e L rs vs:=by exact rds):
  TT P (bodyFrame f) n (.code .ret::k) (lU P X (fun x h' B=>B=[]∧∃ v,x=.returned v∧φ v h')) e [] X h L:=fR vs hf hr hv hφ
end
section grows
variable {P:Program} {b:Frame} {n:Nat} {ops:Array Oper} {F:List Frame→(Machine→Prop)→Prop} {e:Env} {ds:List Deferred} {X:Cx} {h:HF} {L:LH} {K:Env→HF→LH→Prop} {d:Option Nat} {ty:TypeId} {pos:String} {af:Array Edge} {g:Option (Nat×Bool)}
variable {α : Type} {R:Rp α} {E:TypeId} {xs:List α} {base:Option Addr} {cap bk:Nat} {G:LH}
def InO (base:Option Addr) (G:LH) (k:Nat) (cs:List Value):Prop:=∃ bk arr T fz,base=some ⟨bk,0,none⟩∧G=[(bk,Obj.cells (List.toArray arr) T fz)]∧∀ off v,nth cs off=some v→nth arr (k+off)=some v
theorem cM.elem {h0:HF} {i:Nat} {y:α} (hG:cM R E h0 xs base cap G) (hi:xs[i]? = some y):∃ cs,R.rep h0 cs y∧InO base G (i * R.sz) cs:=by
 rcases hG with ⟨rfl,_⟩ | ⟨bk',cl,sp,e1,hc,_,_,_,rfl⟩
 ·simp at hi
 ·obtain ⟨cs,hl,hr,hcell⟩:=hc.get i y hi
  refine ⟨cs,hr,bk',cl++sp,E,(0,0),e1,rfl,fun off v hv=>?_⟩
  rw [gv] at hv ⊢
  have h9:=hcell off v hv
  rw [List.getElem?_append_left (by
   rcases Nat.lt_or_ge (i * R.sz+off) cl.length with q | q
   ·exact q
   ·simp [List.getElem?_eq_none q] at h9)]
  exact h9
theorem zC {t:TypeId} {x:Operand} {m k off:Nat} {v:Value} {cs:List Value} (hT:tySz P t=some (m,false)) (hI:InO base G k cs) (hb:base=some ⟨bk,0,none⟩) (hv:nth cs off=some v)
  (hx:e.ev x=.pointer (some ⟨bk,k+off,none⟩)) (hm:∀ p∈G,p∈L):∀ w,St X h L w→(execOp e.ev ⟨d,.load t x,ty,pos,af,g⟩).run P w=.ok (.value v) w:=by
 obtain ⟨bk',arr,T,fz,e1,rfl,hc⟩:=hI
 rw [hb] at e1
 cases e1
 exact fI hT hx (hm _ (List.mem_singleton.2 rfl)) (hc off v hv)
theorem dV {α ρ : Type} {R:Rp α} {C:α→ρ→List Value} {ok:HF→α→ρ→Prop} {t E:TypeId} {x ix:Operand} {a:Bool} {base:Option Addr} {m cap:Nat} {xs:List α} {y:α} {z:Int} (hT:P.underlying t=some (.slice E)) (hS:tySz P E=some (R.sz,a))
  (hR:SlB R h base xs) (hz:0≤z∧z < (xs.length:Int)) (hj:xs[z.toNat]? = some y) (hx:e.ev x=.slice base m cap) (hm:m=xs.length) (hix:e.ev ix=.int .i64 z)
  (hC:∀ h cs y,R.rep h cs y→∃ r,cs=C y r∧ok h y r) (t':∀ q r,At h q (C y r)→ok h y r→K (pute e d (.pointer (some q))) h L)
  (hg:guardB ops e ⟨d,.indexAddr t x ix,ty,pos,af,g⟩=true:=by rfl):Stp P b n ops F ds X ⟨d,.indexAddr t x ix,ty,pos,af,g⟩ e h L K:=
 vr hT hS hR hz hj hx hm hix (fun q cs A ln rr=>by obtain ⟨r,e1,o1⟩:=hC _ _ _ rr;subst e1;exact t' q r A o1) hg
theorem mJ (A0 G Q:LH) (LL:LH→LH) {ys:List α} {f:FuncId} {ass:Array Operand} {ats:Array TypeId} {vs:List Value}
  (hc:∀ args w,(callFunc f args).run P w=.ok (.enter f args) w) (hs:nI P f vs.toArray h G (fun r h' G'=>∃ b c,h'=h∧r=.returned (.slice b ys.length c)∧cM R E h ys b c G')) (hL:L=A0++(G++Q)) (hLL:∀ G,A0++(G++Q)=LL G) (hvs:ass.toList.map e.ev=vs)
  (t':∀ b c G',cM R E h ys b c G'→K (pute e d (.slice b ys.length c)) h (LL G'))
  (hg:guardB ops e ⟨d,.call ⟨.value (.func f),ass,ats⟩,ty,pos,af,g⟩=true:=by rfl):
  Stp P b n ops F ds X ⟨d,.call ⟨.value (.func f),ass,ats⟩,ty,pos,af,g⟩ e h L K:=by
 unfold Stp
 rw [if_pos hg]
 intro w hw
 subst hL
 have hp:∀ G:LH,(A0++(G++Q)).Perm (G++(A0++Q)):=fun G=>by
  rw [← List.append_assoc,← List.append_assoc];exact List.Perm.append_right Q List.perm_append_comm
 have hw':=hw.perm (hp G)
 have harr:ass.map e.ev=vs.toArray:=Array.ext' (by simp [← hvs])
 have hr:(execOp e.ev ⟨d,.call ⟨.value (.func f),ass,ats⟩,ty,pos,af,g⟩).run P w=.ok (.enter f vs.toArray) w:=by
  simp [execOp,resolve,Env.ev,Deferred.ofValue,invoke,harr,hc]
 rw [hr]
 refine jC (by simp) (jf (nS.mono (hs w hw'.pre.left) ?_))
 rintro x w' ⟨h',B,hst,bb,cc,rfl,rfl,hG⟩
 exact ⟨h',_,hLL B ▸ (St.after (A:=G) (F:=A0++Q) hw' hst).perm (hp B).symm,t' bb cc B hG⟩
end grows
end Go.Sg
namespace Go.Sg
theorem U.{u} {α : Sort u} {a:α}:a=a:=rfl
theorem kr {p:Prop} (h:p:=by kernel_rfl):p:=h
theorem ob {p:Prop} (h:p:=by first | assumption | omega | (simp only [] ;assumption) | (simp only [decide_eq_true_eq,decide_eq_false_iff_not,Bool.and_eq_true,Bool.or_eq_true,Bool.not_eq_true',Bool.not_eq_false',Bool.and_eq_false_iff,Bool.or_eq_false_iff,beq_iff_eq,beq_eq_false_iff_ne,bne_iff_ne,bne_eq_false_iff_eq,List.length_append,List.length_cons,List.length_nil,List.length_drop] at *;omega)):p:=h
theorem lo {p:Prop} (h:p:=by simp only [List.length_append,List.length_cons,List.length_nil,List.length_take,List.length_drop];omega):p:=h
theorem ap {p:Prop} (h:p:=by first | rfl | (simp only [List.append_assoc,List.cons_append,List.nil_append,List.append_nil];done) | (simp only [List.append_assoc,List.cons_append,List.nil_append,List.append_nil];rfl) | (rw [List.append_nil] <;> rfl) | (simp only [dropNth,List.append_assoc,List.cons_append,List.nil_append,List.append_nil];done)):p:=h
theorem lc {p:Prop} (h:p:=by first | omega | (simp only [List.length_nil,List.length_cons] at *;omega)):p:=h
theorem rd {p:Prop} (h:p:=by repeat (first | exact trivial | refine ⟨rfl,?_⟩)):p:=h
theorem jn {h:HF} {K L:LH} (hs:K.Sublist L:=by repeat (first | exact List.Sublist.refl _ | exact List.nil_sublist _ | exact List.sublist_append_left _ _ | refine List.Sublist.cons_cons _ ?_ | refine List.Sublist.cons _ ?_)):Jst h K h L:=CZ hs
theorem js {K L:LH} (hs:K.Sublist L:=by repeat (first | exact List.Sublist.refl _ | exact List.nil_sublist _ | exact List.sublist_append_left _ _ | refine List.Sublist.cons_cons _ ?_ | refine List.Sublist.cons _ ?_)):K.Sublist L:=hs
theorem mh {G L:LH} (h:∀ p∈G,p∈L:=by intro p hp;simp only [List.mem_append,List.mem_cons,hp,true_or,or_true]):∀ p∈G,p∈L:=h
theorem mj {h1 h':HF} {K L' G:LH} (hj:Jst h1 K h' L') (h:∀ p∈G,p∈K:=by intro p hp;simp only [List.mem_append,List.mem_cons,hp,true_or,or_true]):∀ p∈G,p∈L':=fun p hp=>hj.2 p (h p hp)
theorem ei {α : Type} {R:Rp α} {enc:α→List Value} (h:∀ h cs x,R.rep h cs x→cs=enc x:=by exact fun _ _ _ e=>e):∀ h cs x,R.rep h cs x→cs=enc x:=h
theorem lf {h:HF}:h.le h:=HF.le_refl h
theorem xf {p:Prop} (h:p:=by first | exact fun _ _ _ h=>h.elim | exact fun _ _ _ _ h=>h.elim):p:=h
theorem cb {a b:Bool} (h:a=b):Value.bool a=Value.bool b:=congrArg Value.bool h
theorem cs {a b:Bool} (h:a=b):Value.bool b=Value.bool a:=congrArg Value.bool h.symm
theorem ci {a b:Int} (h:a=b):Value.int .i64 b=Value.int .i64 a:=congrArg (Value.int .i64) h.symm
abbrev O (l:List Value) (t:Nat):Obj:=Obj.cells l.toArray t (0,0)
abbrev Y (x:Int):Value:=.int .u8 x
abbrev Q (b:Nat):Value:=.pointer (some ⟨b,0,none⟩)
abbrev I (x:Int):Value:=.int .i64 x
theorem HF.le.t {a b c:HF} (x:a.le b) (y:b.le c):a.le c:=HF.le_trans x y
section
variable {P:Program} {b:Frame} {n:Nat} {k:List Item} {F:List Frame→(Machine→Prop)→Prop} {ds:List Deferred} {X:Cx}
theorem tf (i:Nat) {l:List Oper} {h1:HF} {K:LH} {m d:Nat} {oi:Oper} {v:Value} {dn:List Nat} {e:Env} {h:HF} {L:LH}
  (hi:nth l i=some oi) (hd:oi.dst=some d)
  (hr:∀ h' L',Jst h1 K h' L'→∀ w,St X h' L' w→(execOp e.ev oi).run P w=.ok (.value v) w)
  (t:TA P b n l.toArray k F ds X (Jst h1 K) m (i::dn) (upd e d v) h L) (hsep:sepAll l.toArray=true:=by assumption) (hJ:Jst h1 K h L:=by exact jn) (hn:(nexts l.toArray dn).contains i=true:=by kernel_rfl) (hg:guardB l.toArray e oi=true:=by rfl):TA P b n l.toArray k F ds X (Jst h1 K) (m+1) dn e h L:=
 lG i hsep hJ hi hd hn hg hr t
theorem tm (i:Nat) {l:List Oper} {h1:HF} {K:LH} {m d:Nat} {x:Operand} {ty:TypeId} {pos:String} {af:Array Edge} {g:Option (Nat×Bool)} {dn:List Nat} {e:Env} {h:HF} {L:LH}
  (hi:nth l i=some ⟨some d,.move x,ty,pos,af,g⟩)
  (t:TA P b n l.toArray k F ds X (Jst h1 K) m (i::dn) (upd e d (e.ev x)) h L) (hsep:sepAll l.toArray=true:=by assumption) (hJ:Jst h1 K h L:=by exact jn) (hn:(nexts l.toArray dn).contains i=true:=by kernel_rfl) (hg:guardB l.toArray e ⟨some d,.move x,ty,pos,af,g⟩=true:=by rfl):TA P b n l.toArray k F ds X (Jst h1 K) (m+1) dn e h L:=
 lG i hsep hJ hi rfl hn hg (fun _ _ _=>CH) t
theorem tk (i:Nat) {l:List Oper} {h1:HF} {K:LH} {m d:Nat} {oi:Oper} {dn:List Nat} {e:Env} {h:HF} {L:LH}
  (hi:nth l i=some oi) (hd:oi.dst=some d)
  (t:TA P b n l.toArray k F ds X (Jst h1 K) m (i::dn) (upd e d undef) h L) (hsep:sepAll l.toArray=true:=by assumption) (hJ:Jst h1 K h L:=by exact jn) (hn:(nexts l.toArray dn).contains i=true:=by kernel_rfl) (hg:guardB l.toArray e oi=false:=by rfl):TA P b n l.toArray k F ds X (Jst h1 K) (m+1) dn e h L:=
 Cs i hsep hJ hi hd hn hg t
theorem tn (i:Nat) {l:List Oper} {h1:HF} {K:LH} {m:Nat} {oi:Oper} {dn:List Nat} {e:Env} {h:HF} {L:LH} (hi:nth l i=some oi)
  (t:Stp P b n l.toArray F ds X oi e h L fun e' h' L'=>Jst h1 K h' L'∧TA P b n l.toArray k F ds X (Jst h1 K) m (i::dn) e' h' L') (hn:nexts l.toArray dn=[i]:=by kernel_rfl):TA P b n l.toArray k F ds X (Jst h1 K) (m+1) dn e h L:=
 Kj i hn hi t
theorem sr {id:Nat} {l:List Oper} {y:Code} {e:Env} {h:HF} {L:LH} (t:TO P b n l.toArray l (.code y::k) F e ds X h L):TT P b n (.code (.seq (.region id l.toArray false) y)::k) F e ds X h L:=dz (bn t)
theorem an {ops:Array Oper} {d:Nat} {x:Operand} {ty:TypeId} {pos:String} {af:Array Edge} {g:Option (Nat×Bool)} {e:Env} {h:HF} {L:LH} (t:TT P b n k F (upd e d (e.ev x)) ds X h L) (hd:Nat.blt d n=true:=by rfl) (hg:guardB ops e ⟨some d,.assign x,ty,pos,af,g⟩=true:=by rfl):TO P b n ops [⟨some d,.assign x,ty,pos,af,g⟩] k F e ds X h L:=fg (aM t) hd hg
theorem kq {ops:Array Oper} {l:List Oper} {d d':Nat} {op op':Op} {ty ty':TypeId} {pos pos':String} {af af':Array Edge} {g g':Option (Nat×Bool)} {e:Env} {h:HF} {L:LH} (t:TO P b n ops l k F (upd (upd e d undef) d' undef) ds X h L) (hd:Nat.blt d n=true:=by rfl) (hg:guardB ops e ⟨some d,op,ty,pos,af,g⟩=false:=by rfl)
  (hd':Nat.blt d' n=true:=by rfl) (hg':guardB ops (upd e d undef) ⟨some d',op',ty',pos',af',g'⟩=false:=by rfl):TO P b n ops (⟨some d,op,ty,pos,af,g⟩::⟨some d',op',ty',pos',af',g'⟩::l) k F e ds X h L:=CT (CT t hd' hg') hd hg
theorem tq {ops:Array Oper} {l:List Oper} {e:Env} {h:HF} {L:LH} (m:Nat) (sl:List (Nat×Value)) (t':(∀ e',jg e' sl→TO P b n ops (l.drop m) k F e' ds X h L)→TO P b n ops l k F e ds X h L) (hk:∀ e',TO P b n ops (l.drop m) k F (upds e' sl) ds X h L):TO P b n ops l k F e ds X h L:=Ki m sl hk t'
def runA (l:List Oper):List Nat→Nat→List Nat→Env→Option (Nat×List Nat×Env)
 | [],m,dn,e=>some (m,dn,e)
 | i::is,m,dn,e=>match m with
  | 0=>none
  | m+1=>match nth l i with
   | some ⟨some d,op,ty,pos,af,g⟩=>match guardB l.toArray e ⟨some d,op,ty,pos,af,g⟩ with
    | false=>runA l is m (i::dn) (upd e d undef)
    | true=>match opQ e op with
     | some v=>runA l is m (i::dn) (upd e d v)
     | none=>none
   | _=>none
def allNext (l:List Oper):List Nat→List Nat→Bool
 | [],_=>true
 | i::is,dn=>(nexts l.toArray dn).contains i&&allNext l is (i::dn)
theorem yA {l:List Oper} {h1:HF} {K:LH} {h:HF} {L:LH} (hsep:sepAll l.toArray=true) (hJ:Jst h1 K h L):∀ (is:List Nat) (m:Nat) (dn:List Nat) (e:Env) {m':Nat} {dn':List Nat} {e':Env},runA l is m dn e=some (m',dn',e')→allNext l is dn=true→TA P b n l.toArray k F ds X (Jst h1 K) m' dn' e' h L→TA P b n l.toArray k F ds X (Jst h1 K) m dn e h L
 | [],m,dn,e,_,_,_,hr,_,t=>by cases hr;exact t
 | i::is,0,dn,e,_,_,_,hr,_,_=>by simp [runA] at hr
 | i::is,m+1,dn,e,_,_,_,hr,hn,t=>by
  simp only [allNext,Bool.and_eq_true] at hn
  simp only [runA] at hr
  split at hr
  ·next hi=>
   split at hr
   ·next hg=>exact Cs i hsep hJ hi rfl hn.1 hg (yA hsep hJ is m _ _ hr hn.2 t)
   ·next hg=>
    split at hr
    ·next v hv=>exact lG i hsep hJ hi rfl hn.1 hg (fun _ _ _ w _=>(CR hv).2 _ _ _ _ _ w) (yA hsep hJ is m _ _ hr hn.2 t)
    ·cases hr
  ·cases hr
theorem qA (is:List Nat) {l:List Oper} {h1:HF} {K:LH} {m:Nat} {dn:List Nat} {e:Env} {h:HF} {L:LH} {m':Nat} {dn':List Nat} {e':Env} (hr:runA l is m dn e=some (m',dn',e')) (t:TA P b n l.toArray k F ds X (Jst h1 K) m' dn' e' h L)
  (hsep:sepAll l.toArray=true:=by assumption) (hJ:Jst h1 K h L:=by exact jn) (hn:allNext l is dn=true:=by kernel_rfl):TA P b n l.toArray k F ds X (Jst h1 K) m dn e h L:=yA hsep hJ is m dn e hr hn t
theorem qR (a c:Nat) {l:List Oper} {h1:HF} {K:LH} {m:Nat} {dn:List Nat} {e:Env} {h:HF} {L:LH} {m':Nat} {dn':List Nat} {e':Env} (hr:runA l (List.range' a c) m dn e=some (m',dn',e')) (t:TA P b n l.toArray k F ds X (Jst h1 K) m' dn' e' h L)
  (hsep:sepAll l.toArray=true:=by assumption) (hJ:Jst h1 K h L:=by exact jn) (hn:allNext l (List.range' a c) dn=true:=by kernel_rfl):TA P b n l.toArray k F ds X (Jst h1 K) m dn e h L:=yA hsep hJ _ m dn e hr hn t
def opB (tF:List (Nat×Nat×Nat)) (e:Env):Op→Option Value
 | .fieldAddr s x i=>match e.ev x,look3 tF s i with
  | .pointer (some a),some off=>some (.pointer (some (a.add off)))
  | _,_=>none
 | op=>opQ e op
theorem Kx {tF:List (Nat×Nat×Nat)} (hT:(tF.all fun x=>fldOf P x.1 x.2.1==some x.2.2)=true) {op:Op} {e:Env} {v:Value} (hv:opB tF e op=some v) (h:HF) (L:LH) (d:Option Nat) (ty:TypeId) (pos:String) (af:Array Edge) (g:Option (Nat×Bool)):∀ w,St X h L w→(execOp e.ev ⟨d,op,ty,pos,af,g⟩).run P w=.ok (.value v) w:=by
 unfold opB at hv
 split at hv
 ·split at hv
  ·next hx hl=>
   cases hv
   exact nt (by simpa using (List.all_eq_true.1 hT) _ (wK hl)) hx
  ·cases hv
 ·exact fun w _=>(CR hv).2 _ _ _ _ _ w
def runB (tF:List (Nat×Nat×Nat)) (l:List Oper):List Nat→Nat→List Nat→Env→Option (Nat×List Nat×Env)
 | [],m,dn,e=>some (m,dn,e)
 | i::is,m,dn,e=>match m with
  | 0=>none
  | m+1=>match nth l i with
   | some ⟨some d,op,ty,pos,af,g⟩=>match guardB l.toArray e ⟨some d,op,ty,pos,af,g⟩ with
    | false=>runB tF l is m (i::dn) (upd e d undef)
    | true=>match opB tF e op with
     | some v=>runB tF l is m (i::dn) (upd e d v)
     | none=>none
   | _=>none
theorem yz {tF:List (Nat×Nat×Nat)} (hT:(tF.all fun x=>fldOf P x.1 x.2.1==some x.2.2)=true) {l:List Oper} {h1:HF} {K:LH} {h:HF} {L:LH} (hsep:sepAll l.toArray=true) (hJ:Jst h1 K h L):∀ (is:List Nat) (m:Nat) (dn:List Nat) (e:Env) {m':Nat} {dn':List Nat} {e':Env},runB tF l is m dn e=some (m',dn',e')→allNext l is dn=true→TA P b n l.toArray k F ds X (Jst h1 K) m' dn' e' h L→TA P b n l.toArray k F ds X (Jst h1 K) m dn e h L
 | [],m,dn,e,_,_,_,hr,_,t=>by cases hr;exact t
 | i::is,0,dn,e,_,_,_,hr,_,_=>by simp [runB] at hr
 | i::is,m+1,dn,e,_,_,_,hr,hn,t=>by
  simp only [allNext,Bool.and_eq_true] at hn
  simp only [runB] at hr
  split at hr
  ·next hi=>
   split at hr
   ·next hg=>exact Cs i hsep hJ hi rfl hn.1 hg (yz hT hsep hJ is m _ _ hr hn.2 t)
   ·next hg=>
    split at hr
    ·next v hv=>exact lG i hsep hJ hi rfl hn.1 hg (fun h' L' _ w hw=>Kx hT hv h' L' _ _ _ _ _ w hw) (yz hT hsep hJ is m _ _ hr hn.2 t)
    ·cases hr
  ·cases hr
theorem tu {ops:Array Oper} {h1 h2:HF} {K:LH} (hle:h1.le h2) {m:Nat} {dn:List Nat} {e:Env} {h:HF} {L:LH} (t:TA P b n ops k F ds X (Jst h2 K) m dn e h L):TA P b n ops k F ds X (Jst h1 K) m dn e h L:=kM hle (fun _ hp=>hp) t
end
theorem jl {h h2:HF} {K L:LH} (hle:h.le h2) (hs:K.Sublist L:=by repeat (first | exact List.Sublist.refl _ | exact List.nil_sublist _ | exact List.sublist_append_left _ _ | refine List.Sublist.cons_cons _ ?_ | refine List.Sublist.cons _ ?_)):Jst h K h2 L:=⟨hle,fun _ hp=>hs.subset hp⟩
theorem sw {p:Prop} (h:p:=by first | exact fun w hw=>hw | (intro w hw;first | simpa only [List.append_assoc,List.cons_append,List.nil_append,List.append_nil] using hw | (simp only [List.append_assoc,List.cons_append,List.nil_append,List.append_nil] at hw ⊢;exact hw))):p:=h
end Go.Sg
namespace Go.Sg
open Go.Proofs
abbrev cQ := @Tryz.underlying31
abbrev jh := @Tryz.underlying64
abbrev kL := @Tryz.underlying3
abbrev lg := @Tryz.underlying26
abbrev ml := @Tryz.underlying24
abbrev oh := @Tryz.underlying120
abbrev pc := @Tryz.underlying63
abbrev pb := @Tryz.underlying101
abbrev pH := @Tryz.underlying27
abbrev uv := @Tryz.underlying22
abbrev ol := @Tryz.call265
abbrev pS := @Tryz.underlying62
abbrev vk := @Tryz.underlying9
abbrev rU := @Tryz.call172
abbrev ub := @Tryz.call242
abbrev JV := @Tryz.underlying4
abbrev ua := @Tryz.underlying100
abbrev tZ := @Tryz.underlying98
abbrev tX := @Tryz.call33
abbrev vj := @Tryz.call103
abbrev xh := @Tryz.call145
abbrev xg := @Tryz.underlying34
abbrev xe := @Tryz.underlying267
abbrev xd := @Tryz.underlying270
abbrev xa := @Tryz.call236
abbrev Bt := @Tryz.underlying46
abbrev Bs := @Tryz.call148
abbrev Br := @Tryz.func247
abbrev Bq := @Tryz.func217
abbrev Bp := @Tryz.call24
abbrev Bo := @Tryz.call120
abbrev Bn := @Tryz.call199
abbrev Bm := @Tryz.underlying93
abbrev HP := @Tryz.func4
abbrev FU := @Tryz.underlying30
abbrev Dq := @Tryz.call90
abbrev Dp := @Tryz.call169
abbrev Do := @Tryz.call218
abbrev Dn := @Tryz.func62
abbrev Dm := @Tryz.underlying142
abbrev Dl := @Tryz.func146
abbrev Dk := @Tryz.func44
abbrev Dj := @Tryz.func14
abbrev Di := @Tryz.call14
abbrev Dh := @Tryz.call181
abbrev Dg := @Tryz.call230
abbrev Df := @Tryz.call194
abbrev FT := @Tryz.underlying59
abbrev FS := @Tryz.underlying68
abbrev FQ := @Tryz.underlying23
abbrev FP := @Tryz.underlying25
abbrev FO := @Tryz.underlying28
abbrev FN := @Tryz.underlying207
abbrev FM := @Tryz.underlying212
abbrev FL := @Tryz.call219
abbrev FK := @Tryz.func215
abbrev FJ := @Tryz.func216
abbrev FI := @Tryz.func214
abbrev FH := @Tryz.call177
abbrev FG := @Tryz.func45
abbrev FF := @Tryz.underlying145
abbrev FE := @Tryz.func10
abbrev FD := @Tryz.func39
abbrev FC := @Tryz.call187
abbrev FB := @Tryz.func189
abbrev HO := @Tryz.underlying61
abbrev Lr := @Tryz.underlying5
abbrev HN := @Tryz.call176
abbrev HM := @Tryz.call221
abbrev HL := @Tryz.func241
abbrev HK := @Tryz.func159
abbrev HJ := @Tryz.func109
abbrev HI := @Tryz.func209
abbrev HH := @Tryz.underlying203
abbrev HG := @Tryz.func212
abbrev HE := @Tryz.underlying159
abbrev tz_76 := @Tryz.func208
abbrev JU := @Tryz.underlying215
abbrev HD := @Tryz.func248
abbrev HC := @Tryz.func160
abbrev HB := @Tryz.call97
abbrev HA := @Tryz.func140
abbrev Hz := @Tryz.underlying127
abbrev Hy := @Tryz.func150
abbrev Hx := @Tryz.call10
abbrev Hw := @Tryz.call127
abbrev Hv := @Tryz.call184
abbrev Hu := @Tryz.call118
abbrev Ht := @Tryz.call233
end Go.Sg
namespace Go.Sg
open Go.Proofs Go.Proofs.Tryz
set_option maxHeartbeats 2000000
def hOf (w:World):HF:=fun b=>w.heap[b]?
theorem pre_hOf (w:World):Pre (hOf w) [] w:=⟨fun _ _ h=>h,fun _ hp=>(List.not_mem_nil hp).elim,List.nodup_nil,fun _ hp=>(List.not_mem_nil hp).elim⟩
theorem GC {w:World} {a:Addr} {v:Value} (h:w.cell? a=some v):a.spot=none∧∃ c T fz,w.heap[a.block]? = some (.cells c T fz)∧c[a.off]? = some v:=by
 unfold World.cell? at h
 split at h
 ·next c T fz e=>
  split at h
  ·cases h
  ·next hs=>exact ⟨by simpa using hs,c,T,fz,e,h⟩
 ·cases h
theorem Ec {α β : Type} {f:α→Option β}:∀ {l:List α} {r:List β},l.mapM f=some r→l.length=r.length∧∀ (j:Nat) (x:α),l[j]? = some x→f x=r[j]?
 | [],r,h=>by simp at h;subst h;exact ⟨rfl,fun j x hj=>by simp at hj⟩
 | a::l,r,h=>by
  rw [List.mapM_cons] at h
  simp only [Option.bind_eq_bind,Option.bind_eq_some_iff,Option.pure_def,Option.some.injEq] at h
  obtain ⟨b,hb,r',hr,rfl⟩:=h
  obtain ⟨h1,h2⟩:=Ec hr
  refine ⟨by simp [h1],fun j x hj=>?_⟩
  cases j with
  | zero=>simp at hj;subst hj;simpa using hb
  | succ j=>simpa using h2 j x (by simpa using hj)
theorem Ja {w:World} {base n:Nat} {a:Addr} {cs:List Value} (hn:0 < n) (h:w.cells? base a n=some cs):At (hOf w) a cs∧cs.length=n:=by
 unfold World.cells? at h
 split at h
 ·obtain ⟨h1,h2⟩:=Ec h
  rw [List.length_range] at h1
  have hc:∀ j v,cs[j]? = some v→w.cell? (a.add j)=some v:=fun j v hv=>by
   have hj:=(List.getElem?_eq_some_iff.1 hv).1
   rw [h2 j j (List.getElem?_range (by omega))];exact hv
  obtain ⟨v,hv⟩:∃ v,cs[0]? = some v:=⟨cs[0],List.getElem?_eq_getElem (by omega)⟩
  obtain ⟨s1,c,T,fz,s2,s3⟩:=GC (hc 0 v hv)
  have hsp:a.spot=none:=by simpa [Addr.add] using s1
  have hbl:∀ j,(a.add j).block=a.block∧(a.add j).off=a.off+j:=fun j=>by
   unfold Addr.add
   split
   ·next e=>subst e;exact ⟨rfl,rfl⟩
   ·exact ⟨rfl,rfl⟩
  refine ⟨⟨c,T,fz,?_,hsp,fun j u hu=>?_⟩,h1.symm⟩
  ·rw [(hbl 0).1] at s2;exact s2
  ·obtain ⟨_,c',T',fz',t2,t3⟩:=GC (hc j u hu)
   rw [(hbl j).1] at t2
   rw [(hbl 0).1,t2] at s2
   cases s2
   rw [(hbl j).2] at t3;exact t3
 ·cases h
def szL {α : Type} (f:α→Nat):List α→Nat
 | []=>0
 | x::xs=>f x+szL f xs
theorem yO {α : Type} (f:α→Nat):∀ (l r:List α),szL f (l++r)=szL f l+szL f r
 | [],r=>by simp [szL]
 | x::l,r=>by simp [szL,yO f l r,Nat.add_assoc]
theorem mI {α : Type} {f:α→Nat} (hf:∀ x,1≤f x):∀ (l:List α),l.length≤szL f l
 | []=>Nat.le_refl _
 | x::l=>by have:=mI hf l;have:=hf x;simp [szL];omega
theorem Ct {α : Type} {f:α→Nat} {x:α}:∀ {l:List α},x∈l→f x≤szL f l
 | y::l,h=>by
  rcases List.mem_cons.1 h with rfl | h
  ·simp [szL]
  ·have:=Ct (f:=f) h;simp [szL];omega
theorem F2:∀ (l:List Expr),szL Expr.dep l=Expr.depL l
 | []=>rfl
 | y::l=>by simp [szL,Expr.depL,F2 l]
open YtngiefchigcphaaGreatDoor.Rows in
theorem bulk_one {H:Type} (d:DataW H):1≤uptoBulk d:=by
 cases d with
 | lit l=>cases l <;> simp [uptoBulk]
 | nil=>simp [uptoBulk]
 | ptr d=>simp [uptoBulk]
 | slice elems spare=>simp [uptoBulk]
 | agg parts=>simp [uptoBulk]
 | iface t d=>simp [uptoBulk]
 | map entries=>simp [uptoBulk]
 | held h=>simp [uptoBulk]
open YtngiefchigcphaaGreatDoor.Rows in
theorem EU {H:Type} (l r:List (DataW H)):uptoBulkAll (l++r)=uptoBulkAll l+uptoBulkAll r:=by
 induction l with
 | nil=>simp [uptoBulkAll]
 | cons x l ih=>simp only [List.cons_append,uptoBulkAll,ih];omega
section opn
open YtngiefchigcphaaGreatDoor.Rows
variable {H:Type} {enc:TypeId×Value→H} {P:Program} {w:World} {base:Nat} {sp:Nat→Bool} {held:Bool}
def Opn (enc:TypeId×Value→H) (P:Program) (w:World) (base:Nat) (sp:Nat→Bool) (held:Bool) {α : Type} (T:TypeId) (R:Rp α) (sz:α→Nat) (fuel:Nat):Prop:=
 ∀ cs d ps,DataW.trod enc P w base sp held fuel T cs=some (d,ps)→∃ x,R.rep (hOf w) cs x∧sz x≤uptoBulk d
theorem jk {α : Type} {R:Rp α} {sz:α→Nat} {T E:TypeId} {fuel:Nat} (ht:P.underlying T=some (.slice E)) (hc:P.cellsOf E=R.sz) (hp:0 < R.sz) (he:∀ n,fuel=n+1→Opn enc P w base sp held E R sz n) {cs:List Value} {d:DataW H} {ps:List MemPlace}
  (h:DataW.trod enc P w base sp held fuel T cs=some (d,ps)):∃ b c xs,cs=[.slice b (List.length xs) c]∧SlC R (hOf w) b c xs∧szL sz xs+1≤uptoBulk d:=by
 rcases DataW.trod_slice ht h with ⟨rfl,e⟩ | ⟨a,len,cap,elems,rest,n,hn,rfl,hx,h1,h2,h3,h4,h5,_,_⟩
 ·cases e
  exact ⟨none,0,[],rfl,SlC.nil,by simp [szL,uptoBulk]⟩
 ·cases hx
  have key:∀ k,k≤len→∃ xs:List α,xs.length=k∧(∀ i x,xs[i]? = some x→∃ cs',At (hOf w) (a.add (i * R.sz)) cs'∧cs'.length=R.sz∧R.rep (hOf w) cs' x)∧szL sz xs≤uptoBulkAll ((elems.take k).map (·.1)):=by
   intro k
   induction k with
   | zero=>exact fun _=>⟨[],rfl,fun i x hx=>by simp at hx,by simp [szL]⟩
   | succ k ih=>
    intro hk
    obtain ⟨xs,e1,e2,e3⟩:=ih (by omega)
    have hkl:k < elems.length:=by omega
    have c0:=h5 k (by omega)
    rw [List.getElem?_eq_getElem hkl] at c0
    obtain ⟨cs',c1,c2⟩:=Option.bind_eq_some_iff.1 c0
    rw [hc] at c1
    obtain ⟨x,x1,x2⟩:=he n hn _ _ _ c2
    obtain ⟨k1,k2⟩:=Ja hp c1
    refine ⟨xs++[x],by simp [e1],fun i y hy=>?_,?_⟩
    ·rcases Nat.lt_or_ge i xs.length with hi | hi
     ·rw [List.getElem?_append_left hi] at hy;exact e2 i y hy
     ·rw [List.getElem?_append_right hi] at hy
      have hi2:i=k:=by
       have:=(List.getElem?_eq_some_iff.1 hy).1
       simp at this;omega
      subst hi2
      rw [show i - xs.length=0 from by omega] at hy
      simp at hy;subst hy
      exact ⟨cs',k1,k2,x1⟩
    ·rw [yO,List.take_add_one,List.map_append,EU,List.getElem?_eq_getElem hkl]
     simp only [szL,Option.toList_some,List.map_cons,List.map_nil,uptoBulkAll]
     have x3:sz x≤uptoBulk (elems[k]).1:=x2
     omega
  obtain ⟨xs,e1,e2,e3⟩:=key len (Nat.le_refl _)
  refine ⟨some a,cap,xs,by rw [e1],⟨⟨?_,fun i x hx=>?_⟩,by omega⟩,?_⟩
  ·have:maxLen≤9223372036854775807:=by decide
   omega
  ·obtain ⟨cs',k1,k2,k3⟩:=e2 i x hx
   exact ⟨a,cs',rfl,k1,k2,k3⟩
  ·rw [List.take_of_length_le (by omega)] at e3
   simp only [uptoBulk]
   omega
theorem dR {T:TypeId} (ht:P.underlying T=some (.int .i64)) (n:Nat):Opn enc P w base sp held T Rp.int (fun _=>1) n:=by
 intro cs d ps h
 refine (?_:∃ x,Rp.int.rep (hOf w) cs x).imp fun _ h=>⟨h,bulk_one d⟩
 cases n with
 | zero=>simp [DataW.trod] at h
 | succ n=>
  unfold DataW.trod at h
  rw [ht] at h
  split at h <;> simp_all
  next k k' z e=>
   obtain ⟨⟨h1,_⟩,h2,_⟩:=h
   subst h1
   exact ⟨z,by first | rfl | (subst e;rfl) | (cases e;rfl)⟩
theorem Kw {T:TypeId} (ht:P.underlying T=some (.int .u8)) (n:Nat):Opn enc P w base sp held T ⟨1,fun _ cs (x:Int)=>cs=[.int .u8 x]⟩ (fun _=>1) n:=by
 intro cs d ps h
 refine (?_:∃ x:Int,cs=[.int .u8 x]).imp fun _ h=>⟨h,bulk_one d⟩
 cases n with
 | zero=>simp [DataW.trod] at h
 | succ n=>
  unfold DataW.trod at h
  rw [ht] at h
  split at h <;> simp_all
theorem pZ {T:TypeId} (ht:P.underlying T=some .bool) (n:Nat):Opn enc P w base sp held T Rp.bool (fun _=>1) n:=by
 intro cs d ps h
 obtain ⟨b,rfl,_⟩:=DataW.trod_bool ht h
 exact ⟨b,rfl,bulk_one d⟩
theorem vF {T:TypeId} (ht:P.underlying T=some .string) (n:Nat):Opn enc P w base sp held T Rp.str (fun _=>1) n:=by
 intro cs d ps h
 refine (?_:∃ x,Rp.str.rep (hOf w) cs x).imp fun _ h=>⟨h,bulk_one d⟩
 cases n with
 | zero=>simp [DataW.trod] at h
 | succ n=>
  unfold DataW.trod at h
  rw [ht] at h
  split at h <;> simp_all
  all_goals exact ⟨_,rfl⟩
def TrF (enc:TypeId×Value→H) (P:Program) (w:World) (base:Nat) (sp:Nat→Bool) (held:Bool) (fuel:Nat):List TypeId→List Value→List (DataW H)→Prop
 | [],cs,ds=>cs=[]∧ds=[]
 | t::ts,cs,ds=>∃ c cs' d ds' p,cs=c++cs'∧ds=d::ds'∧DataW.trod enc P w base sp held fuel t c=some (d,p)∧TrF enc P w base sp held fuel ts cs' ds'
def contig (P:Program):List Field→Nat→Option Nat
 | [],o=>some o
 | f::fs,o=>if f.offset=o then contig P fs (o+P.cellsOf f.type) else none
theorem HS {n:Nat} {cs:List Value}:∀ (fs:List Field) (xs:List (DataW H×List MemPlace)) (o:Nat),xs.length=fs.length→contig P fs o=some cs.length →
  (∀ (i:Nat) (f:Field),fs[i]? = some f→DataW.trod enc P w base sp held n f.type ((cs.drop f.offset).take (P.cellsOf f.type))=xs[i]?)→TrF enc P w base sp held n (fs.map (·.type)) (cs.drop o) (xs.map (·.1))
 | [],xs,o,hl,hc,_=>by
  simp only [contig,Option.some.injEq] at hc
  subst hc
  rw [List.length_nil,List.length_eq_zero_iff] at hl
  subst hl
  exact ⟨by simp,rfl⟩
 | f::fs,[],o,hl,hc,hx=>by simp at hl
 | f::fs,x::xs,o,hl,hc,hx=>by
  unfold contig at hc
  split at hc
  ·next ho=>
   have h0:=hx 0 f rfl
   rw [ho] at h0
   simp only [List.getElem?_cons_zero] at h0
   refine ⟨(cs.drop o).take (P.cellsOf f.type),cs.drop (o+P.cellsOf f.type),x.1,xs.map (·.1),x.2,?_,rfl,h0,HS fs xs _ (by simpa using hl) hc (fun i g hg=>by simpa using hx (i+1) g (by simpa using hg))⟩
   rw [← List.drop_drop,List.take_append_drop]
  ·cases hc
theorem kh {T:TypeId} {fs:Array Field} {fuel:Nat} {cs:List Value} {d:DataW H} {ps:List MemPlace} (ht:P.underlying T=some (.struct fs)) (hk:contig P fs.toList 0=some (P.cellsOf T)) (h:DataW.trod enc P w base sp held fuel T cs=some (d,ps)):
  ∃ n ds,fuel=n+1∧d=.agg ds∧TrF enc P w base sp held n (fs.toList.map (·.type)) cs ds:=by
 obtain ⟨xs,n,hn,hx,hl,hlen,hf⟩:=DataW.trod_struct ht h
 cases hx
 refine ⟨n,_,hn,rfl,?_⟩
 have:=HS (enc:=enc) (w:=w) (base:=base) (sp:=sp) (held:=held) (n:=n) (cs:=cs) fs.toList xs 0 (by simpa using hlen) (by rw [hk,hl]) (fun i f hi=>hf i f (by simpa using hi))
 simpa using this
theorem GX {T E:TypeId} {m:Nat} (ht:P.underlying T=some (.array m E)) (hE:P.underlying E=some (.int .u8)) (hc:P.cellsOf E=1) (hcT:P.cellsOf T=m) {n:Nat} {cs:List Value} {d:DataW H} {ps:List MemPlace}
  (h:DataW.trod enc P w base sp held n T cs=some (d,ps)):∃ f:Nat→Int,cs=(List.range m).map fun i=>Value.int .u8 (f i):=by
 obtain ⟨xs,k,hk,hx,hl,hlen,hf⟩:=DataW.trod_array ht h
 rw [hcT] at hl
 have h1:∀ i,∃ z:Int,i < m→cs[i]? = some (.int .u8 z):=by
  intro i
  rcases Nat.lt_or_ge i m with hi | hi
  ·have h0:=hf i hi
   rw [hc,Nat.mul_one,List.getElem?_eq_getElem (by omega)] at h0
   obtain ⟨z,hz,_⟩:=Kw (enc:=enc) (w:=w) (base:=base) (sp:=sp) (held:=held) hE k _ _ _ h0
   refine ⟨z,fun _=>?_⟩
   have hz':(cs.drop i).take 1=[.int .u8 z]:=hz
   have:=congrArg (·[0]?) hz'
   simpa using this
  ·exact ⟨0,fun h=>by omega⟩
 obtain ⟨f,hf'⟩:=Classical.axiomOfChoice h1
 refine ⟨f,List.ext_getElem? fun i=>?_⟩
 rcases Nat.lt_or_ge i m with hi | hi
 ·rw [hf' i hi];simp [hi]
 ·rw [List.getElem?_eq_none (by omega)];simp [hi]
end opn
section openings
variable {H:Type} {enc:TypeId×Value→H} {w:World} {base:Nat} {sp:Nat→Bool} {held:Bool}
theorem D2 (n:Nat):Opn enc prog w base sp held 59 Appoint.rp (fun _=>1) n:=by
 intro cs d ps h
 obtain ⟨m,ds,rfl,rfl,c0,_,d0,_,p0,rfl,rfl,h0,c1,_,d1,_,p1,rfl,rfl,h1,c2,_,d2,_,p2,rfl,rfl,h2,c3,_,d3,_,p3,rfl,rfl,h3,c4,_,d4,_,p4,rfl,rfl,h4,c5,_,d5,_,p5,rfl,rfl,h5,c6,_,d6,_,p6,rfl,rfl,h6,rfl,rfl⟩:=kh (fs:=_) FT (by kernel_rfl) h
 obtain ⟨x0,rfl,_⟩:=(dR (by kernel_rfl)) m _ _ _ h0
 obtain ⟨x1,rfl,_⟩:=(dR (by kernel_rfl)) m _ _ _ h1
 obtain ⟨x2,rfl,_⟩:=(dR (by kernel_rfl)) m _ _ _ h2
 obtain ⟨x3,rfl,_⟩:=(dR (by kernel_rfl)) m _ _ _ h3
 obtain ⟨x4,rfl,_⟩:=(dR (by kernel_rfl)) m _ _ _ h4
 obtain ⟨x5,rfl,_⟩:=(dR (by kernel_rfl)) m _ _ _ h5
 obtain ⟨x6,rfl,_⟩:=(pZ (by kernel_rfl)) m _ _ _ h6
 exact ⟨⟨x0,x1,x2,x3,x4,x5,x6⟩,rfl,bulk_one _⟩
theorem Fg (n:Nat):Opn enc prog w base sp held 169 Deputy.rp (fun _=>1) n:=by
 intro cs d ps h
 obtain ⟨m,ds,rfl,rfl,c0,_,d0,_,p0,rfl,rfl,h0,c1,_,d1,_,p1,rfl,rfl,h1,c2,_,d2,_,p2,rfl,rfl,h2,c3,_,d3,_,p3,rfl,rfl,h3,c4,_,d4,_,p4,rfl,rfl,h4,c5,_,d5,_,p5,rfl,rfl,h5,c6,_,d6,_,p6,rfl,rfl,h6,c7,_,d7,_,p7,rfl,rfl,h7,c8,_,d8,_,p8,rfl,rfl,h8,c9,_,d9,_,p9,rfl,rfl,h9,rfl,rfl⟩:=kh (fs:=_) underlying169 (by kernel_rfl) h
 obtain ⟨x0,rfl,_⟩:=(dR (by kernel_rfl)) m _ _ _ h0
 obtain ⟨x1,rfl,_⟩:=(dR (by kernel_rfl)) m _ _ _ h1
 obtain ⟨x2,rfl,_⟩:=(dR (by kernel_rfl)) m _ _ _ h2
 obtain ⟨x3,rfl,_⟩:=(dR (by kernel_rfl)) m _ _ _ h3
 obtain ⟨x4,rfl,_⟩:=(dR (by kernel_rfl)) m _ _ _ h4
 obtain ⟨x5,rfl,_⟩:=(dR (by kernel_rfl)) m _ _ _ h5
 obtain ⟨x6,rfl,_⟩:=(dR (by kernel_rfl)) m _ _ _ h6
 obtain ⟨x7,rfl,_⟩:=(dR (by kernel_rfl)) m _ _ _ h7
 obtain ⟨x8,rfl,_⟩:=(dR (by kernel_rfl)) m _ _ _ h8
 obtain ⟨x9,rfl,_⟩:=(pZ (by kernel_rfl)) m _ _ _ h9
 exact ⟨⟨x0,x1,x2,x3,x4,x5,x6,x7,x8,x9⟩,rfl,bulk_one _⟩
theorem CO (n:Nat):Opn enc prog w base sp held 61 Interest.rp (fun _=>1) n:=by
 intro cs d ps h
 obtain ⟨m,ds,rfl,rfl,c0,_,d0,_,p0,rfl,rfl,h0,c1,_,d1,_,p1,rfl,rfl,h1,c2,_,d2,_,p2,rfl,rfl,h2,c3,_,d3,_,p3,rfl,rfl,h3,c4,_,d4,_,p4,rfl,rfl,h4,c5,_,d5,_,p5,rfl,rfl,h5,c6,_,d6,_,p6,rfl,rfl,h6,rfl,rfl⟩:=kh (fs:=_) HO (by kernel_rfl) h
 obtain ⟨x0,rfl,_⟩:=(dR (by kernel_rfl)) m _ _ _ h0
 obtain ⟨x1,rfl,_⟩:=(dR (by kernel_rfl)) m _ _ _ h1
 obtain ⟨x2,rfl,_⟩:=(dR (by kernel_rfl)) m _ _ _ h2
 obtain ⟨x3,rfl,_⟩:=(dR (by kernel_rfl)) m _ _ _ h3
 obtain ⟨x4,rfl,_⟩:=(dR (by kernel_rfl)) m _ _ _ h4
 obtain ⟨x5,rfl,_⟩:=(pZ (by kernel_rfl)) m _ _ _ h5
 obtain ⟨x6,rfl,_⟩:=(pZ (by kernel_rfl)) m _ _ _ h6
 exact ⟨⟨x0,x1,x2,x3,x4,x5,x6⟩,rfl,bulk_one _⟩
theorem Fh (n:Nat):Opn enc prog w base sp held 173 Budget.rp (fun _=>1) n:=by
 intro cs d ps h
 obtain ⟨m,ds,rfl,rfl,c0,_,d0,_,p0,rfl,rfl,h0,c1,_,d1,_,p1,rfl,rfl,h1,c2,_,d2,_,p2,rfl,rfl,h2,c3,_,d3,_,p3,rfl,rfl,h3,c4,_,d4,_,p4,rfl,rfl,h4,c5,_,d5,_,p5,rfl,rfl,h5,c6,_,d6,_,p6,rfl,rfl,h6,c7,_,d7,_,p7,rfl,rfl,h7,rfl,rfl⟩:=kh (fs:=_) underlying173 (by kernel_rfl) h
 obtain ⟨x0,rfl,_⟩:=(dR (by kernel_rfl)) m _ _ _ h0
 obtain ⟨x1,rfl,_⟩:=(dR (by kernel_rfl)) m _ _ _ h1
 obtain ⟨x2,rfl,_⟩:=(dR (by kernel_rfl)) m _ _ _ h2
 obtain ⟨x3,rfl,_⟩:=(dR (by kernel_rfl)) m _ _ _ h3
 obtain ⟨x4,rfl,_⟩:=(dR (by kernel_rfl)) m _ _ _ h4
 obtain ⟨x5,rfl,_⟩:=(dR (by kernel_rfl)) m _ _ _ h5
 obtain ⟨x6,rfl,_⟩:=(dR (by kernel_rfl)) m _ _ _ h6
 obtain ⟨x7,rfl,_⟩:=(pZ (by kernel_rfl)) m _ _ _ h7
 exact ⟨⟨x0,x1,x2,x3,x4,x5,x6,x7⟩,rfl,bulk_one _⟩
abbrev Expr.hold (x:Expr):Nat:=x.dep
theorem D1 (n:Nat):Opn enc prog w base sp held 66 Expr.rp Expr.hold n:=by
 induction n using Nat.strongRecOn with
 | _ n ih=>
 intro cs d ps h
 obtain ⟨m,ds,rfl,rfl,c0,_,d0,_,p0,rfl,rfl,h0,c1,_,d1,_,p1,rfl,rfl,h1,c2,_,d2,_,p2,rfl,rfl,h2,c3,_,d3,_,p3,rfl,rfl,h3,c4,_,d4,_,p4,rfl,rfl,h4,rfl,rfl⟩:=kh (fs:=_) underlying66 (by kernel_rfl) h
 obtain ⟨x0,rfl,_⟩:=(dR (by kernel_rfl)) m _ _ _ h0
 obtain ⟨x1,rfl,_⟩:=(dR (by kernel_rfl)) m _ _ _ h1
 obtain ⟨x2,rfl,_⟩:=(dR (by kernel_rfl)) m _ _ _ h2
 obtain ⟨x3,rfl,_⟩:=(vF (by kernel_rfl)) m _ _ _ h3
 obtain ⟨b4,k4,x4,rfl,o4,q4⟩:=jk jh (by kernel_rfl) (by decide) (fun k hk=>ih k (by omega)) h4
 refine ⟨Expr.mk x0 x1 x2 x3 x4,⟨⟨b4,k4⟩,rfl,Expr.ok.of o4⟩,?_⟩
 rw [F2] at q4
 simp only [Expr.hold,Expr.dep,YtngiefchigcphaaGreatDoor.Rows.uptoBulk,YtngiefchigcphaaGreatDoor.Rows.uptoBulkAll] at *
 omega
def Rule.hold (x:Rule):Nat:=Expr.hold x.Expr+1
theorem Il (n:Nat):Opn enc prog w base sp held 107 Rule.rp Rule.hold n:=by
 intro cs d ps h
 obtain ⟨m,ds,rfl,rfl,c0,_,d0,_,p0,rfl,rfl,h0,c1,_,d1,_,p1,rfl,rfl,h1,c2,_,d2,_,p2,rfl,rfl,h2,c3,_,d3,_,p3,rfl,rfl,h3,rfl,rfl⟩:=kh (fs:=_) underlying107 (by kernel_rfl) h
 obtain ⟨x0,rfl,_⟩:=(vF (by kernel_rfl)) m _ _ _ h0
 obtain ⟨x1,rfl,_⟩:=(dR (by kernel_rfl)) m _ _ _ h1
 obtain ⟨x2,rfl,_⟩:=(dR (by kernel_rfl)) m _ _ _ h2
 obtain ⟨x3,⟨r3,rfl,o3⟩,q3⟩:=D1 m _ _ _ h3
 refine ⟨⟨x0,x1,x2,x3⟩,⟨⟨r3⟩,rfl,⟨o3⟩⟩,?_⟩
 simp only [Rule.hold,YtngiefchigcphaaGreatDoor.Rows.uptoBulk,YtngiefchigcphaaGreatDoor.Rows.uptoBulkAll]
 omega
def Policy.hold (x:Policy):Nat:=szL (fun _=>1) x.Kinds+szL (fun _=>1) x.Offices+szL Rule.hold x.Rules+Expr.hold x.Change+1
theorem Ff (n:Nat):Opn enc prog w base sp held 68 Policy.rp Policy.hold n:=by
 intro cs d ps h
 obtain ⟨m,ds,rfl,rfl,c0,_,d0,_,p0,rfl,rfl,h0,c1,_,d1,_,p1,rfl,rfl,h1,c2,_,d2,_,p2,rfl,rfl,h2,c3,_,d3,_,p3,rfl,rfl,h3,c4,_,d4,_,p4,rfl,rfl,h4,c5,_,d5,_,p5,rfl,rfl,h5,rfl,rfl⟩:=kh (fs:=_) FS (by kernel_rfl) h
 obtain ⟨x0,rfl,_⟩:=(vF (by kernel_rfl)) m _ _ _ h0
 obtain ⟨b1,k1,x1,rfl,o1,q1⟩:=jk pS (by kernel_rfl) (by decide) (fun k _=>(vF (by kernel_rfl)) k) h1
 obtain ⟨b2,k2,x2,rfl,o2,q2⟩:=jk pS (by kernel_rfl) (by decide) (fun k _=>(vF (by kernel_rfl)) k) h2
 obtain ⟨b3,k3,x3,rfl,o3,q3⟩:=jk pc (by kernel_rfl) (by decide) (fun k _=>Il k) h3
 obtain ⟨x4,⟨r4,rfl,o4⟩,q4⟩:=D1 m _ _ _ h4
 obtain ⟨x5,rfl,_⟩:=(dR (by kernel_rfl)) m _ _ _ h5
 refine ⟨⟨x0,x1,x2,x3,x4,x5⟩,⟨⟨b1,k1,b2,k2,b3,k3,r4⟩,rfl,⟨o1,o2,o3,o4⟩⟩,?_⟩
 simp only [Policy.hold,YtngiefchigcphaaGreatDoor.Rows.uptoBulk,YtngiefchigcphaaGreatDoor.Rows.uptoBulkAll]
 omega
def Version.hold (x:Version):Nat:=Policy.hold x.Policy+1
theorem D0 (n:Nat):Opn enc prog w base sp held 70 Version.rp Version.hold n:=by
 intro cs d ps h
 obtain ⟨m,ds,rfl,rfl,c0,_,d0,_,p0,rfl,rfl,h0,c1,_,d1,_,p1,rfl,rfl,h1,c2,_,d2,_,p2,rfl,rfl,h2,c3,_,d3,_,p3,rfl,rfl,h3,rfl,rfl⟩:=kh (fs:=_) underlying70 (by kernel_rfl) h
 obtain ⟨x0,rfl,_⟩:=(dR (by kernel_rfl)) m _ _ _ h0
 obtain ⟨x1,rfl,_⟩:=(dR (by kernel_rfl)) m _ _ _ h1
 obtain ⟨x2,rfl,_⟩:=(dR (by kernel_rfl)) m _ _ _ h2
 obtain ⟨x3,⟨r3,rfl,o3⟩,q3⟩:=Ff m _ _ _ h3
 refine ⟨⟨x0,x1,x2,x3⟩,⟨⟨r3⟩,rfl,⟨o3⟩⟩,?_⟩
 simp only [Version.hold,YtngiefchigcphaaGreatDoor.Rows.uptoBulk,YtngiefchigcphaaGreatDoor.Rows.uptoBulkAll]
 omega
def Document.hold (x:Document):Nat:=szL (fun _=>1) x.Parties+szL (fun _=>1) x.Revokes+szL (fun _=>1) x.Needs+1
theorem CP (n:Nat):Opn enc prog w base sp held 52 Document.rp Document.hold n:=by
 intro cs d ps h
 obtain ⟨m,ds,rfl,rfl,c0,_,d0,_,p0,rfl,rfl,h0,c1,_,d1,_,p1,rfl,rfl,h1,c2,_,d2,_,p2,rfl,rfl,h2,c3,_,d3,_,p3,rfl,rfl,h3,c4,_,d4,_,p4,rfl,rfl,h4,c5,_,d5,_,p5,rfl,rfl,h5,c6,_,d6,_,p6,rfl,rfl,h6,c7,_,d7,_,p7,rfl,rfl,h7,c8,_,d8,_,p8,rfl,rfl,h8,c9,_,d9,_,p9,rfl,rfl,h9,rfl,rfl⟩:=kh (fs:=_) underlying52 (by kernel_rfl) h
 obtain ⟨x0,rfl,_⟩:=(dR (by kernel_rfl)) m _ _ _ h0
 obtain ⟨x1,rfl,_⟩:=(dR (by kernel_rfl)) m _ _ _ h1
 obtain ⟨x2,rfl,_⟩:=(dR (by kernel_rfl)) m _ _ _ h2
 obtain ⟨x3,rfl,_⟩:=(dR (by kernel_rfl)) m _ _ _ h3
 obtain ⟨x4,rfl,_⟩:=(dR (by kernel_rfl)) m _ _ _ h4
 obtain ⟨x5,rfl,_⟩:=(dR (by kernel_rfl)) m _ _ _ h5
 obtain ⟨b6,k6,x6,rfl,o6,q6⟩:=jk cQ (by kernel_rfl) (by decide) (fun k _=>(dR (by kernel_rfl)) k) h6
 obtain ⟨b7,k7,x7,rfl,o7,q7⟩:=jk cQ (by kernel_rfl) (by decide) (fun k _=>(dR (by kernel_rfl)) k) h7
 obtain ⟨b8,k8,x8,rfl,o8,q8⟩:=jk cQ (by kernel_rfl) (by decide) (fun k _=>(dR (by kernel_rfl)) k) h8
 obtain ⟨x9,rfl⟩:=GX underlying50 Lr (by kernel_rfl) (by kernel_rfl) h9
 refine ⟨⟨x0,x1,x2,x3,x4,x5,x6,x7,x8,x9⟩,⟨⟨b6,k6,b7,k7,b8,k8⟩,rfl,⟨o6,o7,o8⟩⟩,?_⟩
 simp only [Document.hold,YtngiefchigcphaaGreatDoor.Rows.uptoBulk,YtngiefchigcphaaGreatDoor.Rows.uptoBulkAll]
 omega
theorem CQ (n:Nat):Opn enc prog w base sp held 181 Approval.rp (fun _=>1) n:=by
 intro cs d ps h
 obtain ⟨m,ds,rfl,rfl,c0,_,d0,_,p0,rfl,rfl,h0,c1,_,d1,_,p1,rfl,rfl,h1,c2,_,d2,_,p2,rfl,rfl,h2,c3,_,d3,_,p3,rfl,rfl,h3,c4,_,d4,_,p4,rfl,rfl,h4,c5,_,d5,_,p5,rfl,rfl,h5,c6,_,d6,_,p6,rfl,rfl,h6,c7,_,d7,_,p7,rfl,rfl,h7,rfl,rfl⟩:=kh (fs:=_) underlying181 (by kernel_rfl) h
 obtain ⟨x0,rfl,_⟩:=(dR (by kernel_rfl)) m _ _ _ h0
 obtain ⟨x1,rfl,_⟩:=(dR (by kernel_rfl)) m _ _ _ h1
 obtain ⟨x2,rfl,_⟩:=(dR (by kernel_rfl)) m _ _ _ h2
 obtain ⟨x3,rfl,_⟩:=(dR (by kernel_rfl)) m _ _ _ h3
 obtain ⟨x4,rfl,_⟩:=(dR (by kernel_rfl)) m _ _ _ h4
 obtain ⟨x5,rfl,_⟩:=(dR (by kernel_rfl)) m _ _ _ h5
 obtain ⟨x6,rfl,_⟩:=(dR (by kernel_rfl)) m _ _ _ h6
 obtain ⟨x7,rfl,_⟩:=(pZ (by kernel_rfl)) m _ _ _ h7
 exact ⟨⟨x0,x1,x2,x3,x4,x5,x6,x7⟩,rfl,bulk_one _⟩
def Register.hold (x:Register):Nat:=szL (fun _=>1) x.Appoints+szL (fun _=>1) x.Deputies+szL (fun _=>1) x.Interests+szL (fun _=>1) x.Budgets+szL Version.hold x.Versions+szL Document.hold x.Docs+szL (fun _=>1) x.Approvals+1
theorem opn_Register (n:Nat):Opn enc prog w base sp held 30 Register.rp Register.hold n:=by
 intro cs d ps h
 obtain ⟨m,ds,rfl,rfl,c0,_,d0,_,p0,rfl,rfl,h0,c1,_,d1,_,p1,rfl,rfl,h1,c2,_,d2,_,p2,rfl,rfl,h2,c3,_,d3,_,p3,rfl,rfl,h3,c4,_,d4,_,p4,rfl,rfl,h4,c5,_,d5,_,p5,rfl,rfl,h5,c6,_,d6,_,p6,rfl,rfl,h6,rfl,rfl⟩:=kh (fs:=_) FU (by kernel_rfl) h
 obtain ⟨b0,k0,x0,rfl,o0,q0⟩:=jk uv (by kernel_rfl) (by decide) (fun k _=>D2 k) h0
 obtain ⟨b1,k1,x1,rfl,o1,q1⟩:=jk FQ (by kernel_rfl) (by decide) (fun k _=>Fg k) h1
 obtain ⟨b2,k2,x2,rfl,o2,q2⟩:=jk ml (by kernel_rfl) (by decide) (fun k _=>CO k) h2
 obtain ⟨b3,k3,x3,rfl,o3,q3⟩:=jk FP (by kernel_rfl) (by decide) (fun k _=>Fh k) h3
 obtain ⟨b4,k4,x4,rfl,o4,q4⟩:=jk lg (by kernel_rfl) (by decide) (fun k _=>D0 k) h4
 obtain ⟨b5,k5,x5,rfl,o5,q5⟩:=jk pH (by kernel_rfl) (by decide) (fun k _=>CP k) h5
 obtain ⟨b6,k6,x6,rfl,o6,q6⟩:=jk FO (by kernel_rfl) (by decide) (fun k _=>CQ k) h6
 refine ⟨⟨x0,x1,x2,x3,x4,x5,x6⟩,⟨⟨b0,k0,b1,k1,b2,k2,b3,k3,b4,k4,b5,k5,b6,k6⟩,rfl,⟨o0,o1,o2,o3,o4,o5,o6⟩⟩,?_⟩
 simp only [Register.hold,YtngiefchigcphaaGreatDoor.Rows.uptoBulk,YtngiefchigcphaaGreatDoor.Rows.uptoBulkAll]
 omega
end openings
theorem Km {p:Policy} (h:Policy.hold p≤1048576):smP p:=by
 unfold Policy.hold Expr.hold at h
 have h1:=mI (f:=fun _:ByteArray=>1) (fun _=>Nat.le_refl _) p.Kinds
 have h2:=mI (f:=fun _:ByteArray=>1) (fun _=>Nat.le_refl _) p.Offices
 have h3:=mI (f:=Rule.hold) (fun x=>by unfold Rule.hold;omega) p.Rules
 refine ⟨by omega,fun r hr=>?_,by omega,by omega,by omega⟩
 have h4:=Ct (f:=Rule.hold) hr
 unfold Rule.hold Expr.hold at h4
 have:szL (fun x=>Rule.hold x) p.Rules=szL Rule.hold p.Rules:=rfl
 unfold Rule.hold Expr.hold at this h
 omega
theorem Kl {l:List Version} (h:szL Version.hold l≤1048576):smV l:=by
 have h1:=mI (f:=Version.hold) (fun x=>by unfold Version.hold;omega) l
 refine ⟨by omega,fun v hv=>Km ?_⟩
 have h2:=Ct (f:=Version.hold) hv
 have h3:Policy.hold v.Policy≤Version.hold v:=by unfold Version.hold;omega
 omega
theorem smR_of {r:Register} (h:Register.hold r≤1048576):smR r:=by
 unfold Register.hold at h
 have h1:=mI (f:=fun _:Appoint=>1) (fun _=>Nat.le_refl _) r.Appoints
 have h2:=mI (f:=fun _:Deputy=>1) (fun _=>Nat.le_refl _) r.Deputies
 have h3:=mI (f:=fun _:Interest=>1) (fun _=>Nat.le_refl _) r.Interests
 have h4:=mI (f:=fun _:Budget=>1) (fun _=>Nat.le_refl _) r.Budgets
 have h5:=mI (f:=Document.hold) (fun x=>by unfold Document.hold;omega) r.Docs
 have h6:=mI (f:=fun _:Approval=>1) (fun _=>Nat.le_refl _) r.Approvals
 exact ⟨Kl (by omega),by omega,by omega,by omega,by omega,by omega,by omega⟩
end Go.Sg
namespace Go.Sg
def Le (P:Program) (f:FuncId) (X:Cx) (v:Value) (cs:List Frame) (Φ : Machine→Prop):Prop:=
 X.M=[]∧∀ fr w',RowKit.Below X.w0.heap.size X.w0 w'→fr.fn=f→fr.leaving P w' (.returned v)→To P Φ (lone fr cs w')
theorem ET {P:Program} {f:FuncId} {fn:Func} {c:Code} {n:Nat} {args:List Value} {h:HF} {v:Value} {w:World} (hp:Pre h [] w)
  (hf:P.funcs[f]? = some fn) (hb:fn.body=some c) (hn:fn.ntmps=n) (hle:Nat.ble args.length n=true)
  (t:∀ X:Cx,X.M=([]:LH).map (·.1)→X.h0=h→TT P (bodyFrame f) n [.code c] (Le P f X v) (envArgs args) [] X h []):Calls P f args.toArray w fun e w'=>e=.returned v∧RowKit.Below w.heap.size w w':=by
 intro cs
 have hle:=Nat.le_of_ble_eq_true hle
 have henter:Frame.enter P f args.toArray .normal=(bodyFrame f).atR { tmps:=args.toArray++Array.replicate (n - args.length) undef,defers:=[] } [.code c]:=by
  simp [Frame.enter,Frame.atR,hf,hb,hn,bodyFrame]
 obtain ⟨m',s,w',fr,rfl,h1,h2,h3⟩:=t ⟨w,h,[]⟩ rfl rfl w (St.start hp) { tmps:=args.toArray++Array.replicate (n - args.length) undef,defers:=[] } cs
  (fun m=>∃ w' fr,m=lone fr cs w'∧RowKit.Below w.heap.size w w'∧fr.fn=f∧fr.leaving P w' (.returned v)) (by simp;omega) (oV _ _) rfl
  ⟨rfl,fun fr w' hb hfn hl=>.now ⟨w',fr,rfl,hb,hfn,hl⟩⟩
 refine ⟨.returned v,w',fr,⟨rfl,h1⟩,?_,h2,h3⟩
 rw [henter];exact s
section ending
variable {P:Program} {f:FuncId} {n:Nat} {k:List Item} {e:Env} {X:Cx} {h:HF} {L:LH} {fn:Func}
theorem yK {rs:List ResultVar} {v:Value} {hh:HF} (vs:List Value) (hf:P.funcs[f]? = some fn) (hr:fn.results=rs.toArray) (_:X.h0=hh) (hv:rD P e L rs vs) (hvv:retVal vs=v):
  TT P (bodyFrame f) n (.code .ret::k) (Le P f X v) e [] X h L:=by
 intro w hw a cs Φ hn he hds hF
 exact .step (stepR_ret rfl) (hF.2 _ w (hw.below hF.1) rfl ⟨rfl,hds,rfl,fn,hf,hvv ▸ qG hr hv a he w hw⟩)
end ending
end Go.Sg
namespace Go.Sg
open Go.Proofs Go.Proofs.Tryz
theorem Hd {P:Program} {w:World} {sp:Nat→Bool} {m:Nat} {E:TypeId} {ps rs:Array TypeId} {vd:Bool} {c:List Value} {b:UInt8} {r:List UInt8} {p:List MemPlace} (hE:P.underlying E=some (.func ps rs vd))
  (h:DataW.trod (funcToken P) P w 0 sp true m E c=some (.held (b::r),p)):∃ f fn,c=[.func (.func f) #[] #[]]∧P.funcs[f]? = some fn∧P.funcNamed fn.name=some f∧fn.name.toUTF8.data.toList=b::r:=by
 cases m with
 | zero=>simp [DataW.trod] at h
 | succ m=>
  unfold DataW.trod at h
  rw [hE] at h
  split at h <;> try (simp_all;done)
  next fn fi ca _ _=>
   simp only [if_true,Option.some.injEq,Prod.mk.injEq,DataW.held.injEq] at h
   obtain ⟨f,g,e,h1,h2,h3⟩:=funcToken_tells h.1
   exact ⟨f,g,by rw [e],h1,h2,h3⟩
theorem JI {P:Program} {k:FuncId} {g:Func} {f:FuncId} {fn:Func} {l:List UInt8} (hg:P.funcNamed g.name=some k) (hl:g.name.toUTF8.data.toList=l) (h2:P.funcNamed fn.name=some f) (h3:fn.name.toUTF8.data.toList=l):f=k:=by
 have:fn.name=g.name:=bytes_inj (h3.trans hl.symm)
 rw [this,hg] at h2
 exact (Option.some.inj h2).symm
theorem HW {α : Type} {l:List α} {i:Nat} {x:α} (h:(l.drop i).take 1=[x]):l[i]? = some x:=by
 have:=congrArg (·[0]?) h
 simpa using this
theorem kinds_of {W:World} (hL:laidMetH prog YtngiefchigcphaaGreatDoor.Rows.asofEveryUptoRow.laid W):Kinds (hOf W):=by
 obtain ⟨d, hd⟩ : ∃ d, (YtngiefchigcphaaGreatDoor.Rows.laid_signatory_policies_kinds : DataW Unit) = .iface "func table" d := ⟨_, rfl⟩
 obtain ⟨g,t,cs,fuel,p,hg,ht,hv,hr⟩:=hL.funcs (d:=d) (by rw [← hd];exact List.mem_cons_self ..)
 unfold World.var? at hv
 rw [hg] at hv
 obtain rfl:g=0:=Option.some.inj (hg.symm.trans (by kernel_rfl))
 obtain rfl:t=284:=Option.some.inj (ht.symm.trans (by kernel_rfl))
 obtain ⟨xs,m,_,hx,hl,hlen,hf⟩:=DataW.trod_array (n:=5) (e:=165) (by kernel_rfl) hr
 rw [show prog.cellsOf 284=5 by kernel_rfl] at hl
 rw [show prog.cellsOf 165=1 by kernel_rfl] at hf
 unfold YtngiefchigcphaaGreatDoor.Rows.laid_signatory_policies_kinds at hd
 cases hd
 simp only [DataW.funcsOut,DataW.funcsOutAll,Prod.mk.injEq] at hx
 match xs,hlen with
 | [x0,x1,x2,x3,x4],_=>
  simp only [List.map_cons,List.map_nil,beq_self_eq_true,if_true,DataW.agg.injEq,List.cons.injEq,and_true] at hx
  have key:∀ (i:Nat) (x:DataW (List UInt8)×List MemPlace) (b:UInt8) (r:List UInt8) (k:FuncId) (fk:Func),i < 5→[x0,x1,x2,x3,x4][i]? = some x→DataW.held (b::r)=x.1→prog.funcNamed fk.name=some k→fk.name.toUTF8.data.toList=b::r→cs.toList[i]? = some (.func (.func k) #[] #[]):=by
   intro i x b r k fk hi hxi hb hk hn
   have h0:=hf i hi
   rw [hxi,Nat.mul_one] at h0
   obtain ⟨f,fn,e,_,h2,h3⟩:=Hd (P:=prog) (E:=165) underlying165 (h0.trans (show some x=some (DataW.held (b::r),x.2) by rw [hb]))
   obtain rfl:=JI hk hn h2 h3
   exact HW e
  obtain ⟨⟨e0,e1,e2,e3,e4⟩,_⟩:=hx
  have k0:=key 0 x0 _ _ 299 Tryz.f299 (by omega) rfl e0 (by kernel_rfl) (by kernel_rfl)
  have k1:=key 1 x1 _ _ 300 Tryz.f300 (by omega) rfl e1 (by kernel_rfl) (by kernel_rfl)
  have k2:=key 2 x2 _ _ 301 Tryz.f301 (by omega) rfl e2 (by kernel_rfl) (by kernel_rfl)
  have k3:=key 3 x3 _ _ 302 Tryz.f302 (by omega) rfl e3 (by kernel_rfl) (by kernel_rfl)
  have k4:=key 4 x4 _ _ 303 Tryz.f303 (by omega) rfl e4 (by kernel_rfl) (by kernel_rfl)
  have hcs:cs=kindsC.toArray:=by
   apply Array.toList_inj.1
   apply List.ext_getElem?
   intro i
   match i with
   | 0=>exact k0
   | 1=>exact k1
   | 2=>exact k2
   | 3=>exact k3
   | 4=>exact k4
   | i+5=>rw [List.getElem?_eq_none (by omega)];rfl
  simp only [Option.bind_some] at hv
  split at hv
  ·next c T fz e=>
   cases hv
   exact ⟨T,fz,by rw [← hcs];exact e⟩
  ·cases hv
end Go.Sg
namespace Go.Sg
open Go.ChangeShapes Go.WideShapes Go.RowKit
variable {H:Type} {enc:TypeId×Value→H} {P:Program}
theorem post_below {f:Func} {s:ChangeSpec} {apart fresh handsOn again:Bool} {W W':World} {args:Array Value} {v:Value} {ds gs:List (DataW H)} {before pa pv:List MemPlace}
  (hW:DataW.Whole enc P f.params.toList s.vars apart W args.toList ds gs before)
  (hres:∀ (b:Nat) (sp:Nat→Bool) (hd:Bool),DataW.TrodAll enc P W' b sp hd f.resultTypes.toList (v.resultList f.resultTypes.size) (s.fn H (ds++gs)).results [])
  (hargs:∀ sp:Nat→Bool,(∀ p∈before,sp p.block=true)→DataW.TrodAll enc P W' 0 sp true f.params.toList args.toList (s.fn H (ds++gs)).args pa)
  (hvars:∀ sp:Nat→Bool,(∀ p∈before,sp p.block=true)→DataW.TrodVars enc P W' sp s.vars (s.fn H (ds++gs)).vars pv)
  (hps:before=pa++pv) (hb:Below W.heap.size W W')
  (hok:∀ (j:Nat) (t:TypeId) (r:Value),f.resultTypes[j]? = some t→(v.resultList f.resultTypes.size)[j]? = some r→Value.okWide P W' .any 0 t r):
  s.post enc P f apart fresh handsOn again W args v W':=by
 have hlt:=hW.lt
 have hold:∀ p∈before,(fun b=>decide (b < W.heap.size)) p.block=true:=fun p hp=>by simpa using hlt p hp
 refine ⟨ds,gs,before,[],pa,pv,hW,hres _ _ _,hargs _ hold,hvars _ hold,World.keptBut_mono (fun p hp=>⟨hp,?_⟩) (hb.frame (·∈before)),fun _=>?_⟩
 ·rw [hps,List.mem_append] at hp
  exact Or.inr hp
 ·obtain ⟨_,_,_,_,_,hz,hn⟩:=hW
  refine ⟨hok,_,_,([]++pa)++pv,⟨[]++pa,pv,trodAll_append (hargs _ (fun _ _=>rfl)) (hres _ _ _),hvars _ (fun _ _=>rfl),rfl,?_,?_⟩,?_⟩
  ·intro b off hp
   have hp':MemPlace.cell b off∈before:=by rw [hps];simpa using hp
   rw [hb.frozen (p:=⟨b,off,none⟩) (hlt _ hp')]
   exact hz b off hp'
  ·intro ha
   have:=hn ha
   rw [hps] at this
   simpa using this
  ·intro p hp _
   rw [hps]
   simpa using hp
theorem stays {t:TypeId} (hl:laidOutB P=true) (hr:P.readableRec t=true) (hrow:decide (t < P.types.size)=true) {W W':World} {v:Value} {d:DataW H} {ps before:List MemPlace} (h:DataW.Trod enc P W 0 (fun _=>true) true t v d ps)
  (hb:Below W.heap.size W W') (hlt:∀ x∈before,x.block < W.heap.size) (hm:∀ x∈ps,x∈before) {sp:Nat→Bool} (hsp:∀ p∈before,sp p.block=true):DataW.Trod enc P W' 0 sp true t v d ps:=
 WideElems.Trod_stays hl hr (of_decide_eq_true hrow) h (fun x hx=>hb.same (hlt x (hm x hx))) (fun x hx=>hsp _ (hm x hx))
end Go.Sg
