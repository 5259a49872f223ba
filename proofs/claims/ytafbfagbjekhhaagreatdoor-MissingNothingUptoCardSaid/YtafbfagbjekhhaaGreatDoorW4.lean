import Derived.KernelRfl
import Derived.Test.YtafbfagbjekhhaaGreatDoorProg
import Derived.ChangeArms
import Derived.OpenShut
import Derived.Test.YtafbfagbjekhhaaGreatDoorRows
import Derived.LaidHandle
import Derived.WordedOn
import Derived.ChangeSame
import Derived.Carry
import Derived.Test.YtafbfagbjekhhaaGreatDoorW3
/- A part of the proof of MissingNothing. -/
set_option linter.unusedVariables false
set_option linter.unusedSimpArgs false
set_option maxRecDepth 100000
open List renaming length_cons→zA,length_append→vA,not_mem_nil→kA,length_nil→zB,toArray→xB,mem_cons_self→kB,mem_singleton→xC,mem_cons_of_mem→jC,append_assoc→vD,range→qE,mem_cons→zE,nil_append→zF,mem_append→zG,perm_append_comm→xG,map_cons→vH,cons_append→kK,mem_append_left→qP,all_eq_true→qQ,mem_filter→xW,foldl_cons→Wb,map_nil→Wr,mem_range→Wz,ext_getElem?→WI
open Go.Sg.HF renaming le_trans→jA,le_refl→kH
open Go.Value renaming int→qC,bool→zV
open Bool renaming and_eq_true→zC,or_eq_true→kD,not_eq_true'→qF,eq_iff_iff→jJ
open Nat renaming le_refl→vE,zero_le→xH,blt→zJ,eq_of_beq_eq_true→jL,le_trans→qM,lt_or_ge→xM,beq→zW
open Go.Sg.OSeat renaming cells→kE,enc→jT,mk→vT
open Go.Obj renaming cells→jG
open Option.some renaming injEq→jN
open Go.Addr renaming add→kP
open Go.Frame renaming enter→vR
open Array renaming replicate→Wa
open Go.Sg.Budget renaming mk→Wt
open Prod.mk renaming injEq→Xj
open Go.RowKit renaming Below→XX

namespace Go.Sg
variable {ah ba i:Int}{m n:Nat}{p:Prop}{signed:List Int}{u:List Use}{α ρ:Type}{y:α}
section
theorem Se{l:List ao}{f:ao->Bool}(h:0<=ai l f):∃a y b,l=a++y::b/\nthI l (ai l f)=y/\f y=true/\∀x∈a,f x=false:=by
 unfold ai at h ⊢
 rcases HS f l 0 with⟨h1,_⟩|⟨a,y,b,h1,h2,h3,h4⟩
 .omega
 .refine⟨a,y,b,h1,?_,h3,h4⟩
  rw[h2,Nat.zero_add]
  exact oV (by rw[h1];simp)
theorem F9{r:Register}{t:Int}{c:bU}(hc:dY r=0)(h:nT r ba t ah=.ok c):
  c=⟨r,c.ba,t,ah⟩/\jo c/\c.ba.No=ba/\∃a b,r.cj=a++c.ba::b/\∀x∈a,x.No≠ba:=by
 unfold nT at h
 rw[Bool.cond_eq_ite]at h
 split at h
 .cases h
 .next hn=>
  simp only[kD,not_or,decide_eq_true_eq]at hn
  obtain⟨⟨h1,h2⟩,h3⟩:=hn
  cases h
  obtain⟨a,y,b,e1,e2,e3,e4⟩:=Se (by omega:0<=ai r.cj (λef=>bL ef ba))
  rw[e2]
  refine⟨rfl,⟨hc,by rw[e1];simp,?_,?_⟩,?_,a,b,e1,λx hx=>?_⟩
  .show 0<=t/\t<1099511627776;omega
  .grind
  .simpa[bL]using e3
  .simpa[bL]using e4 x hx
theorem M8(f:aD->Bool):∀(l:List aD)(i:Nat),(bw.L1 f bw.K1 l i=-1/\∀x∈l,f x=false) \/
  ∃a y b,l=a++y::b/\bw.L1 f bw.K1 l i=((i+a.length:Nat):Int)/\f y=true/\∀x∈a,f x=false
 |[],i=>.inl ⟨rfl,λ_ h=>(kA h).elim⟩
 |y::l,i=>by
  simp only[bw.L1]
  cases hy:f y with
  |true=>exact .inr ⟨[],y,l,rfl,by simp,hy,λ_ h=>(kA h).elim⟩
  |false=>
   rcases M8 f l (i+1)with⟨h1,h2⟩|⟨a,z,b,rfl,h2,h3,h4⟩
   all_goals grind
theorem yp(c:bU)(no:Int):(fP c no=.error 1/\∀v∈c.Register.Versions,v.No≠no)\/∃a v b,c.Register.Versions=a++v::b/\fP c no=.ok v.aw/\v.No=no/\∀x∈a,x.No≠no:=by
 unfold fP bw
 rcases M8 (λef=>eQ ef no) c.Register.Versions 0 with⟨h1,h2⟩|⟨a,v,b,h1,h2,h3,h4⟩
 .left
  rw[h1]
  exact⟨rfl,λv hv=>by simpa[eQ]using h2 v hv⟩
 .right
  refine⟨a,v,b,h1,?_,by simpa[eQ]using h3,λx hx=>by simpa[eQ]using h4 x hx⟩
  rw[h2,show decide (((0+a.length:Nat):Int)<0)=false from decide_eq_false (by omega),cond_false,Nat.zero_add,oV (x:=v) (by rw[h1];simp)]
theorem Qq{c:bU}{no:Int}{p:aw}(h:fP c no=.ok p):∃v∈c.Register.Versions,v.No=no/\v.aw=p:=by grind [yp]
theorem KV{c:bU}{no:Int}(h:∃v∈c.Register.Versions,v.No=no):exOk (fP c no):=by
 obtain⟨v,hv,hn⟩:=h
 rcases yp c no with⟨_,h2⟩|⟨_,_,_,_,h2,_⟩
 .exact absurd hn (h2 v hv)
 .rw[h2];trivial
structure Ug(p:aw):Prop where
 sm:smP p
 off:p.aB.length<=32
 rules:p.di.length=p.dQ.length/\∀y∈p.di,0<=y.iK/\y.iK<=1099511627775
theorem yD{c:bU}(h:jo c)(hs:smR c.Register){no:Int}{p:aw}(hp:fP c no=.ok p):Ug p:=by
 obtain⟨v,hv,_,rfl⟩:=Qq hp
 have hg:=(h.vers.each v hv).2.2.2
 exact⟨hs.1.2 v hv,(Bt hg).2.1,(Bt hg).1,(IF hg).2.2⟩
theorem UO[Inhabited ρ]{x:Except Int ρ}{p:ρ}(h:x=.ok p):exD x=p:=by subst h;rfl
theorem QO(l:List ay)(ba bq ah:Int):(fQ l ba bq ah).length<=l.length:=by
 show(cd.L1 ba bq ah cd.K1 l).length<=l.length
 induction l with
 |nil=>exact vE _
 |cons y l ih=>simp only[cd.L1,Bool.cond_eq_ite];split<;>simp only[zA]<;>omega
theorem QL(l:List ay)(ba bq ah:Int):(aP l ba bq ah).length<=l.length:=by
 have h2:∀(g:List (fC×ay))(s acc:List ay),(aP.L2 g aP.K2 s acc).length<=acc.length+s.length:=by
  intro g s
  induction s with
  |nil=>intro acc;exact vE _
  |cons y s ih=>
   intro acc
   simp only[aP.L2,Bool.cond_eq_ite]
   grind
 have h1:∀(s:List ay)(g:List (fC×ay)),(aP.L1 (aP.K1 l ba bq ah) s g).length<=l.length:=by
  intro s
  induction s with
  |nil=>
   intro g
   have h3:=h2 g (fQ l ba bq ah) []
   have h4:=QO l ba bq ah
   show(aP.L2 g aP.K2 (fQ l ba bq ah) []).length<=l.length
   simp only[zB]at h3;omega
  |cons y s ih=>intro g;simp only[aP.L1,Bool.cond_eq_ite];split<;>exact ih _
 exact h1 _ _
theorem yF(l:List ay)(d b th t k:Int):(da l d b th t k).1.length<=l.length:=by
 unfold da
 simp only[Bool.cond_eq_ite]
 split
 .exact xH _
 .split
  .exact xH _
  .exact qM (List.length_filter_le _ _) (QL _ _ _ _)
def goodA(c:bU)(y:ay):Bool:=(((eO c.Register.dD y.ep y.For c.at_ c.ah).2.2.1&&(aS c.Register.fR y.For y.By y.ep c.ba.Kind c.ba.Value c.at_ c.ah).2.1)&&(!(j0 c y.For)))&&(!(j0 c y.By))
theorem PE(c:bU):∀l:List ay,cR.L1 c cR.K1 l=l.filter (goodA c)
 |[]=>rfl
 |y::l=>by
  simp only[cR.L1,List.filter_cons,PE c l,Bool.cond_eq_ite]
  rfl
theorem Lj(c:bU)(p:aw):gN c p=bif decide ((p.dQ.length:Int)<=c.ba.Kind)then[]else((da c.Register.dy c.ba.No c.ba.At ((nthI p.di c.ba.Kind).iK) c.at_ c.ah).1).filter (goodA c):=by
 show cR c p=_
 unfold cR
 rw[PE]
theorem Er(c:bU)(p:aw):de c p=setI ((gN c p).map (·.For)):=by
 have:∀(s:List ay)(g:List Int),de.L1 de.K1 s g=setI (g++s.map (·.For)):=by
  intro s
  induction s with
  |nil=>intro g;simp[de.L1,de.K1,setI,slices_Compact_int]
  |cons y s ih=>intro g;simp only[de.L1,ih,vH,vD,kK,zF]
 have h:=this (gN c p) []
 rw[zF]at h
 exact h
theorem ID:∀(xs out:List Int),(xs.foldl compStep out).length<=out.length+xs.length
 |[],out=>vE _
 |x::xs,out=>by
  simp only[Wb,zA]
  have h1:=ID xs (compStep out x)
  grind [compStep]
theorem Sl{c:bU}(hs:smR c.Register)(p:aw):(gN c p).length<=2000000:=by
 rw[Lj,Bool.cond_eq_ite]
 have h3:=hs.2.2.2.2.2.2
 grind [yF]
theorem Hs{c:bU}(hs:smR c.Register)(p:aw):(de c p).length<=2000000:=by
 rw[Er]
 have h1:=ID (sortI ((gN c p).map (·.For))) []
 rw[iL,List.length_map]at h1
 have h2:(gN c p).length<=c.Register.dy.length:=by
  grind [Lj,yF]
 have h3:=hs.2.2.2.2.2.2
 show(compI _).length<=_
 grind [compI,zB]
theorem KK(u:List Use)(v t k:Int):∀s:List Budget,(aN.L1 u v t k aN.K1 s).2.2=0
 |[]=>rfl
 |y::s=>by
  simp only[aN.L1]
  have:∀(l:List Int)(a b:Int),(aN.L3 (λzg3_b6_0 zg3_b5_0=>(bif(decide (y.Count<zg3_b5_0)||decide (y.Value<zg3_b6_0))then(y.No,false,0)else(aN.L1 u v t k aN.K1 s))) l a b).2.2=0:=by
   intro l
   induction l with
   |nil=>intro a b;simp only[aN.L3,Bool.cond_eq_ite];split;rfl;exact KK u v t k s
   |cons z l ih=>intro a b;simp only[aN.L3];exact ih _ _
  exact this _ _ _
theorem qo{a b z:Int}:ce a b [z]=true↔a<=z/\z<=b:=by
 simp only[ce,containsF,lE,List.any_cons,List.any_nil,Bool.or_false,qF,Bool.or_eq_false_iff,decide_eq_false_iff_not];omega
theorem Be{a b y z:Int}:ce a b [y,z]=true↔(a<=y/\y<=b)/\(a<=z/\z<=b):=by
 simp only[ce,containsF,lE,List.any_cons,List.any_nil,Bool.or_false,qF,Bool.or_eq_false_iff,decide_eq_false_iff_not];omega
theorem GM{l:List Budget}(h:(aN l u 0 0 0 0).2.2=0){k v t n:Int}(hk:0<=k/\k<16)(hv:0<=v/\v<=1099511627776)(ht:0<=t/\t<1099511627776)(hn:0<=n/\n<1099511627776):(aN l u k v t n).2.2=0:=by
 unfold aN at h ⊢
 cases h1:(bI l) != 0 with
 |true=>
  grind
 |false=>
  rw[h1,cond_false]at h
  rw[cond_false]
  cases h2:decide (4096<(u.length:Int))with
  |true=>rw[h2,cond_true]at h;cases h
  |false=>
   rw[h2,cond_false]at h
   rw[cond_false]
   cases h3:ia u with
   |false=>rw[h3]at h;cases h
   |true=>
    rw[qo.2 (show(0:Int)<=k/\k<=15 by omega),qo.2 hv,Be.2 (show((0:Int)<=t/\t<=1099511627775)/\(0<=n/\n<=1099511627775) by omega)]
    exact KK _ _ _ _ _
theorem Lg{l:List ao}{t:Int}(h:(bA l signed t).2=0):cC l signed=true:=by grind [bA]
theorem Kp{c:bU}(h:hY c signed=false):c.ba.At<=c.at_:=by grind [hY,Bool.or_eq_false_iff,decide_eq_false_iff_not]
theorem Nr(no:Int):∀(l:List ao)(i:Nat),eS.L1 no eS.K1 l i=ai.L1 (λef=>bL ef no) ai.K1 l i
 |[],i=>rfl
 |y::l,i=>by
  simp only[eS.L1,ai.L1,bL,Bool.cond_eq_ite]
  split
  .rfl
  .exact Nr no l (i+1)
theorem K6{r:Register}{t:Int}(hd:0<=eS r ba)(ht:0<=t/\t<1099511627776)(hk:0<=ah/\ah<1099511627776):nT r ba t ah=.ok ⟨r,nthI r.cj (eS r ba),t,ah⟩:=by
 have e:ai r.cj (λef=>bL ef ba)=eS r ba:=(Nr ba r.cj 0).symm
 grind [nT]
theorem Dt{l:List Int}{n:Int}{k:Nat}(h:∀x∈l,0<=x/\x<n)(hi:0<=i/\i<n):∀x∈(l.take k++[i])++l.drop k,0<=x/\x<n:=by grind
theorem Tv{l:List Int}{n:Int}(h:∀x∈l,0<=x/\x<n)(hn:0<n)(i:Int):0<=nthI l i/\nthI l i<n:=
 Pk (P:=λx:Int=>0<=x/\x<n) h ⟨Int.le_refl _,hn⟩ i
theorem IZ{n:Int}:∀{l:List Int},gy l n=true->n∈l:=by
 have h:∀l:List Int,gy.L1 n (gy.K1) l=true->n∈l:=by
  intro l
  induction l with
  |nil=>intro h;simp[gy.L1,gy.K1]at h
  |cons y l ih=>
   intro h
   simp only[gy.L1,Bool.cond_eq_ite]at h
   grind
 intro l;exact h l
theorem HU{l:List Int}(h:∀x∈l,0<=x/\x<(n:Int))(e:m=n)(c:(!(gy l i))=false):0<=i/\i<(m:Int):=by
 subst e;exact h i (IZ (by simpa using c))
theorem uB(signed:List Int)(t:Int):∀x∈cn signed t,0<=x/\x<(signed.length:Int):=by
 have h3:∀(y1:Int)(g:List Int)(k:Nat->List Int)(P:List Int->Prop),(∀i,P (k i))->∀(s:List Nat)(i:Nat),P (cn.L3 signed y1 g k s i):=by
  intro y1 g k P hk s
  induction s with
  |nil=>intro i;exact hk i
  |cons y s ih=>intro i;simp only[cn.L3,Bool.cond_eq_ite];split;exact ih _;exact hk _
 have h1:∀(s:List Int)(i:Nat)(g:List Int),i+s.length=signed.length->(∀x∈g,0<=x/\x<(signed.length:Int)) ->
   ∀x∈cn.L1 signed t (cn.K1) s i g,0<=x/\x<(signed.length:Int):=by
  intro s
  induction s with
  |nil=>intro i g _ hg;exact hg
  |cons y s ih=>
   intro i g hi hg
   simp only[zA]at hi
   simp only[cn.L1,Bool.cond_eq_ite]
   split
   .exact ih _ _ (by omega) hg
   .exact h3 _ _ _ (λr=>∀x∈r,0<=x/\x<(signed.length:Int)) (λk=>ih _ _ (by omega) (Dt hg (by omega))) _ _
 exact h1 signed 0 [] (by omega) (λx hx=>(kA hx).elim)
theorem yI{l:List ao}(h:fa l signed=true):signed.length=l.length:=by
 have h1:∀s:List Int,fa.L1 (fa.K1 l signed) s=true->fa.K1 l signed=true:=by
  intro s
  induction s with
  |nil=>intro h;exact h
  |cons y s ih=>
   intro h
   simp only[fa.L1,Bool.cond_eq_ite]at h
   split at h
   .cases h
   .exact ih h
 have h2:=h1 signed h
 simp only[fa.K1,beq_iff_eq]at h2
 omega
theorem QR(l:List ao)(signed:List Int)(t:Int)(hsg:signed.length=l.length):(co l signed t).length=l.length:=by
 have h4:∀(i2:Nat)(y2:Int)(g:List Bool)(k:List Int->List Int)(P:List Int->Prop)(n:Nat),(∀r:List Int,r.length=n->P (k r)) ->
   ∀(s:List Nat)(i:Nat)(r:List Int),r.length=n->P (co.L4 l signed t i2 y2 g k s i r):=by
  intro i2 y2 g k P n hk s
  induction s with
  |nil=>intro i r hr;exact hk r hr
  |cons y s ih=>
   intro i r hr
   simp only[co.L4,Bool.cond_eq_ite]
   grind
 have h2:∀(s:List Int)(i:Nat)(g:List Bool)(r:List Int),(co.L2 l signed t (co.K2) s i g r).length=r.length:=by
  intro s
  induction s with
  |nil=>intro i g r;rfl
  |cons y s ih=>
   intro i g r
   simp only[co.L2]
   exact h4 _ _ _ _ (λx=>x.length=r.length) r.length (λq hq=>by rw[ih];exact hq) _ _ _ rfl
 have h1:∀(s:List ao)(g:List Int),(co.L1 (co.K1 l signed t) s g).length=g.length+s.length:=by
  intro s
  induction s with
  |nil=>intro g;simp only[co.L1,co.K1];rw[h2];rfl
  |cons y s ih=>intro g;simp only[co.L1];rw[ih];simp only[vA,zA,zB];omega
 have:=h1 l []
 simpa[co]using this
theorem NC{l:List ao}(h:((ek l) != 0)=false):∀d∈l,d.fm.length<=16:=by
 intro d hd
 have h0:ek l=0:=by simpa using h
 exact(EX ((ST h0).2 d hd)).needs.2
theorem Cs{l:List Budget}{n t:Int}{x:Budget}(h:x∈dH l n t ah):x∈l:=by
 have h1:∀(s:List Budget)(i:Nat)(g:List Budget),x∈dH.L1 l n t ah (dH.K1) s i g->x∈g\/x∈s:=by
  intro s
  induction s with
  |nil=>intro i g h;exact .inl h
  |cons y s ih=>
   intro i g h
   simp only[dH.L1,Bool.cond_eq_ite]at h
   grind
 rcases h1 l 0 [] h with h|h
 .exact(kA h).elim
 .exact h
theorem KQ{l:List Budget}{n t:Int}{x:Budget}(h:fY l=0)(hx:x∈dH l n t ah):x.eK≠0:=by
 have h2:bI l=0:=(Bc l).trans h
 grind [wY,so,Cs]
def bstM(kind t ah:Int):List Budget->List (fB×Budget)->List (fB×Budget)
 |[],m=>m
 |y::l,m=>bif((decide (t<y.At)||decide (ah<y.dU))||((y.Kind != (-1))&&(y.Kind != kind)))then bstM kind t ah l m else bif((!(mhas m (fB.mk y.Kind y.eK)))||decide ((mgetD m (fB.mk y.Kind y.eK) (Wt 0 0 0 0 0 0 0 false)).At<=y.At))then bstM kind t ah l (mput m (fB.mk y.Kind y.eK) y)else bstM kind t ah l m
theorem LB(kind t ah:Int)(k:List (fB×Budget)->List Budget):∀(l:List Budget)m,aO.L1 kind t ah k l m=k (bstM kind t ah l m)
 |[],m=>rfl
 |y::l,m=>by
  simp only[aO.L1,bstM,LB kind t ah k l,Bool.cond_eq_ite]
  repeat' split
  all_goals rfl
theorem LA(v:List (fB×Budget)):∀(l g:List Budget),aO.L2 v aO.K2 l g=g++l.filter λy=>(!y.mG)&&decide ((mgetD v (fB.mk y.Kind y.eK) (Wt 0 0 0 0 0 0 0 false))=y)
 |[],g=>by simp[aO.L2,aO.K2]
 |y::l,g=>by
  simp only[aO.L2,List.filter_cons,LA v l]
  grind
theorem Qb{l:List ao}{sg:List Int}:cC l sg=true↔sg.length=l.length/\∀x∈sg,ma x=false:=by
 unfold cC
 rw[zC,beq_iff_eq,containsF]
 grind
theorem Qh{l:List Budget}(h:(aN l u 0 0 0 0).2.2=0):u.length<=4096/\ia u=true:=by
 unfold aN at h
 cases c0:(bI l) != 0 with
 |true=>rw[c0]at h;simp only[cond_true]at h;rw[h]at c0;cases c0
 |false=>
  grind
theorem JQ{l:List Budget}(hc:bI l=0)(hl:u.length<=4096)(hu:ia u=true):(aN l u 0 0 0 0).2.2=0:=by
 unfold aN
 have c1:decide (4096<(u.length:Int))=false:=by simp;omega
 rw[hc,c1,hu]
 have c2:(((!(ce 0 15 ([0])))||(!(ce 0 1099511627776 ([0]))))||(!(ce 0 1099511627775 ([0,0]))))=false:=by decide
 rw[c2]
 exact KK u 0 0 0 _
section
variable {r:Register} {d:ao} {t ah:Int} {signed:List Int} {u:List Use} (hco:jo ⟨r,d,t,ah⟩) (hs:cC r.cj signed=true) (hr:(aN r.dN u 0 0 0 0).2.2=0)
include hco hs hr
end
theorem uses18(h:gE u=true):ia u=true:=by
 have h3:∀(y:Use)(k:Bool)(s:List Nat)(j:Nat),gE.L3 u y k s j=true->k=true/\∀q:Nat,j<=q->q<j+s.length->(nthI u (q:Int)).Doc≠y.Doc:=by
  intro y k s
  induction s with
  |nil=>intro j h;exact⟨h,λq h1 h2=>by simp at h2;omega⟩
  |cons z s ih=>
   intro j h
   simp only[gE.L3,Bool.cond_eq_ite]at h
   split at h
   .cases h
   .next hc=>
    obtain⟨h1,h2⟩:=ih _ h
    grind
 have h1:∀(s:List Use)(i:Nat)(m:List (Int×Bool)),u.drop i=s->(∀x,mgetD m x false=true->∃q:Nat,q<i/\(nthI u (q:Int)).Doc=x)->gE.L1 u (gE.K1) s i=true->ia.L1 ia.K1 s m=true:=by
  intro s
  induction s with
  |nil=>intro i m _ _ _;rfl
  |cons y s ih=>
   intro i m hd hm h
   simp only[gE.L1,Bool.cond_eq_ite]at h
   split at h
   .cases h
   .next hc=>
    simp only[kD,not_or,Bool.not_eq_true,Bool.not_eq_false',jx,uU,ky,zC,decide_eq_true_eq]at hc
    obtain⟨⟨⟨⟨c1,c2⟩,c3⟩,c4⟩,c5⟩:=hc
    obtain⟨h4,h5⟩:=h3 _ _ _ _ h
    have e0:mgetD m y.Doc false=false:=by
     grind
    simp only[ia.L1,e0,(qo (a:=0) (b:=4095) (z:=y.Doc)).2 ⟨by omega,by omega⟩,(qo (a:=0) (b:=15) (z:=y.Kind)).2 ⟨by omega,by omega⟩,(qo (a:=0) (b:=1099511627776) (z:=y.Value)).2 ⟨by omega,by omega⟩,(Be (a:=0) (b:=1099511627775) (y:=y.At) (z:=y.dU)).2 ⟨⟨by omega,by omega⟩,⟨by omega,by omega⟩⟩,Bool.not_true,Bool.or_false,cond_false]
    refine ih (i+1) _ (ll hd) (λx hx=>?_) h4
    unfold mgetD at hx
    rw[ov]at hx
    split at hx
    .next e=>exact⟨i,Nat.lt_succ_self _,by rw[e,oV (sn hd)]⟩
    .obtain⟨q,hq,he⟩:=hm x hx;exact⟨q,by omega,he⟩
 exact h1 u 0 [] rfl (λx hx=>by cases hx) h
theorem signs17{l:List ao}(h:fa l signed=true):cC l signed=true:=by
 rw[Qb]
 refine⟨yI h,?_⟩
 have h1:∀s:List Int,fa.L1 (fa.K1 l signed) s=true->∀x∈s,ma x=false:=by
  intro s
  induction s with
  |nil=>intro _ x hx;exact(kA hx).elim
  |cons y s ih=>
   intro h x hx
   simp only[fa.L1,Bool.cond_eq_ite]at h
   split at h
   .cases h
   .next hc=>
    rcases zE.1 hx with rfl|hx
    .exact Bool.eq_false_iff.2 hc
    .exact ih h x hx
 exact h1 signed h
abbrev rCourt(r:Register)(ba t ah:Int):bU:=⟨r,nthI r.cj (eS r ba),t,ah⟩
section
variable {α κ : Type} [DecidableEq κ] (key:α->κ) (at_ no:α->Int) (z0:α)
def gMap:List α->List (κ×α)->List (κ×α)
 |[],m=>m
 |y::l,m=>gMap l (bif(!(mhas m (key y)))||decide (at_ (mgetD m (key y) z0)<=at_ y)then mput m (key y) y else m)
def gOver(z w:α):Prop:=at_ z<at_ w\/(at_ w=at_ z/\no z<no w)
structure QT(pre:List α)(m:List (κ×α)):Prop where
 some:∀k z,mget? m k=some z->z∈pre/\key z=k/\∀w∈pre,key w=k->¬gOver at_ no z w
 none:∀k,mget? m k=none->∀w∈pre,key w≠k
theorem HX:∀(l pre:List α)(m:List (κ×α)),(pre++l).Pairwise (λa b=>no a<no b)->QT key at_ no pre m->QT key at_ no (pre++l) (gMap key at_ z0 l m)
 |[],pre,m,_,h=>by rw[List.append_nil];exact h
 |y::l,pre,m,hp,h=>by
  have hno:∀w∈pre,no w<no y:=λw hw=>(List.pairwise_append.1 hp).2.2 w hw y (kB ..)
  have hp2:((pre++[y])++l).Pairwise (λa b=>no a<no b):=by rw[vD];exact hp
  have go:∀m',QT key at_ no (pre++[y]) m'->QT key at_ no (pre++y::l) (gMap key at_ z0 l m'):=λm' h'=>by
   have:=HX l (pre++[y]) m' hp2 h'
   rwa [vD]at this
  simp only[gMap,Bool.cond_eq_ite]
  split
  .next hn=>
   refine go _ ⟨λk z hz=>?_,λk hz w hw hk=>?_⟩
   .rw[ov]at hz
    split at hz
    .next hk=>
     cases hz
     refine⟨by simp,hk.symm,λw hw hkw=>?_⟩
     rcases zG.1 hw with hw|hw
     .have hb:=hno w hw
      cases hm:mget? m (key y)with
      |none=>exact(h.none _ hm w hw (by rw[hkw,hk])).elim
      |some z1=>
       have a4:=(h.some _ _ hm).2.2 w hw (by rw[hkw,hk])
       have:at_ z1<=at_ y:=by
        simp only[mhas,mgetD,hm]at hn
        simpa using hn
       unfold gOver at a4 ⊢;omega
     .rw[xC.1 hw];unfold gOver;omega
    .next hk=>
     obtain⟨a1,a2,a4⟩:=h.some k z hz
     refine⟨qP _ a1,a2,λw hw hkw=>?_⟩
     rcases zG.1 hw with hw|hw
     .exact a4 w hw hkw
     .rw[xC.1 hw]at hkw;exact(hk hkw.symm).elim
   .rw[ov]at hz
    split at hz
    .cases hz
    .next hk2=>
     rcases zG.1 hw with hw|hw
     .exact h.none k hz w hw hk
     .rw[xC.1 hw]at hk;exact(hk2 hk.symm).elim
  .next hn=>
   refine go m ⟨λk z hz=>?_,λk hz w hw hk=>?_⟩
   .obtain⟨a1,a2,a4⟩:=h.some k z hz
    refine⟨qP _ a1,a2,λw hw hkw=>?_⟩
    rcases zG.1 hw with hw|hw
    .exact a4 w hw hkw
    .rw[xC.1 hw]at hkw ⊢
     subst hkw
     have:¬at_ z<=at_ y:=by
      simp only[mhas,mgetD,hz]at hn
      simpa using hn
     unfold gOver;omega
   .rcases zG.1 hw with hw|hw
    .exact h.none k hz w hw hk
    .rw[xC.1 hw]at hk
     subst hk
     simp only[mhas,mgetD,hz]at hn
     simp at hn
theorem Sm{L:List α}(hp:L.Pairwise (λa b=>no a<no b)){y:α}(hy:y∈L):mgetD (gMap key at_ z0 L []) (key y) z0=y↔∀w∈L,key w=key y->¬gOver at_ no y w:=by
 have hv:QT key at_ no L (gMap key at_ z0 L []):=by
  have:=HX key at_ no z0 L [] [] hp ⟨λk z h=>(by simp[mget?]at h),λk h w hw=>(kA hw).elim⟩
  exact this
 cases hm:mget? (gMap key at_ z0 L []) (key y)with
 |none=>exact(hv.none _ hm y hy rfl).elim
 |some z=>
  obtain⟨a1,a2,a4⟩:=hv.some _ _ hm
  simp only[mgetD,hm,Option.getD]
  constructor
  .rintro rfl;exact a4
  .intro b2
   have c1:=a4 y hy rfl
   have c2:=b2 z a1 a2
   have:no z=no y:=by unfold gOver at c1 c2;omega
   exact R3 (f:=no) hp a1 hy this
end
def walkN(E:List bz)(b:Int):Nat->Int->Prop
 |0,a=>a=b
 |n+1,a=>∃x∈E,x.From=a/\walkN E b n x.To
structure Far(E:List bz)(b:Int)(i:Nat)(g:List (Int×Int)):Prop where
 sound:∀p v,mget? g p=some v->∃m:Nat,v=(m:Int)/\m<=i/\walkN E b m p
 start:mget? g b=some 0
 closed:∀x∈E,∀m:Nat,mget? g x.To=some (m:Int)->m<i->∃m':Nat,mget? g x.From=some (m':Int)/\m'<=m+1
structure VW(E:List bz)(b:Int)(i:Nat)(g0:List (Int×Int))(done:List bz)(g:List (Int×Int)):Prop where
 keep:∀p v,mget? g0 p=some v->mget? g p=some v
 new:∀p v,mget? g p=some v->mget? g0 p=some v\/(v=((i+1:Nat):Int)/\walkN E b (i+1) p)
 met:∀x∈done,mget? g0 x.To=some (i:Int)->∃v,mget? g x.From=some v
abbrev z0B:Budget:=Wt 0 0 0 0 0 0 0 false
def bKey(y:Budget):fB:=fB.mk y.Kind y.eK
def bCnt(kind t ah:Int)(y:Budget):Bool:=((decide (y.At<=t)&&decide (y.dU<=ah))&&((y.Kind==(-1))||(y.Kind==kind)))
theorem D6(kind t ah:Int):∀(l:List Budget)m,bstM kind t ah l m=gMap bKey (·.At) z0B (l.filter (bCnt kind t ah)) m
 |[],m=>rfl
 |y::l,m=>by
  have hc:((decide (t<y.At)||decide (ah<y.dU))||((y.Kind != (-1))&&(y.Kind != kind)))=!(bCnt kind t ah y):=by
   grind [bCnt,bne,Bool.not_and,Bool.not_or]
  simp only[bstM,List.filter_cons,hc]
  cases bCnt kind t ah y with
  |false=>simp only[Bool.not_false,cond_true,Bool.false_eq_true,if_false];exact D6 kind t ah l m
  |true=>
   simp only[Bool.not_true,cond_false,if_true,gMap]
   show(bif(!(mhas m (bKey y)))||decide ((mgetD m (bKey y) z0B).At<=y.At)then _ else _)=gMap bKey (·.At) z0B (l.filter (bCnt kind t ah)) (bif(!(mhas m (bKey y)))||decide ((mgetD m (bKey y) z0B).At<=y.At)then mput m (bKey y) y else m)
   cases(!(mhas m (bKey y)))||decide ((mgetD m (bKey y) z0B).At<=y.At)<;>simp only[cond_true,cond_false]<;>exact D6 kind t ah l _
theorem C6{L:List Budget}{i t ah:Int}{x:Budget}(hx:nthI L i=x):∀l:List Budget,iq.L1 L i t ah iq.K1 l=true↔∀w∈l,jy w t ah=true->bKey w=bKey x->¬gOver (λb:Budget=>b.At) (λb=>b.No) x w
 |[]=>by simp[iq.L1,iq.K1]
 |y::l=>by
  simp only[iq.L1,Bool.cond_eq_ite,List.forall_mem_cons,hx]
  have e:((((y.Kind==x.Kind)&&(y.eK==x.eK))&&(jy y t ah))&&(decide (x.At<y.At)||((y.At==x.At)&&decide (x.No<y.No))))=true↔jy y t ah=true/\bKey y=bKey x/\gOver (λb:Budget=>b.At) (λb=>b.No) x y:=by
   simp only[zC,kD,beq_iff_eq,decide_eq_true_eq,bKey,fB.mk.injEq,gOver]
   grind
  split
  .grind
  .next h=>rw[C6 hx l];exact⟨λh'=>⟨λa b c=>h (e.2 ⟨a,b,c⟩),h'⟩,λh'=>h'.2⟩
def bStands(l:List Budget)(t ah:Int)(y:Budget):Bool:=(!y.mG&&jy y t ah)&&l.all λw=>!((jy w t ah&&decide (bKey w=bKey y))&&(decide (y.At<w.At)||(decide (w.At=y.At)&&decide (y.No<w.No))))
theorem stands18{L:List Budget}{t:Int}{x:Budget}(hx:nthI L i=x):iq L i t ah=bStands L t ah x:=by
 unfold iq bStands
 rw[hx,jJ,Bool.cond_eq_ite]
 split
 .grind
 .next h=>
  simp only[kD,not_or,Bool.not_eq_true,Bool.not_eq_false']at h
  rw[C6 hx,h.1,h.2]
  simp only[Bool.not_false,Bool.and_self,Bool.true_and,qQ,qF,Bool.and_eq_false_iff,gOver]
  grind
theorem vp(L:List Budget)(n t ah:Int):∀(s pre g:List Budget),L=pre++s->dH.L1 L n t ah dH.K1 s pre.length g=g++s.filter λy=>((y.Kind==(-1))||(y.Kind==n))&&bStands L t ah y
 |[],pre,g,_=>by simp[dH.L1,dH.K1]
 |y::s,pre,g,h=>by
  have hy:nthI L (pre.length:Int)=y:=oV (by rw[h];simp)
  have ih:=λg=>vp L n t ah s (pre++[y]) g (by rw[h];simp)
  simp only[vA,zA,zB,Nat.zero_add]at ih
  simp only[dH.L1,stands18 hy,ih,List.filter_cons]
  grind
theorem bstanding18{l:List Budget}(h:bI l=0)(n t ah:Int):aO l n t ah=dH l n t ah:=by
 have hr:=so h
 have hp:l.Pairwise (λa b=>a.No<b.No):=by
  unfold bI at h
  simp only[Bool.cond_eq_ite]at h
  grind [budgetsP,xg]
 unfold aO dH
 rw[LB]
 unfold aO.K1
 rw[LA,zF,D6]
 have:=vp l n t ah l [] [] rfl
 rw[zB,zF]at this
 rw[this]
 apply List.filter_congr
 intro y hy
 have hv:QT bKey (λb:Budget=>b.At) (λb=>b.No) (l.filter (bCnt n t ah)) (gMap bKey (·.At) z0B (l.filter (bCnt n t ah)) []):=by
  have:=HX bKey (λb:Budget=>b.At) (λb=>b.No) z0B (l.filter (bCnt n t ah)) [] [] (hp.sublist List.filter_sublist) ⟨λk z h=>(by simp[mget?]at h),λk h w hw=>(kA hw).elim⟩
  exact this
 show((!y.mG)&&decide (mgetD (gMap bKey (·.At) z0B (l.filter (bCnt n t ah)) []) (bKey y) z0B=y))=_
 rw[jJ,zC,decide_eq_true_eq]
 have hcc:bCnt n t ah y=(jy y t ah&&((y.Kind==(-1))||(y.Kind==n))):=rfl
 cases hc:bCnt n t ah y with
 |false=>
  constructor
  .rintro⟨_,h2⟩
   exfalso
   cases hm:mget? (gMap bKey (·.At) z0B (l.filter (bCnt n t ah)) []) (bKey y)with
   |none=>
    simp only[mgetD,hm,Option.getD]at h2
    have:=wY (hr y hy)
    rw[←h2]at this
    exact this rfl
   |some z=>
    simp only[mgetD,hm,Option.getD]at h2
    have:=(xW.1 (hv.some _ _ hm).1).2
    rw[h2,hc]at this
    cases this
  .intro h2
   simp only[bStands,zC]at h2
   rw[hcc,h2.2.1.2,h2.1]at hc
   cases hc
 |true=>
  have hm:y∈l.filter (bCnt n t ah):=xW.2 ⟨hy,hc⟩
  rw[Sm bKey (λb:Budget=>b.At) (λb=>b.No) z0B (hp.sublist List.filter_sublist) hm]
  rw[hcc,zC]at hc
  simp only[bStands,hc.1,hc.2,Bool.true_and,Bool.and_true,zC,qQ,qF,Bool.and_eq_false_iff]
  refine and_congr Iff.rfl ?_
  constructor
  .intro h' w hw
   by_cases a:jy w t ah=true
   .by_cases b:bKey w=bKey y
    .have hk:w.Kind=y.Kind:=congrArg fB.kind b
     have:=h' w (xW.2 ⟨hw,by show(jy w t ah&&((w.Kind==(-1))||(w.Kind==n)))=true;rw[a,hk];simpa using hc.2⟩) b
     grind [gOver,Bool.or_eq_false_iff,Bool.and_eq_false_iff,decide_eq_false_iff_not]
    .left;right;exact decide_eq_false b
   .left;left;simpa using a
  .intro h' w hw b c
   obtain⟨hw1,hw2⟩:=xW.1 hw
   have hw3:(jy w t ah&&((w.Kind==(-1))||(w.Kind==n)))=true:=hw2
   grind [gOver,Bool.or_eq_false_iff,Bool.and_eq_false_iff,decide_eq_false_iff_not]
def saneN:Register:={ cG [1,2]with Versions:=[] }
def saneF:Register:={ cG [1,2]with dN:=[⟨7,0,0,-1,100,0,0,false⟩] }
theorem dk[Decidable p](h:decide p=true:=by kernel_rfl):p:=of_decide_eq_true h
theorem smk{r:Register}(a:r.Versions.length<=2000000/\(∀v∈r.Versions,v.aw.di.length<=2000000/\(∀y∈v.aw.di,y.aj.dep<=1500000)/\v.aw.aQ.dep<=1500000/\v.aw.aB.length<=2000000/\v.aw.dQ.length<=2000000)/\r.dD.length<=2000000/\r.fR.length<=2000000/\r.ej.length<=2000000/\r.dN.length<=2000000/\r.cj.length<=2000000/\r.dy.length<=2000000):smR r:=⟨⟨a.1,a.2.1⟩,a.2.2⟩
theorem Vr:smP lszp:=by unfold smP;exact dk
theorem Vs:smR saneN:=smk dk
theorem Vt:smR saneF:=smk dk
theorem T4:smR (cG [1,2]):=smk dk
theorem Uq:smR (cG [2]):=smk dk
theorem Ur:smR (cG []):=smk dk
theorem Vy:vw saneN 5 9 9:=⟨dk,dk,dk,dk,dk,dk,dk,dk⟩
theorem Vz:vw saneF 5 9 9:=⟨dk,dk,dk,dk,dk,dk,dk,dk⟩
theorem T7:vw (cG [1,2]) 5 9 9:=⟨dk,dk,dk,dk,dk,dk,dk,dk⟩
theorem UE:vw (cG [2]) 5 9 9:=⟨dk,dk,dk,dk,dk,dk,dk,dk⟩
theorem Vc:vw (cG []) 5 9 9:=⟨dk,dk,dk,dk,dk,dk,dk,dk⟩
theorem VB:(bj (cG []) [-1] [] 6 9 9).2=0->vw (cG []) 6 9 9:=λh=>absurd h (dk (p:=¬(bj (cG []) [-1] [] 6 9 9).2=0))
theorem VA:(bj (cG []) [] [] 5 9 9).2=0->vw (cG []) 5 9 9:=λ_=>Vc
theorem sane1:aR saneN [-1] [] 5 9 9=([],false,0):=by kernel_rfl
theorem sane2:ny (cG [2]) [-1] [] 5 9 9 [⟨1,3⟩]=(true,0):=by kernel_rfl
theorem sane3:ny (cG [2]) [-1] [] 5 9 9 [⟨1,4⟩]=(false,0):=by kernel_rfl
theorem sane4:aR (cG []) [] [] 5 9 9=([],false,1):=by kernel_rfl
theorem sane5:ny (cG []) [-1] [] 6 9 9 []=(false,1):=by kernel_rfl
theorem sane6:ve (cG [1,2]) (-1) []=true:=by kernel_rfl
theorem sane7:ve (cG [1,2]) 3 [⟨4,5⟩]=true:=by kernel_rfl
theorem sane8:ve (cG [2]) (-1) [⟨1,1⟩]=true:=by kernel_rfl
theorem sane9:ve (cG []) (-1) [⟨1,1⟩,⟨1,2⟩]=true:=by kernel_rfl
theorem saneA:ve saneF (-1) [⟨3,7⟩]=true:=by kernel_rfl
def sX(r:Register)(signed:List Int)(u:List Use)(ba t ah:Int):Bool:=(((mC r&&decide ((signed.length:Int)<=40))&&decide ((u.length:Int)<=30))&&((oP r signed u ba t ah)==0))
theorem GP{r:Register}{t:Int}(h:li r signed u ba t ah=true):sX r signed u ba t ah=true/\r.cj.length<20/\signed.length<=20/\u.length<=30:=by
 simp only[li,zC]at h
 obtain⟨h1,h2⟩:=h
 unfold lG at h1
 cases hc:((!(mC r))||decide (20<(signed.length:Int)))||decide (30<(u.length:Int))with
 |true=>rw[hc]at h1;cases h1
 |false=>
  simp only[Bool.or_eq_false_iff,Bool.not_eq_false',decide_eq_false_iff_not]at hc
  have hd:r.cj.length<20:=by
   have h3:=hc.1.1
   simp only[mC,Bool.cond_eq_ite]at h3
   grind
  grind [sX]
theorem GO{r:Register}{t:Int}(h:li r signed u ba t ah=true):r.cj.length<20:=(GP h).2.1
theorem El{r:Register}(hsm:smR r){t:Int}(hg:sX r signed u ba t ah=true):
  dY r=0/\0<=eS r ba/\(0<=t/\t<1099511627776)/\(0<=ah/\ah<1099511627776)/\cC r.cj signed=true/\(aN r.dN u 0 0 0 0).2.2=0:=by
 simp only[sX,zC,beq_iff_eq]at hg
 have he:=hg.2
 unfold oP at he
 simp only[Bool.cond_eq_ite]at he
 split at he
 .cases he
 .next e1=>
  split at he
  .grind
  .next e2=>
   split at he
   .grind
   .next e3=>
    split at he
    .cases he
    .next e4=>
     have c1:nB r=0:=by simpa using e1
     have c2:(fG r.cj signed 0).2=0:=by simpa using e2
     have c3:(ii r.dN u 0 0 0 0).2.2=0:=by simpa using e3
     simp only[kD,not_or,Bool.not_eq_true,Bool.not_eq_false',decide_eq_true_eq,nO,zC]at e4
     obtain⟨⟨h4,h5⟩,h6⟩:=e4
     have hc:=(judge30 hsm).2 c1
     have hs:cC r.cj signed=true:=by
      refine signs17 ?_
      unfold fG at c2
      grind
     have hu:u.length<=4096/\ia u=true:=by
      unfold ii at c3
      cases q1:fY r.dN != 0 with
      |true=>rw[q1]at c3;simp only[cond_true]at c3;rw[c3]at q1;cases q1
      |false=>
       grind [uses18]
     grind [JQ,lN]
theorem My{r:Register}(hsm:smR r){t:Int}(hg:sX r signed u ba t ah=true):
  jo (rCourt r ba t ah)/\bj r signed u ba t ah=(judgeC (rCourt r ba t ah) r signed u t ah,0):=by
 obtain⟨hc,hd,ht,hk,hs,hr⟩:=El hsm hg
 have ho:=K6 hd ht hk
 obtain⟨_,hco,_,_⟩:=F9 hc ho
 grind [bj,lN,Fb]
theorem EL{f:Nat->List (List Int)}{w:List Int}:∀{j:Nat},w∈downF f j->∃m,m<j/\w∈f m
 |0,h=>by simp[downF]at h
 |j+1,h=>by
  rcases zG.1 h with h|h
  .exact⟨j,Nat.lt_succ_self j,h⟩
  .obtain⟨m,a,b⟩:=EL h;exact⟨m,Nat.lt_succ_of_lt a,b⟩
theorem JJ(n:Nat)(m:Int):∀(l:List Int)(i:Nat)(g:List Int),(setOf.L n m l i g).length<=g.length+l.length
 |[],i,g=>by simp[setOf.L]
 |y::s,i,g=>by
  have h1:=JJ n m s (i+1) (bif bitAt m ((n:Int)-1-(i:Int))then g++[y]else g)
  grind [setOf.L,bitAt]
theorem OL{f:Nat->List (List Int)}{w:List Int}:∀{c i:Nat},w∈upF f i c->∃s,w∈f s
 |0,_,h=>by simp[upF]at h
 |c+1,i,h=>by
  rcases zG.1 h with h|h
  .exact⟨i,h⟩
  .exact OL h
theorem Ml{p w:List Int}(h:w∈iM p):w.length<=p.length:=by
 obtain⟨s,h⟩:=OL h
 grind [setsM,EL,pop64,JJ,setOf]
theorem Ft(l:List Int):eD l=l:=by
 have h:∀(s g:List Int),dE.L1 dE.K1 s g=g++s:=by
  intro s
  induction s with
  |nil=>intro g;simp[dE.L1,dE.K1]
  |cons y s ih=>intro g;simp only[dE.L1];rw[ih];simp
 exact h l []
theorem NJ{f:α->Int}{l a b:List α}(hl:l=a++y::b)(hp:l.Pairwise λx z=>f x<f z):bsPos f l (f y)=a.length:=by
 subst hl
 obtain⟨h1,h2,h3⟩:=List.pairwise_append.1 hp
 have e1:a.countP (λx=>decide (f x<f y))=a.length:=List.countP_eq_length.2 λx hx=>by simpa using h3 x hx y (kB ..)
 have e2:(y::b).countP (λx=>decide (f x<f y))=0:=List.countP_eq_zero.2 λx hx=>by
  rcases zE.1 hx with rfl|hx
  .simp
  .have:=(List.pairwise_cons.1 h2).1 x hx;simp;omega
 grind [bsPos]
theorem Kq[Inhabited α]{f:α->Int}{l:List α}(hp:l.Pairwise λx z=>f x<f z)(hy:y∈l):bsPos f l (f y)<l.length/\nthI l ((bsPos f l (f y):Nat):Int)=y:=by
 obtain⟨a,b,rfl⟩:=List.append_of_mem hy
 rw[NJ rfl hp]
 exact⟨by simp,oV (by simp)⟩
theorem Fp(l0:List ao):∀(l pre:List ao),l0=pre++l->bh.L1 l0 0 l pre.length=0->(pre≠[]->∀y∈l.head?,(nthI l0 ((pre.length:Int)-1)).No<y.No)/\l.Pairwise (λa b=>a.No<b.No)
 |[],_,_,_=>⟨λ_ _ h=>(by simp at h),List.Pairwise.nil⟩
 |y::l,pre,h0,h=>by
  simp only[bh.L1,Bool.cond_eq_ite]at h
  split at h
  .omega
  .next hc=>
   simp only[kD,not_or,Bool.not_eq_true,Bool.and_eq_false_iff,decide_eq_false_iff_not]at hc
   obtain⟨i1,i2⟩:=Fp l0 l (pre++[y]) (by rw[h0];simp) (by simpa using h)
   have hy:nthI l0 (((pre++[y]).length:Nat)-1:Int)=y:=by
    have:(((pre++[y]).length:Nat)-1:Int)=(pre.length:Int):=by simp
    rw[this];exact oV (by rw[h0];simp)
   rw[hy]at i1
   refine⟨λhne z hz=>?_,?_⟩
   .cases hz
    have:0<pre.length:=List.length_pos_iff.2 hne
    rcases hc.1.2 with h'|h'<;>omega
   .cases l with
    |nil=>simp
    |cons z l=>
     have hyz:=i1 (by simp) z rfl
     rw[List.pairwise_cons]
     refine⟨λw hw=>?_,i2⟩
     rcases zE.1 hw with rfl|hw
     .exact hyz
     .have:=(List.pairwise_cons.1 i2).1 w hw;omega
theorem Nq{l:List ao}(h:bh l=0):l.Pairwise (λa b=>a.No<b.No):=by
 unfold bh bh.K1 at h
 rw[Bool.cond_eq_ite]at h
 split at h
 .omega
 .exact(Fp l l [] rfl h).2
section
variable {r:Register} {ba:Int} (hc:dY r=0) (hd:0<=eS r ba)
include hc hd
theorem Uc:gI r ba=nthI r.cj (eS r ba)/\bsPos ao.No r.cj ba<r.cj.length:=by
 obtain⟨_,h2,h3⟩:=Tr (r:=r) (no:=ba) hd
 have:=Kq (Nq ((lN r).1 hc).2.2.2.2.2.1) h2
 rw[h3]at this
 exact⟨this.2,this.1⟩
end
theorem OJ{l:List aD}(g:Fy l){dT t:Int}{no:Int}(h:no∈(aM l dT t ah).1):∃v∈l,v.No=no:=by
 by_cases hb:fE dT=true/\fE t=true/\fE ah=true/\dT<=t
 .have f:∀{x},fE x=true->0<=x/\x<1099511627776:=λh=>by simpa[fE]using h
  exact(Bw g (f hb.1) (f hb.2.1) (f hb.2.2.1) hb.2.2.2).mem no h
 .exfalso
  unfold aM at h
  grind
theorem Kc{r:Register}(g:Fy r.Versions){c:bU}(hr:c.Register=r){no:Int}(h:∃v∈r.Versions,v.No=no):
  bsPos aD.No r.Versions no<r.Versions.length/\fP c no=.ok (nthI r.Versions ((bsPos aD.No r.Versions no:Nat):Int)).aw:=by
 obtain⟨v,hv,rfl⟩:=h
 obtain⟨h1,h2⟩:=Kq g.inc hv
 refine⟨h1,?_⟩
 rw[h2]
 rcases yp c v.No with⟨_,h0⟩|⟨a,w,b,e1,e2,e3,_⟩
 .grind
 .have hw:w∈r.Versions:=by rw[←hr,e1];simp
  rw[e2,PB g.inc hw hv e3]
theorem PO(r:Register)(at_ ah:Int)(i1:Nat)(k:Bool->List Int):∀(l:List Nat)(i:Nat)(g:Bool),∃b,aW.L3 r at_ ah i1 k l i g=k b/\(b=true->g=true\/∃o:Nat,(eO r.dD (o:Int) (i1:Int) at_ ah).2.2.1=true)
 |[],i,g=>⟨g,rfl,λh=>.inl h⟩
 |y::l,i,g=>by
  simp only[aW.L3]
  obtain⟨b,e,hb⟩:=PO r at_ ah i1 k l (i+1) (g||(eO r.dD (i:Int) (i1:Int) at_ ah).2.2.1)
  grind
theorem Lo(r:Register)(at_ ah:Int)(d:ao):∀(l:List Nat)(i:Nat),(aW.L1 r at_ ah d aW.K1 l i).length<=l.length/\(aW.L1 r at_ ah d aW.K1 l i).Pairwise (·<·)/\∀x∈aW.L1 r at_ ah d aW.K1 l i,(i:Int)<=x/\x<i+l.length/\∃o:Nat,(eO r.dD (o:Int) x at_ ah).2.2.1=true
 |[],i=>⟨vE _,List.Pairwise.nil,λx hx=>(kA hx).elim⟩
 |y::l,i=>by
  obtain⟨h1,h2,h3⟩:=Lo r at_ ah d l (i+1)
  simp only[aW.L1]
  obtain⟨b,e,hb⟩:=PO r at_ ah i (λzg3_7=>(bif(!zg3_7)then(aW.L1 r at_ ah d aW.K1 l ((i+1)))else(bif(!((dV r.ej (i:Int) d.kU at_ ah).2.1))then((i:Int)::(aW.L1 r at_ ah d aW.K1 l ((i+1))))else(aW.L1 r at_ ah d aW.K1 l ((i+1)))))) (qE 32) 0 false
  rw[e]
  have h3':∀x∈aW.L1 r at_ ah d aW.K1 l (i+1),(i:Int)<=x/\x<(i:Int)+((y::l).length:Nat)/\∃o:Nat,(eO r.dD (o:Int) x at_ ah).2.2.1=true:=λx hx=>by
   grind
  cases b with
  |false=>exact⟨by simp only[Bool.not_false,cond_true,zA];omega,h2,h3'⟩
  |true=>
   simp only[Bool.not_true,cond_false]
   cases(!((dV r.ej (i:Int) d.kU at_ ah).2.1))with
   |false=>exact⟨by simp only[cond_false,zA];omega,h2,h3'⟩
   |true=>
    simp only[cond_true,zA]
    refine⟨by omega,List.pairwise_cons.2 ⟨λx hx=>by have:=(h3 x hx).1;omega,h2⟩,λx hx=>?_⟩
    grind
theorem MD(c:bU)(k:List (List cq)->Bool):∀(s:List ByteArray)(i:Nat)(g:List (List cq)),dG.L1 c k s i g=k (g++(qE s.length).map λj=>gY c.Register c.at_ c.ah (i+j))
 |[],i,g=>by simp[dG.L1]
 |y::s,i,g=>by
  simp only[dG.L1,MD c k s,vD,zA,List.range_succ_eq_map,vH,List.map_map,kK,zF]
  congr 3
  apply List.map_congr_left
  grind
theorem I7(c:bU)(p:aw)(lm:List Int):dG c p lm=dG.K1 c p lm ((qE p.aB.length).map (gY c.Register c.at_ c.ah)):=by grind [dG,MD]
theorem Ob{c:bU}(h:jo c)(p:aw):(de c p).length<=4096:=by
 rw[Er]
 have h1:=ID (sortI ((gN c p).map (·.For))) []
 rw[iL,List.length_map]at h1
 have h2:(gN c p).length<=c.Register.dy.length:=by
  grind [Lj,yF]
 have h3:c.Register.dy.length<=4096:=by
  have:=((lN _).1 h.chk).2.2.2.2.2.2
  unfold cf at this
  grind
 show(compI _).length<=_
 grind [compI,zB]
theorem OH(c:bU)(no:Int):(askWho c no).Pairwise (·<·):=by
 unfold askWho
 rw[Er]
 exact(Pc _).1
theorem QI{w:List Int}(h:w.Pairwise (·<·)):slices_Compact_int (sortI w)=w:=(Qd h (λ_=>Iff.rfl)).symm
theorem w4(l:List Budget)(kind t ah:Int):(aO l kind t ah).Sublist l:=by
 unfold aO
 rw[LB]
 unfold aO.K1
 rw[LA,zF]
 exact List.filter_sublist
section
variable {r:Register} {ba t ah:Int} (hc:dY r=0) (hd:0<=eS r ba) (ht:0<=t/\t<1099511627776) (hk:0<=ah/\ah<1099511627776)
include hc hd ht hk
theorem AX:jo (rCourt r ba t ah)/\(rCourt r ba t ah).ba.No=ba:=by
 obtain⟨_,h1,h2,_⟩:=F9 hc (K6 hd ht hk)
 exact⟨h1,h2⟩
theorem IJ{no:Int}(h:∃v∈r.Versions,v.No=no):fI r ba no t ah=(askWho (rCourt r ba t ah) no,0)/\askP (rCourt r ba t ah) no=(nthI r.Versions ((bsPos aD.No r.Versions no:Nat):Int)).aw:=by
 have hco:=(AX hc hd ht hk).1
 obtain⟨_,hp⟩:=Kc hco.vers (c:=rCourt r ba t ah) rfl h
 have e:=UO hp
 refine⟨?_,e⟩
 unfold fI
 rw[hc,K6 hd ht hk]
 simp only[bne_self_eq_false,cond_false]
 grind [askWho,askP,nthI,bsPos]
theorem UX(hsm:smR r)(hdl:r.dN.length<=1000000):vw r ba t ah:=by
 obtain⟨hco,hno⟩:=AX hc hd ht hk
 obtain⟨e1,e2⟩:=Uc hc hd
 have hg:=hco.good
 refine⟨Nq hco.docs,e2,hco.vers.inc,λno hn=>?_,?_,?_,?_,?_⟩
 .have hv:=OJ hco.vers hn
  obtain⟨i1,i2⟩:=Kc hco.vers (c:=rCourt r ba t ah) rfl hv
  refine⟨i1,?_,?_⟩
  .exact qM (yD hco hsm i2).off (by decide)
  .rw[e1,show(nthI r.cj (eS r ba)).No=ba from hno,(IJ hc hd ht hk hv).1]
   exact qM (Ob hco (askP (rCourt r ba t ah) no)) (by decide)
 .have:=CX r.Versions (gI r ba).At t ah
  have h2:=hco.vers.len
  grind
 .have:=(Lo r t ah (gI r ba) (qE 64) 0).1
  rw[List.length_range]at this
  show(aW.L1 _ _ _ _ _ _ _).length<=_
  omega
 .rw[e1]
  have:=hg.needs.2
  grind
 .have h1:=(w4 r.dN (gI r ba).Kind t ah).length_le
  unfold dK
  grind
end
theorem Qm{r:Register}(hsm:smR r){t:Int}(h:li r signed u ba t ah=true):vw r ba t ah:=by
 obtain⟨hc,hd,ht,hk,_,_⟩:=El hsm (GP h).1
 refine UX hc hd ht hk hsm ?_
 have:=((lN _).1 hc).2.2.2.1
 unfold bI at this
 grind
theorem Hz(f:List Int):∀(l g:List Int),iX f l g=g++l.filter λy=>!(fS f y)
 |[],g=>by simp[iX]
 |y::s,g=>by
  simp only[iX,Hz f s,List.filter_cons]
  cases(!fS f y)<;>simp
theorem KY(u:List Use)(d:ao)(t ah:Int):∀(l:List Budget)(g:List Int),ir u d t ah l g=g++(l.filter λb=>!((aN [b] u d.Kind d.Value t ah).2.1)).map (·.No)
 |[],g=>by simp[ir]
 |b::s,g=>by
  simp only[ir,KY u d t ah s,List.filter_cons]
  grind
theorem xn(k:Int)(l:List Int):bu k l=l.map (eC.mk k):=by
 have h:∀(l:List Int)(g:List eC),bu.L1 k bu.K1 l g=g++l.map (eC.mk k):=by
  intro l
  induction l with
  |nil=>intro g;simp[bu.L1,bu.K1]
  |cons y l ih=>intro g;simp only[bu.L1,ih];simp
 have:=h l []
 rwa [zF]at this
theorem JP(k:Int->Int->Int×Bool×Int):∀(s:List Int)(a b:Int),∃x y,∀k:Int->Int->Int×Bool×Int,aN.L3 k s a b=k x y
 |[],a,b=>⟨a,b,λ_=>rfl⟩
 |z::s,a,b=>JP k s _ _
theorem Qj(u:List Use)(v t ah:Int)(b:Budget)(s:List Budget):aN.L1 u v t ah aN.K1 (b::s)=bif(aN.L1 u v t ah aN.K1 [b]).2.1 then aN.L1 u v t ah aN.K1 s else(b.No,false,0):=by
 simp only[aN.L1]
 obtain⟨x,y,h⟩:=JP (λ_ _=>(0,false,0)) (rF b u t ah) v 1
 rw[h,h]
 cases(decide (b.Count<y)||decide (b.Value<x))<;>rfl
theorem Mw(u:List Use)(v t ah:Int):∀s:List Budget,
  ((aN.L1 u v t ah aN.K1 s).2.1=true->∀b∈s,(aN.L1 u v t ah aN.K1 [b]).2.1=true) /\
  ((aN.L1 u v t ah aN.K1 s).2.1=false->∃b∈s,(aN.L1 u v t ah aN.K1 [b]).2.1=false/\b.No=(aN.L1 u v t ah aN.K1 s).1)
 |[]=>⟨λ_ _ h=>(kA h).elim,λh=>by cases h⟩
 |b::s=>by
  obtain⟨h1,h2⟩:=Mw u v t ah s
  rw[Qj]
  grind
theorem Lz{l:List Budget}(hc:bI l=0){kind t:Int}{b:Budget}(h:b∈aO l kind t ah):b∈l/\b.mG=false/\bCnt kind t ah b=true:=by
 have hm:=(w4 l kind t ah).subset h
 rw[bstanding18 hc]at h
 unfold dH at h
 have:=vp l kind t ah l [] [] rfl
 rw[zB,zF]at this
 rw[this]at h
 have h2:=(xW.1 h).2
 simp only[zC,bStands,qF,jy]at h2
 grind [bCnt]
theorem Jn{kind t:Int}{b:Budget}(hg:b.mG=false)(h:bCnt kind t ah b=true):aO [b] kind t ah=[b]:=by
 unfold aO
 rw[LB]
 unfold aO.K1
 rw[LA,zF,D6]
 simp only[List.filter_cons,h,if_true,List.filter_nil]
 have e:mgetD (gMap bKey (λb:Budget=>b.At) z0B [b] []) (bKey b) z0B=b:=by simp[gMap,mhas,mgetD,ov,mget?]
 have e2:decide ((mgetD (gMap bKey (λb:Budget=>b.At) z0B [b] []) (fB.mk b.Kind b.eK) (Wt 0 0 0 0 0 0 0 false))=b)=true:=by
  rw[decide_eq_true_iff];exact e
 rw[e2,hg];rfl
theorem P1{l:List Budget}{k v t n:Int}(h:(aN l u k v t n).2.2=0):aN l u k v t n=aN.L1 u v t n aN.K1 (aO l k t n):=by
 unfold aN at h ⊢
 cases h1:(bI l) != 0 with
 |true=>
  grind
 |false=>
  grind
theorem QJ{l:List Budget}(hc:bI l=0){b:Budget}(hb:b∈l):bI [b]=0:=by
 unfold bI at hc ⊢
 rw[Bool.cond_eq_ite]at hc
 split at hc
 .cases hc
 .rw[budgetsP]at hc ⊢
  exact Oa (by decide) (List.singleton_sublist.2 hb) hc
theorem Qi{l:List Budget}(hr:(aN l u 0 0 0 0).2.2=0)(hc:bI l=0){d:ao}{t:Int}(hk:0<=d.Kind/\d.Kind<16)(hv:0<=d.Value/\d.Value<=1099511627776)(ht:0<=t/\t<1099511627776)(hn:0<=ah/\ah<1099511627776):
  ((aN l u d.Kind d.Value t ah).2.1=true->ir u d t ah (dK l d.Kind t ah).1 []=[]) /\
  ((aN l u d.Kind d.Value t ah).2.1=false->(aN l u d.Kind d.Value t ah).1∈ir u d t ah (dK l d.Kind t ah).1 []):=by
 have hst:(dK l d.Kind t ah).1=aO l d.Kind t ah:=by
  unfold dK
  rw[hc,qo.2 (show(0:Int)<=d.Kind/\d.Kind<=15 by omega),Be.2 (show((0:Int)<=t/\t<=1099511627775)/\(0<=ah/\ah<=1099511627775) by omega)]
  rfl
 obtain⟨u1,u2⟩:=Qh hr
 have h1:∀b∈aO l d.Kind t ah,aN [b] u d.Kind d.Value t ah=aN.L1 u d.Value t ah aN.K1 [b]:=λb hb=>by
  grind [Lz,P1,GM,JQ,QJ,Jn]
 rw[hst,KY,zF,P1 (GM hr hk hv ht hn)]
 obtain⟨a1,a2⟩:=Mw u d.Value t ah (aO l d.Kind t ah)
 refine⟨λh=>?_,λh=>?_⟩
 .rw[List.map_eq_nil_iff,List.filter_eq_nil_iff]
  intro b hb
  rw[h1 b hb,a1 h b hb];simp
 .grind
def mAns(c:bU)(w:List Int)(no:Int):Bool:=dG c (askP c no) (setI (askWho c no++w))
theorem TY(c:bU)(no:Int):mAns c [] no=askAns c no:=by
 unfold mAns askAns
 rw[List.append_nil]
 have:=QI (OH c no)
 rw[show setI (askWho c no)=askWho c no from this]
section
variable {r:Register} {ba t ah:Int} {signed:List Int} {u:List Use} (hc:dY r=0) (hd:0<=eS r ba) (ht:0<=t/\t<1099511627776) (hk:0<=ah/\ah<1099511627776)
include hc hd ht hk
theorem SW{no:Int}(h:∃v∈r.Versions,v.No=no)(w:List Int):j6 r (rCourt r ba t ah).ba no t ah w=mAns (rCourt r ba t ah) w no:=by
 obtain⟨hco,hno⟩:=AX hc hd ht hk
 obtain⟨e1,e2⟩:=IJ hc hd ht hk h
 unfold j6 mAns
 rw[I7,e2,hno,e1]
 rfl
theorem OC(db:(rCourt r ba t ah).ba.At<=t)(w:List Int):(jq r signed u ba t ah (rCourt r ba t ah).ba).decides w=(gU (askJ (rCourt r ba t ah)).2.1 ((askJ (rCourt r ba t ah)).1.map (mAns (rCourt r ba t ah) w))).1:=by
 obtain⟨hco,hno⟩:=AX hc hd ht hk
 have hj:Jdg r.Versions (aM r.Versions (rCourt r ba t ah).ba.At t ah):=Bw hco.vers hco.good.at_ ht hk db
 show ot w _ _ _=_
 unfold ot
 rw[hj.err]
 simp only[bne_self_eq_false,cond_false,List.map_map]
 have e:((aM r.Versions (rCourt r ba t ah).ba.At t ah).1.map ((λf=>f w)∘λno=>j6 r (rCourt r ba t ah).ba no t ah))=(askJ (rCourt r ba t ah)).1.map (mAns (rCourt r ba t ah) w):=by
  apply List.map_congr_left
  intro no hno'
  exact SW hc hd ht hk (hj.mem no hno') w
 rw[e]
 show((gU (askJ (rCourt r ba t ah)).2.1 _).1&&((gU (askJ (rCourt r ba t ah)).2.1 _).2==0))=_
 cases hn:(askJ (rCourt r ba t ah)).1 with
 |nil=>rw[Wr,IN];rfl
 |cons x l=>
  have hm:=hj.mode (by rw[show(aM r.Versions (rCourt r ba t ah).ba.At t ah).1=x::l from hn];simp)
  have hl:((x::l).map (mAns (rCourt r ba t ah) w)).length<=256:=by rw[←hn,List.length_map];exact qM (CX _ _ _ _) hco.vers.len
  have:=Iq_ (mode:=(askJ (rCourt r ba t ah)).2.1) hm hl
  rw[this]
  simp
theorem Nu(db:(rCourt r ba t ah).ba.At<=t):(jq r signed u ba t ah (rCourt r ba t ah).ba).decides []=gq (rCourt r ba t ah):=by
 obtain⟨hco,hno⟩:=AX hc hd ht hk
 have hj:Jdg r.Versions (askJ (rCourt r ba t ah)):=Bw hco.vers hco.good.at_ ht hk db
 rw[OC hc hd ht hk db]
 unfold gq
 rw[show(askJ (rCourt r ba t ah)).1.map (mAns (rCourt r ba t ah) [])=(askJ (rCourt r ba t ah)).1.map (askAns (rCourt r ba t ah))from List.map_congr_left λno _=>TY _ no]
 cases hm:(askJ (rCourt r ba t ah)).2.1==0 with
 |false=>rfl
 |true=>
  have:(askJ (rCourt r ba t ah)).1=[]:=by
   by_cases h:(askJ (rCourt r ba t ah)).1=[]
   .exact h
   .have:=hj.mode h;simp at hm;omega
  rw[this,Wr,IN];rfl
end
end
section
def cz.K2(cK:Register)(signed:List Int)(u:List Use)(ba:Int)(cB:Int)(ah:Int)(bF:List (Int×Int))(Ca:Bool):Bool:=(((aR cK signed u ba cB ah).2.1&&Ca)&&((mgetD bF 3 0)==(((aR cK signed u ba cB ah).1).length:Int)))
def cz.L2(cK:Register)(signed:List Int)(u:List Use)(ba:Int)(cB:Int)(ah:Int)(k:Bool->Bool):List eC->Bool->Bool
 |[],Ca=>(k Ca)
 |y2::rz2,Ca=>(cz.L2 cK signed u ba cB ah k rz2 (Ca||(decide (y2=(eC.mk 3 (((bj cK signed u ba cB ah).1).Budget))))))
def cz.K1(cK:Register)(signed:List Int)(u:List Use)(ba:Int)(cB:Int)(ah:Int)(bF:List (Int×Int)):Bool:=(bif(((bj cK signed u ba cB ah).1).State==0)then((aR cK signed u ba cB ah).2.1&&((((aR cK signed u ba cB ah).1).length:Int)==0))else(bif(((bj cK signed u ba cB ah).1).State==1)then((!((aR cK signed u ba cB ah).2.1))&&(ju ((aR cK signed u ba cB ah).1) ([(eC.mk 4 ba)])))else(bif(((bj cK signed u ba cB ah).1).State==2)then(((!((aR cK signed u ba cB ah).2.1))&&((((aR cK signed u ba cB ah).1).length:Int)==0))||decide (0<(mgetD bF 2 0)))else(bif(((bj cK signed u ba cB ah).1).State==3)then(((mgetD bF 2 0)==0)&&(((!((aR cK signed u ba cB ah).2.1))&&((((aR cK signed u ba cB ah).1).length:Int)==0))||decide (0<(mgetD bF 1 0))))else(bif(((bj cK signed u ba cB ah).1).State==4)then((cz.L2 cK signed u ba cB ah (cz.K2 cK signed u ba cB ah bF)) ((aR cK signed u ba cB ah).1) false)else false)))))
def cz.L1(k:(List (Int×Int))->Bool):List eC->(List (Int×Int))->Bool
 |[],bF=>(k bF)
 |y1::rz1,bF=>(cz.L1  k rz1 (mput bF y1.Kind (IntKind.wrap .i64 ((mgetD bF y1.Kind 0)+1))))
def cz(cK:Register)(signed:List Int)(u:List Use)(ba:Int)(cB:Int)(ah:Int):Bool:=(bif(!CD)then false else(bif(!(li cK signed u ba cB ah))then true else(bif(((aR cK signed u ba cB ah).2.2 != 0)||((bj cK signed u ba cB ah).2 != 0))then false else((cz.L1 (cz.K1 cK signed u ba cB ah)) ((aR cK signed u ba cB ah).1) ([])))))
end
section
theorem PC:∀{l:List Int}{a b:Int},l.Pairwise (·<·)->(∀x∈l,a<=x/\x<b)->(l.length:Int)<=max 0 (b-a)
 |[],a,b,_,_=>by simp;omega
 |x::l,a,b,hp,h=>by
  have h1:=h x (kB ..)
  have:=PC (a:=x+1) (b:=b) (List.pairwise_cons.1 hp).2 λy hy=>⟨(List.pairwise_cons.1 hp).1 y hy,(h y (jC _ hy)).2⟩
  simp only[zA];omega
theorem Li{l:List aK}{o p t:Int}(h:(eO l o p t ah).2.2.1=true):∃y∈l,y.cZ=p:=by
 refine Classical.byContradiction λhn=>?_
 have hl:∀(s:List aK),(∀y∈s,y.cZ≠p)->s.foldl (lastA t ah ⟨o,p⟩) none=none:=by
  intro s
  induction s with
  |nil=>intro _;rfl
  |cons y s ih=>
   intro hs
   have e:((y.ep==o)&&(y.cZ==p))=false:=by
    grind
   simp only[Wb,lastA,e,Bool.and_false,cond_false]
   grind
 have h1:mget? (dI l t ah) (vT o p)=none:=by
  have:=M1 t ah (vT o p) l []
  exact this.trans (hl l λy hy e=>hn ⟨y,hy,e⟩)
 unfold eO mhas at h
 grind
theorem SK:∀l:List aK,lG.L1 lG.K1 l=true->∀y∈l,y.cZ<=5
 |[],_,_,hy=>(kA hy).elim
 |x::l,h,y,hy=>by
  simp only[lG.L1,Bool.cond_eq_ite,decide_eq_true_eq]at h
  split at h
  .cases h
  .rcases zE.1 hy with rfl|hy
   .omega
   .exact SK l h y hy
theorem SC{r:Register}{t:Int}(h:li r signed u ba t ah=true)(d:ao):(hZ r d t ah).length<=6:=by
 have hf:∀y∈r.dD,y.cZ<=5:=by
  simp only[li,zC]at h
  have h1:=h.1
  grind [lG,SK]
 obtain⟨_,h2,h3⟩:=Lo r t ah d (qE 64) 0
 have:=PC (a:=0) (b:=6) h2 λx hx=>by
  grind [Li]
 show(aW.L1 _ _ _ _ _ _ _).length<=6
 omega
theorem RX:(qE 64).all (λm=>m==0||!(pop64 (m:Int)==0))=true:=by decide +kernel
theorem GB(p:List Int):setOf p 0=[]:=by
 have hb:∀k,bitAt 0 k=false:=λk=>by
  unfold bitAt
  rw[Int.zero_fdiv]
  rfl
 have:∀(l:List Int)(i:Nat)(g:List Int),setOf.L p.length 0 l i g=g:=by
  intro l
  induction l with
  |nil=>intro i g;rfl
  |cons y l ih=>intro i g;simp only[setOf.L,hb,cond_false,ih]
 exact this p 0 []
theorem NT{p:List Int}(hp:p.length<=6){f:List Int->Bool}(h:f []=true):(iM p).find? f=some []:=by
 have h1:∀n,n<=64->∀w∈downF (setsM p 0) n,w=[]:=by
  intro n hn w hw
  obtain⟨m,hm,hw⟩:=EL hw
  unfold setsM at hw
  have:=qQ.1 RX m (Wz.2 (by omega))
  cases hz:pop64 (m:Int)==((0:Nat):Int)with
  |false=>rw[hz]at hw;exact(kA hw).elim
  |true=>
   grind [pop64,GB]
 have h2:∀n,0<n->[]∈downF (setsM p 0) n:=by
  intro n
  induction n with
  |zero=>intro h;omega
  |succ n ih=>
   intro _
   simp only[downF,zG]
   cases n with
   |zero=>left;show[]∈(bif pop64 ((0:Nat):Int)==((0:Nat):Int)then[setOf p ((0:Nat):Int)]else[]);rw[show(pop64 ((0:Nat):Int)==((0:Nat):Int))=true from by decide,cond_true,show setOf p ((0:Nat):Int)=[]from GB p];exact kB ..
   |succ n=>right;exact ih (by omega)
 show(downF (setsM p 0) (2 ^ p.length)++_).find? f=_
 rw[List.find?_append]
 have:(downF (setsM p 0) (2 ^ p.length)).find? f=some []:=by
  cases hh:(downF (setsM p 0) (2 ^ p.length)).find? f with
  |none=>have:=List.find?_eq_none.1 hh [] (h2 _ (Nat.two_pow_pos _));rw[h]at this;exact absurd rfl this
  |some w=>rw[h1 _ (qM (Nat.pow_le_pow_right (by decide) hp) (by decide)) w (List.mem_of_find?_eq_some hh)]
 rw[this];rfl
theorem TZ(q:QP)(w:List Int):(jZ q w).length=w.length+(q.needs.length+q.over.length):=by grind [jZ,xn,vA,List.length_map]
theorem Jp{l:List Budget}(hc:bI l=0)(k t n:Int):(dK l k t n).1.length<=4096:=by
 have h1:=(w4 l k t n).length_le
 have h2:l.length<=4096:=by
  grind [bI]
 unfold dK
 grind
theorem Hx(k:List (Int×Int)->Bool):∀(l:List eC)(m:List (Int×Int)),(∀x,0<=mgetD m x 0/\mgetD m x 0+l.length<=1000000)->∃m',cz.L1 k l m=k m'/\∀x,mgetD m' x 0=mgetD m x 0+((l.countP λy=>y.Kind==x:Nat):Int)
 |[],m,_=>⟨m,rfl,λx=>by simp⟩
 |y::l,m,hb=>by
  have hk:=hb y.Kind
  have hw:=wrap64 (z:=mgetD m y.Kind 0+1) (by simp only[zA]at hk;omega)
  have hput:∀x,mgetD (mput m y.Kind (mgetD m y.Kind 0+1)) x 0=if x=y.Kind then mgetD m y.Kind 0+1 else mgetD m x 0:=λx=>by
   unfold mgetD;rw[ov];split<;>rfl
  obtain⟨m',e,h⟩:=Hx k l (mput m y.Kind (mgetD m y.Kind 0+1)) (λx=>by
   have:=hb x
   rw[hput]
   simp only[zA]at this hk
   split<;>omega)
  refine⟨m',by simp only[cz.L1,hw];exact e,λx=>?_⟩
  grind
theorem Hw(r:Register)(signed:List Int)(u:List Use)(ba t ah:Int)(k:Bool->Bool):∀(l:List eC)(g:Bool),cz.L2 r signed u ba t ah k l g=k (g||l.any λy=>decide (y=eC.mk 3 (bj r signed u ba t ah).1.Budget))
 |[],g=>by simp[cz.L2]
 |y::l,g=>by simp only[cz.L2,Hw r signed u ba t ah k l,List.any_cons,Bool.or_assoc]
theorem wq(k x:Int)(l:List Int):((l.map (eC.mk k)).countP λy=>y.Kind==x)=if k=x then l.length else 0:=by
 rw[List.countP_map]
 split
 .next h=>subst h;exact List.countP_eq_length.2 λ_ _=>by simp
 .grind
theorem nothing_true{r:Register}(hsm:smR r){t:Int}:cz r signed u ba t ah=true:=by
 unfold cz
 rw[show CD=true from rfl]
 cases hr:li r signed u ba t ah with
 |false=>rfl
 |true=>
  simp only[Bool.not_true,cond_false]
  have hg:=(GP hr).1
  obtain⟨hc,hd,ht,hk,hsg,hrm⟩:=El hsm hg
  obtain⟨hco,hJ⟩:=My hsm hg
  have hff:=SC hr (rCourt r ba t ah).ba
  have hM:aR r signed u ba t ah=mD ba (jq r signed u ba t ah (rCourt r ba t ah).ba) 0:=by
   grind [aR,iI,Uc]
  unfold mD at hM
  have hfr:(jq r signed u ba t ah (rCourt r ba t ah).ba).free=hZ r (rCourt r ba t ah).ba t ah:=Ft _
  have hcl:(jq r signed u ba t ah (rCourt r ba t ah).ba).closed=((judgeC (rCourt r ba t ah) r signed u t ah).State==1):=by
   show((bj r signed u ba t ah).1.State==1)=_
   rw[hJ]
  rw[hcl,show decide (12<(((jq r signed u ba t ah (rCourt r ba t ah).ba).free.length:Nat):Int))=false from by rw[hfr];exact decide_eq_false (by omega)]at hM
  simp only[bne_self_eq_false,cond_false]at hM
  have hMl:(aR r signed u ba t ah).1.length<=1000000:=by
   have hq1:(jq r signed u ba t ah (rCourt r ba t ah).ba).needs.length<=16:=by
    show(iX _ _ []).length<=16
    rw[Hz,zF]
    exact qM (List.length_filter_le _ _) hco.good.needs.2
   have hq2:(jq r signed u ba t ah (rCourt r ba t ah).ba).over.length<=4096:=by
    show(ir _ _ _ _ _ []).length<=4096
    grind [KY,Jp,lN]
   rw[hM]
   cases(judgeC (rCourt r ba t ah) r signed u t ah).State==1 with
   |true=>simp[xn]
   |false=>
    simp only[cond_false]
    cases hf:(iM (jq r signed u ba t ah (rCourt r ba t ah).ba).free).find? (jq r signed u ba t ah (rCourt r ba t ah).ba).decides with
    |none=>simp
    |some w=>
     have:=Ml (List.mem_of_find?_eq_some hf)
     grind [TZ]
  obtain⟨m,em,hm⟩:=Hx (cz.K1 r signed u ba t ah) (aR r signed u ba t ah).1 [] (λx=>⟨by simp[mgetD,mget?],by have:=hMl;simp[mgetD,mget?];omega⟩)
  rw[em,hJ]
  have hm0:∀x,mgetD m x 0=(((aR r signed u ba t ah).1.countP λy=>y.Kind==x:Nat):Int):=λx=>by rw[hm x];simp[mgetD,mget?]
  simp only[cz.K1,cz.K2,Hw,hm0,hJ]
  unfold judgeC at hM ⊢
  cases hclosed:hY (rCourt r ba t ah) signed with
  |true=>
   rw[hclosed]at hM
   simp only[cond_true]at hM ⊢
   rw[hM]
   simp[xn,ju,ju.L1,ju.K1]
   rfl
  |false=>
   have db:(rCourt r ba t ah).ba.At<=t:=Kp hclosed
   have hdn:=Nu (signed:=signed) (u:=u) hc hd ht hk db
   have hneed:(jq r signed u ba t ah (rCourt r ba t ah).ba).needs=(rCourt r ba t ah).ba.fm.filter λy=>!(fS (bA r.cj signed t).1 y):=Hz _ _ []
   have hlk:iZ (rCourt r ba t ah) signed=((rCourt r ba t ah).ba.fm.any λy=>!(fS (bA r.cj signed t).1 y)):=containsF _ _
   have hdoc:=hco.good
   have hov:=Qi (d:=(rCourt r ba t ah).ba) hrm ((lN _).1 hc).2.2.2.1 hdoc.kind hdoc.value ht hk
   have hovq:(jq r signed u ba t ah (rCourt r ba t ah).ba).over=ir u (rCourt r ba t ah).ba t ah (dK r.dN (rCourt r ba t ah).ba.Kind t ah).1 []:=rfl
   rw[←hovq]at hov
   have hrj:judgeRoom (rCourt r ba t ah) r u t ah=aN r.dN u (rCourt r ba t ah).ba.Kind (rCourt r ba t ah).ba.Value t ah:=rfl
   rw[←hrj]at hov
   have hsf:=λh=>NT (p:=(jq r signed u ba t ah (rCourt r ba t ah).ba).free) (f:=(jq r signed u ba t ah (rCourt r ba t ah).ba).decides) (by rw[hfr];omega) h
   rw[hclosed]at hM
   simp only[cond_false]at hM ⊢
   generalize jq r signed u ba t ah (rCourt r ba t ah).ba=q at *
   generalize aR r signed u ba t ah=M at *
   have hlist:∀w,jZ q w=w.map (eC.mk 1)++q.needs.map (eC.mk 2)++q.over.map (eC.mk 3):=λw=>by unfold jZ;rw[xn,xn,xn]
   have hcnt:∀w x,(jZ q w).countP (λy=>y.Kind==x)=(if(1:Int)=x then w.length else 0)+(if(2:Int)=x then q.needs.length else 0)+(if(3:Int)=x then q.over.length else 0):=λw x=>by
    rw[hlist,List.countP_append,List.countP_append,wq,wq,wq]
   cases hl:iZ (rCourt r ba t ah) signed with
   |true=>
    have hn:0<q.needs.length:=by
     rw[hl]at hlk
     obtain⟨y,hy,h⟩:=List.any_eq_true.1 hlk.symm
     rw[hneed]
     exact List.length_pos_iff.2 (List.ne_nil_of_mem (xW.2 ⟨hy,h⟩))
    rw[hl]at hM
    simp only[cond_true]at hM ⊢
    cases hf:(iM q.free).find? q.decides with
    |none=>rw[hf]at hM;simp at hM;rw[hM];rfl
    |some w=>
     rw[hf]at hM
     simp at hM
     rw[hM]
     simp[hcnt,hn]
   |false=>
    have hn:q.needs=[]:=by
     rw[hl]at hlk
     rw[hneed,List.filter_eq_nil_iff]
     grind
    rw[hl]at hM
    simp only[cond_false]at hM ⊢
    cases ha:gq (rCourt r ba t ah)with
    |false=>
     rw[ha]at hM hdn
     simp only[Bool.not_false,cond_true]at hM ⊢
     cases hf:(iM q.free).find? q.decides with
     |none=>rw[hf]at hM;simp at hM;rw[hM];rfl
     |some w=>
      rw[hf]at hM
      simp at hM
      have hw:w≠[]:=by
       grind
      have:0<w.length:=List.length_pos_iff.2 hw
      rw[hM]
      simp[hcnt,hn,this]
    |true=>
     rw[ha]at hM hdn
     have hf:=hsf hdn
     simp only[Bool.not_true,cond_false]at hM ⊢
     cases hrr:(judgeRoom (rCourt r ba t ah) r u t ah).2.1 with
     |true=>
      grind
     |false=>
      have ho:=hov.2 hrr
      rw[hrr,hf]at hM
      simp at hM
      rw[hM]
      simp[hlist,hn]
      exact⟨ho,by rw[←List.countP_map,wq];rfl⟩
end
variable {S:List Nat}{e':Env}{o:Operand}
section
section
variable {P:Program} {b:Frame} {n:Nat} {k:List Item} {F:List Frame->(Machine->Prop)->Prop} {e:Env} {ds:List Deferred} {X:Cx} {h:HF} {L:LH}
variable {ops:Array Oper} {l:List Oper} {d:Nat} {ty:TypeId} {pos:String} {af:Array Edge} {g:Option (Nat×Bool)}
def memN:List Nat->Nat->Bool
 |[],_=>false
 |a::l,s=>bif zW s a then true else memN l s
def mix(S:List Nat)(e' e:Env):Env:=λs=>bif memN S s then e' s else e s
def subN:List Nat->List Nat->Bool
 |[],_=>true
 |a::l,S=>memN S a&&subN l S
def Agr(S:List Nat)(e e':Env):Prop:=∀s,memN S s=false->e' s=e s
theorem rI{e:Env}:Agr S e e:=λ_ _=>rfl
theorem ur{e:Env}{d:Nat}{w:Value}(hd:memN S d=true)(h:Agr S e e'):Agr S e (upd e' d w):=λs hs=>by
 unfold upd
 cases hb:zW s d with
 |true=>rw[jL hb,hd]at hs;cases hs
 |false=>exact h s hs
theorem Sa{T:List Nat}(h:subN T S=true){s:Nat}(hs:memN S s=false):memN T s=false:=by
 induction T with
 |nil=>rfl
 |cons a T ih=>
  simp only[subN,zC]at h
  simp only[memN]
  cases hb:zW s a with
  |true=>rw[jL hb,h.1]at hs;cases hs
  |false=>exact ih h.2
theorem us{T:List Nat}{e e2:Env}(hT:subN T S=true)(h:Agr S e e'):Agr S e (mix T e2 e'):=λs hs=>by
 unfold mix
 rw[Sa hT hs];exact h s hs
theorem Pa(m:Nat)(S:List Nat)(d:Nat)(v:Value)(t':(∀e',e' d=v->(ha:Agr S e e':=by repeat (first|exact rI|refine ur rfl ?_|refine us rfl ?_))->TO P b n ops (l.drop m) k F e' ds X h L)->TO P b n ops l k F e ds X h L)(hk:∀e'',TO P b n ops (l.drop m) k F (upd (mix S e'' e) d v) ds X h L):TO P b n ops l k F e ds X h L:=
 t' λe' hv ha=>by
  have e1:upd (mix S e' e) d v=e':=funext λs=>by
   unfold upd
   cases hb:zW s d with
   |true=>rw[jL hb];exact hv.symm
   |false=>
    show mix S e' e s=e' s
    unfold mix
    cases hm:memN S s with
    |true=>rfl
    |false=>exact(ha s hm).symm
  have:=hk e'
  rw[e1]at this
  exact this
theorem aI{x z:α}{c:Bool}{p q:Code}(hs:x=bif c then y else z)(hx:e.ev o=.bool c)(t1:c=true->x=y->TT P b n (.code p::k) F e ds X h L)(t2:c=false->x=z->TT P b n (.code q::k) F e ds X h L):TT P b n (.code (.cond o p q)::k) F e ds X h L:=
 lu hx (λe'=>t1 e' (hs.trans (by rw[e'];rfl))) (λe'=>t2 e' (hs.trans (by rw[e'];rfl)))
end
end
variable {l:List Oper}{op:Op}{ops:Array Oper}{v:Go.Value}
section
inductive Qs
 |tt (k:List Item) (e:Env)
 |to (ops:Array Oper) (l:List Oper) (k:List Item) (e:Env)
@[reducible] def Qs.holds (P:Program) (b:Frame) (n:Nat) (F:List Frame->(Machine->Prop)->Prop) (ds:List Deferred) (X:Cx) (h:HF) (L:LH):Qs->Prop
 |.tt k e=>TT P b n k F e ds X h L
 |.to ops l k e=>TO P b n ops l k F e ds X h L
def opQ(e:Env):Op->Option Value
 |.move x=>some (e.ev x)
 |.assign x=>some (e.ev x)
 |.pick c x y=>match e.ev c with
  |.bool s=>some (bif s then e.ev x else e.ev y)
  |_=>none
 |.extract x i=>match e.ev x with
  |.tuple ⟨vs⟩=>nth vs i
  |_=>none
 |.unOp .not _ x=>match e.ev x with
  |.bool s=>some (.bool !s)
  |_=>none
 |.binOp op _ x y _=>binV op (e.ev x) (e.ev y)
 |_=>none
def qstepO(n:Nat)(ops:Array Oper)(l:List Oper)(k:List Item)(e:Env):Option Qs:=
 match l with
 |[]=>some (.tt k e)
 |⟨some d,op,ty,pos,af,g⟩::l=>
  match zJ d n with
  |false=>none
  |true=>match guardB ops e ⟨some d,op,ty,pos,af,g⟩with
   |false=>some (.to ops l k (upd e d undef))
   |true=>match opQ e op with
    |some v=>some (.to ops l k (upd e d v))
    |none=>none
 |_=>none
def qstepT(k:List Item)(e:Env):Option Qs:=
 match k with
 |.code .skip::k=>some (.tt k e)
 |.code (.seq x y)::k=>some (.tt (.code x::.code y::k) e)
 |.code (.block id c)::k=>some (.tt (.code c::.inBlock id::k) e)
 |.inBlock _::k=>some (.tt k e)
 |.code (.exit id)::k=>match exitTo id k with
  |some k'=>some (.tt k' e)
  |none=>none
 |.code (.cond c x y)::k=>match e.ev c with
  |.bool true=>some (.tt (.code x::k) e)
  |.bool false=>some (.tt (.code y::k) e)
  |_=>none
 |.code (.region _ ⟨l⟩ false)::k=>some (.to ⟨l⟩ l k e)
 |_=>none
def runQ(n:Nat):Nat->Qs->Option Qs
 |0,s=>some s
 |m+1,.tt k e=>match qstepT k e with
  |some s=>runQ n m s
  |none=>none
 |m+1,.to ops l k e=>match qstepO n ops l k e with
  |some s=>runQ n m s
  |none=>none
section
variable {P:Program} {b:Frame} {n:Nat} {k:List Item} {F:List Frame->(Machine->Prop)->Prop} {e:Env} {ds:List Deferred} {X:Cx} {h:HF} {L:LH}
theorem Es(hv:opQ e op=some v):noDefer op=true/\∀(d:Option Nat)(ty:TypeId)(pos:String)(af:Array Edge)(g:Option (Nat×Bool))w,(execOp e.ev ⟨d,op,ty,pos,af,g⟩).run P w=.ok (.value v) w:=by
 unfold opQ at hv
 split at hv
 .cases hv;exact⟨rfl,λ_ _ _ _ _ w=>by simp[execOp]⟩
 .cases hv;exact⟨rfl,λ_ _ _ _ _ w=>by simp[execOp]⟩
 .split at hv
  .next s hc=>cases hv;exact⟨rfl,λ_ _ _ _ _ w=>by cases s<;>simp[execOp,hc,asBool]⟩
  .cases hv
 .split at hv
  .next vs hx=>exact⟨rfl,λ_ _ _ _ _ w=>by rw[iT]at hv;simp[execOp,hx,Instr.extract,hv]⟩
  .cases hv
 .split at hv
  .next s hx=>cases hv;exact⟨rfl,λ_ _ _ _ _ w=>by simp[execOp,hx,Op.unary]⟩
  .cases hv
 .next op t x y u=>
  exact⟨rfl,λ_ _ _ _ _ w=>by
   have:=GJ (P:=P) (t:=t) (x:=x) (y:=y) hv w
   simp only[execOp,Sem.run_bind]at this ⊢
   simp[this]⟩
 .cases hv
theorem Qp{s:Qs}(hs:qstepO n ops l k e=some s)(t:s.holds P b n F ds X h L):TO P b n ops l k F e ds X h L:=by
 unfold qstepO at hs
 split at hs
 .cases hs;exact bp t
 .split at hs
  .cases hs
  .next hd=>
   split at hs
   .next hg=>cases hs;exact Hu t hd hg
   .next hg=>
    split at hs
    .next v hv=>
     cases hs
     obtain⟨h1,h2⟩:=Es (P:=P) hv
     exact rN v h1 (λw _=>h2 _ _ _ _ _ w) hd hg t
    .cases hs
 .cases hs
theorem JZ{s:Qs}(hs:qstepT k e=some s)(t:s.holds P b n F ds X h L):TT P b n k F e ds X h L:=by
 unfold qstepT at hs
 split at hs
 .cases hs;exact bO t
 .cases hs;exact el t
 .cases hs;exact mZ t
 .cases hs;exact fM t
 .split at hs
  .next hx=>cases hs;exact kw hx t
  .cases hs
 .split at hs
  .next hc=>cases hs;exact mq hc t
  .next hc=>cases hs;exact oe hc t
  .cases hs
 .cases hs;exact bM t
 .cases hs
theorem F5:∀(m:Nat)(a:Qs){s:Qs},runQ n m a=some s->s.holds P b n F ds X h L->a.holds P b n F ds X h L
 |0,_,_,hr,t=>by cases hr;exact t
 |m+1,.tt k e,s,hr,t=>by
  unfold runQ at hr
  split at hr
  .next s' hs=>exact JZ hs (F5 m s' hr t)
  .cases hr
 |m+1,.to ops l k e,s,hr,t=>by
  unfold runQ at hr
  split at hr
  .next s' hs=>exact Qp hs (F5 m s' hr t)
  .cases hr
theorem qT(m:Nat){s:Qs}(hr:runQ n m (.tt k e)=some s)(t:s.holds P b n F ds X h L):TT P b n k F e ds X h L:=F5 m (.tt k e) hr t
theorem qO(m:Nat){s:Qs}(hr:runQ n m (.to ops l k e)=some s)(t:s.holds P b n F ds X h L):TO P b n ops l k F e ds X h L:=F5 m (.to ops l k e) hr t
end
end
variable {P:Program}{a x:Bool}{args:List Go.Value}{c:Code}{f:FuncId}{fn:Func}{id:Nat}{x0:ρ}{γ:Type}
section
section
variable {P:Program} {b:Frame} {n:Nat} {k:List Item} {F:List Frame->(Machine->Prop)->Prop} {e:Env} {ds:List Deferred} {X:Cx} {h:HF} {L:LH}
theorem rds(h:p:=by repeat (first|exact trivial|refine⟨rfl,?_⟩)):p:=h
theorem sws(h:p:=by first|exact λw hw=>hw|(intro w hw;first|simpa only[List.append_assoc,List.cons_append,List.nil_append,List.append_nil]using hw|(simp only[List.append_assoc,List.cons_append,List.nil_append,List.append_nil]at hw ⊢;exact hw))):p:=h
theorem ndA(h:p:=by(intro i g hd hf hx e;refine el (bM (iS (v':=.bool false) rfl (congrArg Value.bool hf) (bp (el (oe rfl (kw rfl (hx _ ?_)))))));exact rds)):p:=h
theorem ndB(h:p:=by(intro i hd hf hx e;refine el (bM (iS (v':=.bool false) rfl (congrArg Value.bool hf) (bp (el (oe rfl (kw rfl (hx _ ?_)))))));exact rds)):p:=h
theorem lpG(xs:List α)(sl:Nat->γ->List (Nat×Value))(hh:γ->HF)(LL:γ->LH)(J:Nat->γ->Prop)(Lf:List α->Nat->γ->ρ)(g0:γ)(hb:xs.length<=9223372036854775807)(hs:x0=Lf xs 0 g0)(hJ:J 0 g0)(h0:iu e (sl 0 g0))(hw:∀w,St X h L w->St X (hh g0) (LL g0) w)(after:∀i g,i<=xs.length->x0=Lf [] i g->J i g->∀e',TT P b n k F (upds e' (sl i g)) ds X (hh g) (LL g))(cons:∀i g y r,xs.drop i=y::r->decide ((i:Int)<(xs.length:Int))=true->xs[i]? = some y->i<xs.length->xs.length<=9223372036854775807->x0=Lf (y::r) i g->J i g ->
   (∀i' g' {e'},x0=Lf [] i' g'->J i' g'->i'<=xs.length->iu e' (sl i' g')->TT P b n k F e' ds X (hh g') (LL g')) ->
   (∀g' {e'},x0=Lf r (i+1) g'->J (i+1) g'->iu e' (sl (i+1) g')->TT P b n (.inLoop c::.inBlock id::k) F e' ds X (hh g') (LL g')) ->
   ∀e',TT P b n (.code c::.inLoop c::.inBlock id::k) F (upds e' (sl i g)) ds X (hh g) (LL g))(nil:∀i g,xs.drop i=[]->decide ((i:Int)<(xs.length:Int))=false->(∀e',iu e' (sl i g)->TT P b n k F e' ds X (hh g) (LL g)) ->
   ∀e',TT P b n (.code c::.inLoop c::.inBlock id::k) F (upds e' (sl i g)) ds X (hh g) (LL g)):
  TT P b n (.code (.block id (.loop c))::k) F e ds X h L:=by
 refine gx (ι:=Nat×γ) (λi=>sl i.1 i.2) (λi=>hh i.2) (λi=>LL i.2) (λi=>i.1<=xs.length/\x0=Lf [] i.1 i.2/\J i.1 i.2) ?_ (λhx=>?_)
 .grind
 .refine jw (ι:=Nat×γ×List α) (λi=>sl i.1 i.2.1) (λi=>hh i.2.1) (λi=>LL i.2.1) (λi=>xs.drop i.1=i.2.2/\i.1<=xs.length/\x0=Lf i.2.2 i.1 i.2.1/\J i.1 i.2.1) (λi=>i.2.2.length) (0,g0,xs) h0 hw ⟨rfl,xH _,hs,hJ⟩ ?_
  rintro⟨i,g,s⟩ ⟨hd,hi,hs,hJ⟩ ag e'
  dsimp only at hd hi hs hJ
  rcases s with _|⟨y,r⟩
  .exact nil i g hd (nZ hd) (λe'' hr=>hx (i,g) e'' ⟨hi,hs,hJ⟩ hr) e'
  .exact cons i g y r hd (tU hd) (sn hd) (il hd) hb hs hJ (λi' g' e'' a b c d=>hx (i',g') e'' ⟨c,a,b⟩ d)
    (λg' e'' a b hr=>ag (i+1,g',r) e'' (Nat.lt_succ_self _) ⟨ll hd,il hd,a,b⟩ hr) e'
theorem lp2(xs:List α)(sl:Nat->γ->List (Nat×Value))(hh:γ->HF)(LL:γ->LH)(J:Nat->γ->Prop)(Lf:List α->Nat->γ->ρ)(g0:γ)(hb:xs.length<=9223372036854775807)(hs:x0=Lf xs 0 g0)(hJ:J 0 g0)(after:∀i g,i<=xs.length->x0=Lf [] i g->J i g->∀e',TT P b n k F (upds e' (sl i g)) ds X (hh g) (LL g))(cons:∀i g y r,xs.drop i=y::r->decide ((i:Int)<(xs.length:Int))=true->xs[i]? = some y->i<xs.length->xs.length<=9223372036854775807->x0=Lf (y::r) i g->J i g ->
   (∀i' g' {e'},x0=Lf [] i' g'->J i' g'->(hi:i'<=xs.length:=by omega)->(hr:iu e' (sl i' g'):=by exact rds)->TT P b n k F e' ds X (hh g') (LL g')) ->
   (∀g' {e'},x0=Lf r (i+1) g'->J (i+1) g'->(hr:iu e' (sl (i+1) g'):=by exact rds)->TT P b n (.inLoop c::.inBlock id::k) F e' ds X (hh g') (LL g')) ->
   ∀e',TT P b n (.code c::.inLoop c::.inBlock id::k) F (upds e' (sl i g)) ds X (hh g) (LL g))(nil:∀i g,xs.drop i=[]->decide ((i:Int)<(xs.length:Int))=false->(∀e',iu e' (sl i g)->TT P b n k F e' ds X (hh g) (LL g)) ->
   ∀e',TT P b n (.code c::.inLoop c::.inBlock id::k) F (upds e' (sl i g)) ds X (hh g) (LL g):=by exact ndA)(h0:iu e (sl 0 g0):=by exact rds)(hw:∀w,St X h L w->St X (hh g0) (LL g0) w:=by exact sws):
  TT P b n (.code (.block id (.loop c))::k) F e ds X h L:=
 lpG xs sl hh LL J Lf g0 hb hs hJ h0 hw after cons nil
theorem lp1(xs:List α)(sl:Nat->γ->List (Nat×Value))(L':LH)(Lf:List α->Nat->γ->ρ)(g0:γ)(hb:xs.length<=9223372036854775807)(hs:x0=Lf xs 0 g0)(after:∀i g,i<=xs.length->x0=Lf [] i g->∀e',TT P b n k F (upds e' (sl i g)) ds X h L')(cons:∀i g y r,xs.drop i=y::r->decide ((i:Int)<(xs.length:Int))=true->xs[i]? = some y->i<xs.length->xs.length<=9223372036854775807->x0=Lf (y::r) i g ->
   (∀i' g' {e'},x0=Lf [] i' g'->(hi:i'<=xs.length:=by omega)->(hr:iu e' (sl i' g'):=by exact rds)->TT P b n k F e' ds X h L') ->
   (∀g' {e'},x0=Lf r (i+1) g'->(hr:iu e' (sl (i+1) g'):=by exact rds)->TT P b n (.inLoop c::.inBlock id::k) F e' ds X h L') ->
   ∀e',TT P b n (.code c::.inLoop c::.inBlock id::k) F (upds e' (sl i g)) ds X h L')(nil:∀i g,xs.drop i=[]->decide ((i:Int)<(xs.length:Int))=false->(∀e',iu e' (sl i g)->TT P b n k F e' ds X h L') ->
   ∀e',TT P b n (.code c::.inLoop c::.inBlock id::k) F (upds e' (sl i g)) ds X h L':=by exact ndA)(h0:iu e (sl 0 g0):=by exact rds)(hw:∀w,St X h L w->St X h L' w:=by exact sws):
  TT P b n (.code (.block id (.loop c))::k) F e ds X h L:=
 lpG xs sl (λ_=>h) (λ_=>L') (λ_ _=>True) Lf g0 hb hs trivial h0 hw (λi g a b _=>after i g a b) (λi g y r a1 a2 a3 a4 a5 a6 _ hx ag=>cons i g y r a1 a2 a3 a4 a5 a6 (λi' g' _ a hi hr=>hx i' g' a trivial hi hr) (λg' _ a hr=>ag g' a trivial hr)) nil
theorem lp0(xs:List α)(sl:Nat->List (Nat×Value))(L':LH)(Lf:List α->Nat->ρ)(hb:xs.length<=9223372036854775807)(hs:x0=Lf xs 0)(after:∀i,i<=xs.length->x0=Lf [] i->∀e',TT P b n k F (upds e' (sl i)) ds X h L')(cons:∀i y r,xs.drop i=y::r->decide ((i:Int)<(xs.length:Int))=true->xs[i]? = some y->i<xs.length->xs.length<=9223372036854775807->x0=Lf (y::r) i ->
   (∀i' {e'},x0=Lf [] i'->(hi:i'<=xs.length:=by omega)->(hr:iu e' (sl i'):=by exact rds)->TT P b n k F e' ds X h L') ->
   (∀{e'},x0=Lf r (i+1)->(hr:iu e' (sl (i+1)):=by exact rds)->TT P b n (.inLoop c::.inBlock id::k) F e' ds X h L') ->
   ∀e',TT P b n (.code c::.inLoop c::.inBlock id::k) F (upds e' (sl i)) ds X h L')(nil:∀i,xs.drop i=[]->decide ((i:Int)<(xs.length:Int))=false->(∀e',iu e' (sl i)->TT P b n k F e' ds X h L') ->
   ∀e',TT P b n (.code c::.inLoop c::.inBlock id::k) F (upds e' (sl i)) ds X h L':=by exact ndB)(h0:iu e (sl 0):=by exact rds)(hw:∀w,St X h L w->St X h L' w:=by exact sws):
  TT P b n (.code (.block id (.loop c))::k) F e ds X h L:=
 lpG (γ:=Unit) xs (λi _=>sl i) (λ_=>h) (λ_=>L') (λ_ _=>True) (λl i _=>Lf l i) () hb hs trivial h0 hw (λi _ a b _=>after i a b) (λi _ y r a1 a2 a3 a4 a5 a6 _ hx ag=>cons i y r a1 a2 a3 a4 a5 a6 (λi' _ a hi hr=>hx i' () a trivial hi hr) (λa hr=>ag () a trivial hr)) (λi _=>nil i)
theorem gz(m:Nat)(S:List Nat)(s d:Nat)(y:Bool)(hx:e s=.bool x)(t':x=false->(∀e',e' d=.bool y->(ha:Agr S e e':=by repeat (first|exact rI|refine ur rfl ?_|refine us rfl ?_))->TO P b n ops (l.drop m) k F e' ds X h L)->TO P b n ops l k F (upd e s (.bool false)) ds X h L)(hk:∀e'',TO P b n ops (l.drop m) k F (upd (mix S e'' e) d (.bool (x||y))) ds X h L)(hq:∃e2,runQ n m (.to ops l k (upd e s (.bool true)))=some (.to ops (l.drop m) k e2)/\e2 d=.bool true/\Agr S e e2:=by exact⟨_,rfl,rfl,by repeat (first|exact rI|refine ur rfl ?_|refine us rfl ?_)⟩):TO P b n ops l k F e ds X h L:=by
 refine Pa m S d (.bool (x||y)) (λhj=>?_) hk
 refine uJ s hx (λc=>?_) (λc=>t' c (λe' he ha=>hj e' (he.trans (by rw[c];rfl)) ha))
 grind [qO]
theorem jO(m:Nat)(S:List Nat)(s d:Nat)(y:Bool)(hx:e s=.bool x)(t':x=true->(∀e',e' d=.bool y->(ha:Agr S e e':=by repeat (first|exact rI|refine ur rfl ?_|refine us rfl ?_))->TO P b n ops (l.drop m) k F e' ds X h L)->TO P b n ops l k F (upd e s (.bool true)) ds X h L)(hk:∀e'',TO P b n ops (l.drop m) k F (upd (mix S e'' e) d (.bool (x&&y))) ds X h L)(hq:∃e2,runQ n m (.to ops l k (upd e s (.bool false)))=some (.to ops (l.drop m) k e2)/\e2 d=.bool false/\Agr S e e2:=by exact⟨_,rfl,rfl,by repeat (first|exact rI|refine ur rfl ?_|refine us rfl ?_)⟩):TO P b n ops l k F e ds X h L:=by
 refine Pa m S d (.bool (x&&y)) (λhj=>?_) hk
 refine uJ s hx (λc=>t' c (λe' he ha=>hj e' (he.trans (by rw[c];rfl)) ha)) (λc=>?_)
 grind [qO]
theorem T3(s:Nat)(v:Value)(hv:e s=v)(t:TO P b n ops l k F (upd e s v) ds X h L):TO P b n ops l k F e ds X h L:=by grind [w5]
end
def look3:List (Nat×Nat×Nat)->Nat->Nat->Option Nat
 |[],_,_=>none
 |(a,b,c)::l,s,i=>bif zW a s&&zW b i then some c else look3 l s i
def tabOk(P:Program)(tF:List (Nat×Nat×Nat))(tY tS:List Nat):Bool:=
 tF.all (λx=>fldOf P x.1 x.2.1==some x.2.2)&&tY.all (λt=>tySz P t==some (1,false))&&tS.all (λt=>match P.underlying t with|some (.slice _)=>true|_=>false)
def T0:List (Nat×Nat)->Prop
 |[]=>True
 |(a,b)::q=>a=b/\T0 q
def runL(tF:List (Nat×Nat×Nat))(tY tS:List Nat)(n:Nat)(L:LH):Nat->List Nat->Qs->Option (Qs×List (Nat×Nat))
 |0,_,s=>some (s,[])
 |m+1,is,.tt k e=>match qstepT k e with
  |some s=>runL tF tY tS n L m is s
  |none=>none
 |m+1,is,.to ops [] k e=>runL tF tY tS n L m is (.tt k e)
 |m+1,is,.to ops (⟨some d,op,ty,pos,af,g⟩::l) k e=>match zJ d n with
  |false=>none
  |true=>match guardB ops e ⟨some d,op,ty,pos,af,g⟩with
   |false=>runL tF tY tS n L m is (.to ops l k (upd e d undef))
   |true=>match op with
    |.fieldAddr s x i=>match e.ev x,look3 tF s i with
     |.pointer (some a),some off=>runL tF tY tS n L m is (.to ops l k (upd e d (.pointer (some (a.add off)))))
     |_,_=>none
    |.load t x=>match e.ev x,is with
     |.pointer (some ⟨bk,off,none⟩),i::is=>match nth L i with
      |some (bk',.cells ⟨cl⟩ _ _)=>match nth cl off,memN tY t with
       |some v,true=>match runL tF tY tS n L m is (.to ops l k (upd e d v))with
        |some (s,q)=>some (s,(bk,bk')::q)
        |none=>none
       |_,_=>none
      |_=>none
     |_,_=>none
    |.call ⟨.builtin .len,⟨[x]⟩,⟨[t]⟩⟩=>match e.ev x,memN tS t with
     |.slice _ m' _,true=>runL tF tY tS n L m is (.to ops l k (upd e d (.int .i64 (m':Int))))
     |_,_=>none
    |op=>match opQ e op with
     |some v=>runL tF tY tS n L m is (.to ops l k (upd e d v))
     |none=>none
 |_+1,_,.to _ _ _ _=>none
theorem HK:∀{l:List Nat}{a:Nat},memN l a=true->a∈l
 |[],_,h=>by cases h
 |b::l,a,h=>by
  unfold memN at h
  cases hb:zW a b with
  |true=>rw[jL hb];exact kB ..
  |false=>rw[hb]at h;exact jC _ (HK h)
theorem Bq:∀{l:List (Nat×Nat×Nat)}{s i o:Nat},look3 l s i=some o->(s,i,o)∈l
 |[],_,_,_,h=>by cases h
 |(a,b,c)::l,s,i,o,h=>by
  unfold look3 at h
  cases hb:zW a s&&zW b i with
  |true=>
   rw[hb]at h;cases h
   simp only[zC]at hb
   rw[jL hb.1,jL hb.2];exact kB ..
  |false=>rw[hb]at h;exact jC _ (Bq h)
section
variable {P:Program} {b:Frame} {n:Nat} {k:List Item} {F:List Frame->(Machine->Prop)->Prop} {e:Env} {ds:List Deferred} {X:Cx} {h:HF} {L:LH}
theorem uf{tF:List (Nat×Nat×Nat)}{tY tS:List Nat}(hT:tabOk P tF tY tS=true):∀(m:Nat)(is:List Nat)(a:Qs){s:Qs}{q:List (Nat×Nat)},runL tF tY tS n L m is a=some (s,q)->T0 q->s.holds P b n F ds X h L->a.holds P b n F ds X h L
 |0,is,a,s,q,hr,hq,t=>by
  simp only[runL,jN,Xj]at hr;rw[hr.1];exact t
 |m+1,is,.tt k e,s,q,hr,hq,t=>by
  unfold runL at hr
  split at hr
  .next hs=>exact JZ hs (uf hT m _ _ hr hq t)
  .cases hr
 |m+1,is,.to ops [] k e,s,q,hr,hq,t=>by
  unfold runL at hr
  exact bp (uf hT m _ _ hr hq t)
 |m+1,is,.to ops (⟨none,op,ty,pos,af,g⟩::l) k e,s,q,hr,hq,t=>by
  unfold runL at hr
  cases hr
 |m+1,is,.to ops (⟨some d,op,ty,pos,af,g⟩::l) k e,s,q,hr,hq,t=>by
  have hT':=hT
  simp only[tabOk,zC,qQ]at hT'
  obtain⟨⟨h1,h2⟩,h3⟩:=hT'
  unfold runL at hr
  split at hr
  .cases hr
  .next hd=>
   split at hr
   .next hg=>exact Hu (uf hT m _ _ hr hq t) hd hg
   .next hg=>
    split at hr
    .split at hr
     .next hx hl=>exact lA (by simpa using h1 _ (Bq hl)) hx (uf hT m _ _ hr hq t) hd hg
     .cases hr
    .split at hr
     .next hx=>
      split at hr
      .next hn=>
       split at hr
       .next hv hm=>
        split at hr
        .next hr2=>
         cases hr
         obtain⟨e1,hq⟩:=hq
         subst e1
         exact pk _ (by simpa using h2 _ (HK hm)) hx hn hv (uf hT m _ _ hr2 hq t) hd hg
        .cases hr
       .cases hr
      .cases hr
     .cases hr
    .split at hr
     .next hx hm=>
      have:=h3 _ (HK hm)
      split at this
      .next hu=>exact E6 hu hx (uf hT m _ _ hr hq t) hd hg
      .cases this
     .cases hr
    .split at hr
     .next v hv=>
      obtain⟨g1,g2⟩:=Es (P:=P) hv
      exact rN v g1 (λw _=>g2 _ _ _ _ _ w) hd hg (uf hT m _ _ hr hq t)
     .cases hr
end
theorem sT{h:HF}{A:LH}{R:Ending->HF->LH->Prop}(hf:P.funcs[f]? = some fn)(hb:fn.body=some c)(hn:fn.ntmps=n)(db:Nat.ble args.length n=true)(t:∀X:Cx,X.M=A.map (·.1)->X.h0=h->P.funcs[f]? = some fn->TT P (bodyFrame f) n [.code c] (mN P X R) (envArgs args) [] X h A):pC P f args.toArray h A R:=by grind [cV]
section
variable {P:Program} {f:FuncId} {n:Nat} {k:List Item} {e:Env} {X:Cx} {h:HF} {L:LH} {fn:Func} {rs:List ResultVar} {φ : Value->HF->Prop}
theorem nretP{hh:HF}(vs:List Value)(hvv:retVal vs=v)(hf:P.funcs[f]? = some fn:=by assumption)(hr:fn.results=rs.toArray:=by rfl)(hX:X.h0=hh:=by assumption)(hv:tr P e L rs vs:=by exact rds):
  TT P (bodyFrame f) n (.code .ret::k) (mN P X (λx h' B=>x=.returned v/\h'=hh/\B=[])) e [] X h L:=vU vs hf hr hX hv hvv
theorem nretH(vs:List Value)(hφ : φ (retVal vs) h)(hf:P.funcs[f]? = some fn:=by assumption)(hr:fn.results=rs.toArray:=by rfl)(hv:tr P e L rs vs:=by exact rds):
  TT P (bodyFrame f) n (.code .ret::k) (mN P X (λx h' B=>B=[]/\∃v,x=.returned v/\φ v h')) e [] X h L:=lJ vs hf hr hv hφ
end
section grows
variable {P:Program} {b:Frame} {n:Nat} {ops:Array Oper} {F:List Frame->(Machine->Prop)->Prop} {e:Env} {ds:List Deferred} {X:Cx} {h:HF} {L:LH} {K:Env->HF->LH->Prop} {d:Option Nat} {ty:TypeId} {pos:String} {af:Array Edge} {g:Option (Nat×Bool)}
variable {α : Type} {R:Rp α} {E:TypeId} {xs:List α} {base:Option Addr} {cap bk:Nat} {G:LH}
theorem yl{α:Type}{R:Rp α}{C:α->ρ->List Value}{ok:HF->α->ρ->Prop}{t E:TypeId}{x ix:Operand}{base:Option Addr}{cap:Nat}{xs:List α}{y:α}{z:Int}(hT:P.underlying t=some (.slice E))(hS:tySz P E=some (R.sz,a))(hR:SlB R h base xs)(hz:0<=z/\z<(xs.length:Int))(hj:xs[z.toNat]? = some y)(hx:e.ev x=.slice base m cap)(hm:m=xs.length)(hix:e.ev ix=.int .i64 z)(hC:∀h cs y,R.rep h cs y->∃r,cs=C y r/\ok h y r)(t':∀q r,At h q (C y r)->ok h y r->K (pute e d (.pointer (some q))) h L)(hg:guardB ops e ⟨d,.indexAddr t x ix,ty,pos,af,g⟩=true:=by rfl):Stp P b n ops F ds X ⟨d,.indexAddr t x ix,ty,pos,af,g⟩ e h L K:=
 Mp hT hS hR hz hj hx hm hix (λq cs A ln rr=>by obtain⟨r,e1,o1⟩:=hC _ _ _ rr;subst e1;exact t' q r A o1) hg
end grows
end
variable {G:LH}{R:Rp α}{af:Array Edge}{dn dn':List Nat}{e:Env}{g:Option (Nat×Bool)}{m':Nat}{pos:String}{tF:List (Nat×Nat×Nat)}{ty:TypeId}
section
theorem U.{u}{α : Sort u}{a:α}:a=a:=rfl
abbrev zSN:Go.Value:=.slice none 0 0
abbrev zAD(b:Nat):Option Addr:=some ⟨b,0,none⟩
theorem kr(h:p:=by kernel_rfl):p:=h
theorem ob(h:p:=by first|assumption|omega|(simp only[] ;assumption)|(simp only[decide_eq_true_eq,decide_eq_false_iff_not,Bool.and_eq_true,Bool.or_eq_true,Bool.not_eq_true',Bool.not_eq_false',Bool.and_eq_false_iff,Bool.or_eq_false_iff,beq_iff_eq,beq_eq_false_iff_ne,bne_iff_ne,bne_eq_false_iff_eq,List.length_append,List.length_cons,List.length_nil,List.length_drop]at *;omega)):p:=h
theorem lo(h:p:=by simp only[List.length_append,List.length_cons,List.length_nil,List.length_take,List.length_drop];omega):p:=h
theorem ap(h:p:=by first|rfl|(simp only[List.append_assoc,List.cons_append,List.nil_append,List.append_nil];done)|(simp only[List.append_assoc,List.cons_append,List.nil_append,List.append_nil];rfl)|(rw[List.append_nil]<;>rfl)|(simp only[dropNth,List.append_assoc,List.cons_append,List.nil_append,List.append_nil];done)):p:=h
theorem lc(h:p:=by first|omega|(simp only[List.length_nil,List.length_cons]at *;omega)):p:=h
theorem rd(h:p:=by repeat (first|exact trivial|refine⟨rfl,?_⟩)):p:=h
theorem jn{h:HF}{K L:LH}(hs:K.Sublist L:=by repeat (first|exact List.Sublist.refl _|exact List.nil_sublist _|exact List.sublist_append_left _ _|refine List.Sublist.cons_cons _ ?_|refine List.Sublist.cons _ ?_)):Jst h K h L:=DC hs
theorem js{K L:LH}(hs:K.Sublist L:=by repeat (first|exact List.Sublist.refl _|exact List.nil_sublist _|exact List.sublist_append_left _ _|refine List.Sublist.cons_cons _ ?_|refine List.Sublist.cons _ ?_)):K.Sublist L:=hs
theorem mh{L:LH}(h:∀p∈G,p∈L:=by intro p hp;simp only[List.mem_append,List.mem_cons,hp,true_or,or_true]):∀p∈G,p∈L:=h
theorem ei{enc:α->List Value}(h:∀h cs x,R.rep h cs x->cs=enc x:=by exact λ_ _ _ e=>e):∀h cs x,R.rep h cs x->cs=enc x:=h
theorem lf{h:HF}:h.le h:=kH h
theorem xf(h:p:=by first|exact λ_ _ _ h=>h.elim|exact λ_ _ _ _ h=>h.elim):p:=h
theorem cb{b:Bool}(h:a=b):zV a=zV b:=congrArg zV h
theorem cs{b:Bool}(h:a=b):zV b=zV a:=congrArg zV h.symm
theorem ci{a b:Int}(h:a=b):qC .i64 b=qC .i64 a:=congrArg (qC .i64) h.symm
abbrev O(l:List Value)(t:Nat):Obj:=jG l.toArray t (0,0)
abbrev Y(x:Int):Value:=.int .u8 x
abbrev Q(b:Nat):Value:=.pointer (some ⟨b,0,none⟩)
abbrev I(x:Int):Value:=.int .i64 x
theorem HF.le.t{a b c:HF}(x:a.le b)(y:b.le c):a.le c:=jA x y
section
variable {P:Program} {b:Frame} {n:Nat} {k:List Item} {F:List Frame->(Machine->Prop)->Prop} {ds:List Deferred} {X:Cx}
theorem tf(i:Nat){h1:HF}{K:LH}{d:Nat}{oi:Oper}{h:HF}{L:LH}(hi:nth l i=some oi)(hd:oi.dst=some d)(hr:∀h' L',Jst h1 K h' L'->∀w,St X h' L' w->(execOp e.ev oi).run P w=.ok (.value v) w)(t:TA P b n l.toArray k F ds X (Jst h1 K) m (i::dn) (upd e d v) h L)(hsep:sepAll l.toArray=true:=by assumption)(hJ:Jst h1 K h L:=by exact jn)(hn:(nexts l.toArray dn).contains i=true:=by kernel_rfl)(hg:guardB l.toArray e oi=true:=by rfl):TA P b n l.toArray k F ds X (Jst h1 K) (m+1) dn e h L:=
 kh i hsep hJ hi hd hn hg hr t
theorem tm(i:Nat){h1:HF}{K:LH}{d:Nat}{x:Operand}{h:HF}{L:LH}(hi:nth l i=some ⟨some d,.move x,ty,pos,af,g⟩)(t:TA P b n l.toArray k F ds X (Jst h1 K) m (i::dn) (upd e d (e.ev x)) h L)(hsep:sepAll l.toArray=true:=by assumption)(hJ:Jst h1 K h L:=by exact jn)(hn:(nexts l.toArray dn).contains i=true:=by kernel_rfl)(hg:guardB l.toArray e ⟨some d,.move x,ty,pos,af,g⟩=true:=by rfl):TA P b n l.toArray k F ds X (Jst h1 K) (m+1) dn e h L:=
 kh i hsep hJ hi rfl hn hg (λ_ _ _=>nQ) t
theorem tk(i:Nat){h1:HF}{K:LH}{d:Nat}{oi:Oper}{h:HF}{L:LH}(hi:nth l i=some oi)(hd:oi.dst=some d)(t:TA P b n l.toArray k F ds X (Jst h1 K) m (i::dn) (upd e d undef) h L)(hsep:sepAll l.toArray=true:=by assumption)(hJ:Jst h1 K h L:=by exact jn)(hn:(nexts l.toArray dn).contains i=true:=by kernel_rfl)(hg:guardB l.toArray e oi=false:=by rfl):TA P b n l.toArray k F ds X (Jst h1 K) (m+1) dn e h L:=
 nh i hsep hJ hi hd hn hg t
theorem tn(i:Nat){h1:HF}{K:LH}{oi:Oper}{h:HF}{L:LH}(hi:nth l i=some oi)(t:Stp P b n l.toArray F ds X oi e h L λe' h' L'=>Jst h1 K h' L'/\TA P b n l.toArray k F ds X (Jst h1 K) m (i::dn) e' h' L')(hn:nexts l.toArray dn=[i]:=by kernel_rfl):TA P b n l.toArray k F ds X (Jst h1 K) (m+1) dn e h L:=
 RA i hn hi t
theorem sr{y:Code}{h:HF}{L:LH}(t:TO P b n l.toArray l (.code y::k) F e ds X h L):TT P b n (.code (.seq (.region id l.toArray false) y)::k) F e ds X h L:=el (bM t)
theorem an{d:Nat}{x:Operand}{h:HF}{L:LH}(t:TT P b n k F (upd e d (e.ev x)) ds X h L)(hd:Nat.blt d n=true:=by rfl)(hg:guardB ops e ⟨some d,.assign x,ty,pos,af,g⟩=true:=by rfl):TO P b n ops [⟨some d,.assign x,ty,pos,af,g⟩] k F e ds X h L:=ig (bp t) hd hg
theorem kq{d d':Nat}{op':Op}{ty':TypeId}{pos':String}{af':Array Edge}{g':Option (Nat×Bool)}{h:HF}{L:LH}(t:TO P b n ops l k F (upd (upd e d undef) d' undef) ds X h L)(hd:Nat.blt d n=true:=by rfl)(hg:guardB ops e ⟨some d,op,ty,pos,af,g⟩=false:=by rfl)(hd':Nat.blt d' n=true:=by rfl)(hg':guardB ops (upd e d undef) ⟨some d',op',ty',pos',af',g'⟩=false:=by rfl):TO P b n ops (⟨some d,op,ty,pos,af,g⟩::⟨some d',op',ty',pos',af',g'⟩::l) k F e ds X h L:=Hu (Hu t hd' hg') hd hg
def runA(l:List Oper):List Nat->Nat->List Nat->Env->Option (Nat×List Nat×Env)
 |[],m,dn,e=>some (m,dn,e)
 |i::is,m,dn,e=>match m with
  |0=>none
  |m+1=>match nth l i with
   |some ⟨some d,op,ty,pos,af,g⟩=>match guardB l.toArray e ⟨some d,op,ty,pos,af,g⟩with
    |false=>runA l is m (i::dn) (upd e d undef)
    |true=>match opQ e op with
     |some v=>runA l is m (i::dn) (upd e d v)
     |none=>none
   |_=>none
def allNext(l:List Oper):List Nat->List Nat->Bool
 |[],_=>true
 |i::is,dn=>(nexts l.toArray dn).contains i&&allNext l is (i::dn)
theorem F7{l:List Oper}{h1:HF}{K:LH}{h:HF}{L:LH}(hsep:sepAll l.toArray=true)(hJ:Jst h1 K h L):∀(is:List Nat)(m:Nat)(dn:List Nat)(e:Env){m':Nat}{dn':List Nat}{e':Env},runA l is m dn e=some (m',dn',e')->allNext l is dn=true->TA P b n l.toArray k F ds X (Jst h1 K) m' dn' e' h L->TA P b n l.toArray k F ds X (Jst h1 K) m dn e h L
 |[],m,dn,e,_,_,_,hr,_,t=>by cases hr;exact t
 |i::is,0,dn,e,_,_,_,hr,_,_=>by simp[runA]at hr
 |i::is,m+1,dn,e,_,_,_,hr,hn,t=>by
  simp only[allNext,zC]at hn
  simp only[runA]at hr
  split at hr
  .next hi=>
   split at hr
   .next hg=>exact nh i hsep hJ hi rfl hn.1 hg (F7 hsep hJ is m _ _ hr hn.2 t)
   .next hg=>
    split at hr
    .next v hv=>exact kh i hsep hJ hi rfl hn.1 hg (λ_ _ _ w _=>(Es hv).2 _ _ _ _ _ w) (F7 hsep hJ is m _ _ hr hn.2 t)
    .cases hr
  .cases hr
theorem qA(is:List Nat){h1:HF}{K:LH}{h:HF}{L:LH}(hr:runA l is m dn e=some (m',dn',e'))(t:TA P b n l.toArray k F ds X (Jst h1 K) m' dn' e' h L)(hsep:sepAll l.toArray=true:=by assumption)(hJ:Jst h1 K h L:=by exact jn)(hn:allNext l is dn=true:=by kernel_rfl):TA P b n l.toArray k F ds X (Jst h1 K) m dn e h L:=F7 hsep hJ is m dn e hr hn t
theorem qR(a c:Nat){h1:HF}{K:LH}{h:HF}{L:LH}(hr:runA l (List.range' a c) m dn e=some (m',dn',e'))(t:TA P b n l.toArray k F ds X (Jst h1 K) m' dn' e' h L)(hsep:sepAll l.toArray=true:=by assumption)(hJ:Jst h1 K h L:=by exact jn)(hn:allNext l (List.range' a c) dn=true:=by kernel_rfl):TA P b n l.toArray k F ds X (Jst h1 K) m dn e h L:=F7 hsep hJ _ m dn e hr hn t
def opB(tF:List (Nat×Nat×Nat))(e:Env):Op->Option Value
 |.fieldAddr s x i=>match e.ev x,look3 tF s i with
  |.pointer (some a),some off=>some (.pointer (some (a.add off)))
  |_,_=>none
 |op=>opQ e op
theorem UC(hT:(tF.all λx=>fldOf P x.1 x.2.1==some x.2.2)=true)(hv:opB tF e op=some v)(h:HF)(L:LH)(d:Option Nat)(ty:TypeId)(pos:String)(af:Array Edge)(g:Option (Nat×Bool)):∀w,St X h L w->(execOp e.ev ⟨d,op,ty,pos,af,g⟩).run P w=.ok (.value v) w:=by
 unfold opB at hv
 split at hv
 .split at hv
  .next hx hl=>
   cases hv
   exact yR (by simpa using(qQ.1 hT) _ (Bq hl)) hx
  .cases hv
 .exact λw _=>(Es hv).2 _ _ _ _ _ w
def runB(tF:List (Nat×Nat×Nat))(l:List Oper):List Nat->Nat->List Nat->Env->Option (Nat×List Nat×Env)
 |[],m,dn,e=>some (m,dn,e)
 |i::is,m,dn,e=>match m with
  |0=>none
  |m+1=>match nth l i with
   |some ⟨some d,op,ty,pos,af,g⟩=>match guardB l.toArray e ⟨some d,op,ty,pos,af,g⟩with
    |false=>runB tF l is m (i::dn) (upd e d undef)
    |true=>match opB tF e op with
     |some v=>runB tF l is m (i::dn) (upd e d v)
     |none=>none
   |_=>none
theorem F6{tF:List (Nat×Nat×Nat)}(hT:(tF.all λx=>fldOf P x.1 x.2.1==some x.2.2)=true){l:List Oper}{h1:HF}{K:LH}{h:HF}{L:LH}(hsep:sepAll l.toArray=true)(hJ:Jst h1 K h L):∀(is:List Nat)(m:Nat)(dn:List Nat)(e:Env){m':Nat}{dn':List Nat}{e':Env},runB tF l is m dn e=some (m',dn',e')->allNext l is dn=true->TA P b n l.toArray k F ds X (Jst h1 K) m' dn' e' h L->TA P b n l.toArray k F ds X (Jst h1 K) m dn e h L
 |[],m,dn,e,_,_,_,hr,_,t=>by cases hr;exact t
 |i::is,0,dn,e,_,_,_,hr,_,_=>by simp[runB]at hr
 |i::is,m+1,dn,e,_,_,_,hr,hn,t=>by
  simp only[allNext,zC]at hn
  simp only[runB]at hr
  split at hr
  .next hi=>
   split at hr
   .next hg=>exact nh i hsep hJ hi rfl hn.1 hg (F6 hT hsep hJ is m _ _ hr hn.2 t)
   .next hg=>
    split at hr
    .next v hv=>exact kh i hsep hJ hi rfl hn.1 hg (λh' L' _ w hw=>UC hT hv h' L' _ _ _ _ _ w hw) (F6 hT hsep hJ is m _ _ hr hn.2 t)
    .cases hr
  .cases hr
theorem tu{h1 h2:HF}{K:LH}(db:h1.le h2){h:HF}{L:LH}(t:TA P b n ops k F ds X (Jst h2 K) m dn e h L):TA P b n ops k F ds X (Jst h1 K) m dn e h L:=sK db (λ_ hp=>hp) t
end
theorem jl{h h2:HF}{K L:LH}(db:h.le h2)(hs:K.Sublist L:=by repeat (first|exact List.Sublist.refl _|exact List.nil_sublist _|exact List.sublist_append_left _ _|refine List.Sublist.cons_cons _ ?_|refine List.Sublist.cons _ ?_)):Jst h K h2 L:=⟨db,λ_ hp=>hs.subset hp⟩
theorem sw(h:p:=by first|exact λw hw=>hw|(intro w hw;first|simpa only[List.append_assoc,List.cons_append,List.nil_append,List.append_nil]using hw|(simp only[List.append_assoc,List.cons_append,List.nil_append,List.append_nil]at hw ⊢;exact hw))):p:=h
section
variable {P:Program} {b:Frame} {n:Nat} {k:List Item} {F:List Frame->(Machine->Prop)->Prop} {ds:List Deferred} {X:Cx} {ops:Array Oper} {l:List Oper} {d:Nat} {op:BinOp} {t u ty:TypeId} {x y:Operand} {pos:String} {af:Array Edge} {g:Option (Nat×Bool)} {e:Env} {h:HF} {L:LH}
theorem oi(i:Nat)(hv:binV op (e.ev x) (e.ev y)=some (.int .i64 (IntKind.i64.wrap ((i:Int)+1))))(t':TO P b n ops l k F (upd e d (.int .i64 (((i+1):Nat):Int))) ds X h L)(hb:i<9223372036854775807:=by exact ob)(hd:Nat.blt d n=true:=by rfl)(hg:guardB ops e ⟨some d,.binOp op t x y u,ty,pos,af,g⟩=true:=by rfl):
  TO P b n ops (⟨some d,.binOp op t x y u,ty,pos,af,g⟩::l) k F e ds X h L:=iS hv (n0 hb) t' hd hg
theorem tO(ha:a=true)(hv:binV op (e.ev x) (e.ev y)=some (.bool a))(t':TO P b n ops l k F (upd e d (.bool true)) ds X h L)(hd:Nat.blt d n=true:=by rfl)(hg:guardB ops e ⟨some d,.binOp op t x y u,ty,pos,af,g⟩=true:=by rfl):
  TO P b n ops (⟨some d,.binOp op t x y u,ty,pos,af,g⟩::l) k F e ds X h L:=iS hv (cb ha) t' hd hg
theorem fO(ha:a=false)(hv:binV op (e.ev x) (e.ev y)=some (.bool a))(t':TO P b n ops l k F (upd e d (.bool false)) ds X h L)(hd:Nat.blt d n=true:=by rfl)(hg:guardB ops e ⟨some d,.binOp op t x y u,ty,pos,af,g⟩=true:=by rfl):
  TO P b n ops (⟨some d,.binOp op t x y u,ty,pos,af,g⟩::l) k F e ds X h L:=iS hv (cb ha) t' hd hg
end
section
variable {P:Program} {d:Option Nat} {ty t:TypeId} {pos:String} {af:Array Edge} {g:Option (Nat×Bool)} {x:Operand} {m bk off T:Nat} {fz:Nat×Nat} {cl cs:List Value} {v:Value} {e:Env} {X:Cx} {h1:HF} {K:LH} {q:Addr}
theorem rj(i:Nat)(hT:tySz P t=some (m,false))(hx:e.ev x=.pointer (some ⟨bk,off,none⟩))(hi:nth K i=some (bk,jG cl.toArray T fz))(hv:nth cl off=some v):∀h' L',Jst h1 K h' L'->∀w,St X h' L' w->(execOp e.ev ⟨d,.load t x,ty,pos,af,g⟩).run P w=.ok (.value v) w:=λ_ _ hj=>vy hT hx (hj.nth hi) hv
theorem rh(hT:tySz P t=some (m,false))(ha:At h1 q (v::cs))(hx:e.ev x=.pointer (some q)):∀h' L',Jst h1 K h' L'->∀w,St X h' L' w->(execOp e.ev ⟨d,.load t x,ty,pos,af,g⟩).run P w=.ok (.value v) w:=λ_ _ hj=>RO hT (ha.mono hj.1) hx
theorem rH(j:Nat)(hT:tySz P t=some (m,false))(ha:At h1 q cs)(hx:e.ev x=.pointer (some (q.add j)))(hv:nth cs j=some v):∀h' L',Jst h1 K h' L'->∀w,St X h' L' w->(execOp e.ev ⟨d,.load t x,ty,pos,af,g⟩).run P w=.ok (.value v) w:=λ_ _ hj=>RP j hT (ha.mono hj.1) hx hv
end
section
variable {P:Program} {b:Frame} {n:Nat} {ops:Array Oper} {F:List Frame->(Machine->Prop)->Prop} {ds:List Deferred} {X:Cx} {e:Env} {h:HF} {L:LH} {d:Option Nat} {ty:TypeId} {pos:String} {af:Array Edge} {g:Option (Nat×Bool)} {K:Env->HF->LH->Prop} {α : Type} {R:Rp α} {t E:TypeId} {x ix:Operand} {a:Bool} {base:Option Addr} {m cap:Nat} {xs:List α} {y:α} {i:Nat}
theorem iF(enc:α->List Value)(hT:P.underlying t=some (.slice E))(hS:tySz P E=some (R.sz,a))(hR:SlB R h base xs)(hj:xs[i]? = some y)(hx:e.ev x=.slice base m cap)(hm:m=xs.length)(hix:e.ev ix=.int .i64 (i:Int))(t':∀q,At h q (enc y)->K (pute e d (.pointer (some q))) h L)(hR':∀h cs x,R.rep h cs x->cs=enc x:=by exact λ_ _ _ e=>e)(hg:guardB ops e ⟨d,.indexAddr t x ix,ty,pos,af,g⟩=true:=by rfl):Stp P b n ops F ds X ⟨d,.indexAddr t x ix,ty,pos,af,g⟩ e h L K:=tA hR' hT hS hR (nthZ hj) (iC hj) hx hm hix t' hg
theorem iG(hT:P.underlying t=some (.slice E))(hS:tySz P E=some (R.sz,a))(hR:SlB R h base xs)(hj:xs[i]? = some y)(hx:e.ev x=.slice base m cap)(hm:m=xs.length)(hix:e.ev ix=.int .i64 (i:Int))(t':∀q cs,At h q cs->cs.length=R.sz->R.rep h cs y->K (pute e d (.pointer (some q))) h L)(hg:guardB ops e ⟨d,.indexAddr t x ix,ty,pos,af,g⟩=true:=by rfl):Stp P b n ops F ds X ⟨d,.indexAddr t x ix,ty,pos,af,g⟩ e h L K:=Mp hT hS hR (nthZ hj) (iC hj) hx hm hix t' hg
theorem iR{C:α->ρ->List Value}{ok:HF->α->ρ->Prop}(hT:P.underlying t=some (.slice E))(hS:tySz P E=some (R.sz,a))(hR:SlB R h base xs)(hj:xs[i]? = some y)(hx:e.ev x=.slice base m cap)(hm:m=xs.length)(hix:e.ev ix=.int .i64 (i:Int))(hC:∀h cs y,R.rep h cs y->∃r,cs=C y r/\ok h y r)(t':∀q r,At h q (C y r)->ok h y r->K (pute e d (.pointer (some q))) h L)(hg:guardB ops e ⟨d,.indexAddr t x ix,ty,pos,af,g⟩=true:=by rfl):Stp P b n ops F ds X ⟨d,.indexAddr t x ix,ty,pos,af,g⟩ e h L K:=yl hT hS hR (nthZ hj) (iC hj) hx hm hix hC t' hg
end
theorem cE(y:α){h:HF}{cs:List Value}(hl:cs.length=R.sz)(hr:R.rep h cs y):cY R h cs [y]:=⟨cs,[],by simp,hl,hr,rfl⟩
end
section
open Go.Proofs
abbrev eM := @Tryz.underlying31
abbrev mR := @Tryz.underlying3
abbrev qt := @Tryz.underlying57
abbrev w7 := @Tryz.underlying27
abbrev w6 := @Tryz.underlying35
abbrev Ch := @Tryz.underlying26
abbrev Cg := @Tryz.call329
abbrev Cf := @Tryz.underlying43
abbrev Ef := @Tryz.underlying136
abbrev Ee := @Tryz.call25
abbrev C2 := @Tryz.func3
abbrev zI := @Tryz.underlying56
abbrev zz := @Tryz.underlying28
abbrev BO := @Tryz.call309
abbrev C1 := @Tryz.underlying25
abbrev C0 := @Tryz.call83
abbrev VP := @Tryz.underlying4
abbrev CZ := @Tryz.call16
abbrev JA := @Tryz.underlying32
abbrev Gn := @Tryz.underlying24
abbrev Gm := @Tryz.underlying105
abbrev Gl := @Tryz.func28
abbrev Gk := @Tryz.func322
abbrev Gj := @Tryz.func24
abbrev Jz := @Tryz.underlying23
abbrev Jy := @Tryz.call145
abbrev Jx := @Tryz.func314
abbrev Rr := @Tryz.underlying9
abbrev Jw := @Tryz.func281
abbrev Rq := @Tryz.underlying139
abbrev Jv := @Tryz.call15
abbrev LX := @Tryz.underlying252
abbrev LW := @Tryz.call282
abbrev O7 := @Tryz.underlying306
abbrev LV := @Tryz.func155
abbrev LU := @Tryz.underlying186
abbrev LT := @Tryz.func65
abbrev LS := @Tryz.underlying358
abbrev LR := @Tryz.func264
abbrev LQ := @Tryz.underlying190
abbrev LP := @Tryz.ntmps24
abbrev LO := @Tryz.call24
abbrev LN := @Tryz.underlying101
abbrev LM := @Tryz.call105
abbrev O6 := @Tryz.underlying61
abbrev O5 := @Tryz.underlying55
abbrev O4 := @Tryz.underlying45
abbrev O3 := @Tryz.underlying226
abbrev O2 := @Tryz.underlying301
abbrev O1 := @Tryz.underlying367
abbrev O0 := @Tryz.call188
abbrev OZ := @Tryz.call283
abbrev OY := @Tryz.func279
abbrev OX := @Tryz.func280
abbrev VO := @Tryz.func98
abbrev OW := @Tryz.underlying249
abbrev OV := @Tryz.func123
abbrev OU := @Tryz.func326
abbrev OT := @Tryz.call94
abbrev OS := @Tryz.call319
abbrev OR := @Tryz.func126
abbrev OQ := @Tryz.underlying254
abbrev OP := @Tryz.func224
abbrev OO := @Tryz.func134
abbrev ON := @Tryz.func52
abbrev OM := @Tryz.call17
abbrev VN := @Tryz.underlying5
abbrev Ro := @Tryz.underlying22
abbrev Rn := @Tryz.underlying36
abbrev Rm := @Tryz.underlying20
abbrev Rl := @Tryz.func308
abbrev Rk := @Tryz.func217
abbrev tz_72 := @Tryz.underlying0
abbrev Rj := @Tryz.func287
abbrev Ri := @Tryz.func223
abbrev Rh := @Tryz.underlying221
abbrev Rg := @Tryz.func266
abbrev Rf := @Tryz.underlying264
abbrev Re := @Tryz.func305
abbrev Rd := @Tryz.func195
abbrev Rc := @Tryz.func331
abbrev Rb := @Tryz.func289
abbrev Ra := @Tryz.underlying191
abbrev Q9 := @Tryz.func268
abbrev Q8 := @Tryz.func328
abbrev Q7 := @Tryz.func272
abbrev Q6 := @Tryz.call206
abbrev Q5 := @Tryz.underlying98
abbrev Q4 := @Tryz.func124
abbrev Q3 := @Tryz.func69
abbrev Q2 := @Tryz.call21
abbrev Q1 := @Tryz.call8
abbrev Q0 := @Tryz.call177
end
variable {E T:TypeId}{H:Type}{fuel:Nat}{ps:List MemPlace}{w:World}
section
open Go.Proofs Go.Proofs.Tryz
set_option maxHeartbeats 2000000
def hOf(w:World):HF:=λb=>w.heap[b]?
theorem pre_hOf(w:World):Pre (hOf w) [] w:=⟨λ_ _ h=>h,λ_ hp=>(kA hp).elim,List.nodup_nil,λ_ hp=>(kA hp).elim⟩
theorem PZ{a:Addr}(h:w.cell? a=some v):a.spot=none/\∃c T fz,w.heap[a.block]? = some (.cells c T fz)/\c[a.off]? = some v:=by
 unfold World.cell? at h
 split at h
 .next c T fz e=>
  split at h
  .cases h
  .next hs=>exact⟨by simpa using hs,c,T,fz,e,h⟩
 .cases h
theorem MU{α β : Type}{f:α->Option β}:∀{l:List α}{r:List β},l.mapM f=some r->l.length=r.length/\∀(j:Nat)(x:α),l[j]? = some x->f x=r[j]?
 |[],r,h=>by simp at h;subst h;exact⟨rfl,λj x hj=>by simp at hj⟩
 |a::l,r,h=>by
  rw[List.mapM_cons]at h
  simp only[Option.bind_eq_bind,Option.bind_eq_some_iff,Option.pure_def,jN]at h
  obtain⟨b,hb,r',hr,rfl⟩:=h
  obtain⟨h1,h2⟩:=MU hr
  grind
theorem SS{base:Nat}{a:Addr}{cs:List Value}(hn:0<n)(h:w.cells? base a n=some cs):At (hOf w) a cs/\cs.length=n:=by
 unfold World.cells? at h
 split at h
 .obtain⟨h1,h2⟩:=MU h
  rw[List.length_range]at h1
  have hc:∀j v,cs[j]? = some v->w.cell? (a.add j)=some v:=λj v hv=>by
   grind
  obtain⟨v,hv⟩:∃v,cs[0]? = some v:=⟨cs[0],List.getElem?_eq_getElem (by omega)⟩
  obtain⟨s1,c,T,fz,s2,s3⟩:=PZ (hc 0 v hv)
  have hsp:a.spot=none:=by simpa[kP]using s1
  have hbl:∀j,(a.add j).block=a.block/\(a.add j).off=a.off+j:=λj=>by
   grind [kP]
  refine⟨⟨c,T,fz,?_,hsp,λj u hu=>?_⟩,h1.symm⟩
  .rw[(hbl 0).1]at s2;exact s2
  .obtain⟨_,c',T',fz',t2,t3⟩:=PZ (hc j u hu)
   grind
 .cases h
def szL{α : Type}(f:α->Nat):List α->Nat
 |[]=>0
 |x::xs=>f x+szL f xs
theorem Gv{α : Type}(f:α->Nat):∀(l r:List α),szL f (l++r)=szL f l+szL f r
 |[],r=>by simp[szL]
 |x::l,r=>by simp[szL,Gv f l r,Nat.add_assoc]
theorem szL_len{α : Type}{f:α->Nat}(hf:∀x,1<=f x):∀(l:List α),l.length<=szL f l
 |[]=>vE _
 |x::l=>by have:=szL_len hf l;have:=hf x;simp[szL];omega
theorem KC{α : Type}{f:α->Nat}{x:α}:∀{l:List α},x∈l->f x<=szL f l
 |y::l,h=>by
  rcases zE.1 h with rfl|h
  .simp[szL]
  .have:=KC (f:=f) h;simp[szL];omega
theorem Pb:∀(l:List aj),szL aj.dep l=aj.depL l
 |[]=>rfl
 |y::l=>by simp[szL,aj.depL,Pb l]
open YtafbfagbjekhhaaGreatDoor.Rows in
theorem bulk_one(d:DataW H):1<=uptoBulk d:=by
 cases d with
 |lit l=>cases l<;>simp[uptoBulk]
 |nil=>simp[uptoBulk]
 |ptr d=>simp[uptoBulk]
 |slice elems spare=>simp[uptoBulk]
 |agg parts=>simp[uptoBulk]
 |iface t d=>simp[uptoBulk]
 |map entries=>simp[uptoBulk]
 |held h=>simp[uptoBulk]
open YtafbfagbjekhhaaGreatDoor.Rows in
theorem NI(l r:List (DataW H)):uptoBulkAll (l++r)=uptoBulkAll l+uptoBulkAll r:=by
 induction l with
 |nil=>simp[uptoBulkAll]
 |cons x l ih=>simp only[kK,uptoBulkAll,ih];omega
section opn
open YtafbfagbjekhhaaGreatDoor.Rows
variable {H:Type} {enc:TypeId×Value->H} {P:Program} {w:World} {base:Nat} {sp:Nat->Bool} {held:Bool}
def Opn(enc:TypeId×Value->H)(P:Program)(w:World)(base:Nat)(sp:Nat->Bool)(held:Bool){α : Type}(T:TypeId)(R:Rp α)(sz:α->Nat)(fuel:Nat):Prop:=
 ∀cs d ps,DataW.trod enc P w base sp held fuel T cs=some (d,ps)->∃x,R.rep (hOf w) cs x/\sz x<=uptoBulk d
theorem opn_slice{sz:α->Nat}(ht:P.underlying T=some (.slice E))(hc:P.cellsOf E=R.sz)(hp:0<R.sz)(he:∀n,fuel=n+1->Opn enc P w base sp held E R sz n){cs:List Value}{d:DataW H}(h:DataW.trod enc P w base sp held fuel T cs=some (d,ps)):∃b c xs,cs=[.slice b (List.length xs) c]/\SlC R (hOf w) b c xs/\szL sz xs+1<=uptoBulk d:=by
 rcases DataW.trod_slice ht h with⟨rfl,e⟩|⟨a,len,cap,elems,rest,n,hn,rfl,hx,h1,h2,h3,h4,h5,_,_⟩
 .cases e
  exact⟨none,0,[],rfl,SlC.nil,by simp[szL,uptoBulk]⟩
 .cases hx
  have key:∀k,k<=len->∃xs:List α,xs.length=k/\(∀i x,xs[i]? = some x->∃cs',At (hOf w) (a.add (i*R.sz)) cs'/\cs'.length=R.sz/\R.rep (hOf w) cs' x)/\szL sz xs<=uptoBulkAll ((elems.take k).map (·.1)):=by
   intro k
   induction k with
   |zero=>exact λ_=>⟨[],rfl,λi x hx=>by simp at hx,by simp[szL]⟩
   |succ k ih=>
    intro hk
    obtain⟨xs,e1,e2,e3⟩:=ih (by omega)
    have hkl:k<elems.length:=by omega
    have c0:=h5 k (by omega)
    rw[List.getElem?_eq_getElem hkl]at c0
    obtain⟨cs',c1,c2⟩:=Option.bind_eq_some_iff.1 c0
    rw[hc]at c1
    obtain⟨x,x1,x2⟩:=he n hn _ _ _ c2
    obtain⟨k1,k2⟩:=SS hp c1
    refine⟨xs++[x],by simp[e1],λi y hy=>?_,?_⟩
    .grind
    .rw[Gv,List.take_add_one,List.map_append,NI,List.getElem?_eq_getElem hkl]
     all_goals grind [szL,Option.toList_some,uptoBulkAll]
  obtain⟨xs,e1,e2,e3⟩:=key len (vE _)
  refine⟨some a,cap,xs,by rw[e1],⟨⟨?_,λi x hx=>?_⟩,by omega⟩,?_⟩
  .have:maxLen<=9223372036854775807:=by decide
   omega
  all_goals grind [uptoBulk]
theorem opn_int(ht:P.underlying T=some (.int .i64))(n:Nat):Opn enc P w base sp held T Rp.int (λ_=>1) n:=by
 intro cs d ps h
 refine(?_:∃x,Rp.int.rep (hOf w) cs x).imp λ_ h=>⟨h,bulk_one d⟩
 cases n with
 |zero=>simp[DataW.trod]at h
 |succ n=>
  unfold DataW.trod at h
  rw[ht]at h
  split at h<;>simp_all
  next k k' z e=>
   obtain⟨⟨h1,_⟩,h2,_⟩:=h
   subst h1
   exact⟨z,by first|rfl|(subst e;rfl)|(cases e;rfl)⟩
theorem UB(ht:P.underlying T=some (.int .u8))(n:Nat):Opn enc P w base sp held T ⟨1,λ_ cs(x:Int)=>cs=[.int .u8 x]⟩ (λ_=>1) n:=by
 intro cs d ps h
 refine(?_:∃x:Int,cs=[.int .u8 x]).imp λ_ h=>⟨h,bulk_one d⟩
 cases n with
 |zero=>simp[DataW.trod]at h
 |succ n=>
  unfold DataW.trod at h
  rw[ht]at h
  split at h<;>simp_all
theorem xi(ht:P.underlying T=some .bool)(n:Nat):Opn enc P w base sp held T Rp.bool (λ_=>1) n:=by
 intro cs d ps h
 obtain⟨b,rfl,_⟩:=DataW.trod_bool ht h
 exact⟨b,rfl,bulk_one d⟩
theorem Du(ht:P.underlying T=some .string)(n:Nat):Opn enc P w base sp held T Rp.str (λ_=>1) n:=by
 intro cs d ps h
 refine(?_:∃x,Rp.str.rep (hOf w) cs x).imp λ_ h=>⟨h,bulk_one d⟩
 cases n with
 |zero=>simp[DataW.trod]at h
 |succ n=>
  unfold DataW.trod at h
  rw[ht]at h
  split at h<;>simp_all
  all_goals exact⟨_,rfl⟩
def TrF(enc:TypeId×Value->H)(P:Program)(w:World)(base:Nat)(sp:Nat->Bool)(held:Bool)(fuel:Nat):List TypeId->List Value->List (DataW H)->Prop
 |[],cs,ds=>cs=[]/\ds=[]
 |t::ts,cs,ds=>∃c cs' d ds' p,cs=c++cs'/\ds=d::ds'/\DataW.trod enc P w base sp held fuel t c=some (d,p)/\TrF enc P w base sp held fuel ts cs' ds'
def contig(P:Program):List Field->Nat->Option Nat
 |[],o=>some o
 |f::fs,o=>if f.offset=o then contig P fs (o+P.cellsOf f.type)else none
theorem Ru{n:Nat}{cs:List Value}:∀(fs:List Field)(xs:List (DataW H×List MemPlace))(o:Nat),xs.length=fs.length->contig P fs o=some cs.length ->
  (∀(i:Nat)(f:Field),fs[i]? = some f->DataW.trod enc P w base sp held n f.type ((cs.drop f.offset).take (P.cellsOf f.type))=xs[i]?)->TrF enc P w base sp held n (fs.map (·.type)) (cs.drop o) (xs.map (·.1))
 |[],xs,o,hl,hc,_=>by
  simp only[contig,jN]at hc
  subst hc
  rw[zB,List.length_eq_zero_iff]at hl
  subst hl
  exact⟨by simp,rfl⟩
 |f::fs,[],o,hl,hc,hx=>by simp at hl
 |f::fs,x::xs,o,hl,hc,hx=>by
  unfold contig at hc
  split at hc
  .next ho=>
   have h0:=hx 0 f rfl
   rw[ho]at h0
   simp only[List.getElem?_cons_zero]at h0
   refine⟨(cs.drop o).take (P.cellsOf f.type),cs.drop (o+P.cellsOf f.type),x.1,xs.map (·.1),x.2,?_,rfl,h0,Ru fs xs _ (by simpa using hl) hc (λi g hg=>by simpa using hx (i+1) g (by simpa using hg))⟩
   rw[←List.drop_drop,List.take_append_drop]
  .cases hc
theorem mW{fs:Array Field}{cs:List Value}{d:DataW H}(ht:P.underlying T=some (.struct fs))(hk:contig P fs.toList 0=some (P.cellsOf T))(h:DataW.trod enc P w base sp held fuel T cs=some (d,ps)):
  ∃n ds,fuel=n+1/\d=.agg ds/\TrF enc P w base sp held n (fs.toList.map (·.type)) cs ds:=by
 obtain⟨xs,n,hn,hx,hl,hlen,hf⟩:=DataW.trod_struct ht h
 cases hx
 refine⟨n,_,hn,rfl,?_⟩
 have:=Ru (enc:=enc) (w:=w) (base:=base) (sp:=sp) (held:=held) (n:=n) (cs:=cs) fs.toList xs 0 (by simpa using hlen) (by rw[hk,hl]) (λi f hi=>hf i f (by simpa using hi))
 simpa using this
theorem Qt(ht:P.underlying T=some (.array m E))(hE:P.underlying E=some (.int .u8))(hc:P.cellsOf E=1)(hcT:P.cellsOf T=m){cs:List Value}{d:DataW H}(h:DataW.trod enc P w base sp held n T cs=some (d,ps)):∃f:Nat->Int,cs=(qE m).map λi=>qC .u8 (f i):=by
 obtain⟨xs,k,hk,hx,hl,hlen,hf⟩:=DataW.trod_array ht h
 rw[hcT]at hl
 have h1:∀i,∃z:Int,i<m->cs[i]? = some (.int .u8 z):=by
  intro i
  rcases xM i m with hi|hi
  .have h0:=hf i hi
   rw[hc,Nat.mul_one,List.getElem?_eq_getElem (by omega)]at h0
   obtain⟨z,hz,_⟩:=UB (enc:=enc) (w:=w) (base:=base) (sp:=sp) (held:=held) hE k _ _ _ h0
   refine⟨z,λ_=>?_⟩
   have hz':(cs.drop i).take 1=[.int .u8 z]:=hz
   have:=congrArg (·[0]?) hz'
   simpa using this
  .exact⟨0,λh=>by omega⟩
 obtain⟨f,hf'⟩:=Classical.axiomOfChoice h1
 refine⟨f,WI λi=>?_⟩
 grind
end opn
section openings
variable {H:Type} {enc:TypeId×Value->H} {w:World} {base:Nat} {sp:Nat->Bool} {held:Bool}
theorem MJ(n:Nat):Opn enc prog w base sp held 120 aK.rp (λ_=>1) n:=by
 intro cs d ps h
 obtain⟨m,ds,rfl,rfl,c0,_,d0,_,p0,rfl,rfl,h0,c1,_,d1,_,p1,rfl,rfl,h1,c2,_,d2,_,p2,rfl,rfl,h2,c3,_,d3,_,p3,rfl,rfl,h3,c4,_,d4,_,p4,rfl,rfl,h4,c5,_,d5,_,p5,rfl,rfl,h5,c6,_,d6,_,p6,rfl,rfl,h6,rfl,rfl⟩:=mW (fs:=_) underlying120 (by kernel_rfl) h
 obtain⟨x0,rfl,_⟩:=(opn_int (by kernel_rfl)) m _ _ _ h0
 obtain⟨x1,rfl,_⟩:=(opn_int (by kernel_rfl)) m _ _ _ h1
 obtain⟨x2,rfl,_⟩:=(opn_int (by kernel_rfl)) m _ _ _ h2
 obtain⟨x3,rfl,_⟩:=(opn_int (by kernel_rfl)) m _ _ _ h3
 obtain⟨x4,rfl,_⟩:=(opn_int (by kernel_rfl)) m _ _ _ h4
 obtain⟨x5,rfl,_⟩:=(opn_int (by kernel_rfl)) m _ _ _ h5
 obtain⟨x6,rfl,_⟩:=(xi (by kernel_rfl)) m _ _ _ h6
 exact⟨⟨x0,x1,x2,x3,x4,x5,x6⟩,rfl,bulk_one _⟩
theorem Od(n:Nat):Opn enc prog w base sp held 204 bz.rp (λ_=>1) n:=by
 intro cs d ps h
 obtain⟨m,ds,rfl,rfl,c0,_,d0,_,p0,rfl,rfl,h0,c1,_,d1,_,p1,rfl,rfl,h1,c2,_,d2,_,p2,rfl,rfl,h2,c3,_,d3,_,p3,rfl,rfl,h3,c4,_,d4,_,p4,rfl,rfl,h4,c5,_,d5,_,p5,rfl,rfl,h5,c6,_,d6,_,p6,rfl,rfl,h6,c7,_,d7,_,p7,rfl,rfl,h7,c8,_,d8,_,p8,rfl,rfl,h8,c9,_,d9,_,p9,rfl,rfl,h9,rfl,rfl⟩:=mW (fs:=_) underlying204 (by kernel_rfl) h
 obtain⟨x0,rfl,_⟩:=(opn_int (by kernel_rfl)) m _ _ _ h0
 obtain⟨x1,rfl,_⟩:=(opn_int (by kernel_rfl)) m _ _ _ h1
 obtain⟨x2,rfl,_⟩:=(opn_int (by kernel_rfl)) m _ _ _ h2
 obtain⟨x3,rfl,_⟩:=(opn_int (by kernel_rfl)) m _ _ _ h3
 obtain⟨x4,rfl,_⟩:=(opn_int (by kernel_rfl)) m _ _ _ h4
 obtain⟨x5,rfl,_⟩:=(opn_int (by kernel_rfl)) m _ _ _ h5
 obtain⟨x6,rfl,_⟩:=(opn_int (by kernel_rfl)) m _ _ _ h6
 obtain⟨x7,rfl,_⟩:=(opn_int (by kernel_rfl)) m _ _ _ h7
 obtain⟨x8,rfl,_⟩:=(opn_int (by kernel_rfl)) m _ _ _ h8
 obtain⟨x9,rfl,_⟩:=(xi (by kernel_rfl)) m _ _ _ h9
 exact⟨⟨x0,x1,x2,x3,x4,x5,x6,x7,x8,x9⟩,rfl,bulk_one _⟩
theorem KZ(n:Nat):Opn enc prog w base sp held 207 aF.rp (λ_=>1) n:=by
 intro cs d ps h
 obtain⟨m,ds,rfl,rfl,c0,_,d0,_,p0,rfl,rfl,h0,c1,_,d1,_,p1,rfl,rfl,h1,c2,_,d2,_,p2,rfl,rfl,h2,c3,_,d3,_,p3,rfl,rfl,h3,c4,_,d4,_,p4,rfl,rfl,h4,c5,_,d5,_,p5,rfl,rfl,h5,c6,_,d6,_,p6,rfl,rfl,h6,rfl,rfl⟩:=mW (fs:=_) underlying207 (by kernel_rfl) h
 obtain⟨x0,rfl,_⟩:=(opn_int (by kernel_rfl)) m _ _ _ h0
 obtain⟨x1,rfl,_⟩:=(opn_int (by kernel_rfl)) m _ _ _ h1
 obtain⟨x2,rfl,_⟩:=(opn_int (by kernel_rfl)) m _ _ _ h2
 obtain⟨x3,rfl,_⟩:=(opn_int (by kernel_rfl)) m _ _ _ h3
 obtain⟨x4,rfl,_⟩:=(opn_int (by kernel_rfl)) m _ _ _ h4
 obtain⟨x5,rfl,_⟩:=(xi (by kernel_rfl)) m _ _ _ h5
 obtain⟨x6,rfl,_⟩:=(xi (by kernel_rfl)) m _ _ _ h6
 exact⟨⟨x0,x1,x2,x3,x4,x5,x6⟩,rfl,bulk_one _⟩
theorem Oe(n:Nat):Opn enc prog w base sp held 73 Budget.rp (λ_=>1) n:=by
 intro cs d ps h
 obtain⟨m,ds,rfl,rfl,c0,_,d0,_,p0,rfl,rfl,h0,c1,_,d1,_,p1,rfl,rfl,h1,c2,_,d2,_,p2,rfl,rfl,h2,c3,_,d3,_,p3,rfl,rfl,h3,c4,_,d4,_,p4,rfl,rfl,h4,c5,_,d5,_,p5,rfl,rfl,h5,c6,_,d6,_,p6,rfl,rfl,h6,c7,_,d7,_,p7,rfl,rfl,h7,rfl,rfl⟩:=mW (fs:=_) underlying73 (by kernel_rfl) h
 obtain⟨x0,rfl,_⟩:=(opn_int (by kernel_rfl)) m _ _ _ h0
 obtain⟨x1,rfl,_⟩:=(opn_int (by kernel_rfl)) m _ _ _ h1
 obtain⟨x2,rfl,_⟩:=(opn_int (by kernel_rfl)) m _ _ _ h2
 obtain⟨x3,rfl,_⟩:=(opn_int (by kernel_rfl)) m _ _ _ h3
 obtain⟨x4,rfl,_⟩:=(opn_int (by kernel_rfl)) m _ _ _ h4
 obtain⟨x5,rfl,_⟩:=(opn_int (by kernel_rfl)) m _ _ _ h5
 obtain⟨x6,rfl,_⟩:=(opn_int (by kernel_rfl)) m _ _ _ h6
 obtain⟨x7,rfl,_⟩:=(xi (by kernel_rfl)) m _ _ _ h7
 exact⟨⟨x0,x1,x2,x3,x4,x5,x6,x7⟩,rfl,bulk_one _⟩
abbrev aj.hold(x:aj):Nat:=x.dep
theorem MI(n:Nat):Opn enc prog w base sp held 59 aj.rp aj.hold n:=by
 induction n using Nat.strongRecOn with
 |_ n ih=>
 intro cs d ps h
 obtain⟨m,ds,rfl,rfl,c0,_,d0,_,p0,rfl,rfl,h0,c1,_,d1,_,p1,rfl,rfl,h1,c2,_,d2,_,p2,rfl,rfl,h2,c3,_,d3,_,p3,rfl,rfl,h3,c4,_,d4,_,p4,rfl,rfl,h4,rfl,rfl⟩:=mW (fs:=_) underlying59 (by kernel_rfl) h
 obtain⟨x0,rfl,_⟩:=(opn_int (by kernel_rfl)) m _ _ _ h0
 obtain⟨x1,rfl,_⟩:=(opn_int (by kernel_rfl)) m _ _ _ h1
 obtain⟨x2,rfl,_⟩:=(opn_int (by kernel_rfl)) m _ _ _ h2
 obtain⟨x3,rfl,_⟩:=(Du (by kernel_rfl)) m _ _ _ h3
 obtain⟨b4,k4,x4,rfl,o4,q4⟩:=opn_slice qt (by kernel_rfl) (by decide) (λk hk=>ih k (by omega)) h4
 refine⟨aj.mk x0 x1 x2 x3 x4,⟨⟨b4,k4⟩,rfl,aj.ok.of o4⟩,?_⟩
 rw[Pb]at q4
 simp only[aj.hold,aj.dep,YtafbfagbjekhhaaGreatDoor.Rows.uptoBulk,YtafbfagbjekhhaaGreatDoor.Rows.uptoBulkAll]at *
 omega
def ft.hold(x:ft):Nat:=aj.hold x.aj+1
theorem R0(n:Nat):Opn enc prog w base sp held 65 ft.rp ft.hold n:=by
 intro cs d ps h
 obtain⟨m,ds,rfl,rfl,c0,_,d0,_,p0,rfl,rfl,h0,c1,_,d1,_,p1,rfl,rfl,h1,c2,_,d2,_,p2,rfl,rfl,h2,c3,_,d3,_,p3,rfl,rfl,h3,rfl,rfl⟩:=mW (fs:=_) underlying65 (by kernel_rfl) h
 obtain⟨x0,rfl,_⟩:=(Du (by kernel_rfl)) m _ _ _ h0
 obtain⟨x1,rfl,_⟩:=(opn_int (by kernel_rfl)) m _ _ _ h1
 obtain⟨x2,rfl,_⟩:=(opn_int (by kernel_rfl)) m _ _ _ h2
 obtain⟨x3,⟨r3,rfl,o3⟩,q3⟩:=MI m _ _ _ h3
 refine⟨⟨x0,x1,x2,x3⟩,⟨⟨r3⟩,rfl,⟨o3⟩⟩,?_⟩
 simp only[ft.hold,YtafbfagbjekhhaaGreatDoor.Rows.uptoBulk,YtafbfagbjekhhaaGreatDoor.Rows.uptoBulkAll]
 omega
def aw.hold(x:aw):Nat:=szL (λ_=>1) x.dQ+szL (λ_=>1) x.aB+szL ft.hold x.di+aj.hold x.aQ+1
theorem Oc(n:Nat):Opn enc prog w base sp held 61 aw.rp aw.hold n:=by
 intro cs d ps h
 obtain⟨m,ds,rfl,rfl,c0,_,d0,_,p0,rfl,rfl,h0,c1,_,d1,_,p1,rfl,rfl,h1,c2,_,d2,_,p2,rfl,rfl,h2,c3,_,d3,_,p3,rfl,rfl,h3,c4,_,d4,_,p4,rfl,rfl,h4,c5,_,d5,_,p5,rfl,rfl,h5,rfl,rfl⟩:=mW (fs:=_) O6 (by kernel_rfl) h
 obtain⟨x0,rfl,_⟩:=(Du (by kernel_rfl)) m _ _ _ h0
 obtain⟨b1,k1,x1,rfl,o1,q1⟩:=opn_slice O5 (by kernel_rfl) (by decide) (λk _=>(Du (by kernel_rfl)) k) h1
 obtain⟨b2,k2,x2,rfl,o2,q2⟩:=opn_slice O5 (by kernel_rfl) (by decide) (λk _=>(Du (by kernel_rfl)) k) h2
 obtain⟨b3,k3,x3,rfl,o3,q3⟩:=opn_slice zI (by kernel_rfl) (by decide) (λk _=>R0 k) h3
 obtain⟨x4,⟨r4,rfl,o4⟩,q4⟩:=MI m _ _ _ h4
 obtain⟨x5,rfl,_⟩:=(opn_int (by kernel_rfl)) m _ _ _ h5
 refine⟨⟨x0,x1,x2,x3,x4,x5⟩,⟨⟨b1,k1,b2,k2,b3,k3,r4⟩,rfl,⟨o1,o2,o3,o4⟩⟩,?_⟩
 simp only[aw.hold,YtafbfagbjekhhaaGreatDoor.Rows.uptoBulk,YtafbfagbjekhhaaGreatDoor.Rows.uptoBulkAll]
 omega
def aD.hold(x:aD):Nat:=aw.hold x.aw+1
theorem MH(n:Nat):Opn enc prog w base sp held 63 aD.rp aD.hold n:=by
 intro cs d ps h
 obtain⟨m,ds,rfl,rfl,c0,_,d0,_,p0,rfl,rfl,h0,c1,_,d1,_,p1,rfl,rfl,h1,c2,_,d2,_,p2,rfl,rfl,h2,c3,_,d3,_,p3,rfl,rfl,h3,rfl,rfl⟩:=mW (fs:=_) underlying63 (by kernel_rfl) h
 obtain⟨x0,rfl,_⟩:=(opn_int (by kernel_rfl)) m _ _ _ h0
 obtain⟨x1,rfl,_⟩:=(opn_int (by kernel_rfl)) m _ _ _ h1
 obtain⟨x2,rfl,_⟩:=(opn_int (by kernel_rfl)) m _ _ _ h2
 obtain⟨x3,⟨r3,rfl,o3⟩,q3⟩:=Oc m _ _ _ h3
 refine⟨⟨x0,x1,x2,x3⟩,⟨⟨r3⟩,rfl,⟨o3⟩⟩,?_⟩
 simp only[aD.hold,YtafbfagbjekhhaaGreatDoor.Rows.uptoBulk,YtafbfagbjekhhaaGreatDoor.Rows.uptoBulkAll]
 omega
def ao.hold(x:ao):Nat:=szL (λ_=>1) x.kU+szL (λ_=>1) x.eX+szL (λ_=>1) x.fm+1
theorem K0(n:Nat):Opn enc prog w base sp held 54 ao.rp ao.hold n:=by
 intro cs d ps h
 obtain⟨m,ds,rfl,rfl,c0,_,d0,_,p0,rfl,rfl,h0,c1,_,d1,_,p1,rfl,rfl,h1,c2,_,d2,_,p2,rfl,rfl,h2,c3,_,d3,_,p3,rfl,rfl,h3,c4,_,d4,_,p4,rfl,rfl,h4,c5,_,d5,_,p5,rfl,rfl,h5,c6,_,d6,_,p6,rfl,rfl,h6,c7,_,d7,_,p7,rfl,rfl,h7,c8,_,d8,_,p8,rfl,rfl,h8,c9,_,d9,_,p9,rfl,rfl,h9,rfl,rfl⟩:=mW (fs:=_) underlying54 (by kernel_rfl) h
 obtain⟨x0,rfl,_⟩:=(opn_int (by kernel_rfl)) m _ _ _ h0
 obtain⟨x1,rfl,_⟩:=(opn_int (by kernel_rfl)) m _ _ _ h1
 obtain⟨x2,rfl,_⟩:=(opn_int (by kernel_rfl)) m _ _ _ h2
 obtain⟨x3,rfl,_⟩:=(opn_int (by kernel_rfl)) m _ _ _ h3
 obtain⟨x4,rfl,_⟩:=(opn_int (by kernel_rfl)) m _ _ _ h4
 obtain⟨x5,rfl,_⟩:=(opn_int (by kernel_rfl)) m _ _ _ h5
 obtain⟨b6,k6,x6,rfl,o6,q6⟩:=opn_slice eM (by kernel_rfl) (by decide) (λk _=>(opn_int (by kernel_rfl)) k) h6
 obtain⟨b7,k7,x7,rfl,o7,q7⟩:=opn_slice eM (by kernel_rfl) (by decide) (λk _=>(opn_int (by kernel_rfl)) k) h7
 obtain⟨b8,k8,x8,rfl,o8,q8⟩:=opn_slice eM (by kernel_rfl) (by decide) (λk _=>(opn_int (by kernel_rfl)) k) h8
 obtain⟨x9,rfl⟩:=Qt underlying52 VN (by kernel_rfl) (by kernel_rfl) h9
 refine⟨⟨x0,x1,x2,x3,x4,x5,x6,x7,x8,x9⟩,⟨⟨b6,k6,b7,k7,b8,k8⟩,rfl,⟨o6,o7,o8⟩⟩,?_⟩
 simp only[ao.hold,YtafbfagbjekhhaaGreatDoor.Rows.uptoBulk,YtafbfagbjekhhaaGreatDoor.Rows.uptoBulkAll]
 omega
theorem K5(n:Nat):Opn enc prog w base sp held 67 ay.rp (λ_=>1) n:=by
 intro cs d ps h
 obtain⟨m,ds,rfl,rfl,c0,_,d0,_,p0,rfl,rfl,h0,c1,_,d1,_,p1,rfl,rfl,h1,c2,_,d2,_,p2,rfl,rfl,h2,c3,_,d3,_,p3,rfl,rfl,h3,c4,_,d4,_,p4,rfl,rfl,h4,c5,_,d5,_,p5,rfl,rfl,h5,c6,_,d6,_,p6,rfl,rfl,h6,c7,_,d7,_,p7,rfl,rfl,h7,rfl,rfl⟩:=mW (fs:=_) underlying67 (by kernel_rfl) h
 obtain⟨x0,rfl,_⟩:=(opn_int (by kernel_rfl)) m _ _ _ h0
 obtain⟨x1,rfl,_⟩:=(opn_int (by kernel_rfl)) m _ _ _ h1
 obtain⟨x2,rfl,_⟩:=(opn_int (by kernel_rfl)) m _ _ _ h2
 obtain⟨x3,rfl,_⟩:=(opn_int (by kernel_rfl)) m _ _ _ h3
 obtain⟨x4,rfl,_⟩:=(opn_int (by kernel_rfl)) m _ _ _ h4
 obtain⟨x5,rfl,_⟩:=(opn_int (by kernel_rfl)) m _ _ _ h5
 obtain⟨x6,rfl,_⟩:=(opn_int (by kernel_rfl)) m _ _ _ h6
 obtain⟨x7,rfl,_⟩:=(xi (by kernel_rfl)) m _ _ _ h7
 exact⟨⟨x0,x1,x2,x3,x4,x5,x6,x7⟩,rfl,bulk_one _⟩
def Register.hold(x:Register):Nat:=szL (λ_=>1) x.dD+szL (λ_=>1) x.fR+szL (λ_=>1) x.ej+szL (λ_=>1) x.dN+szL aD.hold x.Versions+szL ao.hold x.cj+szL (λ_=>1) x.dy+1
theorem opn_Register(n:Nat):Opn enc prog w base sp held 30 Register.rp Register.hold n:=by
 intro cs d ps h
 obtain⟨m,ds,rfl,rfl,c0,_,d0,_,p0,rfl,rfl,h0,c1,_,d1,_,p1,rfl,rfl,h1,c2,_,d2,_,p2,rfl,rfl,h2,c3,_,d3,_,p3,rfl,rfl,h3,c4,_,d4,_,p4,rfl,rfl,h4,c5,_,d5,_,p5,rfl,rfl,h5,c6,_,d6,_,p6,rfl,rfl,h6,rfl,rfl⟩:=mW (fs:=_) underlying30 (by kernel_rfl) h
 obtain⟨b0,k0,x0,rfl,o0,q0⟩:=opn_slice Ro (by kernel_rfl) (by decide) (λk _=>MJ k) h0
 obtain⟨b1,k1,x1,rfl,o1,q1⟩:=opn_slice Jz (by kernel_rfl) (by decide) (λk _=>Od k) h1
 obtain⟨b2,k2,x2,rfl,o2,q2⟩:=opn_slice Gn (by kernel_rfl) (by decide) (λk _=>KZ k) h2
 obtain⟨b3,k3,x3,rfl,o3,q3⟩:=opn_slice C1 (by kernel_rfl) (by decide) (λk _=>Oe k) h3
 obtain⟨b4,k4,x4,rfl,o4,q4⟩:=opn_slice Ch (by kernel_rfl) (by decide) (λk _=>MH k) h4
 obtain⟨b5,k5,x5,rfl,o5,q5⟩:=opn_slice w7 (by kernel_rfl) (by decide) (λk _=>K0 k) h5
 obtain⟨b6,k6,x6,rfl,o6,q6⟩:=opn_slice zz (by kernel_rfl) (by decide) (λk _=>K5 k) h6
 refine⟨⟨x0,x1,x2,x3,x4,x5,x6⟩,⟨⟨b0,k0,b1,k1,b2,k2,b3,k3,b4,k4,b5,k5,b6,k6⟩,rfl,⟨o0,o1,o2,o3,o4,o5,o6⟩⟩,?_⟩
 simp only[Register.hold,YtafbfagbjekhhaaGreatDoor.Rows.uptoBulk,YtafbfagbjekhhaaGreatDoor.Rows.uptoBulkAll]
 omega
theorem opn_Use(n:Nat):Opn enc prog w base sp held 223 Use.rp (λ_=>1) n:=by
 intro cs d ps h
 obtain⟨m,ds,rfl,rfl,c0,_,d0,_,p0,rfl,rfl,h0,c1,_,d1,_,p1,rfl,rfl,h1,c2,_,d2,_,p2,rfl,rfl,h2,c3,_,d3,_,p3,rfl,rfl,h3,c4,_,d4,_,p4,rfl,rfl,h4,rfl,rfl⟩:=mW (fs:=_) underlying223 (by kernel_rfl) h
 obtain⟨x0,rfl,_⟩:=(opn_int (by kernel_rfl)) m _ _ _ h0
 obtain⟨x1,rfl,_⟩:=(opn_int (by kernel_rfl)) m _ _ _ h1
 obtain⟨x2,rfl,_⟩:=(opn_int (by kernel_rfl)) m _ _ _ h2
 obtain⟨x3,rfl,_⟩:=(opn_int (by kernel_rfl)) m _ _ _ h3
 obtain⟨x4,rfl,_⟩:=(opn_int (by kernel_rfl)) m _ _ _ h4
 exact⟨⟨x0,x1,x2,x3,x4⟩,rfl,bulk_one _⟩
end openings
theorem Ut{p:aw}(h:aw.hold p<=1048576):smP p:=by
 unfold aw.hold aj.hold at h
 have h1:=szL_len (f:=λ_:ByteArray=>1) (λ_=>vE _) p.dQ
 have h2:=szL_len (f:=λ_:ByteArray=>1) (λ_=>vE _) p.aB
 have h3:=szL_len (f:=ft.hold) (λx=>by unfold ft.hold;omega) p.di
 refine⟨by omega,λr hr=>?_,by omega,by omega,by omega⟩
 have h4:=KC (f:=ft.hold) hr
 unfold ft.hold aj.hold at h4
 have:szL (λx=>ft.hold x) p.di=szL ft.hold p.di:=rfl
 unfold ft.hold aj.hold at this h
 omega
theorem Us{l:List aD}(h:szL aD.hold l<=1048576):smV l:=by
 have h1:=szL_len (f:=aD.hold) (λx=>by unfold aD.hold;omega) l
 refine⟨by omega,λv hv=>Ut ?_⟩
 grind [aD.hold,KC,aw.hold]
theorem smR_of{r:Register}(h:Register.hold r<=1048576):smR r:=by
 unfold Register.hold at h
 have h1:=szL_len (f:=λ_:aK=>1) (λ_=>vE _) r.dD
 have h2:=szL_len (f:=λ_:bz=>1) (λ_=>vE _) r.fR
 have h3:=szL_len (f:=λ_:aF=>1) (λ_=>vE _) r.ej
 have h4:=szL_len (f:=λ_:Budget=>1) (λ_=>vE _) r.dN
 have h5:=szL_len (f:=ao.hold) (λx=>by unfold ao.hold;omega) r.cj
 have h6:=szL_len (f:=λ_:ay=>1) (λ_=>vE _) r.dy
 exact⟨Us (by omega),by omega,by omega,by omega,by omega,by omega,by omega⟩
end
variable {h hh:HF}
section
def Vn(P:Program)(f:FuncId)(X:Cx)(v:Value)(cs:List Frame)(Φ : Machine->Prop):Prop:=
 X.M=[]/\∀fr w',XX X.w0.heap.size X.w0 w'->fr.fn=f->fr.leaving P w' (.returned v)->To P Φ (lone fr cs w')
theorem NH(hp:Pre h [] w)(hf:P.funcs[f]? = some fn)(hb:fn.body=some c)(hn:fn.ntmps=n)(db:Nat.ble args.length n=true)(t:∀X:Cx,X.M=([]:LH).map (·.1)->X.h0=h->TT P (bodyFrame f) n [.code c] (Vn P f X v) (envArgs args) [] X h []):Calls P f args.toArray w λe w'=>e=.returned v/\XX w.heap.size w w':=by
 intro cs
 have db:=Nat.le_of_ble_eq_true db
 have henter:vR P f args.toArray .normal=(bodyFrame f).atR { tmps:=args.toArray++Wa (n-args.length) undef,defers:=[] } [.code c]:=by
  simp[vR,Frame.atR,hf,hb,hn,bodyFrame]
 obtain⟨m',s,w',fr,rfl,h1,h2,h3⟩:=t ⟨w,h,[]⟩ rfl rfl w (St.start hp) { tmps:=args.toArray++Wa (n-args.length) undef,defers:=[] } cs
  (λm=>∃w' fr,m=lone fr cs w'/\XX w.heap.size w w'/\fr.fn=f/\fr.leaving P w' (.returned v)) (by simp;omega) (pX _ _) rfl
  ⟨rfl,λfr w' hb hfn hl=>.now ⟨w',fr,rfl,hb,hfn,hl⟩⟩
 refine⟨.returned v,w',fr,⟨rfl,h1⟩,?_,h2,h3⟩
 rw[henter];exact s
section ending
variable {P:Program} {f:FuncId} {n:Nat} {k:List Item} {e:Env} {X:Cx} {h:HF} {L:LH} {fn:Func}
theorem qy{rs:List ResultVar}(vs:List Value)(hf:P.funcs[f]? = some fn)(hr:fn.results=rs.toArray)(_:X.h0=hh)(hv:tr P e L rs vs)(hvv:retVal vs=v):
  TT P (bodyFrame f) n (.code .ret::k) (Vn P f X v) e [] X h L:=by
 intro w hw a cs Φ hn he hds hF
 exact .step (stepR_ret rfl) (hF.2 _ w (hw.below hF.1) rfl ⟨rfl,hds,rfl,fn,hf,hvv▸oD hr hv a he w hw⟩)
end ending
end
variable {sp:Nat->Bool}
section
open Go.Proofs Go.Proofs.Tryz
theorem QC{ps rs:Array TypeId}{vd:Bool}{c:List Value}{b:UInt8}{r:List UInt8}{p:List MemPlace}(hE:P.underlying E=some (.func ps rs vd))(h:DataW.trod (funcToken P) P w 0 sp true m E c=some (.held (b::r),p)):∃f fn,c=[.func (.func f) #[] #[]]/\P.funcs[f]? = some fn/\P.funcNamed fn.name=some f/\fn.name.toUTF8.data.toList=b::r:=by
 cases m with
 |zero=>simp[DataW.trod]at h
 |succ m=>
  unfold DataW.trod at h
  rw[hE]at h
  split at h<;>try (simp_all;done)
  next fn fi ca _ _=>
   simp only[if_true,jN,Xj,DataW.held.injEq]at h
   obtain⟨f,g,e,h1,h2,h3⟩:=funcToken_tells h.1
   exact⟨f,g,by rw[e],h1,h2,h3⟩
theorem TC{k:FuncId}{g:Func}{l:List UInt8}(hg:P.funcNamed g.name=some k)(hl:g.name.toUTF8.data.toList=l)(h2:P.funcNamed fn.name=some f)(h3:fn.name.toUTF8.data.toList=l):f=k:=by
 have:fn.name=g.name:=bytes_inj (h3.trans hl.symm)
 rw[this,hg]at h2
 exact(Option.some.inj h2).symm
theorem Ry{l:List α}{i:Nat}{x:α}(h:(l.drop i).take 1=[x]):l[i]? = some x:=by
 have:=congrArg (·[0]?) h
 simpa using this
theorem kinds_of{W:World}(hL:laidMetH prog YtafbfagbjekhhaaGreatDoor.Rows.missingNothingUptoRow.laid W):dQ (hOf W):=by
 obtain⟨d, hd⟩ : ∃d, (YtafbfagbjekhhaaGreatDoor.Rows.laid_signatory_policies_kinds : DataW Unit) = .iface "func table" d := ⟨_, rfl⟩
 obtain⟨g,t,cs,fuel,p,hg,ht,hv,hr⟩:=hL.funcs (d:=d) (by rw[←hd];exact kB ..)
 unfold World.var? at hv
 rw[hg]at hv
 obtain rfl:g=0:=Option.some.inj (hg.symm.trans (by kernel_rfl))
 obtain rfl:t=353:=Option.some.inj (ht.symm.trans (by kernel_rfl))
 obtain⟨xs,m,_,hx,hl,hlen,hf⟩:=DataW.trod_array (n:=5) (e:=237) (by kernel_rfl) hr
 rw[show prog.cellsOf 353=5 by kernel_rfl]at hl
 rw[show prog.cellsOf 237=1 by kernel_rfl]at hf
 unfold YtafbfagbjekhhaaGreatDoor.Rows.laid_signatory_policies_kinds at hd
 cases hd
 simp only[DataW.funcsOut,DataW.funcsOutAll,Xj]at hx
 match xs,hlen with
 |[x0,x1,x2,x3,x4],_=>
  simp only[vH,Wr,beq_self_eq_true,if_true,DataW.agg.injEq,List.cons.injEq,and_true]at hx
  have key:∀(i:Nat)(x:DataW (List UInt8)×List MemPlace)(b:UInt8)(r:List UInt8)(k:FuncId)(fk:Func),i<5->[x0,x1,x2,x3,x4][i]? = some x->DataW.held (b::r)=x.1->prog.funcNamed fk.name=some k->fk.name.toUTF8.data.toList=b::r->cs.toList[i]? = some (.func (.func k) #[] #[]):=by
   intro i x b r k fk hi hxi hb hk hn
   have h0:=hf i hi
   rw[hxi,Nat.mul_one]at h0
   obtain⟨f,fn,e,_,h2,h3⟩:=QC (P:=prog) (E:=237) underlying237 (h0.trans (show some x=some (DataW.held (b::r),x.2) by rw[hb]))
   obtain rfl:=TC hk hn h2 h3
   exact Ry e
  obtain⟨⟨e0,e1,e2,e3,e4⟩,_⟩:=hx
  have k0:=key 0 x0 _ _ 365 Tryz.f365 (by omega) rfl e0 (by kernel_rfl) (by kernel_rfl)
  have k1:=key 1 x1 _ _ 366 Tryz.f366 (by omega) rfl e1 (by kernel_rfl) (by kernel_rfl)
  have k2:=key 2 x2 _ _ 367 Tryz.f367 (by omega) rfl e2 (by kernel_rfl) (by kernel_rfl)
  have k3:=key 3 x3 _ _ 368 Tryz.f368 (by omega) rfl e3 (by kernel_rfl) (by kernel_rfl)
  have k4:=key 4 x4 _ _ 369 Tryz.f369 (by omega) rfl e4 (by kernel_rfl) (by kernel_rfl)
  have hcs:cs=kindsC.toArray:=by
   apply Array.toList_inj.1
   apply WI
   intro i
   match i with
   |0=>exact k0
   |1=>exact k1
   |2=>exact k2
   |3=>exact k3
   |4=>exact k4
   |i+5=>rw[List.getElem?_eq_none (by omega)];rfl
  simp only[Option.bind_some]at hv
  split at hv
  .next c T fz e=>
   cases hv
   exact⟨T,fz,by rw[←hcs];exact e⟩
  .cases hv
end
section
open Go.ChangeShapes Go.WideShapes Go.RowKit
variable {H:Type} {enc:TypeId×Value->H} {P:Program}
theorem post_below{f:Func}{s:ChangeSpec}{apart fresh handsOn again:Bool}{W W':World}{args:Array Value}{ds gs:List (DataW H)}{before pa pv:List MemPlace}(hW:DataW.Whole enc P f.params.toList s.vars apart W args.toList ds gs before)(hres:∀(b:Nat)(sp:Nat->Bool)(hd:Bool),DataW.TrodAll enc P W' b sp hd f.resultTypes.toList (v.resultList f.resultTypes.size) (s.fn H (ds++gs)).results [])(hargs:∀sp:Nat->Bool,(∀p∈before,sp p.block=true)->DataW.TrodAll enc P W' 0 sp true f.params.toList args.toList (s.fn H (ds++gs)).args pa)(hvars:∀sp:Nat->Bool,(∀p∈before,sp p.block=true)->DataW.TrodVars enc P W' sp s.vars (s.fn H (ds++gs)).vars pv)(hps:before=pa++pv)(hb:Below W.heap.size W W')(hok:∀(j:Nat)(t:TypeId)(r:Value),f.resultTypes[j]? = some t->(v.resultList f.resultTypes.size)[j]? = some r->Value.okWide P W' .any 0 t r):
  s.post enc P f apart fresh handsOn again W args v W':=by
 have hlt:=hW.lt
 have hold:∀p∈before,(λb=>decide (b<W.heap.size)) p.block=true:=λp hp=>by simpa using hlt p hp
 refine⟨ds,gs,before,[],pa,pv,hW,hres _ _ _,hargs _ hold,hvars _ hold,World.keptBut_mono (λp hp=>⟨hp,?_⟩) (hb.frame (·∈before)),λ_=>?_⟩
 .rw[hps,zG]at hp
  exact Or.inr hp
 .obtain⟨_,_,_,_,_,hz,hn⟩:=hW
  refine⟨hok,_,_,([]++pa)++pv,⟨[]++pa,pv,trodAll_append (hargs _ (λ_ _=>rfl)) (hres _ _ _),hvars _ (λ_ _=>rfl),rfl,?_,?_⟩,?_⟩
  .intro b off hp
   have hp':MemPlace.cell b off∈before:=by rw[hps];simpa using hp
   rw[hb.frozen (p:=⟨b,off,none⟩) (hlt _ hp')]
   exact hz b off hp'
  .intro ha
   have:=hn ha
   rw[hps]at this
   simpa using this
  .intro p hp _
   rw[hps]
   simpa using hp
theorem stays{t:TypeId}(hl:laidOutB P=true)(hr:P.readableRec t=true)(hrow:decide (t<P.types.size)=true){W W':World}{d:DataW H}{before:List MemPlace}(h:DataW.Trod enc P W 0 (λ_=>true) true t v d ps)(hb:Below W.heap.size W W')(hlt:∀x∈before,x.block<W.heap.size)(hm:∀x∈ps,x∈before)(hsp:∀p∈before,sp p.block=true):DataW.Trod enc P W' 0 sp true t v d ps:=
 WideElems.Trod_stays hl hr (of_decide_eq_true hrow) h (λx hx=>hb.same (hlt x (hm x hx))) (λx hx=>hsp _ (hm x hx))
end
section
def agB(ops:Array Oper)(o:Oper)(t:Nat):Bool:=ops.toList.all λo'=>(o'.dst != some t)||(qE ops.size).all λi=>match ops[i]? with
 |some oi=>(oi.dst != o.dst)||o'.after.toList.any λed=>Region.binds .any ed&&ed.on==i
 |none=>true
theorem AgE.at_{o:Oper}(h:AgE ops o e e')(t:Nat)(hb:agB ops o t=true:=by rfl):e' t=e t:=by
 refine h t λo' ho' hd i hi=>?_
 have h1:=qQ.1 hb o' (by simpa using ho')
 simp only[hd,bne_self_eq_false,Bool.false_or]at h1
 have h2:=qQ.1 h1 i (Wz.2 (Array.getElem?_eq_some_iff.1 hi).1)
 simp only[hi,bne_self_eq_false,Bool.false_or,List.any_eq_true,zC,beq_iff_eq]at h2
 obtain⟨ed,h3,h4,h5⟩:=h2
 exact⟨ed,by simpa using h3,h4,h5⟩
end
section
theorem cY.rep{α : Type}{R:Rp α}{h:HF}{z:Value}{x:α}(h1:R.sz=1)(hr:R.rep h [z] x):∀m,cY R h (List.replicate m z) (List.replicate m x)
 |0=>rfl
 |m+1=>⟨[z],List.replicate m z,by simp[List.replicate_succ],h1.symm▸rfl,hr,cY.rep h1 hr m⟩
section
variable {P:Program} {b:Frame} {n:Nat} {ops:Array Oper} {F:List Frame->(Machine->Prop)->Prop} {e:Env} {ds:List Deferred} {X:Cx} {h:HF} {L:LH} {K:Env->HF->LH->Prop}
variable {d:Option Nat} {ty:TypeId} {pos:String} {af:Array Edge} {g:Option (Nat×Bool)}
theorem GE{x0:α}(LL:LH->LH){t:TypeId}{ln cp:Operand}{vo:Nat}{z:Value}(h1:R.sz=1)(hr:R.rep h [z] x0)(hLL:∀G,L++G=LL G)(hT:P.underlying t=some (.slice E))(hz:zeroC P E=some [z])(hS:tySz P E=some (1,a))(hby:bytesOf P E=some vo)(hl:e.ev ln=.int .i64 (m:Nat))(hc:e.ev cp=.int .i64 (m:Nat))(hb:vo*m<=281474976710656)(h63:m<=9223372036854775807)(t':∀bk G,cN R E h (List.replicate m x0) (some ⟨bk,0,none⟩) m G->K (pute e d (.slice (some ⟨bk,0,none⟩) (List.replicate m x0).length m)) h (LL G))(hg:guardB ops e ⟨d,.makeSlice t ln cp,ty,pos,af,g⟩=true:=by rfl):Stp P b n ops F ds X ⟨d,.makeSlice t ln cp,ty,pos,af,g⟩ e h L K:=
 iB hg λw hw=>by
  obtain⟨i,hi,hby'⟩:∃i,P.info? E=some i/\i.bytes=vo:=by
   unfold bytesOf at hby
   cases hi:P.info? E with
   |none=>simp[hi]at hby
   |some i=>exact⟨i,rfl,by simpa[hi]using hby⟩
  have hsz:i.size=1:=by
   have:=fL hS w
   simpa[sizeOf,typeInfo,hi]using this
  obtain⟨zv,hzz,hzc⟩:∃zv,i.zero=some zv/\zv.cells=#[z]:=by
   unfold zeroC at hz
   cases hzz:i.zero with
   |none=>simp[hi,hzz]at hz
   |some zv=>exact⟨zv,rfl,by simp[hi,hzz]at hz;rw[mB,hz]⟩
  have hr':=run_make (P:=P) w t E i zv hT hi hzz .i64 .i64 (m:Int) (m:Int) (by omega) (Int.le_refl _) (by rw[hby'];omega) (by omega)
  have hcells:madeCells zv.cells ((m:Int).toNat*i.size)=(List.replicate m z).toArray:=by
   rw[hzc,hsz]
   apply Array.ext
   .simp[madeCells]
   .intro j h1 h2;simp[madeCells,Nat.mod_one]
  rw[hcells]at hr'
  simp only[Int.toNat_natCast]at hr'
  have hG:cN R E h (List.replicate m x0) (some ⟨w.heap.size,0,none⟩) m [(w.heap.size,.cells (List.replicate m z).toArray E (0,0))]:=cN.lit (cY.rep h1 hr m) (by simp) (by simp;omega)
  have ht:=t' w.heap.size _ hG
  rw[←hLL,show(List.replicate m x0).length=m from List.length_replicate]at ht
  refine⟨_,_,h,_,?_,(hw.alloc (.cells (List.replicate m z).toArray E (0,0))).perm (xG (l₁:=[_])),ht⟩
  have e1:w.alloc (.cells (List.replicate m z).toArray E)={ w with heap:=w.heap.push (.cells (List.replicate m z).toArray E (0,0)) }:=rfl
  rw[e1]at hr'
  simp[execOp,hl,hc,hr']
end
theorem PU{N i:Nat}(h:i<N)(hb:N<=9223372036854775807):qC .i64 (IntKind.i64.wrap ((((N-i:Nat):Int)-1)-1))=.int .i64 (((N-(i+1):Nat):Int)-1):=by
 rw[lI (by omega)]
 congr 1;omega
section
variable {P:Program} {b:Frame} {n:Nat} {k:List Item} {F:List Frame->(Machine->Prop)->Prop} {e:Env} {ds:List Deferred} {X:Cx} {h:HF} {L:LH}
theorem lp4(xs:List α)(sl:Nat->γ->List (Nat×Value))(hh:γ->HF)(LL:γ->LH)(J JX:Nat->γ->Prop)(hJX:∀i g,i=xs.length->J i g->JX i g)(Lf:List α->Nat->γ->ρ)(g0:γ)(hb:xs.length<=9223372036854775807)(hs:x0=Lf xs 0 g0)(hJ:J 0 g0)(after:∀i g,i<=xs.length->x0=Lf [] i g->JX i g->∀e',TT P b n k F (upds e' (sl i g)) ds X (hh g) (LL g))(cons:∀i g y r,xs.drop i=y::r->decide ((i:Int)<(xs.length:Int))=true->xs[i]? = some y->i<xs.length->xs.length<=9223372036854775807->x0=Lf (y::r) i g->J i g ->
   (∀i' g' {e'},x0=Lf [] i' g'->JX i' g'->(hi:i'<=xs.length:=by omega)->(hr:iu e' (sl i' g'):=by exact rds)->TT P b n k F e' ds X (hh g') (LL g')) ->
   (∀g' {e'},x0=Lf r (i+1) g'->J (i+1) g'->(hr:iu e' (sl (i+1) g'):=by exact rds)->TT P b n (.inLoop c::.inBlock id::k) F e' ds X (hh g') (LL g')) ->
   ∀e',TT P b n (.code c::.inLoop c::.inBlock id::k) F (upds e' (sl i g)) ds X (hh g) (LL g))(nil:∀i g,xs.drop i=[]->decide ((i:Int)<(xs.length:Int))=false->(∀e',iu e' (sl i g)->TT P b n k F e' ds X (hh g) (LL g)) ->
   ∀e',TT P b n (.code c::.inLoop c::.inBlock id::k) F (upds e' (sl i g)) ds X (hh g) (LL g):=by exact ndA)(h0:iu e (sl 0 g0):=by exact rds)(hw:∀w,St X h L w->St X (hh g0) (LL g0) w:=by exact sws):
  TT P b n (.code (.block id (.loop c))::k) F e ds X h L:=by
 refine gx (ι:=Nat×γ) (λi=>sl i.1 i.2) (λi=>hh i.2) (λi=>LL i.2) (λi=>i.1<=xs.length/\x0=Lf [] i.1 i.2/\JX i.1 i.2) ?_ (λhx=>?_)
 .rintro⟨i,g⟩ ⟨h1,h2,h3⟩ e'
  exact after i g h1 h2 h3 e'
 .refine jw (ι:=Nat×γ×List α) (λi=>sl i.1 i.2.1) (λi=>hh i.2.1) (λi=>LL i.2.1) (λi=>xs.drop i.1=i.2.2/\i.1<=xs.length/\x0=Lf i.2.2 i.1 i.2.1/\J i.1 i.2.1) (λi=>i.2.2.length) (0,g0,xs) h0 hw ⟨rfl,xH _,hs,hJ⟩ ?_
  rintro⟨i,g,s⟩ ⟨hd,hi,hs,hJ⟩ ag e'
  dsimp only at hd hi hs hJ
  rcases s with _|⟨y,r⟩
  .exact nil i g hd (nZ hd) (λe'' hr=>hx (i,g) e'' ⟨hi,hs,hJX _ _ (Nat.le_antisymm hi (by rcases xM i xs.length with q|q;(rw[List.drop_eq_getElem_cons q]at hd;cases hd);exact q)) hJ⟩ hr) e'
  .exact cons i g y r hd (tU hd) (sn hd) (il hd) hb hs hJ (λi' g' e'' a b c d=>hx (i',g') e'' ⟨c,a,b⟩ d)
    (λg' e'' a b hr=>ag (i+1,g',r) e'' (Nat.lt_succ_self _) ⟨ll hd,il hd,a,b⟩ hr) e'
end
end
variable {X:Cx}{b:Frame}{ds:List Deferred}{k:List Item}{q:List (Nat×Nat)}{s:Qs}
section
open Go.Proofs Go.Proofs.Tryz
theorem ty221:tySz prog 221=some (1,false):=kr
theorem ty264:tySz prog 264=some (1,false):=kr
theorem ty249:tySz prog 249=some (1,false):=kr
theorem ty252:tySz prog 252=some (2,true):=kr
theorem ty31:tySz prog 31=some (1,false):=kr
theorem ty306:tySz prog 306=some (1,false):=kr
theorem ty3:tySz prog 3=some (1,false):=kr
theorem zc252:zeroC prog 252=some [.int .i64 0,.int .i64 0]:=kr
theorem bytes252:bytesOf prog 252=some 16:=kr
theorem zc3:zeroC prog 3=some [.int .i64 0]:=kr
theorem bytes3:bytesOf prog 3=some 8:=kr
theorem zc36:zeroC prog 36=some [.int .i64 0]:=kr
theorem ty36:tySz prog 36=some (1,false):=kr
theorem zc347:zeroC prog 347=some [.int .i64 0]:=kr
theorem ty347:tySz prog 347=some (1,true):=kr
theorem SD:fldOf prog 347 0=some 0:=kr
theorem ty257:tySz prog 257=some (2,true):=kr
theorem ty255:tySz prog 255=some (1,false):=kr
theorem ty254:tySz prog 254=some (1,false):=kr
theorem ty258:tySz prog 258=some (1,false):=kr
theorem ty207:tySz prog 207=some (7,true):=kr
theorem ty24:tySz prog 24=some (1,false):=kr
theorem ty4:tySz prog 4=some (1,false):=kr
theorem ty26:tySz prog 26=some (1,false):=kr
theorem zc257:zeroC prog 257=some [.slice none 0 0,.int .i64 0]:=kr
theorem zc207:zeroC prog 207=some [.int .i64 0,.int .i64 0,.int .i64 0,.int .i64 0,.int .i64 0,.bool false,.bool false]:=kr
theorem zc254:zeroC prog 254=some [.map none]:=kr
theorem zc221:zeroC prog 221=some [.map none]:=kr
theorem zc255:zeroC prog 255=some [.chan none]:=kr
theorem zc258:zeroC prog 258=some [.nilFunc]:=kr
theorem zc31:zeroC prog 31=some [.slice none 0 0]:=kr
theorem zv4:zeroV prog 4=some (.bool false):=kr
theorem zv24:zeroV prog 24=some (.slice none 0 0):=kr
theorem zv257:zeroV prog 257=some (.agg (xB [.slice none 0 0,.int .i64 0])):=kr
theorem bytes207:bytesOf prog 207=some 48:=kr
theorem bytes257:bytesOf prog 257=some 32:=kr
theorem SF:fldOf prog 257 0=some 0:=kr
theorem SI:fldOf prog 207 0=some 0:=kr
theorem Nl:fldOf prog 207 3=some 3:=kr
theorem SH:fldOf prog 207 4=some 4:=kr
theorem SE:fldOf prog 268 1=some 1:=kr
theorem zc215:zeroC prog 215=some [.slice none 0 0,.map none,.slice none 0 0,.slice none 0 0,.slice none 0 0,.map none]:=kr
theorem ty150:tySz prog 150=some (1,false):=kr
theorem zc150:zeroC prog 150=some [.pointer none]:=kr
theorem ty105:tySz prog 105=some (1,false):=kr
theorem ty136:tySz prog 136=some (1,false):=kr
theorem ty212:tySz prog 212=some (2,true):=kr
theorem zc212:zeroC prog 212=some [.slice none 0 0,.map none]:=kr
theorem ty54:tySz prog 54=some (41,true):=kr
theorem zc54:zeroC prog 54=some (.int .i64 0::.int .i64 0::.int .i64 0::.int .i64 0::.int .i64 0::.int .i64 0::.slice none 0 0::.slice none 0 0::.slice none 0 0::.int .u8 0::.int .u8 0::.int .u8 0::.int .u8 0::.int .u8 0::.int .u8 0::.int .u8 0::.int .u8 0::.int .u8 0::.int .u8 0::.int .u8 0::.int .u8 0::.int .u8 0::.int .u8 0::.int .u8 0::.int .u8 0::.int .u8 0::.int .u8 0::.int .u8 0::.int .u8 0::.int .u8 0::.int .u8 0::.int .u8 0::.int .u8 0::.int .u8 0::.int .u8 0::.int .u8 0::.int .u8 0::.int .u8 0::.int .u8 0::.int .u8 0::.int .u8 0::[]):=kr
theorem ty43:tySz prog 43=some (1,false):=kr
theorem bytes4:bytesOf prog 4=some 1:=kr
theorem SG:fldOf prog 215 3=some 4:=kr
theorem TN:fldOf prog 54 0=some 0:=kr
theorem TJ:fldOf prog 54 7=some 7:=kr
theorem TI:fldOf prog 54 8=some 8:=kr
theorem DV:fldOf prog 40 0=some 0:=kr
theorem PR:fldOf prog 40 1=some 1:=kr
theorem TQ:fldOf prog 40 2=some 2:=kr
theorem DU:fldOf prog 40 3=some 3:=kr
theorem Gh:fldOf prog 98 0=some 0:=kr
theorem Gg:fldOf prog 98 1=some 1:=kr
theorem ty40:tySz prog 40=some (4,true):=kr
theorem ty98:tySz prog 98=some (2,true):=kr
theorem ty33:tySz prog 33=some (1,false):=kr
theorem ty96:tySz prog 96=some (50,true):=kr
theorem ty25:tySz prog 25=some (1,false):=kr
theorem ty32:tySz prog 32=some (1,false):=kr
theorem ty61:tySz prog 61=some (10,true):=kr
theorem zc40:zeroC prog 40=some [.int .i64 0,.int .i64 0,.slice none 0 0,.slice none 0 0]:=kr
theorem zc98:zeroC prog 98=some [.int .i64 0,.nilFunc]:=kr
theorem zc96:zeroC prog 96=some (.slice none 0 0::.slice none 0 0::.slice none 0 0::.slice none 0 0::.slice none 0 0::.slice none 0 0::.slice none 0 0::.int .i64 0::.int .i64 0::.int .i64 0::.int .i64 0::.int .i64 0::.int .i64 0::.slice none 0 0::.slice none 0 0::.slice none 0 0::.int .u8 0::.int .u8 0::.int .u8 0::.int .u8 0::.int .u8 0::.int .u8 0::.int .u8 0::.int .u8 0::.int .u8 0::.int .u8 0::.int .u8 0::.int .u8 0::.int .u8 0::.int .u8 0::.int .u8 0::.int .u8 0::.int .u8 0::.int .u8 0::.int .u8 0::.int .u8 0::.int .u8 0::.int .u8 0::.int .u8 0::.int .u8 0::.int .u8 0::.int .u8 0::.int .u8 0::.int .u8 0::.int .u8 0::.int .u8 0::.int .u8 0::.int .u8 0::.int .i64 0::.int .i64 0::[]):=kr
theorem zc61:zeroC prog 61=some [.string (⟨#[]⟩:ByteArray),.slice none 0 0,.slice none 0 0,.slice none 0 0,.int .i64 0,.int .i64 0,.int .i64 0,.string (⟨#[]⟩:ByteArray),.slice none 0 0,.int .i64 0]:=kr
theorem zc4:zeroC prog 4=some [.bool false]:=kr
theorem PS:fldOf prog 30 3=some 3:=kr
theorem TS:fldOf prog 30 4=some 4:=kr
theorem TR:fldOf prog 30 5=some 5:=kr
theorem TH:fldOf prog 96 0=some 0:=kr
theorem Lp:fldOf prog 96 1=some 7:=kr
theorem TG:fldOf prog 96 2=some 48:=kr
theorem TF:fldOf prog 96 3=some 49:=kr
theorem TM:fldOf prog 54 1=some 1:=kr
theorem TL:fldOf prog 54 2=some 2:=kr
theorem TK:fldOf prog 54 3=some 3:=kr
theorem ty79:tySz prog 79=some (5,true):=kr
theorem ty77:tySz prog 77=some (1,false):=kr
theorem ty134:tySz prog 134=some (1,false):=kr
theorem ty35:tySz prog 35=some (1,false):=kr
theorem ty190:tySz prog 190=some (1,false):=kr
theorem zc77:zeroC prog 77=some [.nilFunc]:=kr
theorem zc35:zeroC prog 35=some [.slice none 0 0]:=kr
theorem bytes77:bytesOf prog 77=some 8:=kr
theorem ty67:tySz prog 67=some (8,true):=kr
theorem zc67:zeroC prog 67=some [.int .i64 0,.int .i64 0,.int .i64 0,.int .i64 0,.int .i64 0,.int .i64 0,.int .i64 0,.bool false]:=kr
theorem SJ:fldOf prog 120 2=some 2:=kr
theorem ty120:tySz prog 120=some (7,true):=kr
theorem zc120:zeroC prog 120=some [.int .i64 0,.int .i64 0,.int .i64 0,.int .i64 0,.int .i64 0,.int .i64 0,.bool false]:=kr
theorem ty204:tySz prog 204=some (10,true):=kr
theorem zc204:zeroC prog 204=some [.int .i64 0,.int .i64 0,.int .i64 0,.int .i64 0,.int .i64 0,.int .i64 0,.int .i64 0,.int .i64 0,.int .i64 0,.bool false]:=kr
theorem ty73:tySz prog 73=some (8,true):=kr
theorem zc73:zeroC prog 73=some [.int .i64 0,.int .i64 0,.int .i64 0,.int .i64 0,.int .i64 0,.int .i64 0,.int .i64 0,.bool false]:=kr
theorem ty59:tySz prog 59=some (5,true):=kr
theorem zc320:zeroC prog 320=some [.int .i64 0,.int .i64 0,.int .i64 0,.string (⟨#[]⟩:ByteArray),.slice none 0 0,.int .i64 0]:=kr
theorem ty57:tySz prog 57=some (1,false):=kr
theorem zc59:zeroC prog 59=some [.int .i64 0,.int .i64 0,.int .i64 0,.string (⟨#[]⟩:ByteArray),.slice none 0 0]:=kr
theorem ty320:tySz prog 320=some (6,true):=kr
theorem ty56:tySz prog 56=some (1,false):=kr
theorem ty65:tySz prog 65=some (8,true):=kr
theorem zc65:zeroC prog 65=some [.string (⟨#[]⟩:ByteArray),.int .i64 0,.int .i64 0,.int .i64 0,.int .i64 0,.int .i64 0,.string (⟨#[]⟩:ByteArray),.slice none 0 0]:=kr
theorem bytes59:bytesOf prog 59=some 64:=kr
theorem ty55:tySz prog 55=some (1,false):=kr
theorem ty9:tySz prog 9=some (1,false):=kr
theorem zc57:zeroC prog 57=some [.slice none 0 0]:=kr
theorem ty237:tySz prog 237=some (1,false):=kr
theorem bytes65:bytesOf prog 65=some 96:=kr
theorem ty63:tySz prog 63=some (13,true):=kr
theorem zc63:zeroC prog 63=some [.int .i64 0,.int .i64 0,.int .i64 0,.string (⟨#[]⟩:ByteArray),.slice none 0 0,.slice none 0 0,.slice none 0 0,.int .i64 0,.int .i64 0,.int .i64 0,.string (⟨#[]⟩:ByteArray),.slice none 0 0,.int .i64 0]:=kr
theorem PQ:fldOf prog 63 3=some 3:=kr
theorem zv3:zeroV prog 3=some (.int .i64 0):=kr
theorem ty22:tySz prog 22=some (1,false):=kr
theorem ty23:tySz prog 23=some (1,false):=kr
theorem ty27:tySz prog 27=some (1,false):=kr
theorem ty28:tySz prog 28=some (1,false):=kr
theorem zv31:zeroV prog 31=some (.slice none 0 0):=kr
theorem ty223:tySz prog 223=some (5,true):=kr
theorem zc223:zeroC prog 223=some [.int .i64 0,.int .i64 0,.int .i64 0,.int .i64 0,.int .i64 0]:=kr
theorem zc226:zeroC prog 226=some [.int .i64 0,.int .i64 0]:=kr
theorem ty226:tySz prog 226=some (2,true):=kr
theorem zv73:zeroV prog 73=some (.agg (xB [.int .i64 0,.int .i64 0,.int .i64 0,.int .i64 0,.int .i64 0,.int .i64 0,.int .i64 0,.bool false])):=kr
theorem eqg73:prog.eqGuardType prog.depth 73=false:=kr
theorem bytes73:bytesOf prog 73=some 64:=kr
theorem ty30:tySz prog 30=some (7,true):=kr
theorem zv63:zeroV prog 63=some (.agg (xB [.int .i64 0,.int .i64 0,.int .i64 0,.string (⟨#[]⟩:ByteArray),.slice none 0 0,.slice none 0 0,.slice none 0 0,.int .i64 0,.int .i64 0,.int .i64 0,.string (⟨#[]⟩:ByteArray),.slice none 0 0,.int .i64 0])):=kr
theorem zc26:zeroC prog 26=some [.slice none 0 0]:=kr
theorem bytes63:bytesOf prog 63=some 184:=kr
theorem zv185:zeroV prog 185=some (.nilFunc):=kr
theorem zv120:zeroV prog 120=some (.agg (xB [.int .i64 0,.int .i64 0,.int .i64 0,.int .i64 0,.int .i64 0,.int .i64 0,.bool false])):=kr
theorem zc28:zeroC prog 28=some [.slice none 0 0]:=kr
theorem zc358:zeroC prog 358=some [.map none]:=kr
theorem ty358:tySz prog 358=some (1,false):=kr
theorem zv67:zeroV prog 67=some (.agg (xB [.int .i64 0,.int .i64 0,.int .i64 0,.int .i64 0,.int .i64 0,.int .i64 0,.int .i64 0,.bool false])):=kr
theorem eqg67:prog.eqGuardType prog.depth 67=false:=kr
theorem bytes67:bytesOf prog 67=some 64:=kr
theorem bytes204:bytesOf prog 204=some 80:=kr
theorem ty365:tySz prog 365=some (1,false):=kr
theorem zc367:zeroC prog 367=some [.int .i64 0,.int .i64 0,.int .i64 0,.int .i64 0]:=kr
theorem zv204:zeroV prog 204=some (.agg (xB [.int .i64 0,.int .i64 0,.int .i64 0,.int .i64 0,.int .i64 0,.int .i64 0,.int .i64 0,.int .i64 0,.int .i64 0,.bool false])):=kr
theorem eqg204:prog.eqGuardType prog.depth 204=false:=kr
theorem ty205:tySz prog 205=some (1,false):=kr
theorem ty325:tySz prog 325=some (5,true):=kr
theorem zc205:zeroC prog 205=some [.nilFunc]:=kr
theorem zc365:zeroC prog 365=some [.map none]:=kr
theorem ty367:tySz prog 367=some (4,true):=kr
theorem zc325:zeroC prog 325=some [.int .i64 0,.int .i64 0,.int .i64 0,.int .i64 0,.int .i64 0]:=kr
theorem ty299:tySz prog 299=some (1,false):=kr
theorem zc301:zeroC prog 301=some [.int .i64 0,.int .i64 0,.bool false]:=kr
theorem zv207:zeroV prog 207=some (.agg (xB [.int .i64 0,.int .i64 0,.int .i64 0,.int .i64 0,.int .i64 0,.bool false,.bool false])):=kr
theorem eqg207:prog.eqGuardType prog.depth 207=false:=kr
theorem zc299:zeroC prog 299=some [.map none]:=kr
theorem ty301:tySz prog 301=some (3,true):=kr
theorem zc268:zeroC prog 268=some [.int .i64 0,.int .i64 0]:=kr
theorem ty268:tySz prog 268=some (2,true):=kr
theorem ty191:tySz prog 191=some (1,false):=kr
theorem bytes268:bytesOf prog 268=some 16:=kr
theorem ty275:tySz prog 275=some (3,true):=kr
theorem zc345:zeroC prog 345=some [.nilFunc]:=kr
theorem ty345:tySz prog 345=some (1,false):=kr
theorem zc312:zeroC prog 312=some [.nilFunc,.nilFunc,.nilFunc,.nilFunc,.nilFunc]:=kr
theorem ty311:tySz prog 311=some (1,false):=kr
theorem ty312:tySz prog 312=some (5,true):=kr
theorem zc275:zeroC prog 275=some [.int .i64 0,.slice none 0 0,.slice none 0 0]:=kr
theorem zc191:zeroC prog 191=some [.slice none 0 0]:=kr
theorem bytes191:bytesOf prog 191=some 24:=kr
theorem zc45:zeroC prog 45=some [.int .i64 0,.int .i64 0]:=kr
theorem ty45:tySz prog 45=some (2,true):=kr
theorem bytes45:bytesOf prog 45=some 16:=kr
theorem eqg45:prog.eqGuardType prog.depth 45=false:=kr
theorem zc30:zeroC prog 30=some [.slice none 0 0,.slice none 0 0,.slice none 0 0,.slice none 0 0,.slice none 0 0,.slice none 0 0,.slice none 0 0]:=kr
theorem zc9:zeroC prog 9=some [.string (⟨#[]⟩:ByteArray)]:=kr
theorem bytes120:bytesOf prog 120=some 56:=kr
def xr(x:gr)(h:HF)(vs:List Go.Value):Prop:=∃(r0:CW),vs=[.agg (gr.cells x r0).toArray]/\gr.ok h x r0
theorem pJ(x:gr)(h:HF)(vs:List Go.Value)(e:xr x h vs):vs.length=1:=by
 obtain⟨_,e,_⟩:=e;rw[e];rfl
def AH(x:(Int×Int))(h:HF)(vs:List Go.Value):Prop:=vs=[.int .i64 x.1,.int .i64 x.2]
theorem FU(x:(Int×Int))(h:HF)(vs:List Go.Value)(e:AH x h vs):vs.length=2:=by
 rw[e];rfl
def sE(x:Int)(h:HF)(vs:List Go.Value):Prop:=vs=[.int .i64 x]
theorem AG(x:Int)(h:HF)(vs:List Go.Value)(e:sE x h vs):vs.length=1:=by
 rw[e];rfl
def tD(x:(Int×aD))(h:HF)(vs:List Go.Value):Prop:=∃(r0:pL),vs=[.int .i64 x.1,.agg (aD.cells x.2 r0).toArray]/\aD.ok h x.2 r0
theorem BJ(x:(Int×aD))(h:HF)(vs:List Go.Value)(e:tD x h vs):vs.length=2:=by
 obtain⟨_,e,_⟩:=e;rw[e];rfl
def ri(x:ay)(h:HF)(vs:List Go.Value):Prop:=vs=[.agg (ay.cells x).toArray]
theorem sf(x:ay)(h:HF)(vs:List Go.Value)(e:ri x h vs):vs.length=1:=by
 rw[e];rfl
def vg(x:bz)(h:HF)(vs:List Go.Value):Prop:=vs=[.agg (bz.cells x).toArray]
theorem HM(x:bz)(h:HF)(vs:List Go.Value)(e:vg x h vs):vs.length=1:=by
 rw[e];rfl
def yy(x:aF)(h:HF)(vs:List Go.Value):Prop:=vs=[.agg (aF.cells x).toArray]
theorem ED(x:aF)(h:HF)(vs:List Go.Value)(e:yy x h vs):vs.length=1:=by
 rw[e];rfl
def pV(x:cq)(h:HF)(vs:List Go.Value):Prop:=vs=[.agg (cq.cells x).toArray]
theorem vf(x:cq)(h:HF)(vs:List Go.Value)(e:pV x h vs):vs.length=1:=by
 rw[e];rfl
def Kd(x:OSeat)(h:HF)(vs:List Go.Value):Prop:=vs=[.agg (kE x).toArray]
theorem Jg(x:OSeat)(h:HF)(vs:List Go.Value)(e:Kd x h vs):vs.length=1:=by
 rw[e];rfl
theorem It(a b:eC)(w:World):(Op.equal 45 (eC.enc a) (eC.enc b)).run prog w=.ok (decide (a=b)) w:=
 sy O4 (by kernel_rfl) (by kernel_rfl) (by rw[jJ];cases a;cases b;simp[eqv,nth,eC.cells]) w
theorem Lt(a b:ay)(w:World):(Op.equal 67 (ay.enc a) (ay.enc b)).run prog w=.ok (decide (a=b)) w:=
 sy underlying67 (by kernel_rfl) (by kernel_rfl) (by rw[jJ];cases a;cases b;simp[eqv,nth,ay.cells]) w
theorem Oz(a b:Budget)(w:World):(Op.equal 73 (Budget.enc a) (Budget.enc b)).run prog w=.ok (decide (a=b)) w:=
 sy underlying73 (by kernel_rfl) (by kernel_rfl) (by rw[jJ];cases a;cases b;simp[eqv,nth,Budget.cells]) w
theorem Oy(a b:bz)(w:World):(Op.equal 204 (bz.enc a) (bz.enc b)).run prog w=.ok (decide (a=b)) w:=
 sy underlying204 (by kernel_rfl) (by kernel_rfl) (by rw[jJ];cases a;cases b;simp[eqv,nth,bz.cells]) w
theorem Lq(a b:aF)(w:World):(Op.equal 207 (aF.enc a) (aF.enc b)).run prog w=.ok (decide (a=b)) w:=
 sy underlying207 (by kernel_rfl) (by kernel_rfl) (by rw[jJ];cases a;cases b;simp[eqv,nth,aF.cells]) w
theorem OA(a b:fB)(w:World):(Op.equal 226 (fB.enc a) (fB.enc b)).run prog w=.ok (decide (a=b)) w:=
 sy O3 (by kernel_rfl) (by kernel_rfl) (by rw[jJ];cases a;cases b;simp[eqv,nth,fB.cells]) w
theorem Aw:zq prog 226 fB.enc:=Av O3 (λe a w=>uQ e O3 (by kernel_rfl) w) OA (λa=>by
 show Instr.sameBits (9999+1) _ _=true
 simp[Instr.sameBits,fB.enc,fB.cells])
theorem QF(a b:OSeat)(w:World):(Op.equal 252 (jT a) (jT b)).run prog w=.ok (decide (a=b)) w:=
 sy LX (by kernel_rfl) (by kernel_rfl) (by rw[jJ];cases a;cases b;simp[eqv,nth,kE]) w
theorem yr:zq prog 252 jT:=Av LX (λe a w=>uQ e LX (by kernel_rfl) w) QF (λa=>by
 show Instr.sameBits (9999+1) _ _=true
 simp[Instr.sameBits,jT,kE])
theorem Lr(a b:dX)(w:World):(Op.equal 301 (dX.enc a) (dX.enc b)).run prog w=.ok (decide (a=b)) w:=
 sy O2 (by kernel_rfl) (by kernel_rfl) (by rw[jJ];cases a;cases b;simp[eqv,nth,dX.cells]) w
theorem wO:zq prog 301 dX.enc:=Av O2 (λe a w=>uQ e O2 (by kernel_rfl) w) Lr (λa=>by
 show Instr.sameBits (9999+1) _ _=true
 simp[Instr.sameBits,dX.enc,dX.cells])
theorem Lu(a b:fC)(w:World):(Op.equal 362 (fC.enc a) (fC.enc b)).run prog w=.ok (decide (a=b)) w:=
 sy underlying362 (by kernel_rfl) (by kernel_rfl) (by rw[jJ];cases a;cases b;simp[eqv,nth,fC.cells]) w
theorem oq:zq prog 362 fC.enc:=Av underlying362 (λe a w=>uQ e underlying362 (by kernel_rfl) w) Lu (λa=>by
 show Instr.sameBits (9999+1) _ _=true
 simp[Instr.sameBits,fC.enc,fC.cells])
theorem Ls(a b:ec)(w:World):(Op.equal 367 (ec.enc a) (ec.enc b)).run prog w=.ok (decide (a=b)) w:=
 sy O1 (by kernel_rfl) (by kernel_rfl) (by rw[jJ];cases a;cases b;simp[eqv,nth,ec.cells]) w
theorem wQ:zq prog 367 ec.enc:=Av O1 (λe a w=>uQ e O1 (by kernel_rfl) w) Ls (λa=>by
 show Instr.sameBits (9999+1) _ _=true
 simp[Instr.sameBits,ec.enc,ec.cells])
def tabF:List (Nat×Nat×Nat):=(347,0,0)::(257,0,0)::(257,1,1)::(207,0,0)::(207,3,3)::(207,4,4)::(207,5,5)::(268,1,1)::(215,0,0)::(215,1,2)::(215,2,3)::(215,3,4)::(215,4,5)::(212,0,0)::(212,1,1)::(54,0,0)::(54,7,7)::(54,8,8)::(40,0,0)::(40,1,1)::(40,2,2)::(40,3,3)::(98,0,0)::(98,1,1)::(30,3,3)::(30,4,4)::(30,5,5)::(96,0,0)::(96,1,7)::(96,2,48)::(96,3,49)::(54,1,1)::(54,2,2)::(54,3,3)::(79,0,0)::(79,1,1)::(79,2,2)::(79,3,3)::(79,4,4)::(67,0,0)::(67,1,1)::(67,2,2)::(67,3,3)::(67,4,4)::(67,5,5)::(67,6,6)::(120,6,6)::(120,0,0)::(120,1,1)::(120,2,2)::(120,3,3)::(120,4,4)::(120,5,5)::(204,0,0)::(204,1,1)::(204,2,2)::(204,4,4)::(204,5,5)::(204,6,6)::(204,7,7)::(204,9,9)::(204,3,3)::(204,8,8)::(207,1,1)::(207,2,2)::(73,7,7)::(73,0,0)::(73,1,1)::(73,2,2)::(73,3,3)::(73,4,4)::(73,5,5)::(73,6,6)::(59,4,4)::(61,3,3)::(65,3,3)::(61,4,4)::(61,2,2)::(61,1,1)::(320,1,5)::(59,0,0)::(61,0,0)::(320,0,0)::(59,3,3)::(59,1,1)::(61,5,9)::(65,0,0)::(65,2,2)::(59,2,2)::(65,1,1)::(63,0,0)::(63,1,1)::(63,2,2)::(63,3,3)::(54,4,4)::(54,5,5)::(54,6,6)::(30,0,0)::(30,1,1)::(30,2,2)::(30,6,6)::(223,0,0)::(223,1,1)::(223,2,2)::(223,3,3)::(223,4,4)::(67,7,7)::(325,0,0)::(325,1,1)::(325,2,2)::(325,3,3)::(325,4,4)::(207,6,6)::(252,1,1)::(252,0,0)::(268,0,0)::(275,1,1)::(275,2,2)::(275,0,0)::(45,0,0)::(45,1,1)::[]
def tabY:List Nat:=221::264::249::31::306::3::36::255::254::258::24::4::26::279::150::105::136::43::33::25::32::77::134::35::140::190::354::57::56::55::9::237::22::23::27::28::358::365::205::299::191::345::311::102::[]
def tabS:List Nat:=22::23::24::25::26::27::28::31::32::35::55::56::57::101::134::136::140::148::190::191::272::306::[]
theorem tabs:tabOk prog tabF tabY tabS=true:=kr
theorem qK(m:Nat)(is:List Nat){F:List Frame->(Machine->Prop)->Prop}{L:LH}(hr:runL tabF tabY tabS n L m is (.tt k e)=some (s,q))(t:s.holds prog b n F ds X h L)(hq:T0 q:=by repeat (first|exact trivial|refine⟨rfl,?_⟩)):TT prog b n k F e ds X h L:=uf tabs m is _ hr hq t
theorem qL(m:Nat)(is:List Nat){F:List Frame->(Machine->Prop)->Prop}{L:LH}(hr:runL tabF tabY tabS n L m is (.to ops l k e)=some (s,q))(t:s.holds prog b n F ds X h L)(hq:T0 q:=by repeat (first|exact trivial|refine⟨rfl,?_⟩)):TO prog b n ops l k F e ds X h L:=uf tabs m is _ hr hq t
theorem tabsF:(tabF.all λx=>fldOf prog x.1 x.2.1==some x.2.2)=true:=kr
theorem qB(is:List Nat){h1:HF}{K:LH}{F:List Frame->(Machine->Prop)->Prop}{L:LH}(hr:runB tabF l is m dn e=some (m',dn',e'))(t:TA prog b n l.toArray k F ds X (Jst h1 K) m' dn' e' h L)(hsep:sepAll l.toArray=true:=by assumption)(hJ:Jst h1 K h L:=by exact jn)(hn:allNext l is dn=true:=by kernel_rfl):TA prog b n l.toArray k F ds X (Jst h1 K) m dn e h L:=F6 tabsF hsep hJ is m dn e hr hn t
theorem qD(a c:Nat){h1:HF}{K:LH}{F:List Frame->(Machine->Prop)->Prop}{L:LH}(hr:runB tabF l (List.range' a c) m dn e=some (m',dn',e'))(t:TA prog b n l.toArray k F ds X (Jst h1 K) m' dn' e' h L)(hsep:sepAll l.toArray=true:=by assumption)(hJ:Jst h1 K h L:=by exact jn)(hn:allNext l (List.range' a c) dn=true:=by kernel_rfl):TA prog b n l.toArray k F ds X (Jst h1 K) m dn e h L:=F6 tabsF hsep hJ _ m dn e hr hn t
theorem mixed:prog.follows .mixedOrders=true:=kr
end
variable {K:List Nat}{ac:γ->List (Nat×Go.Value)}{ass:Array Operand}{ats:Array TypeId}{base:Option Addr}{cap ix:Nat}{gd:Bool}{h2:HF}{parts:Array (Nat×Operand)}{tS:List (Nat×Bool)}{xs:List α}
section
def lookN{β : Type}:List (Nat×β)->Nat->Option β
 |[],_=>none
 |(a,b)::l,t=>bif zW a t then some b else lookN l t
theorem tabq{β : Type}{f:Nat->Option β}:∀{tab:List (Nat×β)},tab.map (λx=>f x.1)=tab.map (λx=>some x.2)->∀{t:Nat}{v:β},lookN tab t=some v->f t=some v
 |[],_,t,v,h=>by cases h
 |(a,b)::l,hm,t,v,h=>by
  unfold lookN at h
  simp only[vH,List.cons.injEq]at hm
  cases hb:zW a t with
  |true=>rw[hb]at h;cases h;rw[←jL hb];exact hm.1
  |false=>rw[hb]at h;exact tabq hm.2 h
def sliceE(P:Program)(t:Nat):Option Nat:=match P.underlying t with
 |some (.slice E)=>some E
 |_=>none
theorem xd{t E:Nat}(h:sliceE P t=some E):P.underlying t=some (.slice E):=by
 unfold sliceE at h;split at h
 .cases h;assumption
 .cases h
def lenK(P:Program)(t:Nat):Option Bool:=match P.underlying t with
 |some (.slice _)=>some true
 |some .string=>some false
 |_=>none
theorem UJ{t:Nat}(h:lenK P t=some true):∃E,P.underlying t=some (.slice E):=by
 unfold lenK at h;split at h
 .exact⟨_,by assumption⟩
 .cases h
 .cases h
theorem Sc{t:Nat}(h:lenK P t=some false):P.underlying t=some .string:=by
 unfold lenK at h;split at h
 .cases h
 .assumption
 .cases h
def intK(P:Program)(t:Nat):Option IntKind:=match P.underlying t with
 |some (.int k)=>some k
 |_=>none
theorem PA{t:Nat}{k:IntKind}(h:intK P t=some k):P.underlying t=some (.int k):=by
 unfold intK at h;split at h
 .cases h;assumption
 .cases h
def valM(tF:List (Nat×Nat×Nat))(tS:List (Nat×Bool))(e:Env):Op->Option Value
 |.fieldAddr s x i=>match e.ev x,look3 tF s i with
  |.pointer (some a),some off=>some (.pointer (some (a.add off)))
  |_,_=>none
 |.call ⟨.builtin .len,⟨[x]⟩,⟨[t]⟩⟩=>match e.ev x,lookN tS t with
  |.slice _ m' _,some true=>some (.int .i64 (m':Int))
  |.string s,some false=>some (.int .i64 (s.size:Int))
  |_,_=>none
 |.nilCheck x=>match e.ev x with
  |.pointer (some a)=>some (.pointer (some a))
  |_=>none
 |op=>opQ e op
def isPick:Op->Bool
 |.pick _ _ _=>true
 |_=>false
def stepM(gd:Bool)(tF:List (Nat×Nat×Nat))(tS:List (Nat×Bool))(n:Nat):Qs->Option Qs
 |.tt (.code .skip::k) e=>some (.tt k e)
 |.tt (.code (.seq x y)::k) e=>some (.tt (.code x::.code y::k) e)
 |.tt (.code (.block id c)::k) e=>match c with
  |.loop _=>none
  |c=>some (.tt (.code c::.inBlock id::k) e)
 |.tt (.inBlock _::k) e=>some (.tt k e)
 |.tt (.code (.exit id)::k) e=>match exitTo id k with
  |some k'=>some (.tt k' e)
  |none=>none
 |.tt (.code (.region _ ⟨l⟩ false)::k) e=>some (.to ⟨l⟩ l k e)
 |.tt _ _=>none
 |.to _ [] k e=>some (.tt k e)
 |.to ops (⟨some d,op,ty,pos,af,g⟩::l) k e=>match zJ d n with
  |false=>none
  |true=>match gd||(g.isNone&&!isPick op)with
   |false=>none
   |true=>match guardB ops e ⟨some d,op,ty,pos,af,g⟩with
    |false=>some (.to ops l k (upd e d undef))
    |true=>match valM tF tS e op with
     |some v=>some (.to ops l k (upd e d v))
     |none=>none
 |.to _ _ _ _=>none
def runM(tF:List (Nat×Nat×Nat))(tS:List (Nat×Bool))(n:Nat):Nat->Qs->Qs
 |0,s=>s
 |m+1,s=>match stepM false tF tS n s with
  |some s'=>runM tF tS n m s'
  |none=>s
def goM(gd:Bool)(tF:List (Nat×Nat×Nat))(tS:List (Nat×Bool))(n:Nat)(m:Nat)(s:Qs):Option Qs:=match stepM gd tF tS n s with
 |some s'=>some (runM tF tS n m s')
 |none=>none
section
variable {P:Program} {b:Frame} {n:Nat} {F:List Frame->(Machine->Prop)->Prop} {ds:List Deferred} {X:Cx} {h:HF} {L:LH}
theorem Kx(hF:(tF.all λx=>fldOf P x.1 x.2.1==some x.2.2)=true)(hS:tS.map (λx=>lenK P x.1)=tS.map (λx=>some x.2))(hv:valM tF tS e op=some v):
  noDefer op=true/\∀(d:Option Nat)(ty:TypeId)(pos:String)(af:Array Edge)(g:Option (Nat×Bool))w,St X h L w->(execOp e.ev ⟨d,op,ty,pos,af,g⟩).run P w=.ok (.value v) w:=by
 unfold valM at hv
 split at hv
 .split at hv
  .next hx hl=>cases hv;exact⟨rfl,λ_ _ _ _ _ w hw=>yR (by simpa using(qQ.1 hF) _ (Bq hl)) hx w hw⟩
  .cases hv
 .split at hv
  .next hx hl=>cases hv;exact⟨rfl,λ_ _ _ _ _ w hw=>let ⟨_,hu⟩:=UJ (tabq hS hl);JW hu hx w hw⟩
  .next hx hl=>cases hv;exact⟨rfl,λ_ _ _ _ _ w hw=>N8 (Sc (tabq hS hl)) hx w hw⟩
  .cases hv
 .split at hv
  .next hx=>cases hv;exact⟨rfl,λ_ _ _ _ _ w hw=>gf hx w hw⟩
  .cases hv
 .exact⟨(Es (P:=P) hv).1,λ_ _ _ _ _ w _=>(Es hv).2 _ _ _ _ _ w⟩
theorem Mb(hF:(tF.all λx=>fldOf P x.1 x.2.1==some x.2.2)=true)(hS:tS.map (λx=>lenK P x.1)=tS.map (λx=>some x.2)){s':Qs}(hs:stepM gd tF tS n s=some s')(t:s'.holds P b n F ds X h L):s.holds P b n F ds X h L:=by
 unfold stepM at hs
 split at hs
 .cases hs;exact bO t
 .cases hs;exact el t
 .split at hs
  .cases hs
  .cases hs;exact mZ t
 .cases hs;exact fM t
 .split at hs
  .next hx=>cases hs;exact kw hx t
  .cases hs
 .cases hs;exact bM t
 .cases hs
 .cases hs;exact bp t
 .split at hs
  .cases hs
  .next hd=>
   split at hs
   .cases hs
   .split at hs
    .next hg=>cases hs;exact Hu t hd hg
    .next hg=>
     split at hs
     .next v hv=>cases hs;exact rN v (Kx (X:=X) (h:=h) (L:=L) hF hS hv).1 ((Kx hF hS hv).2 _ _ _ _ _) hd hg t
     .cases hs
 .cases hs
theorem Pf{tF:List (Nat×Nat×Nat)}{tS:List (Nat×Bool)}(hF:(tF.all λx=>fldOf P x.1 x.2.1==some x.2.2)=true)(hS:tS.map (λx=>lenK P x.1)=tS.map (λx=>some x.2)):∀(m:Nat)(s:Qs),(runM tF tS n m s).holds P b n F ds X h L->s.holds P b n F ds X h L
 |0,_,t=>t
 |m+1,s,t=>by
  unfold runM at t
  split at t
  .next hs=>exact Mb hF hS hs (Pf hF hS m _ t)
  .exact t
theorem HW(hF:(tF.all λx=>fldOf P x.1 x.2.1==some x.2.2)=true)(hS:tS.map (λx=>lenK P x.1)=tS.map (λx=>some x.2)){s':Qs}(hs:goM gd tF tS n m s=some s')(t:s'.holds P b n F ds X h L):s.holds P b n F ds X h L:=by
 unfold goM at hs
 split at hs
 .next h1=>cases hs;exact Mb hF hS h1 (Pf hF hS m _ t)
 .cases hs
end
def ldV(a:Bool)(m:Nat)(cl:List Value)(off:Nat):Option Value:=match a with
 |false=>nth cl off
 |true=>match cut cl off m with
  |some cs=>some (.agg cs.toArray)
  |none=>none
def chainE(s:Nat):List Oper->Nat×List Nat×Nat×List Oper
 |[]=>(0,[],0,[])
 |⟨some d,.pick (.tmp c) x y,_,_,_,_⟩::l=>bif zW c s then(1,[d],d,l)else match chainE s l with
  |(m,S,z,r)=>(m+1,d::S,z,r)
 |⟨some d,_,_,_,_,_⟩::l=>match chainE s l with
  |(m,S,z,r)=>(m+1,d::S,z,r)
 |⟨none,_,_,_,_,_⟩::l=>match chainE s l with
  |(m,S,z,r)=>(m+1,S,z,r)
def chainO(ops:Array Oper)(w:Bool):List Oper->Option (Nat×Nat×List Nat×Nat×List Oper)
 |⟨a,b,c,d,f,some (j,w')⟩::l=>bif w==w' then match(ops[j]?).bind (·.dst)with
  |some s=>match chainE s (⟨a,b,c,d,f,some (j,w')⟩::l)with
   |(m,S,z,r)=>some (s,m,s::S,z,r)
  |none=>none
  else none
 |_=>none
section
variable {P:Program} {b:Frame} {n:Nat} {k:List Item} {F:List Frame->(Machine->Prop)->Prop} {e:Env} {ds:List Deferred} {X:Cx} {h:HF} {L:LH}
theorem wor{r:List Oper}{s d:Nat}(y:Bool)(hc:chainO ops false l=some (s,m,S,d,r))(hx:e s=.bool x)(hr:l.drop m=r)(t':x=false->(∀e',e' d=.bool y->(ha:Agr S e e':=by repeat (first|exact rI|refine ur rfl ?_|refine us rfl ?_))->TO P b n ops r k F e' ds X h L)->TO P b n ops l k F (upd e s (.bool false)) ds X h L)(hk:∀e'',TO P b n ops r k F (upd (mix S e'' e) d (.bool (x||y))) ds X h L)(hq:∃e2,runQ n m (.to ops l k (upd e s (.bool true)))=some (.to ops (l.drop m) k e2)/\e2 d=.bool true/\Agr S e e2:=by exact⟨_,rfl,rfl,by repeat (first|exact rI|refine ur rfl ?_|refine us rfl ?_)⟩):TO P b n ops l k F e ds X h L:=by
 subst hr
 exact gz m S s d y hx t' hk hq
theorem wand{r:List Oper}{s d:Nat}(y:Bool)(hc:chainO ops true l=some (s,m,S,d,r))(hx:e s=.bool x)(hr:l.drop m=r)(t':x=true->(∀e',e' d=.bool y->(ha:Agr S e e':=by repeat (first|exact rI|refine ur rfl ?_|refine us rfl ?_))->TO P b n ops r k F e' ds X h L)->TO P b n ops l k F (upd e s (.bool true)) ds X h L)(hk:∀e'',TO P b n ops r k F (upd (mix S e'' e) d (.bool (x&&y))) ds X h L)(hq:∃e2,runQ n m (.to ops l k (upd e s (.bool false)))=some (.to ops (l.drop m) k e2)/\e2 d=.bool false/\Agr S e e2:=by exact⟨_,rfl,rfl,by repeat (first|exact rI|refine ur rfl ?_|refine us rfl ?_)⟩):TO P b n ops l k F e ds X h L:=by
 subst hr
 exact jO m S s d y hx t' hk hq
theorem wcond{x z:α}{c:Bool}{p q:Code}(hx:e.ev o=.bool c)(hs:x=bif c then y else z)(t1:c=true->x=y->TT P b n (.code p::k) F e ds X h L)(t2:c=false->x=z->TT P b n (.code q::k) F e ds X h L):TT P b n (.code (.cond o p q)::k) F e ds X h L:=aI hs hx t1 t2
end
theorem rdd(h:p:=by first|exact trivial|exact⟨rfl,trivial⟩|exact⟨rfl,rfl,trivial⟩|exact⟨rfl,rfl,rfl,trivial⟩|exact⟨rfl,rfl,rfl,rfl,trivial⟩|exact⟨rfl,rfl,rfl,rfl,rfl,trivial⟩|((repeat (first|exact trivial|refine⟨rfl,?_⟩|fail));all_goals fail)|fail):p:=h
section
variable {P:Program} {f:FuncId} {n:Nat} {k:List Item} {e:Env} {X:Cx} {h:HF} {L:LH} {fn:Func} {rs:List ResultVar} {φ : Value->HF->Prop}
theorem wrP(vs:List Value)(hf:P.funcs[f]? = some fn)(hr:fn.results=rs.toArray)(hv:tr P e L rs vs)(hX:X.h0=hh)(hvv:retVal vs=v):
  TT P (bodyFrame f) n (.code .ret::k) (mN P X (λx h' B=>x=.returned v/\h'=hh/\B=[])) e [] X h L:=vU vs hf hr hX hv hvv
theorem wrH(vs:List Value)(hf:P.funcs[f]? = some fn)(hr:fn.results=rs.toArray)(hv:tr P e L rs vs)(hφ : φ (retVal vs) h):
  TT P (bodyFrame f) n (.code .ret::k) (mN P X (λx h' B=>B=[]/\∃v,x=.returned v/\φ v h')) e [] X h L:=lJ vs hf hr hv hφ
theorem weX{pe:Int->Value}{f':ρ->Value}{z:Except Int ρ}{r:ρ}(hs:z=.ok r)(vs:List Value)(hf:P.funcs[f]? = some fn)(hr:fn.results=rs.toArray)(hX:X.h0=hh)(hv:tr P e L rs vs)(hvv:retVal vs=f' r):
  TT P (bodyFrame f) n [] (mN P X (XR (exW pe f' z) hh)) e [] X h L:=dR (Bg [] vs hf hr hX hv (by rw[hs,hvv];rfl))
end
theorem leA(h:p:=by first|exact HF.le_refl _|assumption|((repeat (first|exact HF.le_refl _|assumption|refine HF.le_trans ?_ (by assumption)|fail));all_goals fail)|fail):p:=h
theorem wcT{F:List Frame->(Machine->Prop)->Prop}{L:LH}{p q:Code}{c:Bool}(hx:e.ev o=.bool c)(hc:c=true)(t:TT P b n (.code p::k) F e ds X h L):TT P b n (.code (.cond o p q)::k) F e ds X h L:=mq (hx.trans (congrArg zV hc)) t
theorem wcF{F:List Frame->(Machine->Prop)->Prop}{L:LH}{p q:Code}{c:Bool}(hx:e.ev o=.bool c)(hc:c=false)(t:TT P b n (.code q::k) F e ds X h L):TT P b n (.code (.cond o p q)::k) F e ds X h L:=oe (hx.trans (congrArg zV hc)) t
theorem wsb{F:List Frame->(Machine->Prop)->Prop}{h00:HF}{L L':LH}(t:TT P b n k F e ds X h L')(hs:L'.Sublist L)(db:h.le h2)(hX:X.h0=h00)(h0:h00.le h):TT P b n k F e ds X h2 L:=S8 db hX h0 (cm hs t)
theorem wso{F:List Frame->(Machine->Prop)->Prop}{h00:HF}{L L':LH}(t:TO P b n ops l k F e ds X h L')(hs:L'.Sublist L)(db:h.le h2)(hX:X.h0=h00)(h0:h00.le h):TO P b n ops l k F e ds X h2 L:=sx db hX h0 (Um hs t)
theorem jsA{K L:LH}(hs:K.Sublist L:=by first|exact List.Sublist.refl _|((repeat (first|exact List.Sublist.refl _|exact List.nil_sublist _|exact List.sublist_append_left _ _|exact List.sublist_append_right _ _|refine List.Sublist.append_left ?_ _|refine List.Sublist.cons_cons _ ?_|refine List.Sublist.cons _ ?_|fail));all_goals fail)|fail):K.Sublist L:=hs
theorem rdw(h:p:=by first|((repeat (first|exact trivial|refine⟨rfl,?_⟩|refine⟨n0 ob,?_⟩|refine⟨lI ob,?_⟩|fail));all_goals fail)|fail):p:=h
def litC(e:Env):List (Nat×Operand)->List Value
 |[]=>[]
 |(_,x)::l=>vcells (e.ev x)++litC e l
theorem cNi:cY R h [] []:=rfl
theorem cCo{cs rest:List Value}{x:α}(hr:R.rep h cs x)(hl:cs.length=R.sz)(ht:cY R h rest xs):cY R h (cs++rest) (x::xs):=⟨cs,rest,rfl,hl,hr,ht⟩
theorem slL{h':HF}{bk T:Nat}{fz:Nat×Nat}{cl:List Value}(hb:h bk=some (.cells cl.toArray T fz))(hl:h.le h')(hc:cY R h' cl xs)(db:xs.length<=9223372036854775807:=by simp)(hcap:xs.length<=cap:=by simp):SlC R h' (some ⟨bk,0,none⟩) cap xs:=cY.slB0 hc (hl _ _ hb) db hcap
def litB(pl:List (Nat×Nat))(e:Env):List (Nat×Operand)->List Value->List Value
 |[],zs=>zs
 |(i,x)::l,zs=>match nth pl i with
  |some (off,_)=>litB pl e l (splice zs off (vcells (e.ev x)))
  |none=>litB pl e l zs
def plcs(P:Program)(t:Nat):Option (List (Nat×Nat)):=match P.underlying t with
 |some (.struct fs)=>fs.toList.mapM λf=>(P.info? f.type).map λi=>(f.offset,i.size)
 |_=>none
theorem Kb{α β : Type}{f:α->Option β}:∀{l:List α}{r:List β},l.mapM f=some r->l.map f=r.map some
 |[],r,h=>by simp at h;subst h;rfl
 |a::l,r,h=>by
  simp only[List.mapM_cons,Option.bind_eq_bind,Option.bind_eq_some_iff]at h
  obtain⟨b,hb,t,ht,hr⟩:=h
  cases hr
  rw[vH,hb,Kb ht];rfl
theorem Tt{t:Nat}{pl:List (Nat×Nat)}(h:plcs P t=some pl):∃fs,P.underlying t=some (.struct fs)/\fs.toList.map (λf=>(P.info? f.type).map λi=>(f.offset,i.size))=pl.map some:=by
 unfold plcs at h;split at h
 .exact⟨_,by assumption,Kb h⟩
 .cases h
def kp(e:Env):List Nat->List (Nat×Value)
 |[]=>[]
 |s::K=>(s,e s)::kp e K
theorem Al{e:Env}:∀{K:List Nat}{r:List (Nat×Value)},iu e r->iu e (kp e K++r)
 |[],_,h=>h
 |_::_,_,h=>⟨rfl,Al h⟩
def H0{α ρ : Type}(K:List Nat)(ix:Nat)(Lf:List α->Nat->ρ):Prop:=True
theorem h0(K:List Nat)(ix:Nat)(Lf:List α->Nat->ρ):H0 K ix Lf:=trivial
def H1{α ρ γ : Type}(K:List Nat)(ix:Nat)(ac:γ->List (Nat×Value))(Lf:List α->Nat->γ->ρ):Prop:=True
theorem h1(K:List Nat)(ix:Nat)(ac:γ->List (Nat×Value))(Lf:List α->Nat->γ->ρ):H1 K ix ac Lf:=trivial
theorem hs0{Lf:List α->Nat->ρ}(H:H0 K ix Lf)(hs:x0=Lf xs 0):H0 K ix Lf/\x0=Lf xs 0:=⟨H,hs⟩
theorem hs1{Lf:List α->Nat->γ->ρ}(g0:γ)(H:H1 K ix ac Lf)(hs:x0=Lf xs 0 g0):H1 K ix ac Lf/\x0=Lf xs 0 g0:=⟨H,hs⟩
section
variable {P:Program} {b:Frame} {n:Nat} {k:List Item} {F:List Frame->(Machine->Prop)->Prop} {e:Env} {ds:List Deferred} {X:Cx} {h:HF} {L:LH}
theorem lpk0{Lf:List α->Nat->ρ}(H:H0 K ix Lf/\x0=Lf xs 0)(hb:xs.length<=9223372036854775807)(hi0:e ix=.int .i64 ((0:Nat):Int))(after:∀i,i<=xs.length->x0=Lf [] i->∀e',TT P b n k F (upds e' (kp e K++[(ix,.int .i64 (i:Int))])) ds X h L)(cons:∀i y r,xs.drop i=y::r->decide ((i:Int)<(xs.length:Int))=true->xs[i]? = some y->i<xs.length->xs.length<=9223372036854775807->x0=Lf (y::r) i ->
   (∀i' {e'},x0=Lf [] i'->(hi:i'<=xs.length:=by omega)->(hr:iu e' (kp e K++[(ix,.int .i64 (i':Int))]):=by exact rds)->TT P b n k F e' ds X h L) ->
   (∀{e'},x0=Lf r (i+1)->(hr:iu e' (kp e K++[(ix,.int .i64 ((i+1:Nat):Int))]):=by exact rds)->TT P b n (.inLoop c::.inBlock id::k) F e' ds X h L) ->
   ∀e',TT P b n (.code c::.inLoop c::.inBlock id::k) F (upds e' (kp e K++[(ix,.int .i64 (i:Int))])) ds X h L)(nil:∀i,xs.drop i=[]->decide ((i:Int)<(xs.length:Int))=false->(∀e',iu e' (kp e K++[(ix,.int .i64 (i:Int))])->TT P b n k F e' ds X h L) ->
   ∀e',TT P b n (.code c::.inLoop c::.inBlock id::k) F (upds e' (kp e K++[(ix,.int .i64 (i:Int))])) ds X h L:=by exact ndW):
  TT P b n (.code (.block id (.loop c))::k) F e ds X h L:=
 lp0 xs (λi=>kp e K++[(ix,.int .i64 (i:Int))]) L Lf hb H.2 after cons nil (Al ⟨hi0,trivial⟩) (λ_ hw=>hw)
theorem lpk1{Lf:List α->Nat->γ->ρ}{g0:γ}(H:H1 K ix ac Lf/\x0=Lf xs 0 g0)(hb:xs.length<=9223372036854775807)(hi0:iu e ((ix,.int .i64 ((0:Nat):Int))::ac g0))(after:∀i g,i<=xs.length->x0=Lf [] i g->∀e',TT P b n k F (upds e' (kp e K++((ix,.int .i64 (i:Int))::ac g))) ds X h L)(cons:∀i g y r,xs.drop i=y::r->decide ((i:Int)<(xs.length:Int))=true->xs[i]? = some y->i<xs.length->xs.length<=9223372036854775807->x0=Lf (y::r) i g ->
   (∀i' g' {e'},x0=Lf [] i' g'->(hi:i'<=xs.length:=by omega)->(hr:iu e' (kp e K++((ix,.int .i64 (i':Int))::ac g')):=by exact rds)->TT P b n k F e' ds X h L) ->
   (∀g' {e'},x0=Lf r (i+1) g'->(hr:iu e' (kp e K++((ix,.int .i64 ((i+1:Nat):Int))::ac g')):=by exact rds)->TT P b n (.inLoop c::.inBlock id::k) F e' ds X h L) ->
   ∀e',TT P b n (.code c::.inLoop c::.inBlock id::k) F (upds e' (kp e K++((ix,.int .i64 (i:Int))::ac g))) ds X h L)(nil:∀i g,xs.drop i=[]->decide ((i:Int)<(xs.length:Int))=false->(∀e',iu e' (kp e K++((ix,.int .i64 (i:Int))::ac g))->TT P b n k F e' ds X h L) ->
   ∀e',TT P b n (.code c::.inLoop c::.inBlock id::k) F (upds e' (kp e K++((ix,.int .i64 (i:Int))::ac g))) ds X h L:=by exact ndW):
  TT P b n (.code (.block id (.loop c))::k) F e ds X h L:=
 lp1 xs (λi g=>kp e K++((ix,.int .i64 (i:Int))::ac g)) L Lf g0 hb H.2 after cons nil (Al hi0) (λ_ hw=>hw)
end
section
variable {P:Program} {b:Frame} {n:Nat} {k:List Item} {F:List Frame->(Machine->Prop)->Prop} {e:Env} {ds:List Deferred} {X:Cx} {h:HF} {L:LH}
theorem lpn0{N:Nat}{Lf:List Nat->Nat->ρ}(H:H0 K ix Lf/\x0=Lf (qE N) 0)(hb:N<=9223372036854775807)(hi0:e ix=.int .i64 ((0:Nat):Int))(after:∀i,i<=N->x0=Lf [] i->∀e',TT P b n k F (upds e' (kp e K++[(ix,.int .i64 (i:Int))])) ds X h L)(cons:∀i r,(List.range N).drop i=i::r->decide ((i:Int)<(N:Int))=true->i<N->x0=Lf (i::r) i ->
   (∀i' {e'},x0=Lf [] i'->(hi:i'<=N:=by omega)->(hr:iu e' (kp e K++[(ix,.int .i64 (i':Int))]):=by exact rds)->TT P b n k F e' ds X h L) ->
   (∀{e'},x0=Lf r (i+1)->(hr:iu e' (kp e K++[(ix,.int .i64 ((i+1:Nat):Int))]):=by exact rds)->TT P b n (.inLoop c::.inBlock id::k) F e' ds X h L) ->
   ∀e',TT P b n (.code c::.inLoop c::.inBlock id::k) F (upds e' (kp e K++[(ix,.int .i64 (i:Int))])) ds X h L)(nil:∀i,i=N->decide ((i:Int)<(N:Int))=false->(∀e',iu e' (kp e K++[(ix,.int .i64 (i:Int))])->TT P b n k F e' ds X h L) ->
   ∀e',TT P b n (.code c::.inLoop c::.inBlock id::k) F (upds e' (kp e K++[(ix,.int .i64 (i:Int))])) ds X h L:=by exact ndW):
  TT P b n (.code (.block id (.loop c))::k) F e ds X h L:=by
 have hl:(qE N).length=N:=List.length_range
 refine gx (ι:=Nat) (λi=>kp e K++[(ix,.int .i64 (i:Int))]) (λ_=>h) (λ_=>L) (λi=>i<=N/\x0=Lf [] i) ?_ (λhx=>?_)
 .rintro i ⟨h1,h2⟩ e'
  exact after i h1 h2 e'
 .refine jw (ι:=Nat×List Nat) (λi=>kp e K++[(ix,.int .i64 (i.1:Int))]) (λ_=>h) (λ_=>L) (λi=>(qE N).drop i.1=i.2/\i.1<=N/\x0=Lf i.2 i.1) (λi=>i.2.length) (0,qE N) (Al ⟨hi0,trivial⟩) (λ_ hw=>hw) ⟨rfl,xH _,H.2⟩ ?_
  rintro⟨i,s⟩ ⟨hd,hi,hs⟩ ag e'
  dsimp only at hd hi hs
  rcases s with _|⟨y,r⟩
  .have h1:N<=i:=by have:=List.drop_eq_nil_iff.1 hd;omega
   exact nil i (by omega) (by simp;omega) (λe'' hr=>hx i e'' ⟨hi,hs⟩ hr) e'
  .have h1:=il hd
   rw[hl]at h1
   have h2:=sn hd
   have h3:y=i:=by simp[h1]at h2;omega
   subst h3
   exact cons y r hd (by simp;omega) h1 hs (λi' e'' a c d=>hx i' e'' ⟨c,a⟩ d) (λ{e''}a hr=>ag (y+1,r) e'' (Nat.lt_succ_self _) ⟨ll hd,h1,a⟩ hr) e'
end
class RpG{α : Type}(R:Rp α):Prop where
 good:R.Good
instance:RpG Rp.int:=⟨Rp.jz⟩
instance:RpG Rp.bool:=⟨Rp.EP⟩
instance:RpG Rp.str:=⟨Rp.RB⟩
instance {α : Type} {R:Rp α} [i:RpG R]:RpG (Rp.sl R):=⟨Rp.KH i.good.mono⟩
theorem mnG[i:RpG R]:R.Mono:=i.good.mono
theorem grm[i:RpG R]{h':HF}(g:cN R E h xs base cap G)(hl:h.le h'):cN R E h' xs base cap G:=g.mono i.good.mono hl
section
variable {α : Type} {G Q A B L:List α} {x:α}
theorem pm0:(Q++G).Perm (Q++G):=List.Perm.refl _
theorem pmg:G.Perm ([]++G):=List.Perm.refl _
theorem pmn:L.Perm (L++[]):=by rw[List.append_nil]
theorem pmc(p:L.Perm (Q++G)):(x::L).Perm ((x::Q)++G):=List.Perm.cons x p
theorem pma(p:B.Perm (Q++G)):(A++B).Perm ((A++Q)++G):=by rw[vD];exact List.Perm.append_left A p
theorem pmb(p:A.Perm (Q++G)):(A++B).Perm ((Q++B)++G):=(List.Perm.append_right B p).trans (by rw[vD,vD];exact List.Perm.append_left Q xG)
theorem pm1{z:α}(p:L.Perm (Q++[])):(z::L).Perm (Q++[z]):=(List.Perm.cons z (by simpa using p)).trans (xG (l₁:=[z]))
end
theorem pmA{L M:List α}(p:L.Perm M:=by first|exact pmn|exact pm0|exact pmg|exact pmc pm0|exact pmc pmg|exact pma pm0|exact pma pmg|exact pmb pm0|exact pmb pmg|exact pmc (pmc pm0)|exact pmc (pmc pmg)|exact pmc (pma pm0)|exact pmc (pma pmg)|exact pmc (pmb pm0)|exact pmc (pmb pmg)|exact pma (pmc pm0)|exact pma (pmc pmg)|exact pma (pma pm0)|exact pma (pma pmg)|exact pma (pmb pm0)|exact pma (pmb pmg)|exact pmc (pmc (pmc pm0))|exact pmc (pmc (pmc pmg))|exact pmc (pmc (pma pm0))|exact pmc (pmc (pma pmg))|exact pmc (pmc (pmb pm0))|exact pmc (pmc (pmb pmg))|exact pmc (pma (pmc pm0))|exact pmc (pma (pmc pmg))|exact pmc (pma (pma pm0))|exact pmc (pma (pma pmg))|exact pmc (pma (pmb pm0))|exact pmc (pma (pmb pmg))|exact pmc (pmc (pmc (pmc pm0)))|exact pmc (pmc (pmc (pmc pmg)))|exact pmc (pmc (pmc (pma pm0)))|exact pmc (pmc (pmc (pma pmg)))|exact pmc (pmc (pmc (pmb pm0)))|exact pmc (pmc (pmc (pmb pmg)))|exact pmc (pmc (pma (pmc pm0)))|exact pmc (pmc (pma (pmc pmg)))|exact pmc (pmc (pma (pma pm0)))|exact pmc (pmc (pma (pma pmg)))|exact pmc (pmc (pma (pmb pm0)))|exact pmc (pmc (pma (pmb pmg)))|exact pm1 pmn|exact pmc (pm1 pmn)|fail):L.Perm M:=p
def HG{α β ρ : Type}(K:List Nat)(ix sl:Nat)(R:Rp β)(E:Nat)(Lf:List α->Nat->List β->ρ):Prop:=True
theorem hsG{β:Type}{sl:Nat}{R:Rp β}{E:Nat}{Lf:List α->Nat->List β->ρ}{g0:List β}(H:HG K ix sl R E Lf)(hs:x0=Lf xs 0 g0):HG K ix sl R E Lf/\x0=Lf xs 0 g0:=⟨H,hs⟩
theorem hG{β:Type}(K:List Nat)(ix sl:Nat)(R:Rp β)(E:Nat)(Lf:List α->Nat->List β->ρ):HG K ix sl R E Lf:=trivial
section
variable {P:Program} {b:Frame} {n:Nat} {k:List Item} {F:List Frame->(Machine->Prop)->Prop} {e:Env} {ds:List Deferred} {X:Cx} {h:HF} {L:LH}
theorem lpkG{β:Type}{sl:Nat}{R:Rp β}{E:Nat}{Lf:List α->Nat->List β->ρ}{g0:List β}{G0 Q:LH}(H:HG K ix sl R E Lf/\x0=Lf xs 0 g0)(hb:xs.length<=9223372036854775807)(hi0:iu e [(ix,.int .i64 ((0:Nat):Int)),(sl,.slice base g0.length cap)])(hG:cN R E h g0 base cap G0)(hp:L.Perm (Q++G0))(after:∀i l bs cp G hh,i<=xs.length->x0=Lf [] i l->h.le hh->cN R E hh l bs cp G->l.length<=g0.length+i->∀e',TT P b n k F (upds e' (kp e K++[(ix,.int .i64 (i:Int)),(sl,.slice bs l.length cp)])) ds X hh (Q++G))(cons:∀i l bs cp G hh y r,xs.drop i=y::r->decide ((i:Int)<(xs.length:Int))=true->xs[i]? = some y->i<xs.length->xs.length<=9223372036854775807->x0=Lf (y::r) i l->h.le hh->cN R E hh l bs cp G->l.length<=g0.length+i ->
   (∀i' {l' bs' cp' G' hh' e'},x0=Lf [] i' l'->cN R E hh' l' bs' cp' G'->h.le hh'->l'.length<=g0.length+i'->(hi:i'<=xs.length:=by omega)->(hr:iu e' (kp e K++[(ix,.int .i64 (i':Int)),(sl,.slice bs' l'.length cp')]):=by exact rds)->TT P b n k F e' ds X hh' (Q++G')) ->
   (∀{l' bs' cp' G' hh' e'},x0=Lf r (i+1) l'->cN R E hh' l' bs' cp' G'->h.le hh'->l'.length<=g0.length+(i+1)->(hr:iu e' (kp e K++[(ix,.int .i64 ((i+1:Nat):Int)),(sl,.slice bs' l'.length cp')]):=by exact rds)->TT P b n (.inLoop c::.inBlock id::k) F e' ds X hh' (Q++G')) ->
   ∀e',TT P b n (.code c::.inLoop c::.inBlock id::k) F (upds e' (kp e K++[(ix,.int .i64 (i:Int)),(sl,.slice bs l.length cp)])) ds X hh (Q++G))(nil:∀i(g:List β×Option Addr×Nat×LH×HF),xs.drop i=[]->decide ((i:Int)<(xs.length:Int))=false->(∀e',iu e' (kp e K++[(ix,.int .i64 (i:Int)),(sl,.slice g.2.1 g.1.length g.2.2.1)])->TT P b n k F e' ds X g.2.2.2.2 (Q++g.2.2.2.1)) ->
   ∀e',TT P b n (.code c::.inLoop c::.inBlock id::k) F (upds e' (kp e K++[(ix,.int .i64 (i:Int)),(sl,.slice g.2.1 g.1.length g.2.2.1)])) ds X g.2.2.2.2 (Q++g.2.2.2.1):=by exact ndW):
  TT P b n (.code (.block id (.loop c))::k) F e ds X h L:=by
 refine mY hp (lp2 (γ:=List β×Option Addr×Nat×LH×HF) xs (λi g=>kp e K++[(ix,.int .i64 (i:Int)),(sl,.slice g.2.1 g.1.length g.2.2.1)]) (λg=>g.2.2.2.2) (λg=>Q++g.2.2.2.1)
  (λi g=>h.le g.2.2.2.2/\cN R E g.2.2.2.2 g.1 g.2.1 g.2.2.1 g.2.2.2.1/\g.1.length<=g0.length+i) (λs i g=>Lf s i g.1) (g0,base,cap,G0,h) hb H.2 ⟨kH _,hG,Nat.le_add_right _ _⟩ ?_ ?_ nil (Al hi0) (λ_ hw=>hw))
 .rintro i ⟨l,bs,cp,G,hh⟩ h1 h2 ⟨h3,h4,h5⟩ e'
  exact after i l bs cp G hh h1 h2 h3 h4 h5 e'
 .rintro i ⟨l,bs,cp,G,hh⟩ y r a1 a2 a3 a4 a5 a6 ⟨h3,h4,h5⟩ hx ag e'
  exact cons i l bs cp G hh y r a1 a2 a3 a4 a5 a6 h3 h4 h5 (λi' {l' bs' cp' G' hh' _}q1 q2 q3 q4 q5 q6=>hx i' (l',bs',cp',G',hh') q1 ⟨q3,q2,q4⟩ q5 q6) (λ{l' bs' cp' G' hh' _}q1 q2 q3 q4 q5=>ag (l',bs',cp',G',hh') q1 ⟨q3,q2,q4⟩ q5) e'
theorem wfg[i:RpG R]{Q:LH}{todo:List Item}(hG:cN R E h xs base cap G)(hp:L.Perm (Q++G))(hM:X.M=[])(t:∀h2,h.le h2->SlC R h2 base cap xs->TT P b n todo F e ds X h2 Q):TT P b n todo F e ds X h L:=
 mY (hp.trans xG) (fF i.good.mono [] G Q rfl hM hG t)
theorem wfgo[i:RpG R]{Q:LH}(hG:cN R E h xs base cap G)(hp:L.Perm (Q++G))(hM:X.M=[])(t:∀h2,h.le h2->SlC R h2 base cap xs->TO P b n ops l k F e ds X h2 Q):TO P b n ops l k F e ds X h L:=
 qI (hp.trans xG) (pR i.good.mono [] G Q rfl hM hG t)
end
section
variable {P:Program} {b:Frame} {n:Nat} {k:List Item} {F:List Frame->(Machine->Prop)->Prop} {e:Env} {ds:List Deferred} {X:Cx} {h:HF} {L:LH} {ops:Array Oper} {l:List Oper} {d:Option Nat} {ty t:TypeId} {pos:String} {af:Array Edge} {g:Option (Nat×Bool)} {x y:Operand}
theorem gO(t:TO P b n ops l k F e ds X h L):TO P b n ops l k F e ds X h L:=t
theorem gT(t:TT P b n k F e ds X h L):TT P b n k F e ds X h L:=t
theorem gLd(t':TO P b n ops (⟨d,.load t x,ty,pos,af,g⟩::l) k F e ds X h L):TO P b n ops (⟨d,.load t x,ty,pos,af,g⟩::l) k F e ds X h L:=t'
theorem gSt(t':TO P b n ops (⟨d,.store t x y,ty,pos,af,g⟩::l) k F e ds X h L):TO P b n ops (⟨d,.store t x y,ty,pos,af,g⟩::l) k F e ds X h L:=t'
theorem gBx(t':TO P b n ops (⟨d,.box t x,ty,pos,af,g⟩::l) k F e ds X h L):TO P b n ops (⟨d,.box t x,ty,pos,af,g⟩::l) k F e ds X h L:=t'
theorem gAl(t':TO P b n ops (⟨d,.alloc t,ty,pos,af,g⟩::l) k F e ds X h L):TO P b n ops (⟨d,.alloc t,ty,pos,af,g⟩::l) k F e ds X h L:=t'
theorem gCf(t':TO P b n ops (⟨d,.call ⟨.value (.func f),ass,ats⟩,ty,pos,af,g⟩::l) k F e ds X h L):TO P b n ops (⟨d,.call ⟨.value (.func f),ass,ats⟩,ty,pos,af,g⟩::l) k F e ds X h L:=t'
theorem gBi{op:BinOp}{u:TypeId}(t':TO P b n ops (⟨d,.binOp op t x y u,ty,pos,af,g⟩::l) k F e ds X h L):TO P b n ops (⟨d,.binOp op t x y u,ty,pos,af,g⟩::l) k F e ds X h L:=t'
theorem gCv{u:TypeId}(t':TO P b n ops (⟨d,.convert t u x,ty,pos,af,g⟩::l) k F e ds X h L):TO P b n ops (⟨d,.convert t u x,ty,pos,af,g⟩::l) k F e ds X h L:=t'
theorem gBd(t':TO P b n ops (⟨d,.build t parts,ty,pos,af,g⟩::l) k F e ds X h L):TO P b n ops (⟨d,.build t parts,ty,pos,af,g⟩::l) k F e ds X h L:=t'
theorem gBs{len:Nat}(t':TO P b n ops (⟨d,.buildSlice t len parts,ty,pos,af,g⟩::l) k F e ds X h L):TO P b n ops (⟨d,.buildSlice t len parts,ty,pos,af,g⟩::l) k F e ds X h L:=t'
theorem gCt{q:Nat}(t':TO P b n ops (⟨d,.call ⟨.value (.tmp q),ass,ats⟩,ty,pos,af,g⟩::l) k F e ds X h L):TO P b n ops (⟨d,.call ⟨.value (.tmp q),ass,ats⟩,ty,pos,af,g⟩::l) k F e ds X h L:=t'
theorem gMf{fn:Fn}{fi ca:Array Operand}(t':TO P b n ops (⟨d,.makeFunc fn fi ca,ty,pos,af,g⟩::l) k F e ds X h L):TO P b n ops (⟨d,.makeFunc fn fi ca,ty,pos,af,g⟩::l) k F e ds X h L:=t'
theorem gAp{q:TypeId}(t':TO P b n ops (⟨d,.call ⟨.builtin .append,#[x,y],#[t,q]⟩,ty,pos,af,g⟩::l) k F e ds X h L):TO P b n ops (⟨d,.call ⟨.builtin .append,#[x,y],#[t,q]⟩,ty,pos,af,g⟩::l) k F e ds X h L:=t'
theorem gSx(t':TO P b n ops (⟨d,.index t x y,ty,pos,af,g⟩::l) k F e ds X h L):TO P b n ops (⟨d,.index t x y,ty,pos,af,g⟩::l) k F e ds X h L:=t'
theorem gIx(t':TO P b n ops (⟨d,.indexAddr t x y,ty,pos,af,g⟩::l) k F e ds X h L):TO P b n ops (⟨d,.indexAddr t x y,ty,pos,af,g⟩::l) k F e ds X h L:=t'
theorem gGu{q:Nat×Bool}(t':TO P b n ops (⟨d,op,ty,pos,af,some q⟩::l) k F e ds X h L):TO P b n ops (⟨d,op,ty,pos,af,some q⟩::l) k F e ds X h L:=t'
theorem gOr{z:Nat×Nat×List Nat×Nat×List Oper}(w:Bool)(hc:chainO ops w l=some z)(t':TO P b n ops l k F e ds X h L):TO P b n ops l k F e ds X h L:=t'
theorem gPk{z:Operand}(t':TO P b n ops (⟨d,.pick x y z,ty,pos,af,g⟩::l) k F e ds X h L):TO P b n ops (⟨d,.pick x y z,ty,pos,af,g⟩::l) k F e ds X h L:=t'
theorem gRe(t':TT P b n (.code .ret::k) F e ds X h L):TT P b n (.code .ret::k) F e ds X h L:=t'
theorem gNi(t':TT P b n [] F e ds X h L):TT P b n [] F e ds X h L:=t'
theorem gCo{p q:Code}(t':TT P b n (.code (.cond x p q)::k) F e ds X h L):TT P b n (.code (.cond x p q)::k) F e ds X h L:=t'
theorem gLo{p:Code}(t':TT P b n (.code (.block id (.loop p))::k) F e ds X h L):TT P b n (.code (.block id (.loop p))::k) F e ds X h L:=t'
theorem gIl{p:Code}(t':TT P b n (.inLoop p::k) F e ds X h L):TT P b n (.inLoop p::k) F e ds X h L:=t'
theorem gSl{q:Option Addr}{c:Nat}(a:SlC R h q c xs):SlC R h q c xs:=a
theorem gAt{q:Addr}{cs:List Value}(a:At h q cs):At h q cs:=a
theorem gIt{it:Value}{val:α->HF->List Value->Prop}(a:Itr P it val xs h):Itr P it val xs h:=a
theorem gAn{a b:Prop}(q:a/\b):a/\b:=q
end
end
end Go.Sg
