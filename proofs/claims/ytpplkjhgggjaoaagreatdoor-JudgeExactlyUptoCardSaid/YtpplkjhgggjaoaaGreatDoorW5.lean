import Derived.Test.YtpplkjhgggjaoaaGreatDoorW4
/- A part of the proof of JudgeExactly. -/
set_option linter.unusedVariables false
set_option linter.unusedSimpArgs false
set_option maxRecDepth 100000
open List renaming length_cons→zA,length_append→jA,mem_cons_of_mem→vA,not_mem_nil→kA,mem_cons_self→zB,length_nil→jB,mem_cons→kB,mem_singleton→kC,append_assoc→qE,mem_of_getElem?→xE,nil_append→jG,mem_append→qH,map_cons→xK,cons_append→jN,mem_map→jQ,getElem?_map→aAa,foldl_cons→aA1,map_nil→aCe
open Bool renaming and_eq_true→xB,or_eq_true→xD,not_eq_true'→zE,eq_iff_iff→qN
open Go.Sg.Expr renaming mk→qG,jf→aAe,lO→aBe,ind→aBh
open Nat renaming le_refl→xG,zero_le→jL,lt_or_ge→jP,le_trans→xS,eq_of_beq_eq_true→jV,beq→aBa
open Go.Sg.Policy renaming mk→xM
open Option.some renaming injEq→kQ,inj→vT
open Go.Sg.Interest renaming mk→aAv
open Go.Value renaming bool→aAB

namespace Go.Sg
theorem Dl{l:List Appoint}(hc:dg l=0){o t known:Int}(ho:0<=o/\o<32)(ht:0<=t/\t<1099511627776)(hk:0<=known/\known<1099511627776):(cW l o t known).2=0:=by
 have h1:∀x:Int,0<=x/\x<1099511627776->dv x=true:=λx hx=>by simp only[dv,dZ,xB,decide_eq_true_eq];omega
 have h2:fa o=true:=by simp only[fa,dZ,xB,decide_eq_true_eq];omega
 unfold cW
 rw[hc,h1 t ht,h1 known hk,h2]
 rfl
theorem wa(k:Int->Int)(hk:∀g,k g=0):∀(l:List Int)(g:Int),(∀x∈l,g<x/\x<=1048576)->l.Pairwise (·<·)->cV.L1 k l g=0
 |[],g,_,_=>hk g
 |y::l,g,h,hp=>by
  have h1:=h y (zB ..)
  have e:(decide (y<=g)||decide (1048576<y))=false:=by simp;omega
  simp only[cV.L1,e,cond_false]
  exact wa k hk l y (λx hx=>⟨(List.pairwise_cons.1 hp).1 x hx,(h x (vA _ hx)).2⟩) (List.pairwise_cons.1 hp).2
theorem Il{l:List Interest}(hc:cX l=0){p t known:Int}{ps:List Int}(hp:0<=p/\p<64)(hps:((∀x∈ps,0<=x/\x<1048577)/\ps.Pairwise (·<·))/\ps.length<=16)(ht:0<=t/\t<1099511627776)(hk:0<=known/\known<1099511627776):(fm l p ps t known).2.2=0:=by
 have e:cV l p ps t known=0:=by
  unfold cV
  rw[hc]
  refine wa _ (λg=>?_) ps (-1) (λx hx=>by have:=hps.1.1 x hx;omega) hps.1.2
  unfold cV.K1
  have h1:bJ p 64=true:=by simp[bJ,hp]
  have h2:bJ t 1099511627776=true:=by simp[bJ,ht]
  have h3:bJ known 1099511627776=true:=by simp[bJ,hk]
  have h4:decide (16<(ps.length:Int))=false:=by simp;omega
  rw[h1,h2,h3,h4];rfl
 unfold fm
 rw[e];rfl
theorem Cm{β : Type}(F:(Expr->β)->Expr->β)(go:Nat->Expr->β)(h:∀m,go (m+1)=F (go m))(hF:∀f g x,(∀y∈x.L,f y=g y)->F f x=F g x)(x:Expr):go x.dep x=F (λy=>go y.dep y) x:=by
 have key:∀x:Expr,∀m,x.dep<=m->go m x=go x.dep x:=by
  refine λx=>aBh (P:=λx=>∀m,x.dep<=m->go m x=go x.dep x) ?_ x
  intro x ih m hm
  have hp:=aBe x
  obtain⟨m',rfl⟩:∃m',m=m'+1:=⟨m-1,by omega⟩
  obtain⟨n,hn⟩:∃n,x.dep=n+1:=⟨x.dep-1,by omega⟩
  rw[hn,h,h]
  refine hF _ _ _ λy hy=>?_
  have:=aAe hy
  rw[ih y hy m' (by omega),ih y hy n (by omega)]
 have hp:=aBe x
 obtain⟨n,hn⟩:∃n,x.dep=n+1:=⟨x.dep-1,by omega⟩
 rw[hn,h]
 refine hF _ _ _ λy hy=>?_
 have:=aAe hy
 exact key y n (by omega)
theorem Pe(x:Expr):bu x=bu.F bu x:=by
 refine Cm bu.F bu.go (λm=>rfl) (λf g x h=>?_) x
 unfold bu.F
 have:∀(k:Int->Int)(l:List Expr)a,(∀y∈l,f y=g y)->bu.L1 f k l a=bu.L1 g k l a:=by
  intro k l
  induction l with
  |nil=>intros;rfl
  |cons y l ih=>intro a hl;simp only[bu.L1,hl y (zB ..)];exact ih _ λz hz=>hl z (vA _ hz)
 exact this _ _ _ h
theorem depthL(l:List Expr):∀(a:Int),a<=bu.L1 bu (λg=>g) l a/\(∀y∈l,bu y<=bu.L1 bu (λg=>g) l a)/\∀M:Int,a<=M->(∀y∈l,bu y<=M)->bu.L1 bu (λg=>g) l a<=M:=by
 induction l with
 |nil=>intro a;exact⟨Int.le_refl _,λ_ h=>(kA h).elim,λM h _=>h⟩
 |cons y l ih=>
  intro a
  obtain⟨i1,i2,i3⟩:=ih (max a (bu y))
  simp only[bu.L1]
  refine⟨by omega,λw hw=>?_,λM h1 h2=>i3 M (by have:=h2 y (zB ..);omega) λw hw=>h2 w (vA _ hw)⟩
  rcases kB.1 hw with rfl|hw
  .omega
  .exact i2 w hw
theorem depthK(l:List Expr):∀(a:Int),bu.L1 bu bu.K1 l a=IntKind.i64.wrap (bu.L1 bu (λg=>g) l a+1):=by
 induction l with
 |nil=>intro a;rfl
 |cons y l ih=>intro a;exact ih _
theorem JV(x:Expr):x.dep<=1500000->(1<=bu x/\bu x<=x.dep)/\bu x=bu.L1 bu (λg=>g) x.L 0+1:=by
 refine aBh (P:=λx=>x.dep<=1500000->(1<=bu x/\bu x<=x.dep)/\bu x=bu.L1 bu (λg=>g) x.L 0+1) ?_ x
 intro x ih hx
 obtain⟨i1,i2,i3⟩:=depthL x.L 0
 have hp:=aBe x
 have h3:=i3 ((x.dep:Int)-1) (by omega) λy hy=>by
  have h4:=aAe hy
  have:=(ih y hy (by omega)).1.2
  omega
 have e:bu x=bu.L1 bu (λg=>g) x.L 0+1:=by
  rw[Pe]
  unfold bu.F
  rw[depthK,wrap64 (by omega)]
 exact⟨by omega,e⟩
theorem JU(x:Expr):x.dep<=1500000->∀(d D:Int),bu x<=D->∀z∈bx x d,z.depth<=d+D-1:=by
 refine aBh (P:=λx=>x.dep<=1500000->∀(d D:Int),bu x<=D->∀z∈bx x d,z.depth<=d+D-1) ?_ x
 intro x ih hx d D hD z hz
 obtain⟨h1,h2⟩:=JV x hx
 rw[nm]at hz
 rcases kB.1 hz with rfl|hz
 .show d<=d+D-1;omega
 .obtain⟨y,hy,hz⟩:=List.mem_flatMap.1 hz
  have h4:=aAe hy
  have h5:=(depthL x.L 0).2.1 y hy
  have:=ih y hy (by omega) (d+1) (D-1) (by omega) z hz
  omega
theorem Pc(x:Expr):dy x=dy.F dy x:=by
 refine Cm dy.F dy.go (λm=>rfl) (λf g x h=>?_) x
 funext limit
 unfold dy.F
 have:∀(k:Int->Int)(l:List Expr)a,(∀y∈l,f y=g y)->dy.L1 f limit k l a=dy.L1 g limit k l a:=by
  intro k l
  induction l with
  |nil=>intros;rfl
  |cons y l ih=>
   intro a hl
   simp only[dy.L1,hl y (zB ..)]
   rw[ih _ λz hz=>hl z (vA _ hz)]
 exact this _ _ _ h
def cnt(x:Expr):Nat:=(bx x 1).length
theorem Q7(x:Expr):∀d,(bx x d).length=cnt x:=by
 refine aBh (P:=λx=>∀d,(bx x d).length=cnt x) ?_ x
 intro x ih d
 unfold cnt
 rw[nm,nm x 1,zA,zA,List.length_flatMap,List.length_flatMap]
 congr 2
 apply List.map_congr_left
 intro y hy
 rw[ih y hy,ih y hy]
theorem O3(x:Expr):cnt x=1+(x.L.map cnt).sum:=by
 conv=>lhs;unfold cnt
 rw[nm,zA,List.length_flatMap,Nat.add_comm]
 congr 2
 apply List.map_congr_left
 intro y hy
 exact Q7 y _
theorem Hs(x:Expr):∀limit:Int,0<=limit->limit<=256->dy x limit=min (cnt x:Int) (limit+1):=by
 refine aBh (P:=λx=>∀limit:Int,0<=limit->limit<=256->dy x limit=min (cnt x:Int) (limit+1)) ?_ x
 intro x ih limit h0 h1
 rw[Pc,O3]
 unfold dy.F
 have key:∀(l:List Expr)(a:Int),(∀y∈l,y∈x.L)->1<=a->a<=limit+1->dy.L1 dy limit dy.K1 l a=min (a+((l.map cnt).sum:Nat)) (limit+1):=by
  intro l
  induction l with
  |nil=>intro a _ _ ha;simp only[dy.L1,dy.K1,aCe,List.sum_nil];omega
  |cons y l ih2=>
   intro a hl h2 h3
   simp only[dy.L1,Bool.cond_eq_ite,decide_eq_true_eq,xK,List.sum_cons]
   by_cases ha:a<=limit
   .rw[if_pos ha,wrap64 (z:=limit-a) (by omega),ih y (hl y (zB ..)) (limit-a) (by omega) (by omega)]
    have hc:1<=cnt y:=by rw[O3];omega
    rw[wrap64 (by omega),ih2 _ (λz hz=>hl z (vA _ hz)) (by omega) (by omega)]
    omega
   .rw[if_neg ha]
    simp only[dy.K1]
    omega
 rw[key x.L 1 (λy hy=>hy) (by omega) (by omega)]
 omega
theorem Jo{x:Expr}(hx:x.dep<=1500000)(h:jj x=false):(bx x 1).length<=256/\∀z∈bx x 1,z.depth<=16:=by
 simp only[jj,Bool.or_eq_false_iff,decide_eq_false_iff_not]at h
 have h1:=Hs x 256 (by decide) (by decide)
 have h2:=JU x hx 1 16 (by omega)
 refine⟨?_,λz hz=>by have:=h2 z hz;omega⟩
 show cnt x<=256
 omega
theorem CD(s:ByteArray):∀(m i:Nat)(r:List UInt8),s.size-i=m->(ByteArray.toList.loop s i r).length=r.length+m
 |0,i,r,h=>by rw[ByteArray.toList.loop];rw[if_neg (by omega)];simp
 |m+1,i,r,h=>by
  rw[ByteArray.toList.loop,if_pos (by omega),CD s m (i+1) _ (by omega),zA]
  omega
theorem uP(s:ByteArray):s.toList.length=s.size:=by
 have:=CD s s.size 0 [] (by omega)
 simpa[ByteArray.toList]using this
theorem P0{α : Type}(c:Bool)(a b d:α):(bif c then(bif c then a else b)else d)=bif c then a else d:=by cases c<;>rfl
theorem QO(c x:Bool):(bif c then false else x)=(!c&&x):=by cases c<;>rfl
theorem QN(c x:Bool):(bif c then true else x)=(c||x):=by cases c<;>simp
theorem Hf(s:ByteArray):dM s=(dQ s&&!(ni s)):=by
 unfold dM ni
 simp only[P0]
 simp only[QO,QN,Bool.not_or,Bool.or_false]
 ac_rfl
theorem BB(c:Int):(j4 c != 2)=!(ki c):=by
 unfold j4 ki
 cases((decide (97<=c)&&decide (c<=122))||(decide (65<=c)&&decide (c<=90)))<;>cases(decide (48<=c)&&decide (c<=57))<;>cases(c==95)<;>cases((((c==32)||(c==9))||(c==10))||(c==13))<;>cases(decide (0<=(strings_IndexByte (⟨#[123,125,40,41,59,44,61,58,46,60,62,33,43,45,42,47]⟩:ByteArray) c)))<;>rfl
theorem KZ(c:Int):(((j4 c != 2)&&(j4 c != 3))&&(j4 c != 5))=!(pJ c):=by
 unfold j4 pJ ki mD
 cases((decide (97<=c)&&decide (c<=122))||(decide (65<=c)&&decide (c<=90)))<;>cases(decide (48<=c)&&decide (c<=57))<;>cases(c==95)<;>cases((((c==32)||(c==9))||(c==10))||(c==13))<;>cases(decide (0<=(strings_IndexByte (⟨#[123,125,40,41,59,44,61,58,46,60,62,33,43,45,42,47]⟩:ByteArray) c)))<;>rfl
theorem HY(s:ByteArray):∀(l:List Nat)(i:Nat),dQ.L1 s dQ.K1 l i=gz.L1 s gz.K1 l i
 |[],i=>rfl
 |y::l,i=>by simp only[dQ.L1,gz.L1,KZ,HY s l]
theorem LM{s:ByteArray}(h:gz s=true):dQ s=true:=by
 unfold gz at h
 unfold dQ
 rw[BB,HY]
 rw[Bool.cond_eq_ite]at h ⊢
 split at h
 .cases h
 .next hc=>
  simp only[xD,not_or,decide_eq_true_eq]at hc
  obtain⟨⟨h1,h2⟩,h3⟩:=hc
  have e:(s.toList==(⟨#[]⟩:ByteArray).toList)=false:=by
   rw[Bool.eq_false_iff]
   intro he
   have he:=eq_of_beq he
   have h9:=uP s
   rw[he,uP]at h9
   have:(⟨#[]⟩:ByteArray).size=0:=rfl
   omega
  rw[e,if_neg]
  .exact h
  .simp only[Bool.false_or,xD,not_or,decide_eq_true_eq]
   exact⟨h2,h3⟩
theorem Ma{s:ByteArray}(h:mB s=true):dM s=true:=by
 simp only[mB,xB]at h
 rw[Hf,LM h.1,h.2];rfl
theorem GP(s:ByteArray):∀(l:List ByteArray)(i:Nat),eu.L1 s eu.K1 l i=aW.L1 s aW.K1 l i
 |[],i=>rfl
 |y::l,i=>by
  have:(y.toList==s.toList)=(s.toList==y.toList):=by rw[qN,beq_iff_eq,beq_iff_eq];exact eq_comm
  simp only[eu.L1,aW.L1,this,GP s l]
theorem rindex(l:List ByteArray)(s:ByteArray):eu l s=aW l s:=GP s l 0
theorem Dd{l:List ByteArray}(h:eB l=true):bF l dM=true:=by
 have key:∀(L l:List ByteArray)(i:Nat),eB.L1 L eB.K1 l i=true->bF.L1 L dM bF.K1 l i=true:=by
  intro L l
  induction l with
  |nil=>intros;rfl
  |cons y l ih=>
   intro i h
   simp only[eB.L1,Bool.cond_eq_ite]at h
   split at h
   .cases h
   .next hc=>
    simp only[xD,not_or,zE,Bool.not_eq_false,Bool.not_eq_true]at hc
    simp only[bF.L1,Ma hc.1,←rindex,hc.2,Bool.not_true,Bool.or_self,cond_false]
    exact ih _ h
 exact key l l 0 h
theorem tD(off:List ByteArray){f g:List ByteArray->Expr->Bool}(k:Bool):∀(l:List Expr),(∀y∈l,f off y=g off y)->bO.L1 f off k l=bO.L1 g off k l
 |[],_=>rfl
 |y::l,h=>by simp only[bO.L1,h y (zB ..),tD off k l λz hz=>h z (vA _ hz)]
theorem Je(off:List ByteArray)(x:Expr):bO off x=bO.F bO off x:=by
 have:=Cm (λf x=>bO.F (λ_ y=>f y) off x) (λm x=>bO.go m off x) (λm=>?_) (λf g x h=>?_) x
 .refine Eq.trans this ?_
  show bO.F _ off x=_
  unfold bO.F
  rw[tD off (f:=λ_ y=>bO.go y.dep off y) (g:=bO) _ x.L λy hy=>rfl]
 .funext x
  show bO.F (bO.go m) off x=bO.F _ off x
  unfold bO.F
  rw[tD off (f:=bO.go m) (g:=λ_ y=>bO.go m off y) _ x.L λy hy=>rfl]
 .show bO.F _ off x=bO.F _ off x
  unfold bO.F
  rw[tD off (f:=λ_ y=>f y) (g:=λ_ y=>g y) _ x.L h]
theorem G0(off:List ByteArray):∀(l:List Expr),bO.L1 bO off bO.K1 l=true->∀y∈l,bO off y=true
 |[],_=>λ_ h=>(kA h).elim
 |y::l,h=>by
  simp only[bO.L1,Bool.cond_eq_ite]at h
  split at h
  .cases h
  .next hc=>
   intro z hz
   rcases kB.1 hz with rfl|hz
   .simpa using hc
   .exact G0 off l h z hz
theorem Jd(off:List ByteArray)(x:Expr):bO off x=true->∀d,∀z∈bx x d,((!(dp z.x))||cZ off z.x.Name)=true:=by
 refine aBh (P:=λx=>bO off x=true->∀d,∀z∈bx x d,((!(dp z.x))||cZ off z.x.Name)=true) ?_ x
 intro x ih h d z hz
 rw[Je]at h
 unfold bO.F at h
 rw[Bool.cond_eq_ite]at h
 split at h
 .cases h
 .next hc=>
  rw[nm]at hz
  rcases kB.1 hz with rfl|hz
  .show((!(dp x))||cZ off x.Name)=true
   unfold cZ dp
   rw[rindex]at hc
   by_cases h2:aW off x.Name<0
   .have:decide (aW off x.Name<0)=true:=by simpa using h2
    rw[this,Bool.and_true]at hc
    simp only[Bool.not_eq_true]at hc
    rw[hc];rfl
   .have:decide (0<=aW off x.Name)=true:=by simp;omega
    rw[this,Bool.or_true]
  .obtain⟨y,hy,hz⟩:=List.mem_flatMap.1 hz
   exact ih y hy (G0 off x.L h y hy) (d+1) z hz
theorem rG(u:Bool){f g:Expr->Bool->Bool}(k:Bool):∀(l:List Expr),(∀y∈l,f y u=g y u)->aE.L1 f u k l=aE.L1 g u k l
 |[],_=>rfl
 |y::l,h=>by simp only[aE.L1,h y (zB ..),rG u k l λz hz=>h z (vA _ hz)]
theorem Hh(x:Expr)(u:Bool):aE x u=aE.F aE x u:=by
 have:=Cm (λf x=>aE.F (λy _=>f y) x u) (λm x=>aE.go m x u) (λm=>?_) (λf g x h=>?_) x
 .refine Eq.trans this ?_
  show aE.F _ x u=_
  unfold aE.F
  rw[rG u (f:=λy _=>aE.go y.dep y u) (g:=aE) _ x.L λy hy=>rfl]
 .funext x
  show aE.F (aE.go m) x u=aE.F _ x u
  unfold aE.F
  rw[rG u (f:=aE.go m) (g:=λy _=>aE.go m y u) _ x.L λy hy=>rfl]
 .show aE.F _ x u=aE.F _ x u
  unfold aE.F
  rw[rG u (f:=λy _=>f y) (g:=λy _=>g y) _ x.L h]
theorem Fp(u k:Bool):∀(l:List Expr),aE.L1 aE u k l=true->(∀y∈l,aE y u=true)/\k=true
 |[],h=>⟨λ_ h=>(kA h).elim,h⟩
 |y::l,h=>by
  simp only[aE.L1,Bool.cond_eq_ite]at h
  split at h
  .cases h
  .next hc=>
   obtain⟨h1,h2⟩:=Fp u k l h
   refine⟨λz hz=>?_,h2⟩
   rcases kB.1 hz with rfl|hz
   .simpa using hc
   .exact h1 z hz
theorem MX{x:Expr}{u:Bool}(h:aE.K1 x u=true):(aP x.Kind 1 4&&kindsP x.Kind x)=true/\(u=false->x.Kind≠4):=by
 unfold aE.K1 at h
 simp only[Bool.cond_eq_ite,beq_iff_eq]at h
 split at h
 .next e=>
  rw[e]
  refine⟨?_,λ_=>by decide⟩
  show(_&&jr x)=true
  unfold jr
  rw[h];rfl
 .split at h
  .next e=>
   rw[e]
   refine⟨?_,λ_=>by decide⟩
   show(_&&jq x)=true
   unfold jq aP
   rw[h];rfl
  .split at h
   .next e=>
    rw[e]
    refine⟨?_,λ_=>by decide⟩
    show(_&&jp x)=true
    unfold jp aP
    simp only[xB]at h ⊢
    exact⟨⟨rfl,rfl⟩,⟨h.1.1.1.1,h.1.1.1.2,h.1.1.2⟩,h.1.2,h.2⟩
   .split at h
    .next e=>
     rw[e]
     simp only[xB]at h
     refine⟨?_,λhu=>by rw[hu]at h;simp at h⟩
     show(_&&iP x)=true
     unfold iP aP
     simp only[xB]
     exact⟨⟨rfl,rfl⟩,⟨h.1.1.1.2,h.1.1.2⟩,h.1.2,h.2⟩
    .cases h
theorem Hg(u:Bool)(x:Expr):aE x u=true->∀d,∀z∈bx x d,(aP z.x.Kind 1 4&&kindsP z.x.Kind z.x)=true/\(u=false->z.x.Kind≠4):=by
 refine aBh (P:=λx=>aE x u=true->∀d,∀z∈bx x d,(aP z.x.Kind 1 4&&kindsP z.x.Kind z.x)=true/\(u=false->z.x.Kind≠4)) ?_ x
 intro x ih h d z hz
 rw[Hh]at h
 obtain⟨h1,h2⟩:=Fp u _ x.L h
 rw[nm]at hz
 rcases kB.1 hz with rfl|hz
 .exact MX h2
 .obtain⟨y,hy,hz⟩:=List.mem_flatMap.1 hz
  exact ih y hy (h1 y hy) (d+1) z hz
theorem rl1(rec:List ByteArray->Expr->Expr)(off:List ByteArray)(k:List Expr->Expr):∀(l g:List Expr),ah.L1 rec off k l g=k (g++l.map (rec off))
 |[],g=>by simp[ah.L1]
 |y::l,g=>by simp[ah.L1,rl1 rec off k l]
theorem rl2(rec:List ByteArray->Expr->Expr)(off:List ByteArray)(k:List Expr->Expr):∀(l g:List Expr),ah.L2 rec off k l g=k (g++l.map (rec off))
 |[],g=>by simp[ah.L2]
 |y::l,g=>by simp[ah.L2,rl2 rec off k l]
def rno(off:List ByteArray)(x:Expr):Int:=bif dp x then aW off x.Name else 0
theorem Kt(rec:List ByteArray->Expr->Expr)(off:List ByteArray)(x:Expr):ah.F rec off x=qG x.Kind x.N (rno off x) x.Name (x.L.map (rec off)):=by
 unfold ah.F rno dp
 cases((x.Kind==1)||(x.Kind==2))
 .rw[cond_false,rl2];rfl
 .rw[cond_true,rl1];unfold ah.K1;rw[rindex];rfl
theorem CM(off:List ByteArray)(x:Expr):ah off x=qG x.Kind x.N (rno off x) x.Name (x.L.map (ah off)):=by
 have:=Cm (λf x=>qG x.Kind x.N (rno off x) x.Name (x.L.map f)) (λm x=>ah.go m off x) (λm=>?_) (λf g x h=>?_) x
 .exact this
 .funext x
  show ah.F (ah.go m) off x=_
  rw[Kt]
 .show qG _ _ _ _ _=qG _ _ _ _ _
  rw[List.map_congr_left h]
theorem Ed(b:Expr){f g:Expr->Expr->Bool}(k:Bool):∀(l:List Expr)(i:Nat),(∀y∈l,f y=g y)->bq.L1 f b k l i=bq.L1 g b k l i
 |[],_,_=>rfl
 |y::l,i,h=>by simp only[bq.L1,h y (zB ..),Ed b k l (i+1) λz hz=>h z (vA _ hz)]
theorem Lt(x:Expr):bq x=bq.F bq x:=by
 refine Cm bq.F bq.go (λm=>rfl) (λf g x h=>?_) x
 funext b
 unfold bq.F
 rw[Ed b _ x.L 0 h]
theorem Lu(b:Expr):∀(l:List Expr)(i:Nat),bq.L1 bq b bq.K1 l i=true->∀(j:Nat)(y:Expr),l[j]? = some y->bq y (nthI b.L ((i+j:Nat):Int))=true
 |[],_,_,j,y,hj=>by simp at hj
 |z::l,i,h,j,y,hj=>by
  simp only[bq.L1,Bool.cond_eq_ite]at h
  split at h
  .cases h
  .next hc=>
   cases j with
   |zero=>simp at hj;subst hj;simpa using hc
   |succ j=>have:=Lu b l (i+1) h j y (by simpa using hj);rw[show i+(j+1)=i+1+j from by omega];exact this
theorem Ps(off:List ByteArray)(x:Expr):bq (ah off x) x=true->∀d,∀z∈bx x d,z.x.No=rno off z.x:=by
 refine aBh (P:=λx=>bq (ah off x) x=true->∀d,∀z∈bx x d,z.x.No=rno off z.x) ?_ x
 intro x ih h d z hz
 rw[Lt,CM]at h
 unfold bq.F at h
 rw[Bool.cond_eq_ite]at h
 split at h
 .cases h
 .next hc=>
  simp only[xD,not_or,bne_iff_ne,ne_eq,Classical.not_not]at hc
  have hno:rno off x=x.No:=hc.1.1.2
  rw[nm]at hz
  rcases kB.1 hz with rfl|hz
  .exact hno.symm
  .obtain⟨y,hy,hz⟩:=List.mem_flatMap.1 hz
   obtain⟨j,hj⟩:=List.getElem?_of_mem hy
   have h2:=Lu x _ 0 h j (ah off y) (by show(List.map (ah off) x.L)[j]? = _;rw[aAa,hj];rfl)
   have hlt:=(List.getElem?_eq_some_iff.1 hj).1
   have hg:=cN (xs:=x.L) (z:=((0+j:Nat):Int)) (by omega)
   rw[show(((0+j:Nat):Int)).toNat=j from by omega,hj]at hg
   rw[←vT hg]at h2
   exact ih y hy h2 (d+1) z hz
theorem CL{off:List ByteArray}{x:Expr}(h:bq (ah off x) x=true):bR off x=true:=by
 unfold bR bR.K1
 rw[pY]
 exact Ps off x h 1
def rrules(off:List ByteArray):List Rule->Nat->List Rule
 |[],_=>[]
 |y::l,i=>Rule.mk y.Kind (i:Int) y.Think (ah off y.Expr)::rrules off l (i+1)
theorem Ek(off:List ByteArray):∀(l:List Rule)(i j:Nat)(y:Rule),l[j]? = some y->(rrules off l i)[j]? = some (Rule.mk y.Kind ((i+j:Nat):Int) y.Think (ah off y.Expr))
 |[],_,j,y,h=>by simp at h
 |z::l,i,0,y,h=>by simp at h;subst h;rfl
 |z::l,i,j+1,y,h=>by
  have:=Ek off l (i+1) j y (by simpa using h)
  rw[show i+(j+1)=i+1+j from by omega]
  exact this
theorem An(p:Policy):∀(l:List Rule)(i:Nat)(g:List Rule),dU.L1 p (dU.K1 p) l i g=(xM p.Name p.Kinds p.Offices (g++rrules p.Offices l i) (ah p.Offices p.Change) p.Mode,0)
 |[],i,g=>by
  simp only[dU.L1,dU.K1,rrules,List.append_nil,Expr.eta]
 |y::l,i,g=>by
  simp only[dU.L1,An p l,rrules,Expr.eta,qE,List.singleton_append]
theorem Mo(b:Policy):∀(l:List Rule)(i:Nat),hZ.L1 b hZ.K1 l i=true->∀(j:Nat)(y:Rule),l[j]? = some y->y.KindNo=(nthI b.Rules ((i+j:Nat):Int)).KindNo/\bq y.Expr (nthI b.Rules ((i+j:Nat):Int)).Expr=true
 |[],_,_,j,y,hj=>by simp at hj
 |z::l,i,h,j,y,hj=>by
  simp only[hZ.L1,Bool.cond_eq_ite]at h
  split at h
  .cases h
  .next hc=>
   simp only[xD,not_or,bne_iff_ne,ne_eq,Classical.not_not,zE,Bool.not_eq_false]at hc
   cases j with
   |zero=>simp at hj;subst hj;exact⟨hc.1.1.2,hc.2⟩
   |succ j=>have:=Mo b l (i+1) h j y (by simpa using hj);rw[show i+(j+1)=i+1+j from by omega];exact this
theorem GZ(p:Policy)(k:Bool):∀(l:List Rule),gI.L1 p k l=true->(∀r∈l,bO p.Offices r.Expr=true)/\k=true
 |[],h=>⟨λ_ h=>(kA h).elim,h⟩
 |y::l,h=>by
  simp only[gI.L1,Bool.cond_eq_ite]at h
  split at h
  .cases h
  .next hc=>
   obtain⟨h1,h2⟩:=GZ p k l h
   refine⟨λz hz=>?_,h2⟩
   rcases kB.1 hz with rfl|hz
   .simpa using hc
   .exact h1 z hz
theorem Jp(k:Bool):∀(l:List Rule),e9.L1 k l=false->∀r∈l,jj r.Expr=false
 |[],_=>λ_ h=>(kA h).elim
 |y::l,h=>by
  simp only[e9.L1,Bool.cond_eq_ite]at h
  split at h
  .cases h
  .next hc=>
   intro z hz
   rcases kB.1 hz with rfl|hz
   .simpa using hc
   .exact Jp k l h z hz
theorem Fq(p:Policy)(k:Bool):∀(l:List Rule)(i:Nat),fP.L1 p k l i=true->(∀(j:Nat)r,l[j]? = some r->((r.Kind.toList==(nthI p.Kinds (((i+j:Nat):Int))).toList)=true/\0<=r.Think/\r.Think<1099511627776)/\aE r.Expr true=true)/\k=true
 |[],i,h=>⟨λj r hj=>by simp at hj,h⟩
 |y::l,i,h=>by
  simp only[fP.L1,Bool.cond_eq_ite]at h
  split at h
  .cases h
  .next hc=>
   simp only[xD,not_or,decide_eq_true_eq,zE,Bool.not_eq_false]at hc
   obtain⟨h1,h2⟩:=Fq p k l (i+1) h
   refine⟨λj r hj=>?_,h2⟩
   cases j with
   |zero=>simp at hj;subst hj;exact⟨⟨hc.1.1.1,by omega,by omega⟩,hc.2⟩
   |succ j=>have:=h1 j r (by simpa using hj);rw[show i+(j+1)=i+1+j from by omega];exact this
theorem O4{p:Policy}(hs:smP p)(h:gf p=0):df p=0:=by
 unfold gf at h
 rw[Bool.cond_eq_ite]at h
 split at h
 .next hc=>exact absurd h (by simpa using hc)
 .next hR=>
  rw[Bool.cond_eq_ite]at h
  split at h
  .omega
  .next hS=>
   simp only[zE,Bool.not_eq_false]at hS
   unfold dU at hR hS
   cases hl:e9 p with
   |true=>rw[hl]at hR;simp at hR
   |false=>
    rw[hl]at hR hS
    cases hn:gI p with
    |false=>rw[hn]at hR;simp at hR
    |true=>
     rw[hn]at hR hS
     cases hf:fP p with
     |false=>rw[hf]at hR;simp at hR
     |true=>
      rw[hf]at hS
      simp only[Bool.not_true,cond_false,An,jG]at hS
      clear hR h
      unfold e9 at hl
      rw[Bool.cond_eq_ite]at hl
      split at hl
      .cases hl
      .next h1=>
       simp only[xD,not_or,decide_eq_true_eq,Bool.not_eq_true]at h1
       have h2:=Jp _ _ hl
       unfold gI at hn
       rw[Bool.cond_eq_ite]at hn
       split at hn
       .cases hn
       .next h3=>
        simp only[xD,not_or,zE,Bool.not_eq_false]at h3
        obtain⟨h4,h5⟩:=GZ p _ _ hn
        unfold fP at hf
        rw[Bool.cond_eq_ite]at hf
        split at hf
        .cases hf
        .next h6=>
         simp only[xD,not_or,decide_eq_true_eq,bne_iff_ne,ne_eq,Classical.not_not]at h6
         obtain⟨h7,h8⟩:=Fq p _ _ 0 hf
         unfold hZ at hS
         rw[Bool.cond_eq_ite]at hS
         split at hS
         .cases hS
         .next h9=>
          simp only[xD,not_or,zE,Bool.not_eq_false]at h9
          have h10:=Mo p _ 0 hS
          have hexp:∀x,x∈ay p->(∃r∈p.Rules,r.Expr=x)\/x=p.Change:=by
           intro x hx
           rw[mN]at hx
           simp only[qH,jQ,kC]at hx
           exact hx
          rw[BC,td,AC,EL]
          refine⟨⟨⟨⟨by omega,by omega,by omega⟩,λx hx=>?_⟩,⟨⟨Ma h3.1.1,Dd h3.1.2,Dd h3.2⟩,λx hx=>?_⟩,?_⟩,λj r hj=>?_,CL h9.2⟩
          .rcases hexp x hx with⟨r,hr,rfl⟩|rfl
           .exact Jo (hs.2.1 r hr) (h2 r hr)
           .exact Jo hs.2.2.1 h1.2
          .rcases hexp x hx with⟨r,hr,rfl⟩|rfl
           .exact Jd p.Offices _ (h4 r hr) 1
           .exact Jd p.Offices _ h5 1
          .unfold bw bw.K1 bw.K2
           rw[pQ,Bo,DS]
           refine⟨?_,λj r hj=>?_,λj x hj z hz=>?_⟩
           .simp only[xB,decide_eq_true_eq,beq_iff_eq,aP]
            exact⟨⟨by omega,h6.1.1.2⟩,by omega,by omega⟩
           .have:=(h7 j r hj).1
            simp only[xB,decide_eq_true_eq,aP]
            exact⟨this.1,this.2.1,by omega⟩
           .have hlen:(ay p).length=p.Rules.length+1:=by rw[mN];simp
            rw[mN]at hj
            rcases jP j p.Rules.length with hjl|hjl
            .rw[List.getElem?_append_left (by simpa using hjl),aAa]at hj
             obtain⟨r,hr,rfl⟩:=Option.map_eq_some_iff.1 hj
             refine⟨(Hg true _ (h7 j r hr).2 1 z hz).1,?_⟩
             rw[hlen,wrap64 (by omega)]
             have:decide (((0+j:Nat):Int)<((p.Rules.length+1:Nat):Int)-1)=true:=by rw[decide_eq_true_eq];omega
             rw[this];rfl
            .rw[List.getElem?_append_right (by simpa using hjl)]at hj
             have hj2:=kC.1 (xE hj)
             subst hj2
             obtain⟨k1,k2⟩:=Hg false _ h8 1 z hz
             refine⟨k1,?_⟩
             have:(z.x.Kind != 4)=true:=by simpa using k2 rfl
             rw[this,Bool.or_true]
          .have h11:=h10 j _ (Ek p.Offices p.Rules 0 j r hj)
           have hlt:=(List.getElem?_eq_some_iff.1 hj).1
           have hg:=cN (xs:=p.Rules) (z:=((0+j:Nat):Int)) (by omega)
           rw[show(((0+j:Nat):Int)).toNat=j from by omega,hj]at hg
           rw[←vT hg]at h11
           dsimp only at h11
           exact⟨by rw[←h11.1];simp,CL h11.2⟩
def Pd(v:Version):Prop:=(0<=v.No/\v.No<=1048576)/\(0<=v.At/\v.At<1099511627776)/\(0<=v.Known/\v.Known<1099511627776)/\gf v.Policy=0
theorem Mi{L:List Version}{y:Version}{l:List Version}{i:Nat}(h:dO.L1 L dO.K1 (y::l) i=0):Pd y/\(0<i->(nthI L ((i:Int)-1)).No<y.No)/\dO.L1 L dO.K1 l (i+1)=0:=by
 simp only[dO.L1,Bool.cond_eq_ite]at h
 split at h
 .omega
 .next hc=>
  simp only[xD,not_or,decide_eq_true_eq,xB,zE,Bool.not_eq_false,bne_iff_ne,ne_eq,Classical.not_not,fB]at hc
  obtain⟨⟨⟨⟨h1,h2⟩,h3⟩,h4⟩,h5⟩:=hc
  exact⟨⟨by omega,h3,h4,h5⟩,λhi=>by omega,h⟩
theorem Mj(L:List Version):∀(l pre:List Version)(x:Version),L=(pre++[x])++l->dO.L1 L dO.K1 l (pre.length+1)=0->(∀y∈l,Pd y)/\(x::l).Pairwise (λa b=>a.No<b.No)
 |[],_,_,_,_=>⟨λ_ h=>(kA h).elim,by simp⟩
 |y::l,pre,x,h,hr=>by
  have hx:nthI L (((pre.length+1:Nat):Int)-1)=x:=by
   have hb:0<=(((pre.length+1:Nat):Int)-1)/\(((pre.length+1:Nat):Int)-1)<(L.length:Int):=by rw[h];simp;omega
   have hg:=cN hb
   rw[show((((pre.length+1:Nat):Int)-1)).toNat=pre.length from by omega,h]at hg
   rw[h];simpa using hg.symm
  obtain⟨h1,h2,h3⟩:=Mi hr
  have h2:=h2 (by omega)
  rw[hx]at h2
  have ih:=Mj L l (pre++[x]) y (by rw[h];simp)
  rw[jA,zA,jB,Nat.zero_add]at ih
  obtain⟨i1,i2⟩:=ih h3
  refine⟨λz hz=>?_,List.pairwise_cons.2 ⟨λz hz=>?_,i2⟩⟩
  .rcases kB.1 hz with rfl|hz
   .exact h1
   .exact i1 z hz
  .rcases kB.1 hz with rfl|hz
   .exact h2
   .have:=(List.pairwise_cons.1 i2).1 z hz;omega
theorem J6{l:List Version}(hs:smV l)(h:dO l=0):bH l=0:=by
 rw[qw]
 unfold dO at h
 rw[Bool.cond_eq_ite]at h
 split at h
 .omega
 .next hl=>
  simp only[decide_eq_true_eq]at hl
  have key:(∀y∈l,Pd y)/\l.Pairwise (λa b=>a.No<b.No):=by
   cases l with
   |nil=>exact⟨λ_ h=>(kA h).elim,List.Pairwise.nil⟩
   |cons y l=>
    obtain⟨h1,_,h3⟩:=Mi h
    obtain⟨i1,i2⟩:=Mj (y::l) l [] y rfl h3
    refine⟨λz hz=>?_,i2⟩
    rcases kB.1 hz with rfl|hz
    .exact h1
    .exact i1 z hz
  refine⟨by omega,λv hv=>?_,key.2⟩
  have:=key.1 v hv
  obtain⟨h1,h2,h3,h4⟩:=this
  exact⟨by omega,by omega,h1,O4 (hs.2 v hv) h4⟩
theorem BR{α : Type}{R:α->Bool}{no:α->Int}{c:Int}(hc:c≠0):∀(l:List α)(g:Int),prgChk R no c l g=0↔(∀y∈l,R y=true/\g<no y)/\l.Pairwise (λa b=>no a<no b)
 |[],g=>by simp[prgChk]
 |y::l,g=>by
  have ih:=BR hc l (no y) (R:=R) (no:=no)
  simp only[prgChk,Bool.cond_eq_ite,xD,zE,decide_eq_true_eq]
  split
  .next h=>simp only[hc,false_iff];rintro⟨h1,_⟩;have:=h1 y (zB ..);rcases h with h|h<;>simp_all;omega
  .next h=>
   rw[ih]
   simp only[not_or,Bool.not_eq_false,Int.not_le]at h
   constructor
   .rintro⟨h1,h2⟩
    refine⟨λz hz=>?_,List.pairwise_cons.2 ⟨λz hz=>(h1 z hz).2,h2⟩⟩
    rcases kB.1 hz with rfl|hz
    .exact h
    .have:=h1 z hz;exact⟨this.1,by omega⟩
   .rintro⟨h1,h2⟩
    obtain⟨p1,p2⟩:=List.pairwise_cons.1 h2
    exact⟨λz hz=>⟨(h1 z (vA _ hz)).1,p1 z hz⟩,p2⟩
theorem lV{e:Int}(h:e=0):exOk (lA e):=by subst h;trivial
structure iU(c:bN):Prop where
 chk:dR c.Register=0
 doc:c.doc∈c.Register.Docs
 time:0<=c.at_/\c.at_<1099511627776
 know:0<=c.known/\c.known<1099511627776
theorem iU.good{c:bN}(h:iU c):Mt c.doc:=Hn ((ly _).1 h.chk).2.2.2.2.2.1 _ h.doc
theorem iU.vers{c:bN}(h:iU c):Hv c.Register.Versions:=(qw _).1 ((ly _).1 h.chk).2.2.2.2.1
theorem iU.kind{c:bN}(h:iU c):0<=c.doc.Kind/\c.doc.Kind<16:=h.good.kind
theorem approvalsP(l:List Approval)(g:Int):bX.L1 bX.K1 l g=prgChk iO (·.No) 280 l g:=by
 induction l generalizing g with
 |nil=>rfl
 |cons y l ih=>simp only[bX.L1,prgChk,ih]
theorem Am{l:List Approval}(h:bX l=0):∀x∈l,iO x=true:=by
 unfold bX at h
 rw[approvalsP]at h
 cases hd:decide (4096<(l.length:Int))with
 |true=>rw[hd]at h;simp at h
 |false=>rw[hd,cond_false,BR (by decide)]at h;exact λx hx=>(h.1 x hx).1
theorem Kb{x:Approval}(h:iO x=true):(0<=x.Doc/\x.Doc<4096)/\(0<=x.By/\x.By<64)/\(0<=x.For/\x.For<64)/\(0<=x.Office/\x.Office<32)/\(0<=x.At/\x.At<1099511627776):=by
 simp only[iO,dt,containsF,gR,List.any_cons,List.any_nil,Bool.or_false,xB,zE,Bool.or_eq_false_iff,decide_eq_false_iff_not]at h
 omega
theorem budgetsP(l:List Budget)(g:Int):cw.L1 cw.K1 l g=prgChk ju (·.No) 180 l g:=by
 induction l generalizing g with
 |nil=>rfl
 |cons y l ih=>simp only[cw.L1,prgChk,ih]
theorem uH{l:List Budget}(h:cw l=0):∀x∈l,ju x=true:=by
 unfold cw at h
 rw[budgetsP]at h
 cases hd:decide (4096<(l.length:Int))with
 |true=>rw[hd]at h;simp at h
 |false=>rw[hd,cond_false,BR (by decide)]at h;exact λx hx=>(h.1 x hx).1
theorem ze{x:Budget}(h:ju x=true):x.Period≠0:=by
 simp only[ju,aR,containsF,ik,List.any_cons,List.any_nil,Bool.or_false,Bool.cond_eq_ite]at h
 split at h<;>simp only[xB,zE,Bool.or_eq_false_iff,decide_eq_false_iff_not]at h<;>omega
theorem Gq{l:List Budget}{kind t known:Int}{x:Budget}(h:x∈bU l kind t known):x∈l:=by
 have h2:∀(g:List (gN×Budget))(s acc:List Budget),x∈bU.L2 g bU.K2 s acc->x∈acc\/x∈s:=by
  intro g s
  induction s with
  |nil=>intro acc h;exact .inl h
  |cons y s ih=>
   intro acc h
   simp only[bU.L2,Bool.cond_eq_ite]at h
   split at h
   .rcases ih _ h with h|h
    .rcases qH.1 h with h|h
     .exact .inl h
     .exact .inr (kB.2 (.inl (kC.1 h)))
    .exact .inr (vA _ h)
   .rcases ih _ h with h|h
    .exact .inl h
    .exact .inr (vA _ h)
 have h1:∀(s:List Budget)(g:List (gN×Budget)),x∈bU.L1 kind t known (bU.K1 l) s g->x∈l:=by
  intro s
  induction s with
  |nil=>intro g h;rcases h2 g l [] h with h|h;exact(kA h).elim;exact h
  |cons y s ih=>intro g h;simp only[bU.L1,Bool.cond_eq_ite]at h;(repeat' split at h)<;>exact ih _ h
 exact h1 _ _ h
theorem IW{l:List Budget}{kind t known:Int}{x:Budget}(h:cw l=0)(hx:x∈bU l kind t known):x.Period≠0:=ze (uH h x (Gq hx))
theorem Gt{l:List Approval}{doc t known:Int}{x:Approval}(h:x∈aI l doc t known):x∈l:=by
 have hc:∀(s:List Approval),x∈bT.L1 doc t known bT.K1 s->x∈s:=by
  intro s
  induction s with
  |nil=>intro h;exact(kA h).elim
  |cons y s ih=>
   intro h
   simp only[bT.L1,Bool.cond_eq_ite]at h
   split at h
   .rcases kB.1 h with rfl|h
    .exact zB ..
    .exact vA _ (ih h)
   .exact vA _ (ih h)
 have h2:∀(g:List (fh×Approval))(s acc:List Approval),x∈aI.L2 g aI.K2 s acc->x∈acc\/x∈s:=by
  intro g s
  induction s with
  |nil=>intro acc h;exact .inl h
  |cons y s ih=>
   intro acc h
   simp only[aI.L2,Bool.cond_eq_ite]at h
   split at h
   .rcases ih _ h with h|h
    .rcases qH.1 h with h|h
     .exact .inl h
     .exact .inr (kB.2 (.inl (kC.1 h)))
    .exact .inr (vA _ h)
   .rcases ih _ h with h|h
    .exact .inl h
    .exact .inr (vA _ h)
 have h1:∀(s:List Approval)(g:List (fh×Approval)),x∈aI.L1 (aI.K1 l doc t known) s g->x∈l:=by
  intro s
  induction s with
  |nil=>
   intro g h
   rcases h2 g (eX l doc t known) [] h with h|h
   .exact(kA h).elim
   .exact hc _ h
  |cons y s ih=>intro g h;simp only[aI.L1,Bool.cond_eq_ite]at h;split at h<;>exact ih _ h
 exact h1 _ _ h
theorem Ii{l:List Approval}{doc b th t known:Int}{x:Approval}(h:x∈(cR l doc b th t known).1):x∈l:=by
 unfold cR at h
 simp only[Bool.cond_eq_ite]at h
 split at h
 .exact(kA h).elim
 .split at h
  .exact(kA h).elim
  .exact Gt (List.mem_filter.1 h).1
section
variable {c:bN} (h:iU c)
include h
theorem KX{p:Int}(hp:0<=p/\p<64):(fm c.Register.Interests p c.doc.Parties c.at_ c.known).2.2=0:=
 Il ((ly _).1 h.chk).2.2.1 hp h.good.parties h.time h.know
theorem xz{p:Policy}(hpr:p.Rules.length=p.Kinds.length/\∀y∈p.Rules,0<=y.Think/\y.Think<=1099511627775)(hk:0<=c.doc.Kind/\c.doc.Kind<(p.Rules.length:Int)):
  (cR c.Register.Approvals c.doc.No c.doc.At (nthI p.Rules c.doc.Kind).Think c.at_ c.known).2=0:=by
 have hth:=hpr.2 _ (nZ hk)
 have h1:=h.good.no
 have h2:=h.good.at_
 have h3:=h.time
 have h4:=h.know
 have e1:dt 4095 [c.doc.No]=true:=by
  simp only[dt,containsF,gR,List.any_cons,List.any_nil,Bool.or_false,zE,Bool.or_eq_false_iff,decide_eq_false_iff_not];omega
 have e2:dt 1099511627775 [c.doc.At,(nthI p.Rules c.doc.Kind).Think,c.at_,c.known]=true:=by
  simp only[dt,containsF,gR,List.any_cons,List.any_nil,Bool.or_false,zE,Bool.or_eq_false_iff,decide_eq_false_iff_not];omega
 unfold cR
 rw[((ly _).1 h.chk).2.2.2.2.2.2,e1,e2];rfl
theorem vk{d b th t known:Int}{x:Approval}(hx:x∈(cR c.Register.Approvals d b th t known).1):(0<=x.Doc/\x.Doc<4096)/\(0<=x.By/\x.By<64)/\(0<=x.For/\x.For<64)/\(0<=x.Office/\x.Office<32)/\(0<=x.At/\x.At<1099511627776):=
 Kb (Am ((ly _).1 h.chk).2.2.2.2.2.2 x (Ii hx))
theorem Hp{d b th t known:Int}{x:Approval}(hx:x∈(cR c.Register.Approvals d b th t known).1):0<=x.For/\x.For<64:=(vk h hx).2.2.1
theorem JW{d b th t known:Int}{x:Approval}(hx:x∈(cR c.Register.Approvals d b th t known).1):0<=x.By/\x.By<64:=(vk h hx).2.1
theorem xy{d b th t known:Int}{x:Approval}(hx:x∈(cR c.Register.Approvals d b th t known).1):(gP c.Register.Appoints x.Office x.For c.at_ c.known).2.2.2=0:=by
 obtain⟨_,_,h2,h3,_⟩:=vk h hx
 have h4:=h.time
 have h5:=h.know
 have e1:fa x.Office=true:=by simp only[fa,dZ,xB,decide_eq_true_eq];omega
 have e2:fR x.For=true:=by simp only[fR,dZ,xB,decide_eq_true_eq];omega
 have e3:∀z:Int,0<=z/\z<1099511627776->dv z=true:=λz hz=>by simp only[dv,dZ,xB,decide_eq_true_eq];omega
 unfold gP
 rw[((ly _).1 h.chk).1,e1,e2,e3 _ h4,e3 _ h5]
 simp only[bne_self_eq_false,cond_false,Bool.not_true,Bool.or_false]
 cases(!(mhas (dx c.Register.Appoints c.at_ c.known) (OSeat.mk x.Office x.For))||(mgetD (dx c.Register.Appoints c.at_ c.known) (OSeat.mk x.Office x.For) (Appoint.mk 0 0 0 0 0 0 false)).Gone)<;>rfl
omit h in
theorem J7{l:List Deputy}{a o k v t n:Int}{g:List (Int×Int)}:(aH.K1 l a o k v t n g).2.2=0:=by
 unfold aH.K1
 cases(!(mhas g a))with
 |true=>rfl
 |false=>
  rw[cond_false]
  have:∀(s:List Nat)(i:Nat)(p:List Int)(q:Int),(aH.L4 l a o k v t n g aH.K4 s i p q).2.2=0:=by
   intro s
   induction s with
   |nil=>intro i p q;rfl
   |cons y s ih=>
    intro i p q
    simp only[aH.L4]
    have:∀(L:List Deputy)(p:List Int)(q:Int),(aH.L6 a g i (λzg6_16 zg6_31=>aH.L4 l a o k v t n g aH.K4 s (i+1) zg6_16 zg6_31) L p q).2.2=0:=by
     intro L
     induction L with
     |nil=>intro p q;exact ih _ _ _
     |cons z L ihL=>intro p q;simp only[aH.L6,Bool.cond_eq_ite];split;exact ih _ _ _;exact ihL _ _
    exact this _ _ _
  exact this _ _ _ _
omit h in
theorem M4{l:List Deputy}{a b o k v t n:Int}(h0:ll l a b (cI.mk o k v t n)=0):(aH l a b o k v t n).2.2=0:=by
 unfold aH
 rw[h0]
 simp only[bne_self_eq_false,cond_false]
 have:∀(s:List Nat)(i:Nat)(g:List (Int×Int)),(aH.L1 l o k v t n (aH.K1 l a o k v t n) s i g).2.2=0:=by
  intro s
  induction s with
  |nil=>intro i g;exact J7
  |cons y s ih=>
   intro i g
   simp only[aH.L1]
   have:∀(L:List Deputy)(g:List (Int×Int)),(aH.L3 i (λzg3_b2_0=>aH.L1 l o k v t n (aH.K1 l a o k v t n) s (i+1) zg3_b2_0) L g).2.2=0:=by
    intro L
    induction L with
    |nil=>intro g;exact ih _ _
    |cons z L ihL=>intro g;simp only[aH.L3,Bool.cond_eq_ite];split<;>exact ihL _
   exact this _ _
 exact this _ _ _
theorem xI{d b th t known:Int}{x:Approval}(hx:x∈(cR c.Register.Approvals d b th t known).1):
  (aH c.Register.Deputies x.For x.By x.Office c.doc.Kind c.doc.Value c.at_ c.known).2.2=0:=by
 obtain⟨_,h1,h2,h3,_⟩:=vk h hx
 have h4:=h.time
 have h5:=h.know
 have h6:=h.kind
 have h7:=h.good.value
 refine M4 ?_
 have e2:∀z:Int,0<=z/\z<64->fS z=true:=λz hz=>by simp only[fS,cY,xB,decide_eq_true_eq];omega
 have e3:∀z:Int,0<=z/\z<1099511627776->gh z=true:=λz hz=>by simp only[gh,cY,xB,decide_eq_true_eq];omega
 have e4:cY x.Office 0 31=true:=by simp only[cY,xB,decide_eq_true_eq];omega
 have e5:cY c.doc.Kind 0 15=true:=by simp only[cY,xB,decide_eq_true_eq];omega
 have e6:cY c.doc.Value 0 1099511627776=true:=by simp only[cY,xB,decide_eq_true_eq];omega
 unfold ll
 rw[((ly _).1 h.chk).2.1,e2 _ h1,e2 _ h2,e3 _ h4,e3 _ h5,e4,e5,e6];rfl
end
theorem AD{l:List Document}{signed:List Int}{b:Bool}(h:((!cg l signed)||b)=false):signed.length=l.length:=by
 simp only[cg,Bool.or_eq_false_iff,Bool.not_eq_false',xB,beq_iff_eq]at h
 have:=h.1.1
 omega
def playSame(P Q:ft):Prop:=Q.shelf=P.shelf/\Q.signed=P.signed/\Q.done.length=P.done.length/\Q.lacks.length=P.lacks.length
theorem playSame.refl(P:ft):playSame P P:=⟨rfl,rfl,rfl,rfl⟩
theorem playSame.trans{P Q R:ft}(h:playSame P Q)(k:playSame Q R):playSame P R:=⟨k.1.trans h.1,k.2.1.trans h.2.1,k.2.2.1.trans h.2.2.1,k.2.2.2.trans h.2.2.2⟩
theorem oV{β : Type}(f:ft->β->ft)(hf:∀P x,playSame P (f P x)):∀(l:List β)(P:ft),playSame P (l.foldl f P)
 |[],P=>.refl P
 |x::l,P=>(hf P x).trans (oV f hf l _)
theorem F6(sg:List Int)(i:Int)(P:ft)(no:Int):playSame P (playLack sg i P no):=by
 unfold playLack
 cases(cH P (mgetD P.shelf.at_ no 0) (nthI sg i)).1 != 0
 .exact .refl P
 .exact⟨rfl,rfl,rfl,by simp⟩
theorem HN(P:ft)(i:Int):playSame P (playMid P i):=by
 refine playSame.trans (Q:={ P with lacks:=P.lacks.set i.toNat (-1) }) ⟨rfl,rfl,rfl,by simp⟩ ?_
 exact oV _ (λQ x=>F6 _ _ _ _) _ _
theorem F7(P:ft)(i:Int):playSame P (playDone P i):=⟨rfl,rfl,by simp[playDone],rfl⟩
theorem Dw(d:Document)(P:ft)(no:Int):playSame P (playRevoke d P no):=⟨rfl,rfl,rfl,rfl⟩
theorem F5(P:ft)(i:Int):playSame P (playStep P i):=by
 have h:=(HN P i).trans (F7 (playMid P i) i)
 unfold playStep
 cases decide (nthI (playMid P i).lacks i<0)
 .exact h
 .exact h.trans (oV _ (λQ x=>Dw _ _ _) _ _)
theorem CQ(l:List Document)(signed:List Int)(t:Int):playSame (playP l signed) (cv l signed t):=oV _ F5 _ _
theorem uW(l:List Document)(signed:List Int)(t:Int):(cv l signed t).shelf=aB l:=(CQ l signed t).1
theorem tA(l:List Document)(signed:List Int)(t:Int):(cv l signed t).shelf.docs=l:=by
 rw[uW]
 have:∀(s:List Document)(i:Nat)(g:List (Int×Int)),(aB.L1 (aB.K1 l) s i g).docs=l:=by
  intro s
  induction s with
  |nil=>intro i g;rfl
  |cons y s ih=>intro i g;exact ih _ _
 exact this _ _ _
theorem CR(l:List Document)(signed:List Int)(t:Int):(cv l signed t).done.length=(cv l signed t).shelf.docs.length/\(cv l signed t).lacks.length=(cv l signed t).shelf.docs.length:=by
 have h:=CQ l signed t
 rw[tA]
 exact⟨h.2.2.1.trans (by simp[playP]),h.2.2.2.trans (by simp[playP])⟩
theorem GV{l:List Document}{signed:List Int}{t:Int}{no:Int}(h:(!(mhas (cv l signed t).shelf.at_ no))=false):
  0<=mgetD (cv l signed t).shelf.at_ no 0/\mgetD (cv l signed t).shelf.at_ no 0<((cv l signed t).shelf.docs.length:Int):=by
 rw[tA]
 rw[uW]at h ⊢
 have hl:0<l.length:=by
  cases l with
  |nil=>exact Bool.noConfusion (show true=false from h)
  |cons=>simp
 have key:∀(s:List Document)(i:Nat)(g:List (Int×Int)),i+s.length=l.length->(∀p∈g,0<=p.2/\p.2<(l.length:Int))->∀p∈(aB.L1 (aB.K1 l) s i g).at_,0<=p.2/\p.2<(l.length:Int):=by
  intro s
  induction s with
  |nil=>intro i g _ hg;exact hg
  |cons y s ih=>
   intro i g hi hg
   simp only[zA]at hi
   exact ih (i+1) _ (by omega) (uy (P:=λx:Int=>0<=x/\x<(l.length:Int)) _ hg (by omega))
 exact yk (P:=λx:Int=>0<=x/\x<(l.length:Int)) no (key l 0 [] (by simp) (λ_ h=>(kA h).elim)) (by omega)
structure Ry(q q':bo):Prop where
 value:q'.value=q.value
 holders:q'.holders=q.holders
 who:∀l∈q.holders,∀y∈l,y.Person∈q.who->y.Person∈q'.who
 wt:∀l∈q.holders,∀y∈l,1<=y.Weight/\y.Weight<=64
 len:∀l∈q.holders,l.length<=2000000
theorem LK{α : Type}[Inhabited α]{P:α->Prop}{l:List α}(h:∀y∈l,P y)(hd:P default)(z:Int):P (nthI l z):=by
 by_cases hz:z.toNat<l.length
 .have:nthI l z=l[z.toNat]:=by simp[nthI,List.getD_eq_getElem?_getD,hz]
  rw[this];exact h _ (List.getElem_mem _)
 .have:nthI l z=default:=by simp[nthI,List.getD_eq_getElem?_getD,hz]
  rw[this];exact hd
theorem HC(l:List Interest)(a b:Int):∃p:Interest->Bool,da l a b=l.filter p:=by
 have h1:∀v(l:List Interest),bW.L1 v [] l=l.filter λy=>(!y.Gone)&&decide (mgetD v (ed.mk y.Person y.Party y.Of) (aAv 0 0 0 0 0 false false)=y):=by
  intro v l
  induction l with
  |nil=>rfl
  |cons y l ih=>
   simp only[bW.L1,List.filter_cons,ih]
   cases((!y.Gone)&&decide (mgetD v (ed.mk y.Person y.Party y.Of) (aAv 0 0 0 0 0 false false)=y))<;>rfl
 have h2:∀(k:List (ed×Interest)->List Interest)(l:List Interest)m,∃m',da.L1 a b k l m=k m':=by
  intro k l
  induction l with
  |nil=>exact λm=>⟨m,rfl⟩
  |cons y l ih=>
   intro m
   simp only[da.L1,Bool.cond_eq_ite]
   split
   .exact ih _
   .split
    .exact ih _
    .exact ih _
 obtain⟨m',e⟩:=h2 (da.K1 l) l []
 exact⟨_,by unfold da;rw[e];exact h1 m' l⟩
theorem II(l:List Interest)(a b:Int):(da l a b).length<=l.length:=by
 obtain⟨p,e⟩:=HC l a b
 rw[e];exact List.length_filter_le _ _
theorem EN{α : Type}{k:Int}{v:α}:∀{m:List (Int×α)},k∉m.map (·.1)->(mput m k v).length=m.length+1/\∀p∈mput m k v,p=(k,v)\/p∈m
 |[],_=>by simp[mput]
 |(k',v')::m,hk=>by
  simp only[xK,kB,not_or]at hk
  obtain⟨h1,h2⟩:=EN (v:=v) hk.2
  simp only[mput,hk.1,if_false,zA,h1,kB,true_and]
  rintro p (rfl|hp)
  .exact .inr (.inl rfl)
  .rcases h2 p hp with h|h
   .exact .inl h
   .exact .inr (.inr h)
theorem H0{st:List Interest}{m:List (Int×Bool)}{q:List gT}(hg:uM st m q){k:Int}(h:mgetD m k false=false):k∉m.map (·.1):=by
 intro hk
 obtain⟨⟨k',v⟩,hp,rfl⟩:=jQ.1 hk
 have:∀{m:List (Int×Bool)},(∀p∈m,p.2=true)->k'∈m.map (·.1)->mgetD m k' false=true:=by
  intro m
  induction m with
  |nil=>intro _ h;simp at h
  |cons p m ih=>
   intro ha hm
   obtain⟨a,b⟩:=p
   by_cases e:k'=a
   .have:=ha (a,b) (zB ..)
    simp only at this
    simp[mgetD,mget?,e,this]
   .simp only[xK,kB,e,false_or]at hm
    have:=ih (λp hp=>ha p (vA _ hp)) hm
    simpa[mgetD,mget?,e]using this
 rw[this (λp hp=>(hg.1 p hp).1) hk]at h
 cases h
theorem tI{st:List Interest}{m:List (Int×Bool)}{q:List gT}{w:gT}(hg:uM st m q)(hw:w.to∈st.map (·.Party))(h8:w.path.length<=8):uM st (conPut w m q).1 (conPut w m q).2:=by
 unfold conPut
 cases h:mgetD m w.to false with
 |true=>exact hg
 |false=>
  obtain⟨h1,h2⟩:=EN (v:=true) (H0 hg h)
  refine⟨λp hp=>?_,?_,λw' hw'=>?_⟩
  .rcases h2 p hp with rfl|hp
   .exact⟨rfl,hw⟩
   .exact hg.1 p hp
  .show(q++[w]).length<=(mput m w.to true).length
   rw[h1,jA];have:=hg.2.1;simp;omega
  .rcases qH.1 (show w'∈q++[w]from hw')with hw'|hw'
   .exact hg.2.2 w' hw'
   .rw[kC.1 hw'];exact h8
theorem xO{st:List Interest}{m:List (Int×Bool)}{q:List gT}{k:Int}{cap:Nat}(hg:uM st m q)(hn:(m.map (·.1)).Nodup)(hk:k∈st.map (·.Party))(hc:st.length<=cap)(h:mgetD m k false=false):q.length<cap:=by
 have h1:=H0 hg h
 have h2:(k::m.map (·.1)).length<=(st.map (·.Party)).length:=BW (List.nodup_cons.2 ⟨h1,hn⟩) (λx hx=>by
  rcases kB.1 hx with rfl|hx
  .exact hk
  .obtain⟨p,hp,rfl⟩:=jQ.1 hx;exact(hg.1 p hp).2)
 simp only[zA,List.length_map]at h2
 have:=hg.2.1
 omega
theorem Ol{st:List Interest}{m:List (Int×Bool)}{q:List gT}(hg:uM st m q)(hn:(m.map (·.1)).Nodup):m.length<=st.length:=by
 have:=BW (b:=st.map (·.Party)) hn (λx hx=>by obtain⟨p,hp,rfl⟩:=jQ.1 hx;exact(hg.1 p hp).2)
 simpa using this
theorem Ik{m:List (Int×Bool)}{q:List gT}{w:gT}(hn:(m.map (·.1)).Nodup):((conPut w m q).1.map (·.1)).Nodup:=by
 unfold conPut
 cases mgetD m w.to false with
 |true=>exact hn
 |false=>exact ow _ _ hn
theorem JY{st:List Interest}{m:List (Int×Bool)}{q:List gT}{w:gT}{N:Nat}(hg:uM st m q)(hn:(m.map (·.1)).Nodup)(hw:w.to∈st.map (·.Party))(hN:st.length<=N):
  (conPut w m q).2.length+(N-(conPut w m q).1.length)<=q.length+(N-m.length):=by
 unfold conPut
 cases h:mgetD m w.to false with
 |true=>simp
 |false=>
  obtain⟨h1,_⟩:=EN (v:=true) (H0 hg h)
  have h2:uM st (mput m w.to true) []:=by
   have:=tI (w:=⟨[],w.to⟩) (q:=[]) (st:=st) (m:=m) ⟨hg.1,jL _,λ_ h=>(kA h).elim⟩ hw (by simp)
   simp only[conPut,h,cond_false]at this
   exact⟨this.1,jL _,λ_ h=>(kA h).elim⟩
  have h3:=Ol h2 (ow w.to true hn)
  show(q++[w]).length+(N-(mput m w.to true).length)<=_
  rw[h1]at h3
  rw[h1,jA]
  simp;omega
theorem zU{α : Type}(m:List (Int×α))(k j:Int)(v z:α):mgetD (mput m k v) j z=if j=k then v else mgetD m j z:=by
 induction m with
 |nil=>by_cases h:j=k<;>simp[mput,mgetD,mget?,h]
 |cons p m ih=>
  obtain⟨a,b⟩:=p
  by_cases h:k=a
  .subst h
   by_cases h2:j=k<;>simp[mput,mgetD,mget?,h2]
  .by_cases h2:j=a
   .subst h2
    have:¬j=k:=λe=>h e.symm
    simp[mput,h,mgetD,mget?,this]
   .simp only[mgetD]at ih ⊢
    simp only[mput,h,if_false,mget?,h2]
    exact ih
theorem Ms.put{st:List Interest}{f:List (Int×List Interest)}(hf:Ms st f){k:Int}{x:Interest}(hx:x∈st):Ms st (mput f k (mgetD f k []++[x])):=by
 intro j y hy
 rw[zU]at hy
 split at hy
 .rcases qH.1 hy with hy|hy
  .exact hf k y hy
  .rw[kC.1 hy];exact hx
 .exact hf j y hy
theorem yi{α : Type}(A B:List α)(x y:α):(A++x::y::B).Perm (y::x::(A++B)):=
 List.perm_middle.trans ((List.Perm.cons x List.perm_middle).trans (List.Perm.swap y x _))
theorem BA{st:List Interest}{path:List Int}{N:Nat}(hN:st.length<=N)(h8:path.length+1<=8):∀{xs:List Interest}{m:List (Int×Bool)}{q:List gT},(∀x∈xs,x∈st)->uM st m q->(m.map (·.1)).Nodup ->
  (conStep path xs m q).2.length+(N-(conStep path xs m q).1.length)<=q.length+(N-m.length)
 |[],m,q,_,_,_=>xG _
 |x::xs,m,q,hx,hg,hn=>by
  have hp:(gT.mk (path++[x.No]) x.Party).to∈st.map (·.Party):=List.mem_map_of_mem (hx x (zB ..))
  have h1:=JY (w:=⟨path++[x.No],x.Party⟩) hg hn hp hN
  have h2:=BA (path:=path) hN h8 (xs:=xs) (λy hy=>hx y (vA _ hy)) (tI hg hp (by simpa using h8)) (Ik hn)
  simp only[conStep]
  exact xS h2 h1
theorem AN:∀{a b:List Int},a.Pairwise (·<·)->b.Pairwise (·<·)->(∀x∈a,x∈b)->a.Sublist b
 |[],b,_,_,_=>List.nil_sublist _
 |x::a,[],_,_,h=>absurd (h x (zB ..)) kA
 |x::a,y::b,ha,hb,h=>by
  obtain⟨a1,a2⟩:=List.pairwise_cons.1 ha
  obtain⟨b1,b2⟩:=List.pairwise_cons.1 hb
  by_cases e:x=y
  .subst e
   refine(AN a2 b2 λz hz=>?_).cons_cons _
   rcases kB.1 (h z (vA _ hz))with g|g
   .have:=a1 z hz;omega
   .exact g
  .refine(AN ha b2 λz hz=>?_).cons _
   rcases kB.1 (h z hz)with g|g
   .have hy:y<x:=by
     rcases kB.1 (h x (zB ..))with g2|g2
     .exact absurd g2 e
     .exact b1 x g2
    rcases kB.1 hz with g3|g3
    .omega
    .have:=a1 z g3;omega
   .exact g
def lastV(t known:Int)(acc:Option Version)(y:Version):Option Version:=
 bif decide (y.At<=t)&&decide (y.Known<=known)then(match acc with
  |none=>some y
  |some a=>bif decide (a.At<=y.At)then some y else some a)else acc
def FV(t known:Int)(l:List Version):Option Version:=l.foldl (lastV t known) none
structure RC(f known:Int)(pre:List Version)(b:Int)(m:List (Int×Version)):Prop where
 at_:∀a,FV f known pre=some a->b=a.At
 no:FV f known pre=none->b=-1
 beg:mget? m f=FV f known pre
 has:∀t,f<t->(t∈m.map (·.1)↔∃y∈pre,y.At=t/\y.Known<=known)
 get:∀t,f<t->t∈m.map (·.1)->∃v,mget? m t=some v/\FV t known pre=some v/\v.At=t
 low:∀t,t∈m.map (·.1)->f<=t
theorem PD(s:ByteArray):gz s=dQ s:=by
 rw[qN]
 refine⟨LM,λh=>?_⟩
 unfold dQ at h
 unfold gz
 rw[BB,HY]at h
 rw[Bool.cond_eq_ite]at h ⊢
 split at h
 .cases h
 .next hc=>
  simp only[xD,not_or,decide_eq_true_eq,Bool.not_eq_true]at hc
  obtain⟨⟨h1,h2⟩,h3⟩:=hc
  have hs:¬((s.size:Int)<1):=λhlt=>by
   have h9:=uP s
   have:s.toList=[]:=List.length_eq_zero_iff.1 (by omega)
   rw[this]at h1
   have e2:(⟨#[]⟩:ByteArray).toList=[]:=by
    have:=uP (⟨#[]⟩:ByteArray)
    exact List.length_eq_zero_iff.1 this
   rw[e2]at h1;simp at h1
  rw[if_neg]
  .exact h
  .simp only[xD,not_or,decide_eq_true_eq]
   exact⟨⟨hs,h2⟩,by simpa using h3⟩
theorem Mb(s:ByteArray):mB s=dM s:=by
 rw[Hf];unfold mB;rw[PD]
theorem De(l:List ByteArray):eB l=bF l dM:=by
 have key:∀(L l:List ByteArray)(i:Nat),eB.L1 L eB.K1 l i=bF.L1 L dM bF.K1 l i:=by
  intro L l
  induction l with
  |nil=>intros;rfl
  |cons y l ih=>intro i;simp only[eB.L1,bF.L1,Mb,rindex,ih]
 exact key l l 0
theorem EM(off:List ByteArray)(x:Expr):(∀z∈bx x 1,((!(dp z.x))||cZ off z.x.Name)=true)->bO off x=true:=by
 refine aBh (P:=λx=>(∀z∈bx x 1,((!(dp z.x))||cZ off z.x.Name)=true)->bO off x=true) ?_ x
 intro x ih h
 have h:=(pP (λy=>((!(dp y))||cZ off y.Name)=true) x 1).1 h
 rw[Je]
 unfold bO.F
 have hx:=h.1
 unfold dp cZ at hx
 rw[Bool.cond_eq_ite,if_neg]
 .have:∀l:List Expr,(∀y∈l,bO off y=true)->bO.L1 bO off bO.K1 l=true:=by
   intro l
   induction l with
   |nil=>intro _;rfl
   |cons y l ih2=>
    intro hl
    simp only[bO.L1,hl y (zB ..),Bool.not_true,cond_false]
    exact ih2 λz hz=>hl z (vA _ hz)
  exact this x.L λy hy=>ih y hy (h.2 y hy)
 .rw[rindex]
  simp only[xB,decide_eq_true_eq,not_and]
  intro hk hi
  rw[hk]at hx
  simp only[Bool.not_true,Bool.false_or,decide_eq_true_eq]at hx
  omega
theorem Fs{x:Expr}{u:Bool}(h:(aP x.Kind 1 4&&kindsP x.Kind x)=true)(h4:u=false->x.Kind≠4):aE.K1 x u=true:=by
 simp only[xB]at h
 have hb:1<=x.Kind/\x.Kind<=4:=by have:=h.1;simpa[aP]using this
 have hc:x.Kind=1\/x.Kind=2\/x.Kind=3\/x.Kind=4:=by omega
 have h2:=h.2
 unfold aE.K1
 rcases hc with e|e|e|e
 .rw[e]at h2 ⊢
  have h2:jr x=true:=h2
  unfold jr at h2
  rw[show((1:Int)==1)=true from rfl,cond_true];exact h2
 .rw[e]at h2 ⊢
  have h2:jq x=true:=h2
  unfold jq aP at h2
  rw[show((2:Int)==1)=false from rfl,show((2:Int)==2)=true from rfl,cond_false,cond_true];exact h2
 .rw[e]at h2 ⊢
  have h2:jp x=true:=h2
  unfold jp aP at h2
  rw[show((3:Int)==1)=false from rfl,show((3:Int)==2)=false from rfl,show((3:Int)==3)=true from rfl,cond_false,cond_false,cond_true]
  simp only[xB]at h2 ⊢
  exact⟨⟨⟨⟨h2.1.1,h2.1.2.1⟩,h2.1.2.2⟩,h2.2.1⟩,h2.2.2⟩
 .have hu:u=true:=by
   cases u with
   |true=>rfl
   |false=>exact absurd e (h4 rfl)
  subst hu
  rw[e]at h2 ⊢
  have h2:iP x=true:=h2
  unfold iP aP at h2
  rw[show((4:Int)==1)=false from rfl,show((4:Int)==2)=false from rfl,show((4:Int)==3)=false from rfl,show((4:Int)==4)=true from rfl,cond_false,cond_false,cond_false,cond_true]
  simp only[xB]at h2 ⊢
  exact⟨⟨⟨⟨trivial,h2.1.1⟩,h2.1.2⟩,h2.2.1⟩,h2.2.2⟩
theorem Da(u:Bool)(x:Expr):(∀z∈bx x 1,(aP z.x.Kind 1 4&&kindsP z.x.Kind z.x)=true/\(u=false->z.x.Kind≠4))->aE x u=true:=by
 refine aBh (P:=λx=>(∀z∈bx x 1,(aP z.x.Kind 1 4&&kindsP z.x.Kind z.x)=true/\(u=false->z.x.Kind≠4))->aE x u=true) ?_ x
 intro x ih h
 have h:=(pP (λy=>(aP y.Kind 1 4&&kindsP y.Kind y)=true/\(u=false->y.Kind≠4)) x 1).1 h
 rw[Hh]
 unfold aE.F
 have:∀(k:Bool)(l:List Expr),(∀y∈l,aE y u=true)->aE.L1 aE u k l=k:=by
  intro k l
  induction l with
  |nil=>intro _;rfl
  |cons y l ih2=>
   intro hl
   simp only[aE.L1,hl y (zB ..),Bool.not_true,cond_false]
   exact ih2 λz hz=>hl z (vA _ hz)
 rw[this _ x.L λy hy=>ih y hy (h.2 y hy)]
 exact Fs h.1.1 h.1.2
theorem M1(l:List Expr):∀a:Int,bu.L1 bu (λg=>g) l a=a\/∃y∈l,bu.L1 bu (λg=>g) l a=bu y:=by
 induction l with
 |nil=>intro a;exact .inl rfl
 |cons y l ih=>
  intro a
  simp only[bu.L1]
  rcases ih (max a (bu y))with h|⟨z,hz,h⟩
  .rw[h]
   rcases Int.le_total a (bu y)with q|q
   .exact .inr ⟨y,zB ..,by omega⟩
   .exact .inl (by omega)
  .exact .inr ⟨z,vA _ hz,h⟩
theorem FF(x:Expr):x.dep<=1500000->∀d:Int,∃z∈bx x d,z.depth=d+bu x-1:=by
 refine aBh (P:=λx=>x.dep<=1500000->∀d:Int,∃z∈bx x d,z.depth=d+bu x-1) ?_ x
 intro x ih hx d
 have hd:=(JV x hx).2
 rw[nm]
 rcases M1 x.L 0 with h|⟨y,hy,h⟩
 .exact⟨⟨x,d⟩,zB ..,by rw[hd,h];show d=d+(0+1)-1;omega⟩
 .have hlt:=aAe hy
  obtain⟨z,hz,e⟩:=ih y hy (by omega) (d+1)
  exact⟨z,vA _ (List.mem_flatMap.2 ⟨y,hy,hz⟩),by rw[e,hd,h];omega⟩
theorem KB{x:Expr}(hx:x.dep<=1500000)(h1:(bx x 1).length<=256)(h2:∀z∈bx x 1,z.depth<=16):jj x=false:=by
 unfold jj
 rw[Hs x 256 (by decide) (by decide)]
 obtain⟨z,hz,e⟩:=FF x hx 1
 have:=h2 z hz
 have hc:cnt x<=256:=h1
 simp only[Bool.or_eq_false_iff,decide_eq_false_iff_not]
 exact⟨by omega,by omega⟩
theorem MD(off:List ByteArray)(x:Expr):(∀z∈bx x 1,z.x.No=rno off z.x)->bq (ah off x) x=true:=by
 refine aBh (P:=λx=>(∀z∈bx x 1,z.x.No=rno off z.x)->bq (ah off x) x=true) ?_ x
 intro x ih h
 have h:=(pP (λy=>y.No=rno off y) x 1).1 h
 rw[Lt,CM]
 unfold bq.F
 have e:(((((x.Kind != x.Kind)||(x.N != x.N))||(rno off x != x.No))||(!(x.Name.toList==x.Name.toList)))||(((x.L.map (ah off)).length:Int) != (x.L.length:Int)))=false:=by simp[h.1]
 show(bif(((((x.Kind != x.Kind)||(x.N != x.N))||(rno off x != x.No))||(!(x.Name.toList==x.Name.toList)))||(((x.L.map (ah off)).length:Int) != (x.L.length:Int)))then false else bq.L1 bq x bq.K1 (x.L.map (ah off)) 0)=true
 rw[e,cond_false]
 have:∀(l pre:List Expr),x.L=pre++l->bq.L1 bq x bq.K1 (l.map (ah off)) pre.length=true:=by
  intro l
  induction l with
  |nil=>intro _ _;rfl
  |cons y l ih2=>
   intro pre hp
   have hy:nthI x.L (pre.length:Int)=y:=nn (by rw[hp];simp)
   have hm:y∈x.L:=by rw[hp];simp
   have:=ih2 (pre++[y]) (by rw[hp];simp)
   rw[jA,zA,jB,Nat.zero_add]at this
   simp only[xK,bq.L1,hy,ih y hm (h.2 y hm),Bool.not_true,cond_false]
   exact this
 exact this x.L [] rfl
theorem Ee(l:List ByteArray):ew l l=true:=by
 have:∀(s pre:List ByteArray),l=pre++s->ew.L1 l ew.K1 s pre.length=true:=by
  intro s
  induction s with
  |nil=>intro _ _;rfl
  |cons y s ih=>
   intro pre hp
   have hy:nthI l (pre.length:Int)=y:=nn (by rw[hp];simp)
   have:=ih (pre++[y]) (by rw[hp];simp)
   rw[jA,zA,jB,Nat.zero_add]at this
   simp only[ew.L1,hy,beq_self_eq_true,Bool.not_true,cond_false]
   exact this
 unfold ew
 rw[bne_self_eq_false,cond_false]
 exact this l [] rfl
theorem Ej(off:List ByteArray):∀(l:List Rule)(i:Nat),(rrules off l i).length=l.length
 |[],_=>rfl
 |y::l,i=>by simp only[rrules,zA,Ej off l]
theorem K0{p:Policy}(hs:smP p)(h:df p=0):gf p=0:=by
 obtain⟨h1,h2,h3⟩:=(BC p).1 h
 obtain⟨s1,s2,s3⟩:=(td p).1 h1
 obtain⟨⟨a1,a2,a3⟩,a4⟩:=(AC p).1 s1
 obtain⟨⟨n1,n2,n3⟩,n4⟩:=(EL p).1 s2
 unfold bw bw.K1 bw.K2 at s3
 rw[pQ,Bo,DS]at s3
 obtain⟨f1,f2,f3⟩:=s3
 simp only[xB,decide_eq_true_eq,beq_iff_eq,aP]at f1
 have hlen:(ay p).length=p.Rules.length+1:=by rw[mN];simp
 have hrule:∀r∈p.Rules,r.Expr∈ay p:=λr hr=>Fx hr
 have hch:p.Change∈ay p:=by rw[mN];simp
 have hdep:∀x∈ay p,x.dep<=1500000:=λx hx=>by
  rw[mN]at hx
  simp only[qH,jQ,kC]at hx
  rcases hx with⟨r,hr,rfl⟩|rfl
  .exact hs.2.1 r hr
  .exact hs.2.2.1
 have hlarge:∀x∈ay p,jj x=false:=λx hx=>KB (hdep x hx) (a4 x hx).1 (a4 x hx).2
 have hT:e9 p=false:=by
  unfold e9
  rw[Bool.cond_eq_ite,if_neg]
  .have:∀l:List Rule,(∀r∈l,jj r.Expr=false)->e9.L1 e9.K1 l=false:=by
    intro l
    induction l with
    |nil=>intro _;rfl
    |cons y l ih=>
     intro hl
     simp only[e9.L1,hl y (zB ..),cond_false]
     exact ih λz hz=>hl z (vA _ hz)
   exact this p.Rules λr hr=>hlarge _ (hrule r hr)
  .simp only[xD,decide_eq_true_eq,not_or,hlarge _ hch,Bool.false_eq_true,not_false_eq_true,and_true]
   omega
 have hN:gI p=true:=by
  unfold gI
  rw[Mb,De,De,n1,n2,n3]
  simp only[Bool.not_true,Bool.or_self,cond_false]
  have:∀(k:Bool)(l:List Rule),(∀r∈l,bO p.Offices r.Expr=true)->gI.L1 p k l=k:=by
   intro k l
   induction l with
   |nil=>intro _;rfl
   |cons y l ih=>
    intro hl
    simp only[gI.L1,hl y (zB ..),Bool.not_true,cond_false]
    exact ih λz hz=>hl z (vA _ hz)
  rw[this _ p.Rules λr hr=>EM p.Offices _ (n4 _ (hrule r hr))]
  exact EM p.Offices _ (n4 _ hch)
 have hget:∀(j:Nat)(r:Rule),p.Rules[j]? = some r->(ay p)[j]? = some r.Expr:=λj r hj=>by
  have hlt:=(List.getElem?_eq_some_iff.1 hj).1
  rw[mN,List.getElem?_append_left (by simpa using hlt),aAa,hj];rfl
 have hgetc:(ay p)[p.Rules.length]? = some p.Change:=by
  rw[mN,List.getElem?_append_right (by simp)];simp
 have hFm:fP p=true:=by
  unfold fP
  rw[Bool.cond_eq_ite,if_neg]
  .have:∀(l pre:List Rule),p.Rules=pre++l->fP.L1 p (fP.K1 p) l pre.length=true:=by
    intro l
    induction l with
    |nil=>
     intro pre _
     refine Da false _ λz hz=>?_
     obtain⟨q1,q2⟩:=f3 _ _ hgetc z hz
     refine⟨q1,λ_ he=>?_⟩
     rw[hlen,wrap64 (by omega),Nat.zero_add]at q2
     have e1:decide ((p.Rules.length:Int)<((p.Rules.length+1:Nat):Int)-1)=false:=decide_eq_false (by omega)
     rw[e1,Bool.false_or,he]at q2
     simp at q2
    |cons y l ih=>
     intro pre hp
     have hj:p.Rules[pre.length]? = some y:=by rw[hp];simp
     have q:=f2 pre.length y hj
     rw[Nat.zero_add]at q
     simp only[xB,aP,decide_eq_true_eq]at q
     have hfe:aE y.Expr true=true:=Da true _ λz hz=>⟨(f3 _ _ (hget _ _ hj) z hz).1,λhh=>by cases hh⟩
     have d1:decide (y.Think<0)=false:=by simp;omega
     have d2:decide (1099511627776<=y.Think)=false:=by simp;omega
     have:=ih (pre++[y]) (by rw[hp];simp)
     rw[jA,zA,jB,Nat.zero_add]at this
     simp only[fP.L1,q.1,d1,d2,hfe,Bool.not_true,Bool.or_self,cond_false]
     exact this
   exact this p.Rules [] rfl
  .simp only[xD,decide_eq_true_eq,bne_iff_ne,not_or,ne_eq,Decidable.not_not]
   omega
 have hRes:dU p=(xM p.Name p.Kinds p.Offices (rrules p.Offices p.Rules 0) (ah p.Offices p.Change) p.Mode,0):=by
  unfold dU
  rw[hT,hN,hFm]
  simp only[cond_false,Bool.not_true]
  rw[An,jG]
 have hsame:∀x,bR p.Offices x=true->bq (ah p.Offices x) x=true:=λx hx=>by
  refine MD p.Offices x ?_
  unfold bR bR.K1 at hx
  exact(pY p.Offices _).1 hx
 have hSame:hZ (xM p.Name p.Kinds p.Offices (rrules p.Offices p.Rules 0) (ah p.Offices p.Change) p.Mode) p=true:=by
  unfold hZ
  rw[Bool.cond_eq_ite,if_neg]
  .have:∀(l pre:List Rule),p.Rules=pre++l->hZ.L1 p hZ.K1 (rrules p.Offices l pre.length) pre.length=true:=by
    intro l
    induction l with
    |nil=>intro _ _;rfl
    |cons y l ih=>
     intro pre hp
     have hy:nthI p.Rules (pre.length:Int)=y:=nn (by rw[hp];simp)
     have hj:p.Rules[pre.length]? = some y:=by rw[hp];simp
     obtain⟨g1,g2⟩:=h2 pre.length y hj
     have:=ih (pre++[y]) (by rw[hp];simp)
     rw[jA,zA,jB,Nat.zero_add]at this
     simp only[rrules,hZ.L1,hy,hsame _ g2,g1,beq_self_eq_true,bne_self_eq_false,Bool.not_true,Bool.or_self,cond_false]
     exact this
   exact this p.Rules [] rfl
  .show ¬((((((!(p.Name.toList==p.Name.toList))||(p.Mode != p.Mode))||(!(ew p.Offices p.Offices)))||(!(ew p.Kinds p.Kinds)))||(((rrules p.Offices p.Rules 0).length:Int) != (p.Rules.length:Int)))||(!(bq (ah p.Offices p.Change) p.Change)))=true
   rw[Ee,Ee,Ej,hsame _ h3]
   simp
 unfold gf
 rw[hRes]
 dsimp only
 rw[hSame];rfl
theorem Gp{l:List Version}(hs:smV l)(h:bH l=0):dO l=0:=by
 have g:=(qw l).1 h
 have hlen:=g.len
 unfold dO
 rw[Bool.cond_eq_ite,if_neg (by simp;omega)]
 have:∀(s pre:List Version),l=pre++s->dO.L1 l dO.K1 s pre.length=0:=by
  intro s
  induction s with
  |nil=>intro _ _;rfl
  |cons y s ih=>
   intro pre hp
   have hy:y∈l:=by rw[hp];simp
   obtain⟨q1,q2,q3,q4⟩:=g.each y hy
   have hlast:(decide (0<(pre.length:Int))&&decide (y.No<=(nthI l ((pre.length:Int)-1)).No))=false:=by
    rcases List.eq_nil_or_concat pre with rfl|⟨a,x,e⟩
    .rfl
    .rw[List.concat_eq_append]at e
     subst e
     have hx:nthI l (((a++[x]).length:Int)-1)=x:=by
      rw[show(((a++[x]).length:Int)-1)=(a.length:Int)from by simp]
      exact nn (by rw[hp];simp)
     have hi:=g.inc
     rw[hp,List.pairwise_append]at hi
     have:=hi.2.2 x (by simp) y (zB ..)
     rw[hx]
     have e2:decide (y.No<=x.No)=false:=by simp;omega
     rw[e2,Bool.and_false]
   have:=ih (pre++[y]) (by rw[hp];simp)
   rw[jA,zA,jB,Nat.zero_add]at this
   simp only[dO.L1,Bool.cond_eq_ite]
   rw[if_neg]
   .exact this
   .have hck:=K0 (hs.2 y hy) q4
    simp only[xD,not_or,decide_eq_true_eq,xB,zE,Bool.not_eq_false,bne_iff_ne,ne_eq,Classical.not_not,fB,hck,and_true]
    simp only[Bool.and_eq_false_iff,decide_eq_false_iff_not]at hlast
    omega
 exact this l [] rfl
theorem En{B:Int->Bool}{k:Bool}{L:List Int}(hB:∀y∈L,B y=false)(hL:L.Pairwise (·<·))(hk:k=true):∀(l pre:List Int),L=pre++l->refLs B L k l pre.length=true
 |[],_,_=>hk
 |y::l,pre,h=>by
  have hlast:(decide (0<(pre.length:Int))&&decide (y<=nthI L ((pre.length:Int)-1)))=false:=by
   rcases List.eq_nil_or_concat pre with rfl|⟨a,x,e⟩
   .rfl
   .rw[List.concat_eq_append]at e
    subst e
    have hx:nthI L (((a++[x]).length:Int)-1)=x:=by
     rw[show(((a++[x]).length:Int)-1)=(a.length:Int)from by simp]
     exact nn (by rw[h];simp)
    have hi:=hL
    rw[h,List.pairwise_append]at hi
    have:=hi.2.2 x (by simp) y (zB ..)
    rw[hx]
    have e2:decide (y<=x)=false:=by simp;omega
    rw[e2,Bool.and_false]
  have ih:=En hB hL hk l (pre++[y]) (by rw[h];simp)
  rw[jA,zA,jB,Nat.zero_add]at ih
  have hy:y∈L:=by rw[h];simp
  simp only[refLs,hB y hy,hlast,Bool.or_self,cond_false]
  exact ih
theorem zp{l:List Int}{limit:Int}(h:((∀x∈l,0<=x/\x<limit)/\l.Pairwise (·<·))/\l.length<=16):eH l limit=true:=by
 have e:∀(L l:List Int)i,eH.L1 L limit (eH.K1 L) l i=refLs (λy=>decide (y<0)||decide (limit<=y)) L (eH.K1 L) l i:=by
  intro L l
  induction l with
  |nil=>intro i;rfl
  |cons y l ih=>intro i;simp only[eH.L1,refLs,ih]
 unfold eH
 rw[e]
 refine En (λy hy=>?_) h.1.2 ?_ l [] rfl
 .have:=h.1.1 y hy
  simp only[Bool.or_eq_false_iff,decide_eq_false_iff_not];omega
 .unfold eH.K1;rw[decide_eq_true_eq];omega
theorem Hl(no:Int):∀(l:List Document)(i:Nat),(l.any λd=>d.No==no)=true->0<=fV.L1 no fV.K1 l i
 |[],i,h=>by cases h
 |y::l,i,h=>by
  simp only[fV.L1,Bool.cond_eq_ite]
  split
  .omega
  .next hc=>
   rw[List.any_cons,Bool.eq_false_iff.2 hc,Bool.false_or]at h
   exact Hl no l (i+1) h
theorem D6(L:List Document):∀nos:List Int,(∀x∈nos,(L.any λd=>d.No==x)=true)->dw.L1 L dw.K1 nos=true
 |[],_=>rfl
 |y::nos,h=>by
  have h1:=Hl y L 0 (h y (zB ..))
  have:decide (fV L y<0)=false:=by unfold fV;simp;omega
  simp only[dw.L1,this,cond_false]
  exact D6 L nos λx hx=>h x (vA _ hx)
theorem Oy{L:List Document}{d:Document}(h:eJ (aB L) d=true):dw L d.Revokes=true/\dw L d.Needs=true:=by
 have hs:=(AE L L 0 []).2
 have key:∀nos:List Int,cC nos (λdF=>ey dF (aB L))=false->dw L nos=true:=by
  intro nos hn
  rw[containsF,List.any_eq_false]at hn
  refine D6 L nos λx hx=>?_
  have h1:=hn x hx
  unfold ey at h1
  have e:mhas (aB L).at_ x=(mhas [] x||L.any λd=>d.No==x):=hs x
  rw[e]at h1
  simpa[mhas,mget?]using h1
 unfold eJ at h
 simp only[xB,zE]at h
 exact⟨key _ h.1,key _ h.2⟩
theorem FA{l:List Document}(h:bh l=0):dP l=0:=by
 have L:∀(L l:List Document)(i:Nat),bh.L1 L bh.K1 l i=0->dP.L1 L dP.K1 l i=0:=by
  intro L l
  induction l with
  |nil=>intros;rfl
  |cons y l ih=>
   intro i h
   simp only[bh.L1,Bool.cond_eq_ite]at h
   split at h
   .omega
   .next hc=>
    simp only[xD,not_or,zE,Bool.not_eq_false,Bool.not_eq_true]at hc
    obtain⟨⟨c1,c2⟩,c3⟩:=hc
    obtain⟨t1,t2⟩:=Oy c3
    have hR:iq y=true:=by
     simp only[gG,xB,decide_eq_true_eq,fJ]at c1
     obtain⟨⟨⟨⟨⟨⟨⟨⟨⟨⟨⟨⟨p1,p2⟩,p3⟩,p4⟩,p5⟩,p6⟩,p7⟩,p8⟩,p9⟩,p10⟩,p11⟩,p12⟩,p13⟩:=c1
     unfold iq
     rw[Bool.cond_eq_ite,if_neg]
     .rw[zp ((DP _ _).1 p11),zp ((DP _ _).1 p12),zp ((DP _ _).1 p13)]
      simp only[xB,decide_eq_true_eq,Bool.and_true]
      exact⟨⟨p8,p9⟩,p10⟩
     .simp only[lx,xD,decide_eq_true_eq,zE,Bool.and_eq_false_iff,decide_eq_false_iff_not,not_or]
      omega
    simp only[dP.L1,hR,c2,t1,t2,Bool.not_true,Bool.or_false,Bool.or_self,cond_false]
    exact ih (i+1) h
 unfold bh at h
 unfold dP
 rw[Bool.cond_eq_ite]at h ⊢
 split at h
 .omega
 .next hc=>rw[if_neg hc];exact L l l 0 h
theorem judge30{r:Register}(hs:smR r):dR r=0↔kk r=0:=by
 constructor
 .intro h
  obtain⟨d1,d2,d3,d4,d5,d6,d7⟩:=(ly r).1 h
  simp only[kk,(CU r.Appoints).symm.trans d1,(Bv r.Deputies).symm.trans d2,(yZ r.Interests).symm.trans d3,(xU r.Budgets).symm.trans d4,Gp hs.vers d5,FA d6,(zg r.Approvals).symm.trans d7]
  rfl
 .intro h
  obtain⟨c1,c2,c3,c4,c5,c6,c7⟩:=J3 h
  exact(ly r).2 ⟨(CU r.Appoints).trans c1,(Bv _).trans c2,(yZ r.Interests).trans c3,(xU _).trans c4,J6 hs.vers c5,Gm c6,(zg _).trans c7⟩
def sKey(y:Interest):ed:=ed.mk y.Person y.Party y.Of
def sCnt(t known:Int)(y:Interest):Prop:=y.At<=t/\y.Known<=known
def sOver(z w:Interest):Prop:=z.At<w.At\/(w.At=z.At/\z.No<w.No)
structure Rx(t known:Int)(pre:List Interest)(m:List (ed×Interest)):Prop where
 some:∀k z,mget? m k=some z->z∈pre/\sKey z=k/\sCnt t known z/\∀w∈pre,sKey w=k->sCnt t known w->¬sOver z w
 none:∀k,mget? m k=none->∀w∈pre,sKey w=k->¬sCnt t known w
structure ChL(l:List Int):Prop where
 inc:l.Pairwise (·<·)
 zero:∃l',l=0::l'
 tm:∀x∈l,0<=x/\x<1099511627776
theorem MG{a b:List Int}(ha:a.Pairwise (·<·))(hb:b.Pairwise (·<·))(h:∀x,x∈a↔x∈b):a=b:=
 (AN ha hb λx hx=>(h x).1 hx).eq_of_length_le (AN hb ha λx hx=>(h x).2 hx).length_le
theorem MC(l:List Document){d:Document}(hd:d∈l):mhas (aB l).at_ d.No=true:=by
 have:=(AE l l 0 []).2 d.No
 show mhas (aB.L1 (aB.K1 l) l 0 []).at_ d.No=true
 rw[this]
 simp only[xD,List.any_eq_true,beq_iff_eq]
 exact .inr ⟨d,hd,rfl⟩
theorem Hm{t:Int}(h:0<=t/\t<1099511627776):fJ t=true:=by
 simp only[fJ,xB,decide_eq_true_eq];exact h
theorem C0{l:List Document}{signed:List Int}{t:Int}(hc:bh l=0)(hs:cg l signed=true)(ht:0<=t/\t<1099511627776):(aZ l signed t).2=0:=by
 unfold aZ
 rw[hc,hs,Hm ht]
 simp only[bne_self_eq_false,cond_false,Bool.not_true,Bool.or_false]
 have:∀(s:List Document)(i:Nat)(g:List Int),(aZ.L1 l signed t aZ.K1 s i g).2=0:=by
  intro s
  induction s with
  |nil=>intro i g;rfl
  |cons y s ih=>intro i g;simp only[aZ.L1,Bool.cond_eq_ite];split<;>exact ih _ _
 exact this _ _ _
theorem K5{l:List Document}{signed:List Int}{t:Int}{d:Document}(hc:bh l=0)(hs:cg l signed=true)(ht:0<=t/\t<1099511627776)(hd:d∈l):(cU l signed d.No t).2.2=0:=by
 unfold cU
 rw[hc,hs,Hm ht,uW,MC l hd];rfl
theorem PI{l:List Document}{f:Document->Bool}{d:Document}(hd:d∈l)(hf:f d=true):0<=ad l f/\ad l f<(l.length:Int):=by
 unfold ad
 rcases Bc f l 0 with⟨_,h⟩|⟨a,y,b,h1,h2,_⟩
 .rw[h d hd]at hf;cases hf
 .rw[h2,h1];simp only[jA,zA];omega
theorem NR{l:List Document}{signed:List Int}(h:cg l signed=true):signed.length=l.length:=by
 simp only[cg,xB,beq_iff_eq]at h
 have:=h.1
 omega
section
variable {c:bN} (h:iU c)
include h
theorem iU.docs:bh c.Register.Docs=0:=((ly _).1 h.chk).2.2.2.2.2.1
theorem zc{signed:List Int}(hs:cg c.Register.Docs signed=true):(aZ c.Register.Docs signed c.at_).2=0:=C0 h.docs hs h.time
theorem M2{signed:List Int}{d:Document}(hs:cg c.Register.Docs signed=true)(hd:d∈c.Register.Docs):(cU c.Register.Docs signed d.No c.at_).2.2=0:=K5 h.docs hs h.time hd
theorem Ho{signed:List Int}(hs:cg c.Register.Docs signed=true):0<=ad c.Register.Docs (λdF=>bS dF c)/\ad c.Register.Docs (λdF=>bS dF c)<(signed.length:Int):=by
 rw[NR hs]
 exact PI h.doc (by simp[bS])
end
theorem FG:∀(xs out:List Int),out.Pairwise (·<·)->(∀a∈out,∀y∈xs,a<=y)->xs.Pairwise (·<=·) ->
  (xs.foldl compStep out).Pairwise (·<·)/\∀z,z∈xs.foldl compStep out↔z∈out\/z∈xs
 |[],out,h1,_,_=>⟨h1,λz=>by simp⟩
 |x::xs,out,h1,h2,h3=>by
  rw[List.pairwise_cons]at h3
  simp only[aA1]
  by_cases hx:out.getLast? = some x
  .have e:compStep out x=out:=by simp[compStep,hx]
   rw[e]
   obtain⟨a,b⟩:=FG xs out h1 (λa ha y hy=>h2 a ha y (vA _ hy)) h3.2
   refine⟨a,λz=>?_⟩
   rw[b]
   constructor
   .rintro(h|h)
    .exact .inl h
    .exact .inr (vA _ h)
   .rintro(h|h)
    .exact .inl h
    .rcases kB.1 h with rfl|h
     .exact .inl (List.mem_of_getLast? hx)
     .exact .inr h
  .have e:compStep out x=out++[x]:=by simp[compStep,hx]
   rw[e]
   have hlt:∀a∈out,a<x:=by
    intro a ha
    have hle:=h2 a ha x (zB ..)
    rcases Int.lt_or_eq_of_le hle with h|h
    .exact h
    .exfalso
     subst h
     obtain⟨pre,post,hp⟩:=List.append_of_mem ha
     cases post with
     |nil=>exact hx (by rw[hp];simp)
     |cons p post=>
      rw[hp,List.pairwise_append]at h1
      have h4:=(List.pairwise_cons.1 h1.2.1).1 p (zB ..)
      have h5:=h2 p (by rw[hp];simp) a (zB ..)
      omega
   obtain⟨a,b⟩:=FG xs (out++[x]) (by
     rw[List.pairwise_append]
     exact⟨h1,List.pairwise_singleton _ _,λa ha y hy=>by rw[kC.1 hy];exact hlt a ha⟩) (λa ha y hy=>by
     rcases qH.1 ha with ha|ha
     .exact h2 a ha y (vA _ hy)
     .rw[kC.1 ha];exact h3.1 y hy) h3.2
   refine⟨a,λz=>?_⟩
   rw[b]
   simp only[qH,kB,kA,or_false]
   constructor
   .rintro((h|h)|h)
    .exact .inl h
    .exact .inr (.inl h)
    .exact .inr (.inr h)
   .rintro(h|h|h)
    .exact .inl (.inl h)
    .exact .inl (.inr h)
    .exact .inr h
def setI(xs:List Int):List Int:=compI (sortI xs)
theorem DJ(xs:List Int):(setI xs).Pairwise (·<·)/\∀z,z∈setI xs↔z∈xs:=by
 obtain⟨a,b⟩:=FG (sortI xs) [] List.Pairwise.nil (λ_ h=>(kA h).elim) (lJ xs)
 refine⟨a,λz=>(b z).trans ?_⟩
 rw[(kz xs).mem_iff]
 simp
theorem Oq{l:List Document}{f:Document->Bool}(h:0<=ad l f):∃a y b,l=a++y::b/\nthI l (ad l f)=y/\f y=true/\∀x∈a,f x=false:=by
 unfold ad at h ⊢
 rcases Bc f l 0 with⟨h1,_⟩|⟨a,y,b,h1,h2,h3,h4⟩
 .omega
 .refine⟨a,y,b,h1,?_,h3,h4⟩
  rw[h2,Nat.zero_add]
  exact nn (by rw[h1];simp)
theorem HS{r:Register}{doc t known:Int}{c:bN}(hc:dR r=0)(h:kW r doc t known=.ok c):
  c=⟨r,c.doc,t,known⟩/\iU c/\c.doc.No=doc/\∃a b,r.Docs=a++c.doc::b/\∀x∈a,x.No≠doc:=by
 unfold kW at h
 rw[Bool.cond_eq_ite]at h
 split at h
 .cases h
 .next hn=>
  simp only[xD,not_or,decide_eq_true_eq]at hn
  obtain⟨⟨h1,h2⟩,h3⟩:=hn
  cases h
  obtain⟨a,y,b,e1,e2,e3,e4⟩:=Oq (by omega:0<=ad r.Docs (λdF=>bB dF doc))
  rw[e2]
  refine⟨rfl,⟨hc,by rw[e1];simp,?_,?_⟩,?_,a,b,e1,λx hx=>?_⟩
  .show 0<=t/\t<1099511627776;omega
  .show 0<=known/\known<1099511627776;omega
  .simpa[bB]using e3
  .simpa[bB]using e4 x hx
theorem Jv(f:Version->Bool):∀(l:List Version)(i:Nat),(aS.L1 f aS.K1 l i=-1/\∀x∈l,f x=false) \/
  ∃a y b,l=a++y::b/\aS.L1 f aS.K1 l i=((i+a.length:Nat):Int)/\f y=true/\∀x∈a,f x=false
 |[],i=>.inl ⟨rfl,λ_ h=>(kA h).elim⟩
 |y::l,i=>by
  simp only[aS.L1]
  cases hy:f y with
  |true=>exact .inr ⟨[],y,l,rfl,by simp,hy,λ_ h=>(kA h).elim⟩
  |false=>
   rcases Jv f l (i+1)with⟨h1,h2⟩|⟨a,z,b,rfl,h2,h3,h4⟩
   .exact .inl ⟨h1,λx hx=>by rcases kB.1 hx with rfl|hx;exact hy;exact h2 x hx⟩
   .refine .inr ⟨y::a,z,b,rfl,?_,h3,λx hx=>by rcases kB.1 hx with rfl|hx;exact hy;exact h4 x hx⟩
    rw[cond_false,h2];simp only[zA];congr 1;omega
theorem AV(c:bN)(no:Int):(dS c no=.error 1/\∀v∈c.Register.Versions,v.No≠no)\/∃a v b,c.Register.Versions=a++v::b/\dS c no=.ok v.Policy/\v.No=no/\∀x∈a,x.No≠no:=by
 unfold dS aS
 rcases Jv (λdF=>dE dF no) c.Register.Versions 0 with⟨h1,h2⟩|⟨a,v,b,h1,h2,h3,h4⟩
 .left
  rw[h1]
  exact⟨rfl,λv hv=>by simpa[dE]using h2 v hv⟩
 .right
  refine⟨a,v,b,h1,?_,by simpa[dE]using h3,λx hx=>by simpa[dE]using h4 x hx⟩
  rw[h2,show decide (((0+a.length:Nat):Int)<0)=false from decide_eq_false (by omega),cond_false,Nat.zero_add,nn (x:=v) (by rw[h1];simp)]
theorem ML{c:bN}{no:Int}{p:Policy}(h:dS c no=.ok p):∃v∈c.Register.Versions,v.No=no/\v.Policy=p:=by
 rcases AV c no with⟨h1,_⟩|⟨a,v,b,h1,h2,h3,_⟩
 .rw[h]at h1;cases h1
 .rw[h]at h2;cases h2
  exact⟨v,by rw[h1];simp,h3,rfl⟩
theorem AU{c:bN}{no:Int}(h:∃v∈c.Register.Versions,v.No=no):exOk (dS c no):=by
 obtain⟨v,hv,hn⟩:=h
 rcases AV c no with⟨_,h2⟩|⟨_,_,_,_,h2,_⟩
 .exact absurd hn (h2 v hv)
 .rw[h2];trivial
structure Mp(p:Policy):Prop where
 sm:smP p
 off:p.Offices.length<=32
 rules:p.Rules.length=p.Kinds.length/\∀y∈p.Rules,0<=y.Think/\y.Think<=1099511627775
theorem vj{c:bN}(h:iU c)(hs:smR c.Register){no:Int}{p:Policy}(hp:dS c no=.ok p):Mp p:=by
 obtain⟨v,hv,_,rfl⟩:=ML hp
 have hg:=(h.vers.each v hv).2.2.2
 exact⟨hs.1.2 v hv,(yp hg).2.1,(yp hg).1,(FK hg).2.2⟩
theorem OZ{ρ : Type}[Inhabited ρ]{x:Except Int ρ}{p:ρ}(h:x=.ok p):exD x=p:=by subst h;rfl
theorem M8(l:List Approval)(doc bp known:Int):(eX l doc bp known).length<=l.length:=by
 show(bT.L1 doc bp known bT.K1 l).length<=l.length
 induction l with
 |nil=>exact xG _
 |cons y l ih=>simp only[bT.L1,Bool.cond_eq_ite];split<;>simp only[zA]<;>omega
theorem M5(l:List Approval)(doc bp known:Int):(aI l doc bp known).length<=l.length:=by
 have h2:∀(g:List (fh×Approval))(s acc:List Approval),(aI.L2 g aI.K2 s acc).length<=acc.length+s.length:=by
  intro g s
  induction s with
  |nil=>intro acc;exact xG _
  |cons y s ih=>
   intro acc
   simp only[aI.L2,Bool.cond_eq_ite]
   split
   .have:=ih (acc++[y]);simp only[jA,zA,jB]at *;omega
   .have:=ih acc;simp only[zA];omega
 have h1:∀(s:List Approval)(g:List (fh×Approval)),(aI.L1 (aI.K1 l doc bp known) s g).length<=l.length:=by
  intro s
  induction s with
  |nil=>
   intro g
   have h3:=h2 g (eX l doc bp known) []
   have h4:=M8 l doc bp known
   show(aI.L2 g aI.K2 (eX l doc bp known) []).length<=l.length
   simp only[jB]at h3;omega
  |cons y s ih=>intro g;simp only[aI.L1,Bool.cond_eq_ite];split<;>exact ih _
 exact h1 _ _
theorem Bz(l:List Approval)(d b th t k:Int):(cR l d b th t k).1.length<=l.length:=by
 unfold cR
 simp only[Bool.cond_eq_ite]
 split
 .exact jL _
 .split
  .exact jL _
  .exact xS (List.length_filter_le _ _) (M5 _ _ _ _)
def goodA(c:bN)(y:Approval):Bool:=(((gP c.Register.Appoints y.Office y.For c.at_ c.known).2.2.1&&(aH c.Register.Deputies y.For y.By y.Office c.doc.Kind c.doc.Value c.at_ c.known).2.1)&&(!(iz c y.For)))&&(!(iz c y.By))
theorem LR(c:bN):∀l:List Approval,cG.L1 c cG.K1 l=l.filter (goodA c)
 |[]=>rfl
 |y::l=>by
  simp only[cG.L1,List.filter_cons,LR c l,Bool.cond_eq_ite]
  rfl
theorem LQ(c:bN)(p:Policy):gF c p=bif decide ((p.Kinds.length:Int)<=c.doc.Kind)then[]else((cR c.Register.Approvals c.doc.No c.doc.At ((nthI p.Rules c.doc.Kind).Think) c.at_ c.known).1).filter (goodA c):=by
 show cG c p=_
 unfold cG
 rw[LR]
theorem MN(c:bN)(p:Policy):dk c p=setI ((gF c p).map (·.For)):=by
 have:∀(s:List Approval)(g:List Int),dk.L1 dk.K1 s g=setI (g++s.map (·.For)):=by
  intro s
  induction s with
  |nil=>intro g;simp[dk.L1,dk.K1,setI,slices_Compact_int]
  |cons y s ih=>intro g;simp only[dk.L1,ih,xK,qE,jN,jG]
 have h:=this (gF c p) []
 rw[jG]at h
 exact h
theorem FI:∀(xs out:List Int),(xs.foldl compStep out).length<=out.length+xs.length
 |[],out=>xG _
 |x::xs,out=>by
  simp only[aA1,zA]
  have h1:=FI xs (compStep out x)
  have h2:(compStep out x).length<=out.length+1:=by unfold compStep;split<;>simp
  omega
theorem Oz{c:bN}(hs:smR c.Register)(p:Policy):(gF c p).length<=2000000:=by
 rw[LQ,Bool.cond_eq_ite]
 have h3:=hs.2.2.2.2.2.2
 split
 .exact jL _
 .exact xS (List.length_filter_le _ _) (xS (Bz _ _ _ _ _ _) h3)
theorem uX{c:bN}(hs:smR c.Register)(p:Policy):(dk c p).length<=2000000:=by
 rw[MN]
 have h1:=FI (sortI ((gF c p).map (·.For))) []
 rw[iw,List.length_map]at h1
 have h2:(gF c p).length<=c.Register.Approvals.length:=by
  rw[LQ,Bool.cond_eq_ite]
  split
  .exact jL _
  .exact xS (List.length_filter_le _ _) (Bz _ _ _ _ _ _)
 have h3:=hs.2.2.2.2.2.2
 show(compI _).length<=_
 unfold compI
 simp only[jB]at h1
 omega
theorem HG(u:List Use)(v t k:Int):∀s:List Budget,(bD.L1 u v t k bD.K1 s).2.2=0
 |[]=>rfl
 |y::s=>by
  simp only[bD.L1]
  have:∀(l:List Int)(a b:Int),(bD.L3 (λzg3_b6_0 zg3_b5_0=>(bif(decide (y.Count<zg3_b5_0)||decide (y.Value<zg3_b6_0))then(y.No,false,0)else(bD.L1 u v t k bD.K1 s))) l a b).2.2=0:=by
   intro l
   induction l with
   |nil=>intro a b;simp only[bD.L3,Bool.cond_eq_ite];split;rfl;exact HG u v t k s
   |cons z l ih=>intro a b;simp only[bD.L3];exact ih _ _
  exact this _ _ _
theorem qy{a b z:Int}:aR a b [z]=true↔a<=z/\z<=b:=by
 simp only[aR,containsF,ik,List.any_cons,List.any_nil,Bool.or_false,zE,Bool.or_eq_false_iff,decide_eq_false_iff_not];omega
theorem Di{a b y z:Int}:aR a b [y,z]=true↔(a<=y/\y<=b)/\(a<=z/\z<=b):=by
 simp only[aR,containsF,ik,List.any_cons,List.any_nil,Bool.or_false,zE,Bool.or_eq_false_iff,decide_eq_false_iff_not];omega
theorem IX{l:List Budget}{u:List Use}(h:(bD l u 0 0 0 0).2.2=0){k v t n:Int}(hk:0<=k/\k<16)(hv:0<=v/\v<=1099511627776)(ht:0<=t/\t<1099511627776)(hn:0<=n/\n<1099511627776):(bD l u k v t n).2.2=0:=by
 unfold bD at h ⊢
 cases h1:(cw l) != 0 with
 |true=>
  rw[h1,cond_true]at h
  have:cw l=0:=h
  rw[this]at h1;cases h1
 |false=>
  rw[h1,cond_false]at h
  rw[cond_false]
  cases h2:decide (4096<(u.length:Int))with
  |true=>rw[h2,cond_true]at h;cases h
  |false=>
   rw[h2,cond_false]at h
   rw[cond_false]
   cases h3:gl u with
   |false=>rw[h3]at h;cases h
   |true=>
    rw[qy.2 (show(0:Int)<=k/\k<=15 by omega),qy.2 hv,Di.2 (show((0:Int)<=t/\t<=1099511627775)/\(0<=n/\n<=1099511627775) by omega)]
    exact HG _ _ _ _ _
theorem H4{l:List Document}{signed:List Int}{t:Int}(h:(aZ l signed t).2=0):cg l signed=true:=by
 unfold aZ at h
 cases h1:(bh l) != 0 with
 |true=>
  rw[h1,cond_true]at h
  have:bh l=0:=h
  rw[this]at h1;cases h1
 |false=>
  rw[h1,cond_false]at h
  cases h2:cg l signed with
  |true=>rfl
  |false=>rw[h2]at h;cases h
theorem M3{c:bN}{signed:List Int}(h:eI c signed=false):c.doc.At<=c.at_:=by
 unfold eI at h
 simp only[Bool.or_eq_false_iff,decide_eq_false_iff_not]at h
 have:=h.1.1.1
 omega
theorem MB:smP cx:=by
 refine⟨by decide,λr hr=>?_,by decide,by decide,by decide⟩
 rw[kC.1 hr];decide
theorem kd{a:List Appoint}{i:List Interest}{b:List Budget}(ha:a.length<=9)(hi:i.length<=9)(hb:b.length<=9):smR ⟨a,aw.Deputies,i,b,aw.Versions,aw.Docs,aw.Approvals⟩:=by
 have h1:aw.Versions.length<=2000000:=by decide
 have h2:aw.Deputies.length<=2000000:=by decide
 have h3:aw.Docs.length<=2000000:=by decide
 have h4:aw.Approvals.length<=2000000:=by decide
 refine⟨⟨h1,λv hv=>?_⟩,by show a.length<=_;omega,h2,by show i.length<=_;omega,by show b.length<=_;omega,h3,h4⟩
 rw[kC.1 hv];exact MB
theorem FE(no:Int):∀(l:List Document)(i:Nat),aA.L1 no aA.K1 l i=ad.L1 (λdF=>bB dF no) ad.K1 l i
 |[],i=>rfl
 |y::l,i=>by
  simp only[aA.L1,ad.L1,bB,Bool.cond_eq_ite]
  split
  .rfl
  .exact FE no l (i+1)
theorem LD{r:Register}{doc t known:Int}(hd:0<=aA r doc)(ht:0<=t/\t<1099511627776)(hk:0<=known/\known<1099511627776):kW r doc t known=.ok ⟨r,nthI r.Docs (aA r doc),t,known⟩:=by
 have e:ad r.Docs (λdF=>bB dF doc)=aA r doc:=(FE doc r.Docs 0).symm
 unfold kW
 rw[e]
 have h1:decide (aA r doc<0)=false:=decide_eq_false (by omega)
 have h2:decide (min t known<0)=false:=decide_eq_false (by omega)
 have h3:decide (1099511627776<=max t known)=false:=decide_eq_false (by omega)
 rw[h1,h2,h3];rfl
theorem lpolicy(no:Int):∀(l:List Version)(i:Nat),(bA.L1 no bA.K1 l).2=true->∃(j:Nat)(v:Version),l[j]? = some v/\v.No=no/\aS.L1 (λdF=>dE dF no) aS.K1 l i=((i+j:Nat):Int)/\bA.L1 no bA.K1 l=(v.Policy,true)
 |[],i,h=>by cases h
 |y::l,i,h=>by
  have e0:dE y no=(y.No==no):=rfl
  simp only[bA.L1,aS.L1,e0]at h ⊢
  cases hy:y.No==no with
  |true=>exact⟨0,y,rfl,by simpa using hy,by simp,rfl⟩
  |false=>
   rw[hy,cond_false]at h
   obtain⟨j,v,h1,h2,h3,h4⟩:=lpolicy no l (i+1) h
   exact⟨j+1,v,by simpa using h1,h2,by rw[cond_false,h3];congr 1;omega,by rw[cond_false,h4]⟩
theorem EQ{r:Register}{no:Int}(c:bN)(hc:c.Register=r)(h:(bA r no).2=true):dS c no=.ok (bA r no).1/\∃v∈r.Versions,v.No=no:=by
 obtain⟨j,v,h1,h2,h3,h4⟩:=lpolicy no r.Versions 0 h
 refine⟨?_,v,xE h1,h2⟩
 have e:aS c.Register.Versions (λdF=>dE dF no)=(j:Int):=by
  rw[hc];unfold aS;rw[h3,Nat.zero_add]
 unfold dS
 rw[e,show decide ((j:Int)<0)=false from decide_eq_false (by omega),cond_false,hc,nn h1]
 show Except.ok v.Policy=.ok (bA.L1 no bA.K1 r.Versions).1
 rw[h4]
theorem MH{W pre l:List Int}{y:Int}(h:W=pre++(y::l))(hi:W.Pairwise (·<·)):(decide (0<(pre.length:Int))&&decide (y<=(nthI W ((pre.length:Int)-1))))=false:=by
 rcases List.eq_nil_or_concat pre with rfl|⟨a,x,e⟩
 .rfl
 .rw[List.concat_eq_append]at e
  subst e
  have hx:nthI W (((a++[x]).length:Int)-1)=x:=by
   rw[show(((a++[x]).length:Int)-1)=(a.length:Int)from by simp]
   exact nn (by rw[h];simp)
  rw[hx]
  rw[h,List.pairwise_append]at hi
  have h2:=hi.2.2 x (by simp) y (zB ..)
  rw[show decide (y<=x)=false from decide_eq_false (by omega),Bool.and_false]
theorem Hi{α : Type}(g:α->Int):∀(l:List α)(m:List (Int×Bool)),(∀p∈m,p.2=true)->∀p∈l.foldl (λm y=>mput m (g y) true) m,p.2=true
 |[],m,h=>h
 |y::l,m,h=>Hi g l _ (uy (P:=λb:Bool=>b=true) (g y) h rfl)
structure RB(r:Register)(doc version t known:Int):Prop where
 pol:(bA r version).2=true
 chk:kk r=0
 doc:0<=aA r doc
 time:0<=t/\t<1099511627776
 know:0<=known/\known<1099511627776
theorem AY{l:List Int}{n:Int}{k:Nat}{i:Int}(h:∀x∈l,0<=x/\x<n)(hi:0<=i/\i<n):∀x∈(l.take k++[i])++l.drop k,0<=x/\x<n:=by
 intro x hx
 rcases qH.1 hx with hx|hx
 .rcases qH.1 hx with hx|hx
  .exact h x (List.mem_of_mem_take hx)
  .rw[kC.1 hx];exact hi
 .exact h x (List.mem_of_mem_drop hx)
theorem PB{l:List Int}{n:Int}(h:∀x∈l,0<=x/\x<n)(hn:0<n)(i:Int):0<=nthI l i/\nthI l i<n:=
 LK (P:=λx:Int=>0<=x/\x<n) h ⟨Int.le_refl _,hn⟩ i
theorem F2{n:Int}:∀{l:List Int},fQ l n=true->n∈l:=by
 have h:∀l:List Int,fQ.L1 n (fQ.K1) l=true->n∈l:=by
  intro l
  induction l with
  |nil=>intro h;simp[fQ.L1,fQ.K1]at h
  |cons y l ih=>
   intro h
   simp only[fQ.L1,Bool.cond_eq_ite]at h
   split at h
   .rename_i e;rw[eq_of_beq e];exact zB
   .exact vA _ (ih h)
 intro l;exact h l
theorem E4{l:List Int}{i:Int}{n m:Nat}(h:∀x∈l,0<=x/\x<(n:Int))(e:m=n)(c:(!(fQ l i))=false):0<=i/\i<(m:Int):=by
 subst e;exact h i (F2 (by simpa using c))
theorem rQ(signed:List Int)(t:Int):∀x∈cd signed t,0<=x/\x<(signed.length:Int):=by
 have h3:∀(y1:Int)(g:List Int)(k:Nat->List Int)(P:List Int->Prop),(∀i,P (k i))->∀(s:List Nat)(i:Nat),P (cd.L3 signed y1 g k s i):=by
  intro y1 g k P hk s
  induction s with
  |nil=>intro i;exact hk i
  |cons y s ih=>intro i;simp only[cd.L3,Bool.cond_eq_ite];split;exact ih _;exact hk _
 have h1:∀(s:List Int)(i:Nat)(g:List Int),i+s.length=signed.length->(∀x∈g,0<=x/\x<(signed.length:Int)) ->
   ∀x∈cd.L1 signed t (cd.K1) s i g,0<=x/\x<(signed.length:Int):=by
  intro s
  induction s with
  |nil=>intro i g _ hg;exact hg
  |cons y s ih=>
   intro i g hi hg
   simp only[zA]at hi
   simp only[cd.L1,Bool.cond_eq_ite]
   split
   .exact ih _ _ (by omega) hg
   .exact h3 _ _ _ (λr=>∀x∈r,0<=x/\x<(signed.length:Int)) (λk=>ih _ _ (by omega) (AY hg (by omega))) _ _
 exact h1 signed 0 [] (by omega) (λx hx=>(kA hx).elim)
theorem vo{l:List Document}{signed:List Int}(h:eC l signed=true):signed.length=l.length:=by
 have h1:∀s:List Int,eC.L1 (eC.K1 l signed) s=true->eC.K1 l signed=true:=by
  intro s
  induction s with
  |nil=>intro h;exact h
  |cons y s ih=>
   intro h
   simp only[eC.L1,Bool.cond_eq_ite]at h
   split at h
   .cases h
   .exact ih h
 have h2:=h1 signed h
 simp only[eC.K1,beq_iff_eq]at h2
 omega
theorem M9(l:List Document)(signed:List Int)(t:Int)(hsg:signed.length=l.length):(ce l signed t).length=l.length:=by
 have h4:∀(i2:Nat)(y2:Int)(g:List Bool)(k:List Int->List Int)(P:List Int->Prop)(n:Nat),(∀r:List Int,r.length=n->P (k r)) ->
   ∀(s:List Nat)(i:Nat)(r:List Int),r.length=n->P (ce.L4 l signed t i2 y2 g k s i r):=by
  intro i2 y2 g k P n hk s
  induction s with
  |nil=>intro i r hr;exact hk r hr
  |cons y s ih=>
   intro i r hr
   simp only[ce.L4,Bool.cond_eq_ite]
   split
   .exact ih _ _ (by rw[List.length_set];exact hr)
   .exact ih _ _ hr
 have h2:∀(s:List Int)(i:Nat)(g:List Bool)(r:List Int),(ce.L2 l signed t (ce.K2) s i g r).length=r.length:=by
  intro s
  induction s with
  |nil=>intro i g r;rfl
  |cons y s ih=>
   intro i g r
   simp only[ce.L2]
   exact h4 _ _ _ _ (λx=>x.length=r.length) r.length (λq hq=>by rw[ih];exact hq) _ _ _ rfl
 have h1:∀(s:List Document)(g:List Int),(ce.L1 (ce.K1 l signed t) s g).length=g.length+s.length:=by
  intro s
  induction s with
  |nil=>intro g;simp only[ce.L1,ce.K1];rw[h2];rfl
  |cons y s ih=>intro g;simp only[ce.L1];rw[ih];simp only[jA,zA,jB];omega
 have:=h1 l []
 simpa[ce]using this
theorem J4{l:List Document}(h:((dP l) != 0)=false):∀d∈l,d.Needs.length<=16:=by
 intro d hd
 have h0:dP l=0:=by simpa using h
 exact(CJ ((O6 h0).2 d hd)).needs.2
theorem zu{l:List Budget}{n t known:Int}{x:Budget}(h:x∈eT l n t known):x∈l:=by
 have h1:∀(s:List Budget)(i:Nat)(g:List Budget),x∈eT.L1 l n t known (eT.K1) s i g->x∈g\/x∈s:=by
  intro s
  induction s with
  |nil=>intro i g h;exact .inl h
  |cons y s ih=>
   intro i g h
   simp only[eT.L1,Bool.cond_eq_ite]at h
   split at h
   .rcases ih _ _ h with h|h
    .rcases qH.1 h with h|h
     .exact .inl h
     .rw[kC.1 h];exact .inr zB
    .exact .inr (vA _ h)
   .rcases ih _ _ h with h|h
    .exact .inl h
    .exact .inr (vA _ h)
 rcases h1 l 0 [] h with h|h
 .exact(kA h).elim
 .exact h
theorem HJ{l:List Budget}{n t known:Int}{x:Budget}(h:fy l=0)(hx:x∈eT l n t known):x.Period≠0:=by
 have h2:cw l=0:=(xU l).trans h
 exact ze (uH h2 x (zu hx))
theorem CK{r:Register}{signed:List Int}{u:List Use}{doc t known:Int}(h:gm r signed u doc t known=true):r.Docs.length<20/\signed.length<=40/\u.length<=30:=by
 simp only[gm,xB,decide_eq_true_eq]at h
 obtain⟨⟨⟨h1,h2⟩,h3⟩,_⟩:=h
 refine⟨?_,by omega,by omega⟩
 simp only[lq,Bool.cond_eq_ite]at h1
 split at h1
 .cases h1
 .next hc=>simp only[xD,not_or,decide_eq_true_eq]at hc;omega
theorem GJ{l:List Document}{sg:List Int}:cg l sg=true↔sg.length=l.length/\∀x∈sg,gL x=false:=by
 unfold cg
 rw[xB,beq_iff_eq,containsF]
 simp only[zE,List.any_eq_false,Bool.not_eq_true]
 constructor
 .rintro⟨h1,h2⟩;exact⟨by omega,h2⟩
 .rintro⟨h1,h2⟩;exact⟨by omega,h2⟩
theorem MF{l:List Budget}{u:List Use}(hc:cw l=0)(hl:u.length<=4096)(hu:gl u=true):(bD l u 0 0 0 0).2.2=0:=by
 unfold bD
 have c1:decide (4096<(u.length:Int))=false:=by simp;omega
 rw[hc,c1,hu]
 have c2:(((!(aR 0 15 ([0])))||(!(aR 0 1099511627776 ([0]))))||(!(aR 0 1099511627775 ([0,0]))))=false:=by decide
 rw[c2]
 exact HG u 0 0 0 _
section
variable {r:Register} {d:Document} {t known:Int} {signed:List Int} {u:List Use} (hco:iU ⟨r,d,t,known⟩) (hs:cg r.Docs signed=true) (hr:(bD r.Budgets u 0 0 0 0).2.2=0)
include hco hs hr
end
theorem IP(b:List Int):∀(l pre:List Int),b=pre++l->fH.L1 b true l pre.length=true
 |[],_,_=>rfl
 |y::l,pre,h=>by
  have hy:nthI b (pre.length:Int)=y:=nn (by rw[h];simp)
  have ih:=IP b l (pre++[y]) (by rw[h];simp)
  rw[jA,zA,jB,Nat.zero_add]at ih
  have e:(y != y)=false:=by simp
  simp only[fH.L1,hy,e,cond_false]
  exact ih
theorem Kn(s:List Int):fH s s=true:=by
 unfold fH
 have e:((s.length:Int) != (s.length:Int))=false:=by simp
 rw[e]
 exact IP s s [] rfl
theorem uses18{u:List Use}(h:ff u=true):gl u=true:=by
 have h3:∀(y:Use)(k:Bool)(s:List Nat)(j:Nat),ff.L3 u y k s j=true->k=true/\∀q:Nat,j<=q->q<j+s.length->(nthI u (q:Int)).Doc≠y.Doc:=by
  intro y k s
  induction s with
  |nil=>intro j h;exact⟨h,λq h1 h2=>by simp at h2;omega⟩
  |cons z s ih=>
   intro j h
   simp only[ff.L3,Bool.cond_eq_ite]at h
   split at h
   .cases h
   .next hc=>
    obtain⟨h1,h2⟩:=ih _ h
    refine⟨h1,λq hq hq2=>?_⟩
    rcases jP j q with e|e
    .exact h2 q e (by simp only[zA]at hq2;omega)
    .have:q=j:=by omega
     subst this
     intro hh;exact hc (by rw[hh];exact beq_self_eq_true _)
 have h1:∀(s:List Use)(i:Nat)(m:List (Int×Bool)),u.drop i=s->(∀x,mgetD m x false=true->∃q:Nat,q<i/\(nthI u (q:Int)).Doc=x)->ff.L1 u (ff.K1) s i=true->gl.L1 gl.K1 s m=true:=by
  intro s
  induction s with
  |nil=>intro i m _ _ _;rfl
  |cons y s ih=>
   intro i m hd hm h
   simp only[ff.L1,Bool.cond_eq_ite]at h
   split at h
   .cases h
   .next hc=>
    simp only[xD,not_or,Bool.not_eq_true,Bool.not_eq_false',fD,ot,gJ,xB,decide_eq_true_eq]at hc
    obtain⟨⟨⟨⟨c1,c2⟩,c3⟩,c4⟩,c5⟩:=hc
    obtain⟨h4,h5⟩:=h3 _ _ _ _ h
    have e0:mgetD m y.Doc false=false:=by
     cases e:mgetD m y.Doc false with
     |false=>rfl
     |true=>
      obtain⟨q,hq,he⟩:=hm _ e
      exact absurd he (h5 q (jL _) (by rw[List.length_range];omega))
    simp only[gl.L1,e0,(qy (a:=0) (b:=4095) (z:=y.Doc)).2 ⟨by omega,by omega⟩,(qy (a:=0) (b:=15) (z:=y.Kind)).2 ⟨by omega,by omega⟩,(qy (a:=0) (b:=1099511627776) (z:=y.Value)).2 ⟨by omega,by omega⟩,(Di (a:=0) (b:=1099511627775) (y:=y.At) (z:=y.Known)).2 ⟨⟨by omega,by omega⟩,⟨by omega,by omega⟩⟩,Bool.not_true,Bool.or_false,cond_false]
    refine ih (i+1) _ (kx hd) (λx hx=>?_) h4
    unfold mgetD at hx
    rw[Cb]at hx
    split at hx
    .next e=>exact⟨i,Nat.lt_succ_self _,by rw[e,nn (rg hd)]⟩
    .obtain⟨q,hq,he⟩:=hm x hx;exact⟨q,by omega,he⟩
 exact h1 u 0 [] rfl (λx hx=>by cases hx) h
theorem signs17{l:List Document}{signed:List Int}(h:eC l signed=true):cg l signed=true:=by
 rw[GJ]
 refine⟨vo h,?_⟩
 have h1:∀s:List Int,eC.L1 (eC.K1 l signed) s=true->∀x∈s,gL x=false:=by
  intro s
  induction s with
  |nil=>intro _ x hx;exact(kA hx).elim
  |cons y s ih=>
   intro h x hx
   simp only[eC.L1,Bool.cond_eq_ite]at h
   split at h
   .cases h
   .next hc=>
    rcases kB.1 hx with rfl|hx
    .exact Bool.eq_false_iff.2 hc
    .exact ih h x hx
 exact h1 signed h
theorem rN{r:Register}(hsm:smR r){signed:List Int}{u:List Use}{doc t known:Int}(hg:gm r signed u doc t known=true):
  dR r=0/\0<=aA r doc/\(0<=t/\t<1099511627776)/\(0<=known/\known<1099511627776)/\cg r.Docs signed=true/\(bD r.Budgets u 0 0 0 0).2.2=0:=by
 simp only[gm,xB,beq_iff_eq]at hg
 have he:=hg.2
 unfold nf at he
 simp only[Bool.cond_eq_ite]at he
 split at he
 .cases he
 .next e1=>
  split at he
  .next e2=>exact absurd he (by simpa using e2)
  .next e2=>
   split at he
   .next e3=>exact absurd he (by simpa using e3)
   .next e3=>
    split at he
    .cases he
    .next e4=>
     have c1:kk r=0:=by simpa using e1
     have c2:(fj r.Docs signed 0).2=0:=by simpa using e2
     have c3:(gi r.Budgets u 0 0 0 0).2.2=0:=by simpa using e3
     simp only[xD,not_or,Bool.not_eq_true,Bool.not_eq_false',decide_eq_true_eq,lK,xB]at e4
     obtain⟨⟨h4,h5⟩,h6⟩:=e4
     have hc:=(judge30 hsm).2 c1
     have hs:cg r.Docs signed=true:=by
      refine signs17 ?_
      unfold fj at c2
      cases q1:dP r.Docs != 0 with
      |true=>rw[q1]at c2;simp only[cond_true]at c2;rw[c2]at q1;cases q1
      |false=>
       rw[q1]at c2
       cases q2:eC r.Docs signed with
       |true=>rfl
       |false=>rw[q2]at c2;simp at c2
     have hu:u.length<=4096/\gl u=true:=by
      unfold gi at c3
      cases q1:fy r.Budgets != 0 with
      |true=>rw[q1]at c3;simp only[cond_true]at c3;rw[c3]at q1;cases q1
      |false=>
       rw[q1]at c3
       cases q2:decide (4096<(u.length:Int))with
       |true=>rw[q2]at c3;simp at c3
       |false=>
        rw[q2]at c3
        cases q3:ff u with
        |true=>exact⟨by simp at q2;omega,uses18 q3⟩
        |false=>rw[q3]at c3;simp at c3
     exact⟨hc,by omega,h5,h6,hs,MF ((ly r).1 hc).2.2.2.1 hu.1 hu.2⟩
abbrev rCourt(r:Register)(doc t known:Int):bN:=⟨r,nthI r.Docs (aA r doc),t,known⟩
theorem tc{r:Register}(hsm:smR r){signed:List Int}{u:List Use}{doc t known:Int}(hg:gm r signed u doc t known=true):
  iU (rCourt r doc t known)/\aG r signed u doc t known=(judgeC (rCourt r doc t known) r signed u t known,0):=by
 obtain⟨hc,hd,ht,hk,hs,hr⟩:=rN hsm hg
 have ho:=LD hd ht hk
 obtain⟨_,hco,_,_⟩:=HS hc ho
 have hdc:bh r.Docs=0:=((ly r).1 hc).2.2.2.2.2.1
 have hi:(aZ r.Docs signed 0).2=0:=C0 hdc hs ⟨Int.le_refl _,by decide⟩
 refine⟨hco,?_⟩
 unfold aG
 rw[hc,hi,hr,ho]
 rfl
theorem GS{r:Register}(hsm:smR r){signed:List Int}{u:List Use}{doc t known:Int}(hg:gm r signed u doc t known=true):
  0<=aA r doc/\aA r doc<(r.Docs.length:Int)/\signed.length=r.Docs.length:=by
 obtain⟨_,hd,_,_,hs,_⟩:=rN hsm hg
 have:=LA (r:=r) (no:=doc) hd
 exact⟨hd,by omega,(GJ.1 hs).1⟩
theorem LF(r:Register)(signed:List Int)(d:Document)(t:Int)(x:Document)(k:Bool->Bool×Bool×Bool):∀(s:List Int)(g:Bool),bQ.L3 r signed d t x k s g=k (g&&s.all λn=>!(((n==d.No)&&((cU r.Docs signed x.No t).1 != 1))&&((cU r.Docs signed x.No t).1 != 4)))
 |[],g=>by simp[bQ.L3]
 |y::s,g=>by
  simp only[bQ.L3,LF r signed d t x k s,List.all_cons]
  cases(((y==d.No)&&((cU r.Docs signed x.No t).1 != 1))&&((cU r.Docs signed x.No t).1 != 4))<;>simp
theorem LE(y:Int)(k:Bool->Bool×Bool×Bool):∀(s:List Int)(g:Bool),bQ.L6 y k s g=k (g||s.any λz=>z==y)
 |[],g=>by simp[bQ.L6]
 |z::s,g=>by simp only[bQ.L6,LE y k s,List.any_cons,Bool.or_assoc]
theorem HT(r:Register)(signed:List Int)(t:Int)(k:Bool->Bool×Bool×Bool):∀(s:List Int)(g:Bool),bQ.L4 r signed t k s g=k (g&&s.all λn=>((aZ r.Docs signed t).1).any λz=>z==n)
 |[],g=>by simp[bQ.L4]
 |y::s,g=>by simp only[bQ.L4,LE,Bool.false_or,HT r signed t k s,List.all_cons,Bool.and_assoc]
def freeD(r:Register)(signed:List Int)(d:Document)(t:Int)(x:Document):Bool:=x.Revokes.all λn=>!(((n==d.No)&&((cU r.Docs signed x.No t).1 != 1))&&((cU r.Docs signed x.No t).1 != 4))
theorem HU(r:Register)(signed:List Int)(d:Document)(t:Int)(k:Bool->Bool×Bool×Bool):∀(s:List Document)(g:Bool),(∀x∈s,(cU r.Docs signed x.No t).2.2=0)->bQ.L1 r signed d t k s g=k (g&&s.all (freeD r signed d t))
 |[],g,_=>by simp[bQ.L1]
 |y::s,g,h=>by
  have h1:=h y (zB ..)
  have ih:=λg=>HU r signed d t k s g (λx hx=>h x (vA _ hx))
  simp only[bQ.L1,h1,bne_self_eq_false,cond_false,LF,ih,List.all_cons,freeD,Bool.and_assoc]
theorem PC(r:Register)(signed:List Int)(d:Document)(i t:Int)(h:(bQ r signed d i t).1=true)(hw:∀x∈r.Docs,(cU r.Docs signed x.No t).2.2=0):d.At<=t:=by
 unfold bQ at h
 rw[HU _ _ _ _ _ _ _ hw]at h
 unfold bQ.K1 at h
 rw[HT]at h
 simp only[bQ.K4,xB,decide_eq_true_eq]at h
 exact h.1.1.1
theorem GR{r:Register}(hsm:smR r){signed:List Int}{u:List Use}{doc t known:Int}(hg:gm r signed u doc t known=true):∀x∈r.Docs,(cU r.Docs signed x.No t).2.2=0:=by
 obtain⟨hc,_,ht,_,hs,_⟩:=rN hsm hg
 exact λx hx=>K5 ((ly r).1 hc).2.2.2.2.2.1 hs ht hx
structure Rb(r:Register)(doc t known:Int):Prop where
 jdg:Jdg r.Versions (aD r.Versions ((nthI r.Docs (aA r doc)).At) t known)
 len:(aD r.Versions ((nthI r.Docs (aA r doc)).At) t known).1.length<=256
 pol:∀y,(bA r y).2=true->Mp (bA r y).1
theorem exCtx{r:Register}(hsm:smR r){signed:List Int}{u:List Use}{doc t known:Int}(hg:(!(gm r signed u doc t known))=false)(ho:((!((bQ r signed (nthI r.Docs (aA r doc)) (aA r doc) t).1))||(!((bQ r signed (nthI r.Docs (aA r doc)) (aA r doc) t).2.1)))=false):Rb r doc t known:=by
 have hg:gm r signed u doc t known=true:=by simpa using hg
 obtain⟨hc,hd,ht,hk,hs,hr⟩:=rN hsm hg
 obtain⟨hco,_⟩:=tc hsm hg
 simp only[Bool.or_eq_false_iff,Bool.not_eq_false']at ho
 have hle:=PC _ _ _ _ _ ho.1 (GR hsm hg)
 refine⟨Ht hco.vers hco.good.at_ ht hk hle,xS (Ao _ _ _ _) hco.vers.len,λy hy=>?_⟩
 exact vj hco hsm (EQ (r:=r) (rCourt r doc t known) rfl hy).1
theorem JL{a b:Bool}(h:((!a)||b)=false):a=true:=by cases a<;>simp_all
theorem Hk{f:Int->List Int}{m:Nat}(h:∀y,(f y).length<=m):∀l:List Int,(l.flatMap f).length<=l.length*m
 |[]=>by simp
 |y::l=>by
  have:=Hk h l
  have:=h y
  simp only[List.flatMap_cons,jA,zA,Nat.add_mul]
  omega
theorem Cr{r:Register}(hsm:smR r){signed:List Int}{u:List Use}{doc t known:Int}(hg:(!(gm r signed u doc t known))=false):
  (aG r signed u doc t known).1.Versions.length<=256/\(aG r signed u doc t known).1.Who.length<=512000000:=by
 obtain⟨hco,hJ⟩:=tc hsm (signed:=signed) (u:=u) (doc:=doc) (t:=t) (known:=known) (by simpa using hg)
 have h1:(askJ (rCourt r doc t known)).1.length<=256:=xS (Ao _ _ _ _) hco.vers.len
 have h2:(askAll (rCourt r doc t known)).length<=512000000:=by
  have h3:=FI (sortI ((askJ (rCourt r doc t known)).1.flatMap (askWho (rCourt r doc t known)))) []
  rw[iw,jB,Nat.zero_add]at h3
  have h4:=Hk (f:=askWho (rCourt r doc t known)) (m:=2000000) (λy=>uX (c:=rCourt r doc t known) hsm _) (askJ (rCourt r doc t known)).1
  have h5:(askJ (rCourt r doc t known)).1.length*2000000<=256*2000000:=Nat.mul_le_mul_right _ h1
  exact xS h3 (by omega)
 rw[hJ]
 unfold judgeC
 cases eI (rCourt r doc t known) signed<;>cases fA (rCourt r doc t known) signed<;>cases eE (rCourt r doc t known)<;>cases(judgeRoom (rCourt r doc t known) r u t known).2.1 <;>
  simp only[cond_true,cond_false,Bool.not_true,Bool.not_false,jB]<;>exact⟨by omega,by omega⟩
theorem MY{r:Register}(hsm:smR r)(doc y t known:Int):(cz r doc y t known).1.length<=2000000:=by
 unfold cz
 cases dR r != 0 with
 |true=>exact jL _
 |false=>
  rw[cond_false]
  cases ho:kW r doc t known with
  |error e=>exact jL _
  |ok c=>
   dsimp only
   cases dS c y with
   |error e=>exact jL _
   |ok p=>
    have hr:c.Register=r:=by
     unfold kW at ho
     rw[Bool.cond_eq_ite]at ho
     split at ho
     .cases ho
     .cases ho;rfl
    exact uX (hr▸hsm) p
theorem anyF(l:List Document)(f:Document->Bool):fU l f=l.any f:=by
 unfold fU ad
 rcases Bc f l 0 with⟨h1,h2⟩|h
 .rw[h1]
  have:l.any f=false:=by rw[List.any_eq_false];intro x hx;simp[h2 x hx]
  rw[this];rfl
 .obtain⟨a,d,b,h1,h2,h3,_⟩:=h
  rw[h2]
  have:l.any f=true:=List.any_eq_true.2 ⟨d,by rw[h1];simp,h3⟩
  rw[this];simp
theorem BE(l:List Int)(n:Int):(l.any λz=>z==n)=gu l n:=by
 rw[qN,Ij,List.any_eq_true]
 exact⟨λ⟨x,h1,h2⟩=>by have:=eq_of_beq h2;subst this;exact h1,λh=>⟨n,h,by simp⟩⟩
theorem OQ(r:Register)(signed:List Int)(c:bN)(hr:c.Register=r)(x:Document):freeD r signed c.doc c.at_ x=!(gY x c signed):=by
 subst hr
 unfold freeD gY
 rw[←BE]
 generalize (cU c.Register.Docs signed x.No c.at_).1=s
 induction x.Revokes with
 |nil=>rfl
 |cons y l ih=>
  rw[List.all_cons,List.any_cons,ih]
  cases y==c.doc.No<;>cases l.any (λz=>z==c.doc.No)<;>cases s != 1<;>cases s != 4<;>rfl
theorem HX{α : Type}(f g:α->Bool)(h:∀x,f x=!(g x)):∀l:List α,l.all f=!(l.any g)
 |[]=>rfl
 |y::l=>by rw[List.all_cons,List.any_cons,HX f g h l,h y,Bool.not_or]
theorem KS{r:Register}(hsm:smR r){signed:List Int}{u:List Use}{doc t known:Int}(hg:gm r signed u doc t known=true):
  bQ r signed (nthI r.Docs (aA r doc)) (aA r doc) t=(!(eI (rCourt r doc t known) signed),!(fA (rCourt r doc t known) signed),true):=by
 obtain⟨hc,hd,ht,hk,hs,hr⟩:=rN hsm hg
 obtain⟨hco,_⟩:=tc hsm hg
 unfold bQ
 rw[HU _ _ _ _ _ _ _ (GR hsm hg)]
 unfold bQ.K1
 rw[HT]
 unfold bQ.K4
 have h3:(aZ r.Docs signed t).2=0:=zc hco hs
 have hi:ad r.Docs (λdF=>bS dF (rCourt r doc t known))=aA r doc:=by
  have hn:=(LA (r:=r) (no:=doc) hd).2.2
  unfold aA ad
  rw[FE]
  have:(λdF=>bS dF (rCourt r doc t known))=λdF=>bB dF doc:=by
   funext a
   show(a.No==(nthI r.Docs (aA r doc)).No)=(a.No==doc)
   rw[hn]
  rw[this]
 have h1:r.Docs.all (freeD r signed (nthI r.Docs (aA r doc)) t)=!(eh (rCourt r doc t known) signed):=by
  unfold eh
  rw[anyF]
  exact HX _ _ (OQ r signed (rCourt r doc t known) rfl) _
 have h2:((nthI r.Docs (aA r doc)).Needs.all λn=>((aZ r.Docs signed t).1).any λz=>z==n)=!(fA (rCourt r doc t known) signed):=by
  unfold fA
  rw[containsF]
  refine HX _ _ (λn=>?_) _
  rw[BE]
  show _=!(!(gu ((aZ r.Docs signed t).1) n))
  rw[Bool.not_not]
 rw[h1,h2,h3,Bool.true_and]
 refine Prod.ext ?_ rfl
 show _=!(eI (rCourt r doc t known) signed)
 unfold eI
 rw[hi]
 show((decide ((nthI r.Docs (aA r doc)).At<=t)&&decide (t<(nthI r.Docs (aA r doc)).Until))&&(decide (nthI signed (aA r doc)<0)||decide (t<nthI signed (aA r doc)))&&!(eh (rCourt r doc t known) signed)) =
  !(((decide (t<(nthI r.Docs (aA r doc)).At)||decide ((nthI r.Docs (aA r doc)).Until<=t))||(decide (0<=nthI signed (aA r doc))&&decide (nthI signed (aA r doc)<=t)))||eh (rCourt r doc t known) signed)
 have e1:decide ((nthI r.Docs (aA r doc)).At<=t)=!(decide (t<(nthI r.Docs (aA r doc)).At)):=by rw[←decide_not];exact decide_eq_decide.2 (by omega)
 have e2:decide (t<(nthI r.Docs (aA r doc)).Until)=!(decide ((nthI r.Docs (aA r doc)).Until<=t)):=by rw[←decide_not];exact decide_eq_decide.2 (by omega)
 have e3:decide (nthI signed (aA r doc)<0)=!(decide (0<=nthI signed (aA r doc))):=by rw[←decide_not];exact decide_eq_decide.2 (by omega)
 have e4:decide (t<nthI signed (aA r doc))=!(decide (nthI signed (aA r doc)<=t)):=by rw[←decide_not];exact decide_eq_decide.2 (by omega)
 rw[e1,e2,e3,e4]
 simp only[Bool.not_or,Bool.not_and]
theorem yX(no:Int):∀l:List Version,(∃v∈l,v.No=no)->(bA.L1 no bA.K1 l).2=true
 |[],h=>by obtain⟨v,hv,_⟩:=h;exact(kA hv).elim
 |y::l,h=>by
  simp only[bA.L1]
  cases e:y.No==no with
  |true=>rfl
  |false=>
   rw[cond_false]
   obtain⟨v,hv,hn⟩:=h
   rcases kB.1 hv with rfl|hv
   .simp[hn]at e
   .exact yX no l ⟨v,hv,hn⟩
theorem MZ{r:Register}(hsm:smR r){doc t known no:Int}(hc:dR r=0)(hd:0<=aA r doc)(ht:0<=t/\t<1099511627776)(hk:0<=known/\known<1099511627776)(hv:∃v∈r.Versions,v.No=no):
  (bA r no).2=true/\askP (rCourt r doc t known) no=(bA r no).1/\cz r doc no t known=(askWho (rCourt r doc t known) no,0):=by
 have hf:(bA r no).2=true:=yX no r.Versions hv
 have hp:=(EQ (r:=r) (rCourt r doc t known) rfl hf).1
 have hP:askP (rCourt r doc t known) no=(bA r no).1:=OZ hp
 refine⟨hf,hP,?_⟩
 unfold cz
 rw[hc,LD hd ht hk,bne_self_eq_false,cond_false]
 dsimp only
 rw[hp]
 dsimp only
 rw[←hP]
 rfl
theorem JQ(k:List (Int×Bool)->Bool):∀(s:List Int)(m:List (Int×Bool)),aT.L5 k s m=k (s.foldl (λm y=>mput m y true) m)
 |[],m=>rfl
 |y::s,m=>JQ k s _
theorem JS{r:Register}{doc t known:Int}(hc:dg r.Appoints=0)(ht:0<=t/\t<1099511627776)(hk:0<=known/\known<1099511627776)(k:List (List Holder)->Bool):∀(s:List ByteArray)(i:Nat)(g:List (List Holder)),i+s.length<=32 ->
  aT.L4 r t known k s i g=ek.L1 (rCourt r doc t known) k s i g
 |[],i,g,_=>rfl
 |y::s,i,g,h=>by
  simp only[zA]at h
  have he:(cW r.Appoints (i:Int) t known).2=0:=Dl hc (by omega) ht hk
  simp only[aT.L4,ek.L1,he,bne_self_eq_false,cond_false]
  exact JS hc ht hk k s (i+1) _ (by omega)
theorem LC(c:bN):∀(s:List ByteArray)(i:Nat)(g:List (List Holder)),∃H,∀k,ek.L1 c k s i g=k H
 |[],i,g=>⟨g,λ_=>rfl⟩
 |y::s,i,g=>by
  obtain⟨H,h⟩:=LC c s (i+1) (g++[(cW c.Register.Appoints (i:Int) c.at_ c.known).1])
  exact⟨H,λk=>h k⟩
theorem JT{r:Register}(hsm:smR r){doc t known:Int}(hc:dR r=0)(hd:0<=aA r doc)(ht:0<=t/\t<1099511627776)(hk:0<=known/\known<1099511627776)(hpo:∀y,(bA r y).2=true->Mp (bA r y).1)(k:List Bool->List (Int×Bool)->Bool):∀(s:List Int)(A:List Bool)(M:List (Int×Bool)),(∀y∈s,∃v∈r.Versions,v.No=y) ->
  aT.L1 r doc t known k s A M=k (A++s.map (askAns (rCourt r doc t known))) ((s.flatMap (askWho (rCourt r doc t known))).foldl (λm y=>mput m y true) M)
 |[],A,M,_=>by simp[aT.L1]
 |y::s,A,M,h=>by
  obtain⟨h1,h2,h3⟩:=MZ hsm hc hd ht hk (h y (zB ..))
  have ih:=λA M=>JT hsm hc hd ht hk hpo k s A M (λz hz=>h z (vA _ hz))
  obtain⟨H,hH⟩:=LC (rCourt r doc t known) (bA r y).1.Offices 0 []
  have ha:askAns (rCourt r doc t known) y=((cB (bA r y).1 ((nthI r.Docs (aA r doc)).Kind) ((nthI r.Docs (aA r doc)).Value) H (askWho (rCourt r doc t known) y)).1&&((cB (bA r y).1 ((nthI r.Docs (aA r doc)).Kind) ((nthI r.Docs (aA r doc)).Value) H (askWho (rCourt r doc t known) y)).2==0)):=by
   unfold askAns ek
   rw[h2,hH]
   rfl
  simp only[aT.L1,h1,h3,Bool.not_true,bne_self_eq_false,Bool.or_false,cond_false]
  rw[JS (doc:=doc) ((ly r).1 hc).1 ht hk _ _ _ _ (by have:=(hpo y h1).off;omega),hH]
  simp only[JQ,ih,←ha,xK,List.flatMap_cons,List.foldl_append,qE,jN,jG]
theorem CE(l:List Int)(x:Int):x∈(l.foldl (λm y=>mput m y true) ([]:List (Int×Bool))).map (·.1)↔x∈l:=by
 refine(Hj (λy:Int=>y) l [] x).trans ?_
 simp only[aCe,kA,false_or]
 exact⟨λ⟨y,h1,h2⟩=>h2▸h1,λh=>⟨x,h,rfl⟩⟩
theorem Kl{l:List Int}{x:Int}(h:x∈l):mgetD (l.foldl (λm y=>mput m y true) ([]:List (Int×Bool))) x false=true:=by
 obtain⟨v,h1,h2⟩:=xd ((CE l x).2 h)
 have h3:=Hi (λy:Int=>y) l [] (λ_ h=>(kA h).elim) _ h2
 simp only at h3
 simp[mgetD,h1,h3]
theorem Kk(l:List Int):(setI l).length=(l.foldl (λm y=>mput m y true) ([]:List (Int×Bool))).length:=by
 have hn:((l.foldl (λm y=>mput m y true) ([]:List (Int×Bool))).map (·.1)).Nodup:=Ft (λy:Int=>y) l [] List.nodup_nil
 have e:sortI ((l.foldl (λm y=>mput m y true) ([]:List (Int×Bool))).map (·.1))=setI l:=by
  refine MG (BL (lJ _) ((kz _).nodup_iff.2 hn)) (DJ _).1 λx=>?_
  rw[(kz _).mem_iff,(DJ _).2]
  exact CE l x
 rw[←e,iw,List.length_map]
theorem JP{r:Register}{signed:List Int}{u:List Use}{doc t known:Int}{W:List Int}(M:List (Int×Bool))(k:Bool)(hw:(aG r signed u doc t known).1.Who=W)(hr:W.Pairwise (·<·))(hM:∀y∈W,mgetD M y false=true):
  ∀(s pre:List Int),W=pre++s->aT.L6 r signed u doc t known M k s pre.length=k
 |[],_,_=>rfl
 |y::s,pre,h=>by
  have h1:=MH h hr
  have h2:=hM y (by rw[h];simp)
  have h3:=JP M k hw hr hM s (pre++[y]) (by rw[h];simp)
  rw[jA,zA,jB,Nat.zero_add]at h3
  simp only[aT.L6,hw,h1,h2,Bool.not_true,Bool.or_false,cond_false]
  exact h3
theorem exactly_true{r:Register}(hsm:smR r)(signed:List Int)(u:List Use)(doc t known:Int):aT r signed u doc t known=true:=by
 unfold aT
 rw[show sB=true from rfl]
 cases hg:gm r signed u doc t known with
 |false=>rfl
 |true=>
  simp only[Bool.not_true,cond_false]
  obtain⟨hc,hd,ht,hk,hs,hr⟩:=rN hsm hg
  obtain⟨hco,hJ⟩:=tc hsm hg
  have ho:=KS hsm hg
  have hE:=exCtx hsm (signed:=signed) (u:=u) (doc:=doc) (t:=t) (known:=known) (by rw[hg];rfl)
  rw[ho]at hE ⊢
  have hV:(aG r signed u doc t known).1=judgeC (rCourt r doc t known) r signed u t known:=by rw[hJ]
  have h2:(aG r signed u doc t known).2=0:=by rw[hJ]
  simp only[h2,bne_self_eq_false,Bool.not_true,Bool.or_false,cond_false,Bool.not_not]at hE ⊢
  cases hcl:eI (rCourt r doc t known) signed with
  |true=>
   have hv:judgeC (rCourt r doc t known) r signed u t known=⟨1,-1,[],[]⟩:=by unfold judgeC;rw[hcl];rfl
   rw[hV,hv];rfl
  |false=>
   cases hla:fA (rCourt r doc t known) signed with
   |true=>
    have hv:judgeC (rCourt r doc t known) r signed u t known=⟨2,-1,[],[]⟩:=by unfold judgeC;rw[hcl,hla];rfl
    rw[hV,hv];rfl
   |false=>
    have E:=hE (by rw[hcl,hla];rfl)
    have hj:=E.jdg
    have hv:judgeC (rCourt r doc t known) r signed u t known=bif !(eE (rCourt r doc t known))then⟨3,-1,(askJ (rCourt r doc t known)).1,askAll (rCourt r doc t known)⟩else
      bif !(judgeRoom (rCourt r doc t known) r u t known).2.1 then⟨4,(judgeRoom (rCourt r doc t known) r u t known).1,(askJ (rCourt r doc t known)).1,askAll (rCourt r doc t known)⟩else⟨0,-1,(askJ (rCourt r doc t known)).1,askAll (rCourt r doc t known)⟩:=by
     unfold judgeC;rw[hcl,hla];rfl
    have hvs:(aG r signed u doc t known).1.Versions=(askJ (rCourt r doc t known)).1:=by
     rw[hV,hv];cases eE (rCourt r doc t known)<;>cases(judgeRoom (rCourt r doc t known) r u t known).2.1<;>rfl
    have hvw:(aG r signed u doc t known).1.Who=askAll (rCourt r doc t known):=by
     rw[hV,hv];cases eE (rCourt r doc t known)<;>cases(judgeRoom (rCourt r doc t known) r u t known).2.1<;>rfl
    have hro:(judgeRoom (rCourt r doc t known) r u t known).2.2=0:=IX hr hco.good.kind hco.good.value ht hk
    have hjE:(aD r.Versions ((nthI r.Docs (aA r doc)).At) t known).2.2=0:=hj.err
    simp only[hjE,hvs,bne_self_eq_false,Bool.or_self,cond_false,Bool.false_or]
    rw[show fH ((aD r.Versions ((nthI r.Docs (aA r doc)).At) t known).1) ((askJ (rCourt r doc t known)).1)=true from Kn _]
    simp only[Bool.not_true,cond_false]
    rw[JT hsm hc hd ht hk E.pol _ _ _ _ hj.mem,jG]
    unfold aT.K1
    have hset:askAll (rCourt r doc t known)=setI (((aD r.Versions ((nthI r.Docs (aA r doc)).At) t known).1).flatMap (askWho (rCourt r doc t known))):=rfl
    rw[hvw,hset,←Kk]
    simp only[bne_self_eq_false,cond_false]
    have hw:=hvw.trans hset
    have h6:=JP (r:=r) (signed:=signed) (u:=u) (doc:=doc) (t:=t) (known:=known) _ (aT.K6 r signed u doc t known (((aD r.Versions ((nthI r.Docs (aA r doc)).At) t known).1).map (askAns (rCourt r doc t known)))) hw (DJ _).1
     (λy hy=>Kl ((DJ _).2 y |>.1 hy)) _ [] rfl
    refine h6.trans ?_
    unfold aT.K6
    have hro':(bD r.Budgets u ((nthI r.Docs (aA r doc)).Kind) ((nthI r.Docs (aA r doc)).Value) t known).2.2=0:=hro
    rw[hro',hV,hv]
    cases hm:(aD r.Versions ((nthI r.Docs (aA r doc)).At) t known).2.1 != 0 with
    |false=>
     have ha:eE (rCourt r doc t known)=false:=by
      unfold eE
      have hm1:(askJ (rCourt r doc t known)).2.1=0:=(by simpa using hm:(aD r.Versions ((nthI r.Docs (aA r doc)).At) t known).2.1=0)
      rw[hm1];rfl
     rw[ha];rfl
    |true=>
     have hm0:(aD r.Versions ((nthI r.Docs (aA r doc)).At) t known).2.1≠0:=by simpa using hm
     have hde:=FU (hj.mode2 hm0) (l:=((aD r.Versions ((nthI r.Docs (aA r doc)).At) t known).1).map (askAns (rCourt r doc t known))) (by rw[List.length_map];exact E.len)
     have ha:eE (rCourt r doc t known)=(gC ((aD r.Versions ((nthI r.Docs (aA r doc)).At) t known).2.1) (((aD r.Versions ((nthI r.Docs (aA r doc)).At) t known).1).map (askAns (rCourt r doc t known)))).1:=by
      unfold eE
      rw[show((askJ (rCourt r doc t known)).2.1==0)=false from beq_eq_false_iff_ne.2 hm0];rfl
     rw[hde,ha]
     generalize (gC ((aD r.Versions ((nthI r.Docs (aA r doc)).At) t known).2.1) (((aD r.Versions ((nthI r.Docs (aA r doc)).At) t known).1).map (askAns (rCourt r doc t known)))).1=b
     cases b with
     |false=>rfl
     |true=>
      show(bif !(judgeRoom (rCourt r doc t known) r u t known).2.1 then _ else _)=true
      cases hb:(judgeRoom (rCourt r doc t known) r u t known).2.1 with
      |false=>simp only[Bool.not_true,Bool.not_false,cond_true,cond_false];simp[judgeRoom]
      |true=>rfl
end Go.Sg

namespace Go.Sg
section
variable {P:Program} {b:Frame} {n:Nat} {k:List Item} {F:List Frame->(Machine->Prop)->Prop} {e:Env} {ds:List Deferred} {X:Cx} {h:HF} {L:LH}
variable {ops:Array Oper} {l:List Oper} {d:Nat} {ty:TypeId} {pos:String} {af:Array Edge} {g:Option (Nat×Bool)}
def memN:List Nat->Nat->Bool
 |[],_=>false
 |a::l,s=>bif aBa s a then true else memN l s
def mix(S:List Nat)(e' e:Env):Env:=λs=>bif memN S s then e' s else e s
def subN:List Nat->List Nat->Bool
 |[],_=>true
 |a::l,S=>memN S a&&subN l S
def Agr(S:List Nat)(e e':Env):Prop:=∀s,memN S s=false->e' s=e s
theorem xY{S:List Nat}{e:Env}:Agr S e e:=λ_ _=>rfl
theorem BF{S:List Nat}{e e':Env}{d:Nat}{w:Value}(hd:memN S d=true)(h:Agr S e e'):Agr S e (upd e' d w):=λs hs=>by
 unfold upd
 cases hb:aBa s d with
 |true=>rw[jV hb,hd]at hs;cases hs
 |false=>exact h s hs
theorem Om{S T:List Nat}(h:subN T S=true){s:Nat}(hs:memN S s=false):memN T s=false:=by
 induction T with
 |nil=>rfl
 |cons a T ih=>
  simp only[subN,xB]at h
  simp only[memN]
  cases hb:aBa s a with
  |true=>rw[jV hb,h.1]at hs;cases hs
  |false=>exact ih h.2
theorem BG{S T:List Nat}{e e' e2:Env}(hT:subN T S=true)(h:Agr S e e'):Agr S e (mix T e2 e'):=λs hs=>by
 unfold mix
 rw[Om hT hs];exact h s hs
theorem Lq(m:Nat)(S:List Nat)(d:Nat)(v:Value)(t':(∀e',e' d=v->(ha:Agr S e e':=by repeat (first|exact xY|refine BF rfl ?_|refine BG rfl ?_))->TO P b n ops (l.drop m) k F e' ds X h L)->TO P b n ops l k F e ds X h L)(hk:∀e'',TO P b n ops (l.drop m) k F (upd (mix S e'' e) d v) ds X h L):TO P b n ops l k F e ds X h L:=
 t' λe' hv ha=>by
  have e1:upd (mix S e' e) d v=e':=funext λs=>by
   unfold upd
   cases hb:aBa s d with
   |true=>rw[jV hb];exact hv.symm
   |false=>
    show mix S e' e s=e' s
    unfold mix
    cases hm:memN S s with
    |true=>rfl
    |false=>exact(ha s hm).symm
  have:=hk e'
  rw[e1]at this
  exact this
theorem ae{α : Type}{x y z:α}{c:Bool}{o:Operand}{p q:Code}(hs:x=bif c then y else z)(hx:e.ev o=.bool c)(t1:c=true->x=y->TT P b n (.code p::k) F e ds X h L)(t2:c=false->x=z->TT P b n (.code q::k) F e ds X h L):TT P b n (.code (.cond o p q)::k) F e ds X h L:=
 j8 hx (λe'=>t1 e' (hs.trans (by rw[e'];rfl))) (λe'=>t2 e' (hs.trans (by rw[e'];rfl)))
end
end Go.Sg

namespace Go.Sg
inductive Qs
 |tt (k:List Item) (e:Env)
 |to (ops:Array Oper) (l:List Oper) (k:List Item) (e:Env)
@[reducible] def Qs.holds (P:Program) (b:Frame) (n:Nat) (F:List Frame->(Machine->Prop)->Prop) (ds:List Deferred) (X:Cx) (h:HF) (L:LH):Qs->Prop
 |.tt k e=>TT P b n k F e ds X h L
 |.to ops l k e=>TO P b n ops l k F e ds X h L
def opQ(e:Env):Op->Option Value
 |.move x=>some (e.ev x)
 |.assign x=>some (e.ev x)
 |.pick c x y=>match e.ev c with
  |.bool s=>some (bif s then e.ev x else e.ev y)
  |_=>none
 |.extract x i=>match e.ev x with
  |.tuple ⟨vs⟩=>nth vs i
  |_=>none
 |.unOp .not _ x=>match e.ev x with
  |.bool s=>some (.bool !s)
  |_=>none
 |.binOp op _ x y _=>binV op (e.ev x) (e.ev y)
 |_=>none
def qstepO(n:Nat)(ops:Array Oper)(l:List Oper)(k:List Item)(e:Env):Option Qs:=
 match l with
 |[]=>some (.tt k e)
 |⟨some d,op,ty,pos,af,g⟩::l=>
  match Nat.blt d n with
  |false=>none
  |true=>match guardB ops e ⟨some d,op,ty,pos,af,g⟩with
   |false=>some (.to ops l k (upd e d undef))
   |true=>match opQ e op with
    |some v=>some (.to ops l k (upd e d v))
    |none=>none
 |_=>none
def qstepT(k:List Item)(e:Env):Option Qs:=
 match k with
 |.code .skip::k=>some (.tt k e)
 |.code (.seq x y)::k=>some (.tt (.code x::.code y::k) e)
 |.code (.block id c)::k=>some (.tt (.code c::.inBlock id::k) e)
 |.inBlock _::k=>some (.tt k e)
 |.code (.exit id)::k=>match exitTo id k with
  |some k'=>some (.tt k' e)
  |none=>none
 |.code (.cond c x y)::k=>match e.ev c with
  |.bool true=>some (.tt (.code x::k) e)
  |.bool false=>some (.tt (.code y::k) e)
  |_=>none
 |.code (.region _ ⟨l⟩ false)::k=>some (.to ⟨l⟩ l k e)
 |_=>none
def runQ(n:Nat):Nat->Qs->Option Qs
 |0,s=>some s
 |m+1,.tt k e=>match qstepT k e with
  |some s=>runQ n m s
  |none=>none
 |m+1,.to ops l k e=>match qstepO n ops l k e with
  |some s=>runQ n m s
  |none=>none
section
variable {P:Program} {b:Frame} {n:Nat} {k:List Item} {F:List Frame->(Machine->Prop)->Prop} {e:Env} {ds:List Deferred} {X:Cx} {h:HF} {L:LH}
theorem HV{op:Op}{v:Value}(hv:opQ e op=some v):noDefer op=true/\∀(d:Option Nat)(ty:TypeId)(pos:String)(af:Array Edge)(g:Option (Nat×Bool))w,(execOp e.ev ⟨d,op,ty,pos,af,g⟩).run P w=.ok (.value v) w:=by
 unfold opQ at hv
 split at hv
 .cases hv;exact⟨rfl,λ_ _ _ _ _ w=>by simp[execOp]⟩
 .cases hv;exact⟨rfl,λ_ _ _ _ _ w=>by simp[execOp]⟩
 .split at hv
  .next s hc=>cases hv;exact⟨rfl,λ_ _ _ _ _ w=>by cases s<;>simp[execOp,hc,asBool]⟩
  .cases hv
 .split at hv
  .next vs hx=>exact⟨rfl,λ_ _ _ _ _ w=>by rw[im]at hv;simp[execOp,hx,Instr.extract,hv]⟩
  .cases hv
 .split at hv
  .next s hx=>cases hv;exact⟨rfl,λ_ _ _ _ _ w=>by simp[execOp,hx,Op.unary]⟩
  .cases hv
 .next op t x y u=>
  exact⟨rfl,λ_ _ _ _ _ w=>by
   have:=Ei (P:=P) (t:=t) (x:=x) (y:=y) hv w
   simp only[execOp,Sem.run_bind]at this ⊢
   simp[this]⟩
 .cases hv
theorem MK{ops:Array Oper}{l:List Oper}{s:Qs}(hs:qstepO n ops l k e=some s)(t:s.holds P b n F ds X h L):TO P b n ops l k F e ds X h L:=by
 unfold qstepO at hs
 split at hs
 .cases hs;exact aJ t
 .split at hs
  .cases hs
  .next hd=>
   split at hs
   .next hg=>cases hs;exact HW t hd hg
   .next hg=>
    split at hs
    .next v hv=>
     cases hs
     obtain⟨h1,h2⟩:=HV (P:=P) hv
     exact tC v h1 (λw _=>h2 _ _ _ _ _ w) hd hg t
    .cases hs
 .cases hs
theorem GU{s:Qs}(hs:qstepT k e=some s)(t:s.holds P b n F ds X h L):TT P b n k F e ds X h L:=by
 unfold qstepT at hs
 split at hs
 .cases hs;exact aN t
 .cases hs;exact el t
 .cases hs;exact lZ t
 .cases hs;exact eF t
 .split at hs
  .next hx=>cases hs;exact lI hx t
  .cases hs
 .split at hs
  .next hc=>cases hs;exact lu hc t
  .next hc=>cases hs;exact oL hc t
  .cases hs
 .cases hs;exact bE t
 .cases hs
theorem DL:∀(m:Nat)(a:Qs){s:Qs},runQ n m a=some s->s.holds P b n F ds X h L->a.holds P b n F ds X h L
 |0,_,_,hr,t=>by cases hr;exact t
 |m+1,.tt k e,s,hr,t=>by
  unfold runQ at hr
  split at hr
  .next s' hs=>exact GU hs (DL m s' hr t)
  .cases hr
 |m+1,.to ops l k e,s,hr,t=>by
  unfold runQ at hr
  split at hr
  .next s' hs=>exact MK hs (DL m s' hr t)
  .cases hr
theorem qT(m:Nat){s:Qs}(hr:runQ n m (.tt k e)=some s)(t:s.holds P b n F ds X h L):TT P b n k F e ds X h L:=DL m (.tt k e) hr t
theorem qO{ops:Array Oper}{l:List Oper}(m:Nat){s:Qs}(hr:runQ n m (.to ops l k e)=some s)(t:s.holds P b n F ds X h L):TO P b n ops l k F e ds X h L:=DL m (.to ops l k e) hr t
end
end Go.Sg

namespace Go.Sg
section
variable {P:Program} {b:Frame} {n:Nat} {k:List Item} {F:List Frame->(Machine->Prop)->Prop} {e:Env} {ds:List Deferred} {X:Cx} {h:HF} {L:LH}
theorem rds{p:Prop}(h:p:=by repeat (first|exact trivial|refine⟨rfl,?_⟩)):p:=h
theorem sws{p:Prop}(h:p:=by first|exact λw hw=>hw|(intro w hw;first|simpa only[List.append_assoc,List.cons_append,List.nil_append,List.append_nil]using hw|(simp only[List.append_assoc,List.cons_append,List.nil_append,List.append_nil]at hw ⊢;exact hw))):p:=h
theorem ndA{p:Prop}(h:p:=by(intro i g hd hf hx e;refine el (bE (iQ (v':=.bool false) rfl (congrArg Value.bool hf) (aJ (el (oL rfl (lI rfl (hx _ ?_)))))));exact rds)):p:=h
theorem ndB{p:Prop}(h:p:=by(intro i hd hf hx e;refine el (bE (iQ (v':=.bool false) rfl (congrArg Value.bool hf) (aJ (el (oL rfl (lI rfl (hx _ ?_)))))));exact rds)):p:=h
theorem lpG{α γ ρ : Type}{id:Nat}{c:Code}{x0:ρ}(xs:List α)(sl:Nat->γ->List (Nat×Value))(hh:γ->HF)(LL:γ->LH)(J:Nat->γ->Prop)(Lf:List α->Nat->γ->ρ)(g0:γ)(hb:xs.length<=9223372036854775807)(hs:x0=Lf xs 0 g0)(hJ:J 0 g0)(h0:jd e (sl 0 g0))(hw:∀w,St X h L w->St X (hh g0) (LL g0) w)(after:∀i g,i<=xs.length->x0=Lf [] i g->J i g->∀e',TT P b n k F (upds e' (sl i g)) ds X (hh g) (LL g))(cons:∀i g y r,xs.drop i=y::r->decide ((i:Int)<(xs.length:Int))=true->xs[i]? = some y->i<xs.length->xs.length<=9223372036854775807->x0=Lf (y::r) i g->J i g ->
   (∀i' g' {e'},x0=Lf [] i' g'->J i' g'->i'<=xs.length->jd e' (sl i' g')->TT P b n k F e' ds X (hh g') (LL g')) ->
   (∀g' {e'},x0=Lf r (i+1) g'->J (i+1) g'->jd e' (sl (i+1) g')->TT P b n (.inLoop c::.inBlock id::k) F e' ds X (hh g') (LL g')) ->
   ∀e',TT P b n (.code c::.inLoop c::.inBlock id::k) F (upds e' (sl i g)) ds X (hh g) (LL g))(nil:∀i g,xs.drop i=[]->decide ((i:Int)<(xs.length:Int))=false->(∀e',jd e' (sl i g)->TT P b n k F e' ds X (hh g) (LL g)) ->
   ∀e',TT P b n (.code c::.inLoop c::.inBlock id::k) F (upds e' (sl i g)) ds X (hh g) (LL g)):
  TT P b n (.code (.block id (.loop c))::k) F e ds X h L:=by
 refine iL (ι:=Nat×γ) (λi=>sl i.1 i.2) (λi=>hh i.2) (λi=>LL i.2) (λi=>i.1<=xs.length/\x0=Lf [] i.1 i.2/\J i.1 i.2) ?_ (λhx=>?_)
 .rintro⟨i,g⟩ ⟨h1,h2,h3⟩ e'
  exact after i g h1 h2 h3 e'
 .refine kg (ι:=Nat×γ×List α) (λi=>sl i.1 i.2.1) (λi=>hh i.2.1) (λi=>LL i.2.1) (λi=>xs.drop i.1=i.2.2/\i.1<=xs.length/\x0=Lf i.2.2 i.1 i.2.1/\J i.1 i.2.1) (λi=>i.2.2.length) (0,g0,xs) h0 hw ⟨rfl,jL _,hs,hJ⟩ ?_
  rintro⟨i,g,s⟩ ⟨hd,hi,hs,hJ⟩ ag e'
  dsimp only at hd hi hs hJ
  rcases s with _|⟨y,r⟩
  .exact nil i g hd (mR hd) (λe'' hr=>hx (i,g) e'' ⟨hi,hs,hJ⟩ hr) e'
  .exact cons i g y r hd (sQ hd) (rg hd) (io hd) hb hs hJ (λi' g' e'' a b c d=>hx (i',g') e'' ⟨c,a,b⟩ d)
    (λg' e'' a b hr=>ag (i+1,g',r) e'' (Nat.lt_succ_self _) ⟨kx hd,io hd,a,b⟩ hr) e'
theorem lp2{α γ ρ : Type}{id:Nat}{c:Code}{x0:ρ}(xs:List α)(sl:Nat->γ->List (Nat×Value))(hh:γ->HF)(LL:γ->LH)(J:Nat->γ->Prop)(Lf:List α->Nat->γ->ρ)(g0:γ)(hb:xs.length<=9223372036854775807)(hs:x0=Lf xs 0 g0)(hJ:J 0 g0)(after:∀i g,i<=xs.length->x0=Lf [] i g->J i g->∀e',TT P b n k F (upds e' (sl i g)) ds X (hh g) (LL g))(cons:∀i g y r,xs.drop i=y::r->decide ((i:Int)<(xs.length:Int))=true->xs[i]? = some y->i<xs.length->xs.length<=9223372036854775807->x0=Lf (y::r) i g->J i g ->
   (∀i' g' {e'},x0=Lf [] i' g'->J i' g'->(hi:i'<=xs.length:=by omega)->(hr:jd e' (sl i' g'):=by exact rds)->TT P b n k F e' ds X (hh g') (LL g')) ->
   (∀g' {e'},x0=Lf r (i+1) g'->J (i+1) g'->(hr:jd e' (sl (i+1) g'):=by exact rds)->TT P b n (.inLoop c::.inBlock id::k) F e' ds X (hh g') (LL g')) ->
   ∀e',TT P b n (.code c::.inLoop c::.inBlock id::k) F (upds e' (sl i g)) ds X (hh g) (LL g))(nil:∀i g,xs.drop i=[]->decide ((i:Int)<(xs.length:Int))=false->(∀e',jd e' (sl i g)->TT P b n k F e' ds X (hh g) (LL g)) ->
   ∀e',TT P b n (.code c::.inLoop c::.inBlock id::k) F (upds e' (sl i g)) ds X (hh g) (LL g):=by exact ndA)(h0:jd e (sl 0 g0):=by exact rds)(hw:∀w,St X h L w->St X (hh g0) (LL g0) w:=by exact sws):
  TT P b n (.code (.block id (.loop c))::k) F e ds X h L:=
 lpG xs sl hh LL J Lf g0 hb hs hJ h0 hw after cons nil
theorem lp1{α γ ρ : Type}{id:Nat}{c:Code}{x0:ρ}(xs:List α)(sl:Nat->γ->List (Nat×Value))(L':LH)(Lf:List α->Nat->γ->ρ)(g0:γ)(hb:xs.length<=9223372036854775807)(hs:x0=Lf xs 0 g0)(after:∀i g,i<=xs.length->x0=Lf [] i g->∀e',TT P b n k F (upds e' (sl i g)) ds X h L')(cons:∀i g y r,xs.drop i=y::r->decide ((i:Int)<(xs.length:Int))=true->xs[i]? = some y->i<xs.length->xs.length<=9223372036854775807->x0=Lf (y::r) i g ->
   (∀i' g' {e'},x0=Lf [] i' g'->(hi:i'<=xs.length:=by omega)->(hr:jd e' (sl i' g'):=by exact rds)->TT P b n k F e' ds X h L') ->
   (∀g' {e'},x0=Lf r (i+1) g'->(hr:jd e' (sl (i+1) g'):=by exact rds)->TT P b n (.inLoop c::.inBlock id::k) F e' ds X h L') ->
   ∀e',TT P b n (.code c::.inLoop c::.inBlock id::k) F (upds e' (sl i g)) ds X h L')(nil:∀i g,xs.drop i=[]->decide ((i:Int)<(xs.length:Int))=false->(∀e',jd e' (sl i g)->TT P b n k F e' ds X h L') ->
   ∀e',TT P b n (.code c::.inLoop c::.inBlock id::k) F (upds e' (sl i g)) ds X h L':=by exact ndA)(h0:jd e (sl 0 g0):=by exact rds)(hw:∀w,St X h L w->St X h L' w:=by exact sws):
  TT P b n (.code (.block id (.loop c))::k) F e ds X h L:=
 lpG xs sl (λ_=>h) (λ_=>L') (λ_ _=>True) Lf g0 hb hs trivial h0 hw (λi g a b _=>after i g a b) (λi g y r a1 a2 a3 a4 a5 a6 _ hx ag=>cons i g y r a1 a2 a3 a4 a5 a6 (λi' g' _ a hi hr=>hx i' g' a trivial hi hr) (λg' _ a hr=>ag g' a trivial hr)) nil
theorem lp0{α ρ : Type}{id:Nat}{c:Code}{x0:ρ}(xs:List α)(sl:Nat->List (Nat×Value))(L':LH)(Lf:List α->Nat->ρ)(hb:xs.length<=9223372036854775807)(hs:x0=Lf xs 0)(after:∀i,i<=xs.length->x0=Lf [] i->∀e',TT P b n k F (upds e' (sl i)) ds X h L')(cons:∀i y r,xs.drop i=y::r->decide ((i:Int)<(xs.length:Int))=true->xs[i]? = some y->i<xs.length->xs.length<=9223372036854775807->x0=Lf (y::r) i ->
   (∀i' {e'},x0=Lf [] i'->(hi:i'<=xs.length:=by omega)->(hr:jd e' (sl i'):=by exact rds)->TT P b n k F e' ds X h L') ->
   (∀{e'},x0=Lf r (i+1)->(hr:jd e' (sl (i+1)):=by exact rds)->TT P b n (.inLoop c::.inBlock id::k) F e' ds X h L') ->
   ∀e',TT P b n (.code c::.inLoop c::.inBlock id::k) F (upds e' (sl i)) ds X h L')(nil:∀i,xs.drop i=[]->decide ((i:Int)<(xs.length:Int))=false->(∀e',jd e' (sl i)->TT P b n k F e' ds X h L') ->
   ∀e',TT P b n (.code c::.inLoop c::.inBlock id::k) F (upds e' (sl i)) ds X h L':=by exact ndB)(h0:jd e (sl 0):=by exact rds)(hw:∀w,St X h L w->St X h L' w:=by exact sws):
  TT P b n (.code (.block id (.loop c))::k) F e ds X h L:=
 lpG (γ:=Unit) xs (λi _=>sl i) (λ_=>h) (λ_=>L') (λ_ _=>True) (λl i _=>Lf l i) () hb hs trivial h0 hw (λi _ a b _=>after i a b) (λi _ y r a1 a2 a3 a4 a5 a6 _ hx ag=>cons i y r a1 a2 a3 a4 a5 a6 (λi' _ a hi hr=>hx i' () a trivial hi hr) (λa hr=>ag () a trivial hr)) (λi _=>nil i)
theorem bV{ops:Array Oper}{l:List Oper}(m:Nat)(S:List Nat)(s d:Nat)(y:Bool){x:Bool}(hx:e s=.bool x)(t':x=false->(∀e',e' d=.bool y->(ha:Agr S e e':=by repeat (first|exact xY|refine BF rfl ?_|refine BG rfl ?_))->TO P b n ops (l.drop m) k F e' ds X h L)->TO P b n ops l k F (upd e s (.bool false)) ds X h L)(hk:∀e'',TO P b n ops (l.drop m) k F (upd (mix S e'' e) d (.bool (x||y))) ds X h L)(hq:∃e2,runQ n m (.to ops l k (upd e s (.bool true)))=some (.to ops (l.drop m) k e2)/\e2 d=.bool true/\Agr S e e2:=by exact⟨_,rfl,rfl,by repeat (first|exact xY|refine BF rfl ?_|refine BG rfl ?_)⟩):TO P b n ops l k F e ds X h L:=by
 refine Lq m S d (.bool (x||y)) (λhj=>?_) hk
 refine us s hx (λc=>?_) (λc=>t' c (λe' he ha=>hj e' (he.trans (by rw[c];rfl)) ha))
 obtain⟨e2,h1,h2,h3⟩:=hq
 exact qO m h1 (hj e2 (h2.trans (by rw[c];rfl)) h3)
theorem bj{ops:Array Oper}{l:List Oper}(m:Nat)(S:List Nat)(s d:Nat)(y:Bool){x:Bool}(hx:e s=.bool x)(t':x=true->(∀e',e' d=.bool y->(ha:Agr S e e':=by repeat (first|exact xY|refine BF rfl ?_|refine BG rfl ?_))->TO P b n ops (l.drop m) k F e' ds X h L)->TO P b n ops l k F (upd e s (.bool true)) ds X h L)(hk:∀e'',TO P b n ops (l.drop m) k F (upd (mix S e'' e) d (.bool (x&&y))) ds X h L)(hq:∃e2,runQ n m (.to ops l k (upd e s (.bool false)))=some (.to ops (l.drop m) k e2)/\e2 d=.bool false/\Agr S e e2:=by exact⟨_,rfl,rfl,by repeat (first|exact xY|refine BF rfl ?_|refine BG rfl ?_)⟩):TO P b n ops l k F e ds X h L:=by
 refine Lq m S d (.bool (x&&y)) (λhj=>?_) hk
 refine us s hx (λc=>t' c (λe' he ha=>hj e' (he.trans (by rw[c];rfl)) ha)) (λc=>?_)
 obtain⟨e2,h1,h2,h3⟩:=hq
 exact qO m h1 (hj e2 (h2.trans (by rw[c];rfl)) h3)
theorem P5{ops:Array Oper}{l:List Oper}(s:Nat)(v:Value)(hv:e s=v)(t:TO P b n ops l k F (upd e s v) ds X h L):TO P b n ops l k F e ds X h L:=by
 rw[←hv,un]at t;exact t
end
def look3:List (Nat×Nat×Nat)->Nat->Nat->Option Nat
 |[],_,_=>none
 |(a,b,c)::l,s,i=>bif aBa a s&&aBa b i then some c else look3 l s i
def tabOk(P:Program)(tF:List (Nat×Nat×Nat))(tY tS:List Nat):Bool:=
 tF.all (λx=>fldOf P x.1 x.2.1==some x.2.2)&&tY.all (λt=>tySz P t==some (1,false))&&tS.all (λt=>match P.underlying t with|some (.slice _)=>true|_=>false)
def P2:List (Nat×Nat)->Prop
 |[]=>True
 |(a,b)::q=>a=b/\P2 q
def runL(tF:List (Nat×Nat×Nat))(tY tS:List Nat)(n:Nat)(L:LH):Nat->List Nat->Qs->Option (Qs×List (Nat×Nat))
 |0,_,s=>some (s,[])
 |m+1,is,.tt k e=>match qstepT k e with
  |some s=>runL tF tY tS n L m is s
  |none=>none
 |m+1,is,.to ops [] k e=>runL tF tY tS n L m is (.tt k e)
 |m+1,is,.to ops (⟨some d,op,ty,pos,af,g⟩::l) k e=>match Nat.blt d n with
  |false=>none
  |true=>match guardB ops e ⟨some d,op,ty,pos,af,g⟩with
   |false=>runL tF tY tS n L m is (.to ops l k (upd e d undef))
   |true=>match op with
    |.fieldAddr s x i=>match e.ev x,look3 tF s i with
     |.pointer (some a),some off=>runL tF tY tS n L m is (.to ops l k (upd e d (.pointer (some (a.add off)))))
     |_,_=>none
    |.load t x=>match e.ev x,is with
     |.pointer (some ⟨bk,off,none⟩),i::is=>match nth L i with
      |some (bk',.cells ⟨cl⟩ _ _)=>match nth cl off,memN tY t with
       |some v,true=>match runL tF tY tS n L m is (.to ops l k (upd e d v))with
        |some (s,q)=>some (s,(bk,bk')::q)
        |none=>none
       |_,_=>none
      |_=>none
     |_,_=>none
    |.call ⟨.builtin .len,⟨[x]⟩,⟨[t]⟩⟩=>match e.ev x,memN tS t with
     |.slice _ m' _,true=>runL tF tY tS n L m is (.to ops l k (upd e d (.int .i64 (m':Int))))
     |_,_=>none
    |op=>match opQ e op with
     |some v=>runL tF tY tS n L m is (.to ops l k (upd e d v))
     |none=>none
 |_+1,_,.to _ _ _ _=>none
theorem EP:∀{l:List Nat}{a:Nat},memN l a=true->a∈l
 |[],_,h=>by cases h
 |b::l,a,h=>by
  unfold memN at h
  cases hb:aBa a b with
  |true=>rw[jV hb];exact zB ..
  |false=>rw[hb]at h;exact vA _ (EP h)
theorem Cc:∀{l:List (Nat×Nat×Nat)}{s i o:Nat},look3 l s i=some o->(s,i,o)∈l
 |[],_,_,_,h=>by cases h
 |(a,b,c)::l,s,i,o,h=>by
  unfold look3 at h
  cases hb:aBa a s&&aBa b i with
  |true=>
   rw[hb]at h;cases h
   simp only[xB]at hb
   rw[jV hb.1,jV hb.2];exact zB ..
  |false=>rw[hb]at h;exact vA _ (Cc h)
section
variable {P:Program} {b:Frame} {n:Nat} {k:List Item} {F:List Frame->(Machine->Prop)->Prop} {e:Env} {ds:List Deferred} {X:Cx} {h:HF} {L:LH}
theorem rC{tF:List (Nat×Nat×Nat)}{tY tS:List Nat}(hT:tabOk P tF tY tS=true):∀(m:Nat)(is:List Nat)(a:Qs){s:Qs}{q:List (Nat×Nat)},runL tF tY tS n L m is a=some (s,q)->P2 q->s.holds P b n F ds X h L->a.holds P b n F ds X h L
 |0,is,a,s,q,hr,hq,t=>by
  simp only[runL,kQ,Prod.mk.injEq]at hr;rw[hr.1];exact t
 |m+1,is,.tt k e,s,q,hr,hq,t=>by
  unfold runL at hr
  split at hr
  .next hs=>exact GU hs (rC hT m _ _ hr hq t)
  .cases hr
 |m+1,is,.to ops [] k e,s,q,hr,hq,t=>by
  unfold runL at hr
  exact aJ (rC hT m _ _ hr hq t)
 |m+1,is,.to ops (⟨none,op,ty,pos,af,g⟩::l) k e,s,q,hr,hq,t=>by
  unfold runL at hr
  cases hr
 |m+1,is,.to ops (⟨some d,op,ty,pos,af,g⟩::l) k e,s,q,hr,hq,t=>by
  have hT':=hT
  simp only[tabOk,xB,List.all_eq_true]at hT'
  obtain⟨⟨h1,h2⟩,h3⟩:=hT'
  unfold runL at hr
  split at hr
  .cases hr
  .next hd=>
   split at hr
   .next hg=>exact HW (rC hT m _ _ hr hq t) hd hg
   .next hg=>
    split at hr
    .split at hr
     .next hx hl=>exact jY (by simpa using h1 _ (Cc hl)) hx (rC hT m _ _ hr hq t) hd hg
     .cases hr
    .split at hr
     .next hx=>
      split at hr
      .next hn=>
       split at hr
       .next hv hm=>
        split at hr
        .next hr2=>
         cases hr
         obtain⟨e1,hq⟩:=hq
         subst e1
         exact nW _ (by simpa using h2 _ (EP hm)) hx hn hv (rC hT m _ _ hr2 hq t) hd hg
        .cases hr
       .cases hr
      .cases hr
     .cases hr
    .split at hr
     .next hx hm=>
      have:=h3 _ (EP hm)
      split at this
      .next hu=>exact LG hu hx (rC hT m _ _ hr hq t) hd hg
      .cases this
     .cases hr
    .split at hr
     .next v hv=>
      obtain⟨g1,g2⟩:=HV (P:=P) hv
      exact tC v g1 (λw _=>g2 _ _ _ _ _ w) hd hg (rC hT m _ _ hr hq t)
     .cases hr
end
theorem sT{P:Program}{f:FuncId}{fn:Func}{c:Code}{n:Nat}{args:List Value}{h:HF}{A:LH}{R:Ending->HF->LH->Prop}(hf:P.funcs[f]? = some fn)(hb:fn.body=some c)(hn:fn.ntmps=n)(hle:Nat.ble args.length n=true)(t:∀X:Cx,X.M=A.map (·.1)->X.h0=h->P.funcs[f]? = some fn->TT P (bodyFrame f) n [.code c] (lS P X R) (envArgs args) [] X h A):od P f args.toArray h A R:=
 cJ hf hb hn hle λX a b=>t X a b hf
section
variable {P:Program} {f:FuncId} {n:Nat} {k:List Item} {e:Env} {X:Cx} {h:HF} {L:LH} {fn:Func} {rs:List ResultVar} {φ : Value->HF->Prop}
theorem nretP{v:Value}{hh:HF}(vs:List Value)(hvv:retVal vs=v)(hf:P.funcs[f]? = some fn:=by assumption)(hr:fn.results=rs.toArray:=by rfl)(hX:X.h0=hh:=by assumption)(hv:tJ P e L rs vs:=by exact rds):
  TT P (bodyFrame f) n (.code .ret::k) (lS P X (λx h' B=>x=.returned v/\h'=hh/\B=[])) e [] X h L:=s8 vs hf hr hX hv hvv
theorem nretH(vs:List Value)(hφ : φ (retVal vs) h)(hf:P.funcs[f]? = some fn:=by assumption)(hr:fn.results=rs.toArray:=by rfl)(hv:tJ P e L rs vs:=by exact rds):
  TT P (bodyFrame f) n (.code .ret::k) (lS P X (λx h' B=>B=[]/\∃v,x=.returned v/\φ v h')) e [] X h L:=jx vs hf hr hv hφ
end
section grows
variable {P:Program} {b:Frame} {n:Nat} {ops:Array Oper} {F:List Frame->(Machine->Prop)->Prop} {e:Env} {ds:List Deferred} {X:Cx} {h:HF} {L:LH} {K:Env->HF->LH->Prop} {d:Option Nat} {ty:TypeId} {pos:String} {af:Array Edge} {g:Option (Nat×Bool)}
variable {α : Type} {R:Rp α} {E:TypeId} {xs:List α} {base:Option Addr} {cap bk:Nat} {G:LH}
theorem si{α ρ : Type}{R:Rp α}{C:α->ρ->List Value}{ok:HF->α->ρ->Prop}{t E:TypeId}{x ix:Operand}{a:Bool}{base:Option Addr}{m cap:Nat}{xs:List α}{y:α}{z:Int}(hT:P.underlying t=some (.slice E))(hS:tySz P E=some (R.sz,a))(hR:SlB R h base xs)(hz:0<=z/\z<(xs.length:Int))(hj:xs[z.toNat]? = some y)(hx:e.ev x=.slice base m cap)(hm:m=xs.length)(hix:e.ev ix=.int .i64 z)(hC:∀h cs y,R.rep h cs y->∃r,cs=C y r/\ok h y r)(t':∀q r,At h q (C y r)->ok h y r->K (pute e d (.pointer (some q))) h L)(hg:guardB ops e ⟨d,.indexAddr t x ix,ty,pos,af,g⟩=true:=by rfl):Stp P b n ops F ds X ⟨d,.indexAddr t x ix,ty,pos,af,g⟩ e h L K:=
 Lw hT hS hR hz hj hx hm hix (λq cs A ln rr=>by obtain⟨r,e1,o1⟩:=hC _ _ _ rr;subst e1;exact t' q r A o1) hg
end grows
end Go.Sg
