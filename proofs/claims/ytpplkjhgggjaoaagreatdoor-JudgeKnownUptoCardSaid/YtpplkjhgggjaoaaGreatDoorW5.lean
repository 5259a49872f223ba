import Derived.Test.YtpplkjhgggjaoaaGreatDoorW4
/- A part of the proof of JudgeKnown. -/
set_option linter.unusedVariables false
set_option linter.unusedSimpArgs false
set_option maxRecDepth 100000
open List renaming length_cons→xA,length_append→jA,mem_cons_of_mem→vA,not_mem_nil→kA,mem_cons_self→zB,length_nil→vB,mem_cons→qC,mem_singleton→jD,append_assoc→kD,nil_append→zG,mem_append→kH,map_cons→xK,mem_append_right→zM,mem_map_of_mem→kM,cons_append→qP,mem_map→jQ,getElem?_map→kT,foldl_cons→aAy,mem_filter→aBH,filter_congr→aCS
open Bool renaming and_eq_true→xB,or_eq_true→xD,not_eq_true'→qE,false_eq_true→jL,eq_iff_iff→jP
open Nat renaming le_refl→kF,zero_le→zN,lt_or_ge→xQ,le_trans→kS,eq_of_beq_eq_true→aAe,beq→aBc
open Go.Sg.Expr renaming mk→xG,jU→aAn,mj→aBh,ind→aBk
open Go.Sg.Register renaming mk→jG
open Go.Sg.Policy renaming mk→kN
open Go.Sg.Interest renaming mk→zV
open Option.some renaming inj→qW
open Go.Sg.Budget renaming mk→aAz
open Option renaming map_some→aBf

namespace Go.Sg
theorem Da{β : Type}(F:(Expr->β)->Expr->β)(go:Nat->Expr->β)(h:∀m,go (m+1)=F (go m))(hF:∀f g x,(∀y∈x.L,f y=g y)->F f x=F g x)(x:Expr):go x.dep x=F (λy=>go y.dep y) x:=by
 have key:∀x:Expr,∀m,x.dep<=m->go m x=go x.dep x:=by
  refine λx=>aBk (P:=λx=>∀m,x.dep<=m->go m x=go x.dep x) ?_ x
  intro x ih m hm
  have hp:=aBh x
  obtain⟨m',rfl⟩:∃m',m=m'+1:=⟨m-1,by omega⟩
  obtain⟨n,hn⟩:∃n,x.dep=n+1:=⟨x.dep-1,by omega⟩
  rw[hn,h,h]
  refine hF _ _ _ λy hy=>?_
  have:=aAn hy
  rw[ih y hy m' (by omega),ih y hy n (by omega)]
 have hp:=aBh x
 obtain⟨n,hn⟩:∃n,x.dep=n+1:=⟨x.dep-1,by omega⟩
 rw[hn,h]
 refine hF _ _ _ λy hy=>?_
 have:=aAn hy
 exact key y n (by omega)
theorem P4(x:Expr):bj x=bj.F bj x:=by
 refine Da bj.F bj.go (λm=>rfl) (λf g x h=>?_) x
 unfold bj.F
 have:∀(k:Int->Int)(l:List Expr)a,(∀y∈l,f y=g y)->bj.L1 f k l a=bj.L1 g k l a:=by
  intro k l
  induction l with
  |nil=>intros;rfl
  |cons y l ih=>intro a hl;simp only[bj.L1,hl y (zB ..)];exact ih _ λz hz=>hl z (vA _ hz)
 exact this _ _ _ h
theorem depthL(l:List Expr):∀(a:Int),a<=bj.L1 bj (λg=>g) l a/\(∀y∈l,bj y<=bj.L1 bj (λg=>g) l a)/\∀M:Int,a<=M->(∀y∈l,bj y<=M)->bj.L1 bj (λg=>g) l a<=M:=by
 induction l with
 |nil=>intro a;exact⟨Int.le_refl _,λ_ h=>(kA h).elim,λM h _=>h⟩
 |cons y l ih=>
  intro a
  obtain⟨i1,i2,i3⟩:=ih (max a (bj y))
  simp only[bj.L1]
  refine⟨by omega,λw hw=>?_,λM h1 h2=>i3 M (by have:=h2 y (zB ..);omega) λw hw=>h2 w (vA _ hw)⟩
  rcases qC.1 hw with rfl|hw
  .omega
  .exact i2 w hw
theorem depthK(l:List Expr):∀(a:Int),bj.L1 bj bj.K1 l a=IntKind.i64.wrap (bj.L1 bj (λg=>g) l a+1):=by
 induction l with
 |nil=>intro a;rfl
 |cons y l ih=>intro a;exact ih _
theorem KW(x:Expr):x.dep<=1500000->(1<=bj x/\bj x<=x.dep)/\bj x=bj.L1 bj (λg=>g) x.L 0+1:=by
 refine aBk (P:=λx=>x.dep<=1500000->(1<=bj x/\bj x<=x.dep)/\bj x=bj.L1 bj (λg=>g) x.L 0+1) ?_ x
 intro x ih hx
 obtain⟨i1,i2,i3⟩:=depthL x.L 0
 have hp:=aBh x
 have h3:=i3 ((x.dep:Int)-1) (by omega) λy hy=>by
  have h4:=aAn hy
  have:=(ih y hy (by omega)).1.2
  omega
 have e:bj x=bj.L1 bj (λg=>g) x.L 0+1:=by
  rw[P4]
  unfold bj.F
  rw[depthK,wrap64 (by omega)]
 exact⟨by omega,e⟩
theorem KV(x:Expr):x.dep<=1500000->∀(d D:Int),bj x<=D->∀z∈bu x d,z.depth<=d+D-1:=by
 refine aBk (P:=λx=>x.dep<=1500000->∀(d D:Int),bj x<=D->∀z∈bu x d,z.depth<=d+D-1) ?_ x
 intro x ih hx d D hD z hz
 obtain⟨h1,h2⟩:=KW x hx
 rw[nF]at hz
 rcases qC.1 hz with rfl|hz
 .show d<=d+D-1;omega
 .obtain⟨y,hy,hz⟩:=List.mem_flatMap.1 hz
  have h4:=aAn hy
  have h5:=(depthL x.L 0).2.1 y hy
  have:=ih y hy (by omega) (d+1) (D-1) (by omega) z hz
  omega
theorem P2(x:Expr):dD x=dD.F dD x:=by
 refine Da dD.F dD.go (λm=>rfl) (λf g x h=>?_) x
 funext limit
 unfold dD.F
 have:∀(k:Int->Int)(l:List Expr)a,(∀y∈l,f y=g y)->dD.L1 f limit k l a=dD.L1 g limit k l a:=by
  intro k l
  induction l with
  |nil=>intros;rfl
  |cons y l ih=>
   intro a hl
   simp only[dD.L1,hl y (zB ..)]
   rw[ih _ λz hz=>hl z (vA _ hz)]
 exact this _ _ _ h
def cnt(x:Expr):Nat:=(bu x 1).length
theorem RZ(x:Expr):∀d,(bu x d).length=cnt x:=by
 refine aBk (P:=λx=>∀d,(bu x d).length=cnt x) ?_ x
 intro x ih d
 unfold cnt
 rw[nF,nF x 1,xA,xA,List.length_flatMap,List.length_flatMap]
 congr 2
 apply List.map_congr_left
 intro y hy
 rw[ih y hy,ih y hy]
theorem PT(x:Expr):cnt x=1+(x.L.map cnt).sum:=by
 conv=>lhs;unfold cnt
 rw[nF,xA,List.length_flatMap,Nat.add_comm]
 congr 2
 apply List.map_congr_left
 intro y hy
 exact RZ y _
theorem Ip(x:Expr):∀limit:Int,0<=limit->limit<=256->dD x limit=min (cnt x:Int) (limit+1):=by
 refine aBk (P:=λx=>∀limit:Int,0<=limit->limit<=256->dD x limit=min (cnt x:Int) (limit+1)) ?_ x
 intro x ih limit h0 h1
 rw[P2,PT]
 unfold dD.F
 have key:∀(l:List Expr)(a:Int),(∀y∈l,y∈x.L)->1<=a->a<=limit+1->dD.L1 dD limit dD.K1 l a=min (a+((l.map cnt).sum:Nat)) (limit+1):=by
  intro l
  induction l with
  |nil=>intro a _ _ ha;simp only[dD.L1,dD.K1,List.map_nil,List.sum_nil];omega
  |cons y l ih2=>
   intro a hl h2 h3
   simp only[dD.L1,Bool.cond_eq_ite,decide_eq_true_eq,xK,List.sum_cons]
   by_cases ha:a<=limit
   .rw[if_pos ha,wrap64 (z:=limit-a) (by omega),ih y (hl y (zB ..)) (limit-a) (by omega) (by omega)]
    have hc:1<=cnt y:=by rw[PT];omega
    rw[wrap64 (by omega),ih2 _ (λz hz=>hl z (vA _ hz)) (by omega) (by omega)]
    omega
   .rw[if_neg ha]
    simp only[dD.K1]
    omega
 rw[key x.L 1 (λy hy=>hy) (by omega) (by omega)]
 omega
theorem Kw{x:Expr}(hx:x.dep<=1500000)(h:jZ x=false):(bu x 1).length<=256/\∀z∈bu x 1,z.depth<=16:=by
 simp only[jZ,Bool.or_eq_false_iff,decide_eq_false_iff_not]at h
 have h1:=Ip x 256 (by decide) (by decide)
 have h2:=KV x hx 1 16 (by omega)
 refine⟨?_,λz hz=>by have:=h2 z hz;omega⟩
 show cnt x<=256
 omega
theorem Dq(s:ByteArray):∀(m i:Nat)(r:List UInt8),s.size-i=m->(ByteArray.toList.loop s i r).length=r.length+m
 |0,i,r,h=>by rw[ByteArray.toList.loop];rw[if_neg (by omega)];simp
 |m+1,i,r,h=>by
  rw[ByteArray.toList.loop,if_pos (by omega),Dq s m (i+1) _ (by omega),xA]
  omega
theorem vi(s:ByteArray):s.toList.length=s.size:=by
 have:=Dq s s.size 0 [] (by omega)
 simpa[ByteArray.toList]using this
theorem QP{α : Type}(c:Bool)(a b d:α):(bif c then(bif c then a else b)else d)=bif c then a else d:=by cases c<;>rfl
theorem RH(c x:Bool):(bif c then false else x)=(!c&&x):=by cases c<;>rfl
theorem RG(c x:Bool):(bif c then true else x)=(c||x):=by cases c<;>simp
theorem Ib(s:ByteArray):dL s=(dP s&&!(nB s)):=by
 unfold dL nB
 simp only[QP]
 simp only[RH,RG,Bool.not_or,Bool.or_false]
 ac_rfl
theorem CA(c:Int):(kt c != 2)=!(ld c):=by
 unfold kt ld
 cases((decide (97<=c)&&decide (c<=122))||(decide (65<=c)&&decide (c<=90)))<;>cases(decide (48<=c)&&decide (c<=57))<;>cases(c==95)<;>cases((((c==32)||(c==9))||(c==10))||(c==13))<;>cases(decide (0<=(strings_IndexByte (⟨#[123,125,40,41,59,44,61,58,46,60,62,33,43,45,42,47]⟩:ByteArray) c)))<;>rfl
theorem Mc(c:Int):(((kt c != 2)&&(kt c != 3))&&(kt c != 5))=!(qg c):=by
 unfold kt qg ld mY
 cases((decide (97<=c)&&decide (c<=122))||(decide (65<=c)&&decide (c<=90)))<;>cases(decide (48<=c)&&decide (c<=57))<;>cases(c==95)<;>cases((((c==32)||(c==9))||(c==10))||(c==13))<;>cases(decide (0<=(strings_IndexByte (⟨#[123,125,40,41,59,44,61,58,46,60,62,33,43,45,42,47]⟩:ByteArray) c)))<;>rfl
theorem IV(s:ByteArray):∀(l:List Nat)(i:Nat),dP.L1 s dP.K1 l i=gN.L1 s gN.K1 l i
 |[],i=>rfl
 |y::l,i=>by simp only[dP.L1,gN.L1,Mc,IV s l]
theorem MP{s:ByteArray}(h:gN s=true):dP s=true:=by
 unfold gN at h
 unfold dP
 rw[CA,IV]
 rw[Bool.cond_eq_ite]at h ⊢
 split at h
 .cases h
 .next hc=>
  simp only[xD,not_or,decide_eq_true_eq]at hc
  obtain⟨⟨h1,h2⟩,h3⟩:=hc
  have e:(s.toList==(⟨#[]⟩:ByteArray).toList)=false:=by
   rw[Bool.eq_false_iff]
   intro he
   have he:=eq_of_beq he
   have h9:=vi s
   rw[he,vi]at h9
   have:(⟨#[]⟩:ByteArray).size=0:=rfl
   omega
  rw[e,if_neg]
  .exact h
  .simp only[Bool.false_or,xD,not_or,decide_eq_true_eq]
   exact⟨h2,h3⟩
theorem M4{s:ByteArray}(h:mW s=true):dL s=true:=by
 simp only[mW,xB]at h
 rw[Ib,MP h.1,h.2];rfl
theorem HV(s:ByteArray):∀(l:List ByteArray)(i:Nat),eA.L1 s eA.K1 l i=aR.L1 s aR.K1 l i
 |[],i=>rfl
 |y::l,i=>by
  have:(y.toList==s.toList)=(s.toList==y.toList):=by rw[jP,beq_iff_eq,beq_iff_eq];exact eq_comm
  simp only[eA.L1,aR.L1,this,HV s l]
theorem rindex(l:List ByteArray)(s:ByteArray):eA l s=aR l s:=HV s l 0
theorem DW{l:List ByteArray}(h:eH l=true):bF l dL=true:=by
 have key:∀(L l:List ByteArray)(i:Nat),eH.L1 L eH.K1 l i=true->bF.L1 L dL bF.K1 l i=true:=by
  intro L l
  induction l with
  |nil=>intros;rfl
  |cons y l ih=>
   intro i h
   simp only[eH.L1,Bool.cond_eq_ite]at h
   split at h
   .cases h
   .next hc=>
    simp only[xD,not_or,qE,Bool.not_eq_false,Bool.not_eq_true]at hc
    simp only[bF.L1,M4 hc.1,←rindex,hc.2,Bool.not_true,Bool.or_self,cond_false]
    exact ih _ h
 exact key l l 0 h
theorem tW(off:List ByteArray){f g:List ByteArray->Expr->Bool}(k:Bool):∀(l:List Expr),(∀y∈l,f off y=g off y)->bP.L1 f off k l=bP.L1 g off k l
 |[],_=>rfl
 |y::l,h=>by simp only[bP.L1,h y (zB ..),tW off k l λz hz=>h z (vA _ hz)]
theorem Km(off:List ByteArray)(x:Expr):bP off x=bP.F bP off x:=by
 have:=Da (λf x=>bP.F (λ_ y=>f y) off x) (λm x=>bP.go m off x) (λm=>?_) (λf g x h=>?_) x
 .refine Eq.trans this ?_
  show bP.F _ off x=_
  unfold bP.F
  rw[tW off (f:=λ_ y=>bP.go y.dep off y) (g:=bP) _ x.L λy hy=>rfl]
 .funext x
  show bP.F (bP.go m) off x=bP.F _ off x
  unfold bP.F
  rw[tW off (f:=bP.go m) (g:=λ_ y=>bP.go m off y) _ x.L λy hy=>rfl]
 .show bP.F _ off x=bP.F _ off x
  unfold bP.F
  rw[tW off (f:=λ_ y=>f y) (g:=λ_ y=>g y) _ x.L h]
theorem H5(off:List ByteArray):∀(l:List Expr),bP.L1 bP off bP.K1 l=true->∀y∈l,bP off y=true
 |[],_=>λ_ h=>(kA h).elim
 |y::l,h=>by
  simp only[bP.L1,Bool.cond_eq_ite]at h
  split at h
  .cases h
  .next hc=>
   intro z hz
   rcases qC.1 hz with rfl|hz
   .simpa using hc
   .exact H5 off l h z hz
theorem Kl(off:List ByteArray)(x:Expr):bP off x=true->∀d,∀z∈bu x d,((!(du z.x))||di off z.x.Name)=true:=by
 refine aBk (P:=λx=>bP off x=true->∀d,∀z∈bu x d,((!(du z.x))||di off z.x.Name)=true) ?_ x
 intro x ih h d z hz
 rw[Km]at h
 unfold bP.F at h
 rw[Bool.cond_eq_ite]at h
 split at h
 .cases h
 .next hc=>
  rw[nF]at hz
  rcases qC.1 hz with rfl|hz
  .show((!(du x))||di off x.Name)=true
   unfold di du
   rw[rindex]at hc
   by_cases h2:aR off x.Name<0
   .have:decide (aR off x.Name<0)=true:=by simpa using h2
    rw[this,Bool.and_true]at hc
    simp only[Bool.not_eq_true]at hc
    rw[hc];rfl
   .have:decide (0<=aR off x.Name)=true:=by simp;omega
    rw[this,Bool.or_true]
  .obtain⟨y,hy,hz⟩:=List.mem_flatMap.1 hz
   exact ih y hy (H5 off x.L h y hy) (d+1) z hz
theorem rY(u:Bool){f g:Expr->Bool->Bool}(k:Bool):∀(l:List Expr),(∀y∈l,f y u=g y u)->aF.L1 f u k l=aF.L1 g u k l
 |[],_=>rfl
 |y::l,h=>by simp only[aF.L1,h y (zB ..),rY u k l λz hz=>h z (vA _ hz)]
theorem Id(x:Expr)(u:Bool):aF x u=aF.F aF x u:=by
 have:=Da (λf x=>aF.F (λy _=>f y) x u) (λm x=>aF.go m x u) (λm=>?_) (λf g x h=>?_) x
 .refine Eq.trans this ?_
  show aF.F _ x u=_
  unfold aF.F
  rw[rY u (f:=λy _=>aF.go y.dep y u) (g:=aF) _ x.L λy hy=>rfl]
 .funext x
  show aF.F (aF.go m) x u=aF.F _ x u
  unfold aF.F
  rw[rY u (f:=aF.go m) (g:=λy _=>aF.go m y u) _ x.L λy hy=>rfl]
 .show aF.F _ x u=aF.F _ x u
  unfold aF.F
  rw[rY u (f:=λy _=>f y) (g:=λy _=>g y) _ x.L h]
theorem Gj(u k:Bool):∀(l:List Expr),aF.L1 aF u k l=true->(∀y∈l,aF y u=true)/\k=true
 |[],h=>⟨λ_ h=>(kA h).elim,h⟩
 |y::l,h=>by
  simp only[aF.L1,Bool.cond_eq_ite]at h
  split at h
  .cases h
  .next hc=>
   obtain⟨h1,h2⟩:=Gj u k l h
   refine⟨λz hz=>?_,h2⟩
   rcases qC.1 hz with rfl|hz
   .simpa using hc
   .exact h1 z hz
theorem NT{x:Expr}{u:Bool}(h:aF.K1 x u=true):(aN x.Kind 1 4&&kindsP x.Kind x)=true/\(u=false->x.Kind≠4):=by
 unfold aF.K1 at h
 simp only[Bool.cond_eq_ite,beq_iff_eq]at h
 split at h
 .next e=>
  rw[e]
  refine⟨?_,λ_=>by decide⟩
  show(_&&j7 x)=true
  unfold j7
  rw[h];rfl
 .split at h
  .next e=>
   rw[e]
   refine⟨?_,λ_=>by decide⟩
   show(_&&j6 x)=true
   unfold j6 aN
   rw[h];rfl
  .split at h
   .next e=>
    rw[e]
    refine⟨?_,λ_=>by decide⟩
    show(_&&j5 x)=true
    unfold j5 aN
    simp only[xB]at h ⊢
    exact⟨⟨rfl,rfl⟩,⟨h.1.1.1.1,h.1.1.1.2,h.1.1.2⟩,h.1.2,h.2⟩
   .split at h
    .next e=>
     rw[e]
     simp only[xB]at h
     refine⟨?_,λhu=>by rw[hu]at h;simp at h⟩
     show(_&&jd x)=true
     unfold jd aN
     simp only[xB]
     exact⟨⟨rfl,rfl⟩,⟨h.1.1.1.2,h.1.1.2⟩,h.1.2,h.2⟩
    .cases h
theorem Ic(u:Bool)(x:Expr):aF x u=true->∀d,∀z∈bu x d,(aN z.x.Kind 1 4&&kindsP z.x.Kind z.x)=true/\(u=false->z.x.Kind≠4):=by
 refine aBk (P:=λx=>aF x u=true->∀d,∀z∈bu x d,(aN z.x.Kind 1 4&&kindsP z.x.Kind z.x)=true/\(u=false->z.x.Kind≠4)) ?_ x
 intro x ih h d z hz
 rw[Id]at h
 obtain⟨h1,h2⟩:=Gj u _ x.L h
 rw[nF]at hz
 rcases qC.1 hz with rfl|hz
 .exact NT h2
 .obtain⟨y,hy,hz⟩:=List.mem_flatMap.1 hz
  exact ih y hy (h1 y hy) (d+1) z hz
theorem rl1(rec:List ByteArray->Expr->Expr)(off:List ByteArray)(k:List Expr->Expr):∀(l g:List Expr),ah.L1 rec off k l g=k (g++l.map (rec off))
 |[],g=>by simp[ah.L1]
 |y::l,g=>by simp[ah.L1,rl1 rec off k l]
theorem rl2(rec:List ByteArray->Expr->Expr)(off:List ByteArray)(k:List Expr->Expr):∀(l g:List Expr),ah.L2 rec off k l g=k (g++l.map (rec off))
 |[],g=>by simp[ah.L2]
 |y::l,g=>by simp[ah.L2,rl2 rec off k l]
def rno(off:List ByteArray)(x:Expr):Int:=bif du x then aR off x.Name else 0
theorem LA(rec:List ByteArray->Expr->Expr)(off:List ByteArray)(x:Expr):ah.F rec off x=xG x.Kind x.N (rno off x) x.Name (x.L.map (rec off)):=by
 unfold ah.F rno du
 cases((x.Kind==1)||(x.Kind==2))
 .rw[cond_false,rl2];rfl
 .rw[cond_true,rl1];unfold ah.K1;rw[rindex];rfl
theorem Dx(off:List ByteArray)(x:Expr):ah off x=xG x.Kind x.N (rno off x) x.Name (x.L.map (ah off)):=by
 have:=Da (λf x=>xG x.Kind x.N (rno off x) x.Name (x.L.map f)) (λm x=>ah.go m off x) (λm=>?_) (λf g x h=>?_) x
 .exact this
 .funext x
  show ah.F (ah.go m) off x=_
  rw[LA]
 .show xG _ _ _ _ _=xG _ _ _ _ _
  rw[List.map_congr_left h]
theorem E1(b:Expr){f g:Expr->Expr->Bool}(k:Bool):∀(l:List Expr)(i:Nat),(∀y∈l,f y=g y)->bh.L1 f b k l i=bh.L1 g b k l i
 |[],_,_=>rfl
 |y::l,i,h=>by simp only[bh.L1,h y (zB ..),E1 b k l (i+1) λz hz=>h z (vA _ hz)]
theorem MD(x:Expr):bh x=bh.F bh x:=by
 refine Da bh.F bh.go (λm=>rfl) (λf g x h=>?_) x
 funext b
 unfold bh.F
 rw[E1 b _ x.L 0 h]
theorem ME(b:Expr):∀(l:List Expr)(i:Nat),bh.L1 bh b bh.K1 l i=true->∀(j:Nat)(y:Expr),l[j]? = some y->bh y (nthI b.L ((i+j:Nat):Int))=true
 |[],_,_,j,y,hj=>by simp at hj
 |z::l,i,h,j,y,hj=>by
  simp only[bh.L1,Bool.cond_eq_ite]at h
  split at h
  .cases h
  .next hc=>
   cases j with
   |zero=>simp at hj;subst hj;simpa using hc
   |succ j=>have:=ME b l (i+1) h j y (by simpa using hj);rw[show i+(j+1)=i+1+j from by omega];exact this
theorem Qi(off:List ByteArray)(x:Expr):bh (ah off x) x=true->∀d,∀z∈bu x d,z.x.No=rno off z.x:=by
 refine aBk (P:=λx=>bh (ah off x) x=true->∀d,∀z∈bu x d,z.x.No=rno off z.x) ?_ x
 intro x ih h d z hz
 rw[MD,Dx]at h
 unfold bh.F at h
 rw[Bool.cond_eq_ite]at h
 split at h
 .cases h
 .next hc=>
  simp only[xD,not_or,bne_iff_ne,ne_eq,Classical.not_not]at hc
  have hno:rno off x=x.No:=hc.1.1.2
  rw[nF]at hz
  rcases qC.1 hz with rfl|hz
  .exact hno.symm
  .obtain⟨y,hy,hz⟩:=List.mem_flatMap.1 hz
   obtain⟨j,hj⟩:=List.getElem?_of_mem hy
   have h2:=ME x _ 0 h j (ah off y) (by show(List.map (ah off) x.L)[j]? = _;rw[kT,hj];rfl)
   have hlt:=(List.getElem?_eq_some_iff.1 hj).1
   have hg:=dh (xs:=x.L) (z:=((0+j:Nat):Int)) (by omega)
   rw[show(((0+j:Nat):Int)).toNat=j from by omega,hj]at hg
   rw[←qW hg]at h2
   exact ih y hy h2 (d+1) z hz
theorem Dw{off:List ByteArray}{x:Expr}(h:bh (ah off x) x=true):bR off x=true:=by
 unfold bR bR.K1
 rw[qU]
 exact Qi off x h 1
def rrules(off:List ByteArray):List Rule->Nat->List Rule
 |[],_=>[]
 |y::l,i=>Rule.mk y.Kind (i:Int) y.Think (ah off y.Expr)::rrules off l (i+1)
theorem E8(off:List ByteArray):∀(l:List Rule)(i j:Nat)(y:Rule),l[j]? = some y->(rrules off l i)[j]? = some (Rule.mk y.Kind ((i+j:Nat):Int) y.Think (ah off y.Expr))
 |[],_,j,y,h=>by simp at h
 |z::l,i,0,y,h=>by simp at h;subst h;rfl
 |z::l,i,j+1,y,h=>by
  have:=E8 off l (i+1) j y (by simpa using h)
  rw[show i+(j+1)=i+1+j from by omega]
  exact this
theorem Bl(p:Policy):∀(l:List Rule)(i:Nat)(g:List Rule),dR.L1 p (dR.K1 p) l i g=(kN p.Name p.Kinds p.Offices (g++rrules p.Offices l i) (ah p.Offices p.Change) p.Mode,0)
 |[],i,g=>by
  simp only[dR.L1,dR.K1,rrules,List.append_nil,Expr.eta]
 |y::l,i,g=>by
  simp only[dR.L1,Bl p l,rrules,Expr.eta,kD,List.singleton_append]
theorem Nj(b:Policy):∀(l:List Rule)(i:Nat),io.L1 b io.K1 l i=true->∀(j:Nat)(y:Rule),l[j]? = some y->y.KindNo=(nthI b.Rules ((i+j:Nat):Int)).KindNo/\bh y.Expr (nthI b.Rules ((i+j:Nat):Int)).Expr=true
 |[],_,_,j,y,hj=>by simp at hj
 |z::l,i,h,j,y,hj=>by
  simp only[io.L1,Bool.cond_eq_ite]at h
  split at h
  .cases h
  .next hc=>
   simp only[xD,not_or,bne_iff_ne,ne_eq,Classical.not_not,qE,Bool.not_eq_false]at hc
   cases j with
   |zero=>simp at hj;subst hj;exact⟨hc.1.1.2,hc.2⟩
   |succ j=>have:=Nj b l (i+1) h j y (by simpa using hj);rw[show i+(j+1)=i+1+j from by omega];exact this
theorem H4(p:Policy)(k:Bool):∀(l:List Rule),gX.L1 p k l=true->(∀r∈l,bP p.Offices r.Expr=true)/\k=true
 |[],h=>⟨λ_ h=>(kA h).elim,h⟩
 |y::l,h=>by
  simp only[gX.L1,Bool.cond_eq_ite]at h
  split at h
  .cases h
  .next hc=>
   obtain⟨h1,h2⟩:=H4 p k l h
   refine⟨λz hz=>?_,h2⟩
   rcases qC.1 hz with rfl|hz
   .simpa using hc
   .exact h1 z hz
theorem Kx(k:Bool):∀(l:List Rule),fh.L1 k l=false->∀r∈l,jZ r.Expr=false
 |[],_=>λ_ h=>(kA h).elim
 |y::l,h=>by
  simp only[fh.L1,Bool.cond_eq_ite]at h
  split at h
  .cases h
  .next hc=>
   intro z hz
   rcases qC.1 hz with rfl|hz
   .simpa using hc
   .exact Kx k l h z hz
theorem Gk(p:Policy)(k:Bool):∀(l:List Rule)(i:Nat),fW.L1 p k l i=true->(∀(j:Nat)r,l[j]? = some r->((r.Kind.toList==(nthI p.Kinds (((i+j:Nat):Int))).toList)=true/\0<=r.Think/\r.Think<1099511627776)/\aF r.Expr true=true)/\k=true
 |[],i,h=>⟨λj r hj=>by simp at hj,h⟩
 |y::l,i,h=>by
  simp only[fW.L1,Bool.cond_eq_ite]at h
  split at h
  .cases h
  .next hc=>
   simp only[xD,not_or,decide_eq_true_eq,qE,Bool.not_eq_false]at hc
   obtain⟨h1,h2⟩:=Gk p k l (i+1) h
   refine⟨λj r hj=>?_,h2⟩
   cases j with
   |zero=>simp at hj;subst hj;exact⟨⟨hc.1.1.1,by omega,by omega⟩,hc.2⟩
   |succ j=>have:=h1 j r (by simpa using hj);rw[show i+(j+1)=i+1+j from by omega];exact this
theorem PU{p:Policy}(hs:smP p)(h:gx p=0):dk p=0:=by
 unfold gx at h
 rw[Bool.cond_eq_ite]at h
 split at h
 .next hc=>exact absurd h (by simpa using hc)
 .next hR=>
  rw[Bool.cond_eq_ite]at h
  split at h
  .omega
  .next hS=>
   simp only[qE,Bool.not_eq_false]at hS
   unfold dR at hR hS
   cases hl:fh p with
   |true=>rw[hl]at hR;simp at hR
   |false=>
    rw[hl]at hR hS
    cases hn:gX p with
    |false=>rw[hn]at hR;simp at hR
    |true=>
     rw[hn]at hR hS
     cases hf:fW p with
     |false=>rw[hf]at hR;simp at hR
     |true=>
      rw[hf]at hS
      simp only[Bool.not_true,cond_false,Bl,zG]at hS
      clear hR h
      unfold fh at hl
      rw[Bool.cond_eq_ite]at hl
      split at hl
      .cases hl
      .next h1=>
       simp only[xD,not_or,decide_eq_true_eq,Bool.not_eq_true]at h1
       have h2:=Kx _ _ hl
       unfold gX at hn
       rw[Bool.cond_eq_ite]at hn
       split at hn
       .cases hn
       .next h3=>
        simp only[xD,not_or,qE,Bool.not_eq_false]at h3
        obtain⟨h4,h5⟩:=H4 p _ _ hn
        unfold fW at hf
        rw[Bool.cond_eq_ite]at hf
        split at hf
        .cases hf
        .next h6=>
         simp only[xD,not_or,decide_eq_true_eq,bne_iff_ne,ne_eq,Classical.not_not]at h6
         obtain⟨h7,h8⟩:=Gk p _ _ 0 hf
         unfold io at hS
         rw[Bool.cond_eq_ite]at hS
         split at hS
         .cases hS
         .next h9=>
          simp only[xD,not_or,qE,Bool.not_eq_false]at h9
          have h10:=Nj p _ 0 hS
          have hexp:∀x,x∈ay p->(∃r∈p.Rules,r.Expr=x)\/x=p.Change:=by
           intro x hx
           rw[nf]at hx
           simp only[kH,jQ,jD]at hx
           exact hx
          rw[CB,tH,Bz,FD]
          refine⟨⟨⟨⟨by omega,by omega,by omega⟩,λx hx=>?_⟩,⟨⟨M4 h3.1.1,DW h3.1.2,DW h3.2⟩,λx hx=>?_⟩,?_⟩,λj r hj=>?_,Dw h9.2⟩
          .rcases hexp x hx with⟨r,hr,rfl⟩|rfl
           .exact Kw (hs.2.1 r hr) (h2 r hr)
           .exact Kw hs.2.2.1 h1.2
          .rcases hexp x hx with⟨r,hr,rfl⟩|rfl
           .exact Kl p.Offices _ (h4 r hr) 1
           .exact Kl p.Offices _ h5 1
          .unfold bq bq.K1 bq.K2
           rw[qo,Ck,EC]
           refine⟨?_,λj r hj=>?_,λj x hj z hz=>?_⟩
           .simp only[xB,decide_eq_true_eq,beq_iff_eq,aN]
            exact⟨⟨by omega,h6.1.1.2⟩,by omega,by omega⟩
           .have:=(h7 j r hj).1
            simp only[xB,decide_eq_true_eq,aN]
            exact⟨this.1,this.2.1,by omega⟩
           .have hlen:(ay p).length=p.Rules.length+1:=by rw[nf];simp
            rw[nf]at hj
            rcases xQ j p.Rules.length with hjl|hjl
            .rw[List.getElem?_append_left (by simpa using hjl),kT]at hj
             obtain⟨r,hr,rfl⟩:=Option.map_eq_some_iff.1 hj
             refine⟨(Ic true _ (h7 j r hr).2 1 z hz).1,?_⟩
             rw[hlen,wrap64 (by omega)]
             have:decide (((0+j:Nat):Int)<((p.Rules.length+1:Nat):Int)-1)=true:=by rw[decide_eq_true_eq];omega
             rw[this];rfl
            .rw[List.getElem?_append_right (by simpa using hjl)]at hj
             have hj2:=jD.1 (List.mem_of_getElem? hj)
             subst hj2
             obtain⟨k1,k2⟩:=Ic false _ h8 1 z hz
             refine⟨k1,?_⟩
             have:(z.x.Kind != 4)=true:=by simpa using k2 rfl
             rw[this,Bool.or_true]
          .have h11:=h10 j _ (E8 p.Offices p.Rules 0 j r hj)
           have hlt:=(List.getElem?_eq_some_iff.1 hj).1
           have hg:=dh (xs:=p.Rules) (z:=((0+j:Nat):Int)) (by omega)
           rw[show(((0+j:Nat):Int)).toNat=j from by omega,hj]at hg
           rw[←qW hg]at h11
           dsimp only at h11
           exact⟨by rw[←h11.1];simp,Dw h11.2⟩
def P3(v:Version):Prop:=(0<=v.No/\v.No<=1048576)/\(0<=v.At/\v.At<1099511627776)/\(0<=v.Known/\v.Known<1099511627776)/\gx v.Policy=0
theorem Nc{L:List Version}{y:Version}{l:List Version}{i:Nat}(h:dN.L1 L dN.K1 (y::l) i=0):P3 y/\(0<i->(nthI L ((i:Int)-1)).No<y.No)/\dN.L1 L dN.K1 l (i+1)=0:=by
 simp only[dN.L1,Bool.cond_eq_ite]at h
 split at h
 .omega
 .next hc=>
  simp only[xD,not_or,decide_eq_true_eq,xB,qE,Bool.not_eq_false,bne_iff_ne,ne_eq,Classical.not_not,fM]at hc
  obtain⟨⟨⟨⟨h1,h2⟩,h3⟩,h4⟩,h5⟩:=hc
  exact⟨⟨by omega,h3,h4,h5⟩,λhi=>by omega,h⟩
theorem Nd(L:List Version):∀(l pre:List Version)(x:Version),L=(pre++[x])++l->dN.L1 L dN.K1 l (pre.length+1)=0->(∀y∈l,P3 y)/\(x::l).Pairwise (λa b=>a.No<b.No)
 |[],_,_,_,_=>⟨λ_ h=>(kA h).elim,by simp⟩
 |y::l,pre,x,h,hr=>by
  have hx:nthI L (((pre.length+1:Nat):Int)-1)=x:=by
   have hb:0<=(((pre.length+1:Nat):Int)-1)/\(((pre.length+1:Nat):Int)-1)<(L.length:Int):=by rw[h];simp;omega
   have hg:=dh hb
   rw[show((((pre.length+1:Nat):Int)-1)).toNat=pre.length from by omega,h]at hg
   rw[h];simpa using hg.symm
  obtain⟨h1,h2,h3⟩:=Nc hr
  have h2:=h2 (by omega)
  rw[hx]at h2
  have ih:=Nd L l (pre++[x]) y (by rw[h];simp)
  rw[jA,xA,vB,Nat.zero_add]at ih
  obtain⟨i1,i2⟩:=ih h3
  refine⟨λz hz=>?_,List.pairwise_cons.2 ⟨λz hz=>?_,i2⟩⟩
  .rcases qC.1 hz with rfl|hz
   .exact h1
   .exact i1 z hz
  .rcases qC.1 hz with rfl|hz
   .exact h2
   .have:=(List.pairwise_cons.1 i2).1 z hz;omega
theorem K9{l:List Version}(hs:smV l)(h:dN l=0):bw l=0:=by
 rw[mL]
 unfold dN at h
 rw[Bool.cond_eq_ite]at h
 split at h
 .omega
 .next hl=>
  simp only[decide_eq_true_eq]at hl
  have key:(∀y∈l,P3 y)/\l.Pairwise (λa b=>a.No<b.No):=by
   cases l with
   |nil=>exact⟨λ_ h=>(kA h).elim,List.Pairwise.nil⟩
   |cons y l=>
    obtain⟨h1,_,h3⟩:=Nc h
    obtain⟨i1,i2⟩:=Nd (y::l) l [] y rfl h3
    refine⟨λz hz=>?_,i2⟩
    rcases qC.1 hz with rfl|hz
    .exact h1
    .exact i1 z hz
  refine⟨by omega,λv hv=>?_,key.2⟩
  have:=key.1 v hv
  obtain⟨h1,h2,h3,h4⟩:=this
  exact⟨by omega,by omega,h1,PU (hs.2 v hv) h4⟩
def knownA(known:Int)(l:List Appoint):List Appoint:=l.filter λy=>decide (y.Known<=known)
def knownI(known:Int)(l:List Interest):List Interest:=l.filter λy=>decide (y.Known<=known)
def knownV(known:Int)(l:List Version):List Version:=l.filter λy=>decide (y.Known<=known)
theorem yW{α : Type}{R:α->Bool}{no:α->Int}{c:Int}(hc:c≠0):∀(l:List α)(g:Int),prgChk R no c l g=0↔(∀y∈l,R y=true/\g<no y)/\l.Pairwise (λa b=>no a<no b)
 |[],g=>by simp[prgChk]
 |y::l,g=>by
  have ih:=yW hc l (no y) (R:=R) (no:=no)
  simp only[prgChk,Bool.cond_eq_ite,xD,qE,decide_eq_true_eq]
  split
  .next h=>simp only[hc,false_iff];rintro⟨h1,_⟩;have:=h1 y (zB ..);rcases h with h|h<;>simp_all;omega
  .next h=>
   rw[ih]
   simp only[not_or,Bool.not_eq_false,Int.not_le]at h
   constructor
   .rintro⟨h1,h2⟩
    refine⟨λz hz=>?_,List.pairwise_cons.2 ⟨λz hz=>(h1 z hz).2,h2⟩⟩
    rcases qC.1 hz with rfl|hz
    .exact h
    .have:=h1 z hz;exact⟨this.1,by omega⟩
   .rintro⟨h1,h2⟩
    obtain⟨p1,p2⟩:=List.pairwise_cons.1 h2
    exact⟨λz hz=>⟨(h1 z (vA _ hz)).1,p1 z hz⟩,p2⟩
theorem sO{α : Type}{R:α->Bool}{no:α->Int}{c:Int}(hc:c≠0){l m:List α}{g:Int}(hs:m.Sublist l)(h:prgChk R no c l g=0):prgChk R no c m g=0:=by
 rw[yW hc]at h ⊢
 exact⟨λy hy=>h.1 y (hs.subset hy),h.2.sublist hs⟩
theorem officesP(l:List Appoint)(g:Int):cw.L1 cw.K1 l g=prgChk mn (·.No) 150 l g:=by
 induction l generalizing g with
 |nil=>rfl
 |cons y l ih=>simp only[cw.L1,prgChk,ih]
theorem interestsP(l:List Interest)(g:Int):cq.L1 cq.K1 l g=prgChk lA (·.No) 290 l g:=by
 induction l generalizing g with
 |nil=>rfl
 |cons y l ih=>simp only[cq.L1,prgChk,ih]
theorem yh{l m:List Appoint}(hs:m.Sublist l)(h:cw l=0):cw m=0:=by
 unfold cw at h ⊢
 rw[officesP,Bool.cond_eq_ite]at h ⊢
 split at h
 .omega
 .next hc=>rw[if_neg (by have:=hs.length_le;simp only[decide_eq_true_eq]at hc ⊢;omega)];exact sO (by omega) hs h
theorem Am{l m:List Interest}(hs:m.Sublist l)(h:cq l=0):cq m=0:=by
 unfold cq at h ⊢
 rw[interestsP,Bool.cond_eq_ite]at h ⊢
 split at h
 .omega
 .next hc=>rw[if_neg (by have:=hs.length_le;simp only[decide_eq_true_eq]at hc ⊢;omega)];exact sO (by omega) hs h
theorem vg{l m:List Version}(hs:m.Sublist l)(h:bw l=0):bw m=0:=by
 rw[mL]at h ⊢
 exact⟨kS hs.length_le h.len,λv hv=>h.each v (hs.subset hv),h.inc.sublist hs⟩
theorem AV{t known:Int}(later:Appoint->Appoint->Bool)(k:List (OSeat×Appoint)->List (OSeat×Appoint)):∀(l:List Appoint)(m:List (OSeat×Appoint)),cJ.L1 (λdl=>gi dl t known) later k (knownA known l) m=cJ.L1 (λdl=>gi dl t known) later k l m
 |[],m=>rfl
 |y::l,m=>by
  have ih:=AV (t:=t) (known:=known) later k l
  unfold knownA at ih ⊢
  rw[List.filter_cons]
  cases hy:decide (y.Known<=known)with
  |true=>simp only[if_true,cJ.L1,ih]
  |false=>
   have hk2:(gi y t known).2=false:=by show(_&&decide (y.Known<=known))=false;rw[hy,Bool.and_false]
   simp only[jL,if_false,cJ.L1,ih,hk2,Bool.false_and,cond_false]
theorem Hy{l:List Appoint}{o t known:Int}(h:cw l=0):ep (knownA known l) o t known=ep l o t known:=by
 have e1:cW (knownA known l) t known=cW l t known:=AV _ _ l []
 unfold ep
 rw[e1,h,yh (m:=knownA known l) (List.filter_sublist ..) h]
theorem yw(known eV:Int):∀(l:List Version)b m,inForceM known eV (knownV known l) b m=inForceM known eV l b m
 |[],b,m=>rfl
 |y::l,b,m=>by
  have ih:=yw known eV l
  unfold knownV at ih ⊢
  rw[List.filter_cons]
  cases hy:decide (y.Known<=known)with
  |true=>simp only[if_true,inForceM,ih]
  |false=>
   have:decide (known<y.Known)=true:=by simp at hy ⊢;omega
   simp only[jL,if_false,inForceM,ih,this,cond_true]
theorem Jj{l:List Version}{begun t known:Int}(h:bw l=0):ba (knownV known l) begun t known=ba l begun t known:=by
 have e1:fF (knownV known l) begun known=fF l begun known:=by rw[sY,sY,yw]
 unfold ba
 rw[e1,h,vg (m:=knownV known l) (List.filter_sublist ..) h]
def stMap(t known:Int):List Interest->List (dp×Interest)->List (dp×Interest)
 |[],m=>m
 |y::l,m=>bif(decide (t<y.At)||decide (known<y.Known))then stMap t known l m else bif((!(mhas m (dp.mk y.Person y.Party y.Of)))||decide ((mgetD m (dp.mk y.Person y.Party y.Of) (zV 0 0 0 0 0 false false)).At<=y.At))then stMap t known l (mput m (dp.mk y.Person y.Party y.Of) y)else stMap t known l m
theorem tD(t known:Int)(k:List (dp×Interest)->List Interest):∀(l:List Interest)m,bQ.L1 t known k l m=k (stMap t known l m)
 |[],m=>rfl
 |y::l,m=>by
  simp only[bQ.L1,stMap,tD t known k l]
  cases(decide (t<y.At)||decide (known<y.Known))<;>cases((!(mhas m (dp.mk y.Person y.Party y.Of)))||decide ((mgetD m (dp.mk y.Person y.Party y.Of) (zV 0 0 0 0 0 false false)).At<=y.At))<;>rfl
theorem Dr(t known:Int):∀(l:List Interest)m,stMap t known (knownI known l) m=stMap t known l m
 |[],m=>rfl
 |y::l,m=>by
  have ih:=Dr t known l
  unfold knownI at ih ⊢
  rw[List.filter_cons]
  cases hy:decide (y.Known<=known)with
  |true=>simp only[if_true,stMap,ih]
  |false=>
   have:decide (known<y.Known)=true:=by simp at hy ⊢;omega
   simp only[jL,if_false,stMap,ih,this,Bool.or_true,cond_true]
theorem vk(t known:Int):∀(l:List Interest)m,(∀q∈m,q.2.Known<=known)->∀q∈stMap t known l m,q.2.Known<=known
 |[],m,h=>h
 |y::l,m,h=>by
  simp only[stMap,Bool.cond_eq_ite]
  split
  .exact vk t known l m h
  .next hc=>
   split
   .refine vk t known l _ λq hq=>?_
    rcases uM hq with rfl|hq
    .simp only[xD,decide_eq_true_eq,not_or]at hc;show y.Known<=known;omega
    .exact h q hq
   .exact vk t known l m h
theorem AQ{κ α : Type}[DecidableEq κ](P:α->Prop){z:α}(hz:P z)(x:κ):∀(m:List (κ×α)),(∀q∈m,P q.2)->P (mgetD m x z)
 |[],_=>hz
 |(k,v)::m,h=>by
  have ih:=AQ P hz x m λq hq=>h q (vA _ hq)
  unfold mgetD at ih ⊢
  unfold mget?
  split
  .exact h (k,v) (zB ..)
  .exact ih
theorem nQ(v:List (dp×Interest)):∀l:List Interest,bG.L1 v [] l=l.filter λy=>(!y.Gone)&&decide (mgetD v (dp.mk y.Person y.Party y.Of) (zV 0 0 0 0 0 false false)=y)
 |[]=>rfl
 |y::l=>by
  simp only[bG.L1,List.filter_cons,nQ v l]
  cases((!y.Gone)&&decide (mgetD v (dp.mk y.Person y.Party y.Of) (zV 0 0 0 0 0 false false)=y))<;>rfl
theorem EW{t known:Int}(hk:0<=known)(l:List Interest):bQ (knownI known l) t known=bQ l t known:=by
 unfold bQ
 rw[tD,tD,Dr]
 unfold bQ.K1 bG bG.K1
 have hv:=vk t known l [] (λ_ h=>(kA h).elim)
 generalize stMap t known l []=v at *
 rw[nQ,nQ]
 unfold knownI
 rw[List.filter_filter]
 apply aCS
 intro y hy
 cases hd:decide (mgetD v (dp.mk y.Person y.Party y.Of) (zV 0 0 0 0 0 false false)=y)with
 |false=>simp
 |true=>
  have h1:=AQ (λq:Interest=>q.Known<=known) (z:=zV 0 0 0 0 0 false false) hk (dp.mk y.Person y.Party y.Of) v hv
  rw[of_decide_eq_true hd]at h1
  simp[h1]
theorem Bw(l:List Interest)(a b:Int):∃p:Interest->Bool,bQ l a b=l.filter p:=by
 unfold bQ
 rw[tD]
 exact⟨_,nQ _ l⟩
theorem mw{e:Int}(h:e=0):exOk (lQ e):=by subst h;trivial
structure jr(c:bU):Prop where
 chk:dX c.Register=0
 doc:c.doc∈c.Register.Docs
 time:0<=c.at_/\c.at_<1099511627776
 know:0<=c.known/\c.known<1099511627776
theorem jr.good{c:bU}(h:jr c):Nm c.doc:=Ig ((jg _).1 h.chk).2.2.2.2.2.1 _ h.doc
theorem jr.vers{c:bU}(h:jr c):Is c.Register.Versions:=(mL _).1 ((jg _).1 h.chk).2.2.2.2.1
theorem jr.kind{c:bU}(h:jr c):0<=c.doc.Kind/\c.doc.Kind<16:=h.good.kind
theorem approvalsP(l:List Approval)(g:Int):bK.L1 bK.K1 l g=prgChk jb (·.No) 280 l g:=by
 induction l generalizing g with
 |nil=>rfl
 |cons y l ih=>simp only[bK.L1,prgChk,ih]
theorem Bk{l:List Approval}(h:bK l=0):∀x∈l,jb x=true:=by
 unfold bK at h
 rw[approvalsP]at h
 cases hd:decide (4096<(l.length:Int))with
 |true=>rw[hd]at h;simp at h
 |false=>rw[hd,cond_false,yW (by decide)]at h;exact λx hx=>(h.1 x hx).1
theorem Le{x:Approval}(h:jb x=true):(0<=x.Doc/\x.Doc<4096)/\(0<=x.By/\x.By<64)/\(0<=x.For/\x.For<64)/\(0<=x.Office/\x.Office<32)/\(0<=x.At/\x.At<1099511627776):=by
 simp only[jb,dv,containsF,ic,List.any_cons,List.any_nil,Bool.or_false,xB,qE,Bool.or_eq_false_iff,decide_eq_false_iff_not]at h
 omega
theorem budgetsP(l:List Budget)(g:Int):bT.L1 bT.K1 l g=prgChk ka (·.No) 180 l g:=by
 induction l generalizing g with
 |nil=>rfl
 |cons y l ih=>simp only[bT.L1,prgChk,ih]
theorem uY{l:List Budget}(h:bT l=0):∀x∈l,ka x=true:=by
 unfold bT at h
 rw[budgetsP]at h
 cases hd:decide (4096<(l.length:Int))with
 |true=>rw[hd]at h;simp at h
 |false=>rw[hd,cond_false,yW (by decide)]at h;exact λx hx=>(h.1 x hx).1
theorem As{x:Budget}(h:ka x=true):x.Period≠0:=by
 simp only[ka,aO,containsF,iA,List.any_cons,List.any_nil,Bool.or_false,Bool.cond_eq_ite]at h
 split at h<;>simp only[xB,qE,Bool.or_eq_false_iff,decide_eq_false_iff_not]at h<;>omega
theorem Hr{l:List Budget}{kind t known:Int}{x:Budget}(h:x∈aW l kind t known):x∈l:=by
 have h2:∀(g:List (fN×Budget))(s acc:List Budget),x∈aW.L2 g aW.K2 s acc->x∈acc\/x∈s:=by
  intro g s
  induction s with
  |nil=>intro acc h;exact .inl h
  |cons y s ih=>
   intro acc h
   simp only[aW.L2,Bool.cond_eq_ite]at h
   split at h
   .rcases ih _ h with h|h
    .rcases kH.1 h with h|h
     .exact .inl h
     .exact .inr (qC.2 (.inl (jD.1 h)))
    .exact .inr (vA _ h)
   .rcases ih _ h with h|h
    .exact .inl h
    .exact .inr (vA _ h)
 have h1:∀(s:List Budget)(g:List (fN×Budget)),x∈aW.L1 kind t known (aW.K1 l) s g->x∈l:=by
  intro s
  induction s with
  |nil=>intro g h;rcases h2 g l [] h with h|h;exact(kA h).elim;exact h
  |cons y s ih=>intro g h;simp only[aW.L1,Bool.cond_eq_ite]at h;(repeat' split at h)<;>exact ih _ h
 exact h1 _ _ h
theorem J3{l:List Budget}{kind t known:Int}{x:Budget}(h:bT l=0)(hx:x∈aW l kind t known):x.Period≠0:=As (uY h x (Hr hx))
theorem Hu{l:List Approval}{doc t known:Int}{x:Approval}(h:x∈aG l doc t known):x∈l:=by
 have hc:∀(s:List Approval),x∈bo.L1 doc t known bo.K1 s->x∈s:=by
  intro s
  induction s with
  |nil=>intro h;exact(kA h).elim
  |cons y s ih=>
   intro h
   simp only[bo.L1,Bool.cond_eq_ite]at h
   split at h
   .rcases qC.1 h with rfl|h
    .exact zB ..
    .exact vA _ (ih h)
   .exact vA _ (ih h)
 have h2:∀(g:List (fu×Approval))(s acc:List Approval),x∈aG.L2 g aG.K2 s acc->x∈acc\/x∈s:=by
  intro g s
  induction s with
  |nil=>intro acc h;exact .inl h
  |cons y s ih=>
   intro acc h
   simp only[aG.L2,Bool.cond_eq_ite]at h
   split at h
   .rcases ih _ h with h|h
    .rcases kH.1 h with h|h
     .exact .inl h
     .exact .inr (qC.2 (.inl (jD.1 h)))
    .exact .inr (vA _ h)
   .rcases ih _ h with h|h
    .exact .inl h
    .exact .inr (vA _ h)
 have h1:∀(s:List Approval)(g:List (fu×Approval)),x∈aG.L1 (aG.K1 l doc t known) s g->x∈l:=by
  intro s
  induction s with
  |nil=>
   intro g h
   rcases h2 g (eD l doc t known) [] h with h|h
   .exact(kA h).elim
   .exact hc _ h
  |cons y s ih=>intro g h;simp only[aG.L1,Bool.cond_eq_ite]at h;split at h<;>exact ih _ h
 exact h1 _ _ h
theorem Jf{l:List Approval}{doc b th t known:Int}{x:Approval}(h:x∈(cA l doc b th t known).1):x∈l:=by
 unfold cA at h
 simp only[Bool.cond_eq_ite]at h
 split at h
 .exact(kA h).elim
 .split at h
  .exact(kA h).elim
  .exact Hu (aBH.1 h).1
section
variable {c:bU} (h:jr c)
include h
theorem L8{p:Int}(hp:0<=p/\p<64):(eC c.Register.Interests p c.doc.Parties c.at_ c.known).2.2=0:=
 Jk ((jg _).1 h.chk).2.2.1 hp h.good.parties h.time h.know
theorem yH{p:Policy}(hpr:p.Rules.length=p.Kinds.length/\∀y∈p.Rules,0<=y.Think/\y.Think<=1099511627775)(hk:0<=c.doc.Kind/\c.doc.Kind<(p.Rules.length:Int)):
  (cA c.Register.Approvals c.doc.No c.doc.At (nthI p.Rules c.doc.Kind).Think c.at_ c.known).2=0:=by
 have hth:=hpr.2 _ (pq hk)
 have h1:=h.good.no
 have h2:=h.good.at_
 have h3:=h.time
 have h4:=h.know
 have e1:dv 4095 [c.doc.No]=true:=by
  simp only[dv,containsF,ic,List.any_cons,List.any_nil,Bool.or_false,qE,Bool.or_eq_false_iff,decide_eq_false_iff_not];omega
 have e2:dv 1099511627775 [c.doc.At,(nthI p.Rules c.doc.Kind).Think,c.at_,c.known]=true:=by
  simp only[dv,containsF,ic,List.any_cons,List.any_nil,Bool.or_false,qE,Bool.or_eq_false_iff,decide_eq_false_iff_not];omega
 unfold cA
 rw[((jg _).1 h.chk).2.2.2.2.2.2,e1,e2];rfl
theorem vX{d b th t known:Int}{x:Approval}(hx:x∈(cA c.Register.Approvals d b th t known).1):(0<=x.Doc/\x.Doc<4096)/\(0<=x.By/\x.By<64)/\(0<=x.For/\x.For<64)/\(0<=x.Office/\x.Office<32)/\(0<=x.At/\x.At<1099511627776):=
 Le (Bk ((jg _).1 h.chk).2.2.2.2.2.2 x (Jf hx))
theorem Ih{d b th t known:Int}{x:Approval}(hx:x∈(cA c.Register.Approvals d b th t known).1):0<=x.For/\x.For<64:=(vX h hx).2.2.1
theorem KY{d b th t known:Int}{x:Approval}(hx:x∈(cA c.Register.Approvals d b th t known).1):0<=x.By/\x.By<64:=(vX h hx).2.1
theorem yG{d b th t known:Int}{x:Approval}(hx:x∈(cA c.Register.Approvals d b th t known).1):(gf c.Register.Appoints x.Office x.For c.at_ c.known).2.2.2=0:=by
 obtain⟨_,_,h2,h3,_⟩:=vX h hx
 have h4:=h.time
 have h5:=h.know
 have e1:fj x.Office=true:=by simp only[fj,dY,xB,decide_eq_true_eq];omega
 have e2:fY x.For=true:=by simp only[fY,dY,xB,decide_eq_true_eq];omega
 have e3:∀z:Int,0<=z/\z<1099511627776->dz z=true:=λz hz=>by simp only[dz,dY,xB,decide_eq_true_eq];omega
 unfold gf
 rw[((jg _).1 h.chk).1,e1,e2,e3 _ h4,e3 _ h5]
 simp only[bne_self_eq_false,cond_false,Bool.not_true,Bool.or_false]
 cases(!(mhas (cW c.Register.Appoints c.at_ c.known) (OSeat.mk x.Office x.For))||(mgetD (cW c.Register.Appoints c.at_ c.known) (OSeat.mk x.Office x.For) (Appoint.mk 0 0 0 0 0 0 false)).Gone)<;>rfl
omit h in
theorem La{l:List Deputy}{a o k v t n:Int}{g:List (Int×Int)}:(aE.K1 l a o k v t n g).2.2=0:=by
 unfold aE.K1
 cases(!(mhas g a))with
 |true=>rfl
 |false=>
  rw[cond_false]
  have:∀(s:List Nat)(i:Nat)(p:List Int)(q:Int),(aE.L4 l a o k v t n g aE.K4 s i p q).2.2=0:=by
   intro s
   induction s with
   |nil=>intro i p q;rfl
   |cons y s ih=>
    intro i p q
    simp only[aE.L4]
    have:∀(L:List Deputy)(p:List Int)(q:Int),(aE.L6 a g i (λzg6_16 zg6_31=>aE.L4 l a o k v t n g aE.K4 s (i+1) zg6_16 zg6_31) L p q).2.2=0:=by
     intro L
     induction L with
     |nil=>intro p q;exact ih _ _ _
     |cons z L ihL=>intro p q;simp only[aE.L6,Bool.cond_eq_ite];split;exact ih _ _ _;exact ihL _ _
    exact this _ _ _
  exact this _ _ _ _
omit h in
theorem NY{l:List Deputy}{a b o k v t n:Int}(h0:jy l a b (cD.mk o k v t n)=0):(aE l a b o k v t n).2.2=0:=by
 unfold aE
 rw[h0]
 simp only[bne_self_eq_false,cond_false]
 have:∀(s:List Nat)(i:Nat)(g:List (Int×Int)),(aE.L1 l o k v t n (aE.K1 l a o k v t n) s i g).2.2=0:=by
  intro s
  induction s with
  |nil=>intro i g;exact La
  |cons y s ih=>
   intro i g
   simp only[aE.L1]
   have:∀(L:List Deputy)(g:List (Int×Int)),(aE.L3 i (λzg3_b2_0=>aE.L1 l o k v t n (aE.K1 l a o k v t n) s (i+1) zg3_b2_0) L g).2.2=0:=by
    intro L
    induction L with
    |nil=>intro g;exact ih _ _
    |cons z L ihL=>intro g;simp only[aE.L3,Bool.cond_eq_ite];split<;>exact ihL _
   exact this _ _
 exact this _ _ _
theorem yI{d b th t known:Int}{x:Approval}(hx:x∈(cA c.Register.Approvals d b th t known).1):
  (aE c.Register.Deputies x.For x.By x.Office c.doc.Kind c.doc.Value c.at_ c.known).2.2=0:=by
 obtain⟨_,h1,h2,h3,_⟩:=vX h hx
 have h4:=h.time
 have h5:=h.know
 have h6:=h.kind
 have h7:=h.good.value
 refine NY ?_
 have e2:∀z:Int,0<=z/\z<64->ga z=true:=λz hz=>by simp only[ga,dg,xB,decide_eq_true_eq];omega
 have e3:∀z:Int,0<=z/\z<1099511627776->gE z=true:=λz hz=>by simp only[gE,dg,xB,decide_eq_true_eq];omega
 have e4:dg x.Office 0 31=true:=by simp only[dg,xB,decide_eq_true_eq];omega
 have e5:dg c.doc.Kind 0 15=true:=by simp only[dg,xB,decide_eq_true_eq];omega
 have e6:dg c.doc.Value 0 1099511627776=true:=by simp only[dg,xB,decide_eq_true_eq];omega
 unfold jy
 rw[((jg _).1 h.chk).2.1,e2 _ h1,e2 _ h2,e3 _ h4,e3 _ h5,e4,e5,e6];rfl
end
theorem BA{l:List Document}{signed:List Int}{b:Bool}(h:((!bM l signed)||b)=false):signed.length=l.length:=by
 simp only[bM,Bool.or_eq_false_iff,Bool.not_eq_false',xB,beq_iff_eq]at h
 have:=h.1.1
 omega
def playSame(P Q:eS):Prop:=Q.shelf=P.shelf/\Q.signed=P.signed/\Q.done.length=P.done.length/\Q.lacks.length=P.lacks.length
theorem playSame.refl(P:eS):playSame P P:=⟨rfl,rfl,rfl,rfl⟩
theorem playSame.trans{P Q R:eS}(h:playSame P Q)(k:playSame Q R):playSame P R:=⟨k.1.trans h.1,k.2.1.trans h.2.1,k.2.2.1.trans h.2.2.1,k.2.2.2.trans h.2.2.2⟩
theorem pm{β : Type}(f:eS->β->eS)(hf:∀P x,playSame P (f P x)):∀(l:List β)(P:eS),playSame P (l.foldl f P)
 |[],P=>.refl P
 |x::l,P=>(hf P x).trans (pm f hf l _)
theorem Ha(sg:List Int)(i:Int)(P:eS)(no:Int):playSame P (playLack sg i P no):=by
 unfold playLack
 cases(cg P (mgetD P.shelf.at_ no 0) (nthI sg i)).1 != 0
 .exact .refl P
 .exact⟨rfl,rfl,rfl,by simp⟩
theorem IM(P:eS)(i:Int):playSame P (playMid P i):=by
 refine playSame.trans (Q:={ P with lacks:=P.lacks.set i.toNat (-1) }) ⟨rfl,rfl,rfl,by simp⟩ ?_
 exact pm _ (λQ x=>Ha _ _ _ _) _ _
theorem Hb(P:eS)(i:Int):playSame P (playDone P i):=⟨rfl,rfl,by simp[playDone],rfl⟩
theorem Ee(d:Document)(P:eS)(no:Int):playSame P (playRevoke d P no):=⟨rfl,rfl,rfl,rfl⟩
theorem G0(P:eS)(i:Int):playSame P (playStep P i):=by
 have h:=(IM P i).trans (Hb (playMid P i) i)
 unfold playStep
 cases decide (nthI (playMid P i).lacks i<0)
 .exact h
 .exact h.trans (pm _ (λQ x=>Ee _ _ _) _ _)
theorem DB(l:List Document)(signed:List Int)(t:Int):playSame (playP l signed) (cf l signed t):=pm _ G0 _ _
theorem vr(l:List Document)(signed:List Int)(t:Int):(cf l signed t).shelf=aA l:=(DB l signed t).1
theorem tT(l:List Document)(signed:List Int)(t:Int):(cf l signed t).shelf.docs=l:=by
 rw[vr]
 have:∀(s:List Document)(i:Nat)(g:List (Int×Int)),(aA.L1 (aA.K1 l) s i g).docs=l:=by
  intro s
  induction s with
  |nil=>intro i g;rfl
  |cons y s ih=>intro i g;exact ih _ _
 exact this _ _ _
theorem DC(l:List Document)(signed:List Int)(t:Int):(cf l signed t).done.length=(cf l signed t).shelf.docs.length/\(cf l signed t).lacks.length=(cf l signed t).shelf.docs.length:=by
 have h:=DB l signed t
 rw[tT]
 exact⟨h.2.2.1.trans (by simp[playP]),h.2.2.2.trans (by simp[playP])⟩
theorem HY{l:List Document}{signed:List Int}{t:Int}{no:Int}(h:(!(mhas (cf l signed t).shelf.at_ no))=false):
  0<=mgetD (cf l signed t).shelf.at_ no 0/\mgetD (cf l signed t).shelf.at_ no 0<((cf l signed t).shelf.docs.length:Int):=by
 rw[tT]
 rw[vr]at h ⊢
 have hl:0<l.length:=by
  cases l with
  |nil=>exact Bool.noConfusion (show true=false from h)
  |cons=>simp
 have key:∀(s:List Document)(i:Nat)(g:List (Int×Int)),i+s.length=l.length->(∀p∈g,0<=p.2/\p.2<(l.length:Int))->∀p∈(aA.L1 (aA.K1 l) s i g).at_,0<=p.2/\p.2<(l.length:Int):=by
  intro s
  induction s with
  |nil=>intro i g _ hg;exact hg
  |cons y s ih=>
   intro i g hi hg
   simp only[xA]at hi
   exact ih (i+1) _ (by omega) (yj (P:=λx:Int=>0<=x/\x<(l.length:Int)) _ hg (by omega))
 exact yZ (P:=λx:Int=>0<=x/\x<(l.length:Int)) no (key l 0 [] (by simp) (λ_ h=>(kA h).elim)) (by omega)
structure Sq(q q':aZ):Prop where
 value:q'.value=q.value
 holders:q'.holders=q.holders
 who:∀l∈q.holders,∀y∈l,y.Person∈q.who->y.Person∈q'.who
 wt:∀l∈q.holders,∀y∈l,1<=y.Weight/\y.Weight<=64
 len:∀l∈q.holders,l.length<=2000000
theorem MO{α : Type}[Inhabited α]{P:α->Prop}{l:List α}(h:∀y∈l,P y)(hd:P default)(z:Int):P (nthI l z):=by
 by_cases hz:z.toNat<l.length
 .have:nthI l z=l[z.toNat]:=by simp[nthI,List.getD_eq_getElem?_getD,hz]
  rw[this];exact h _ (List.getElem_mem _)
 .have:nthI l z=default:=by simp[nthI,List.getD_eq_getElem?_getD,hz]
  rw[this];exact hd
theorem Iz(l:List Interest)(a b:Int):∃p:Interest->Bool,bQ l a b=l.filter p:=by
 have h1:∀v(l:List Interest),bG.L1 v [] l=l.filter λy=>(!y.Gone)&&decide (mgetD v (dp.mk y.Person y.Party y.Of) (zV 0 0 0 0 0 false false)=y):=by
  intro v l
  induction l with
  |nil=>rfl
  |cons y l ih=>
   simp only[bG.L1,List.filter_cons,ih]
   cases((!y.Gone)&&decide (mgetD v (dp.mk y.Person y.Party y.Of) (zV 0 0 0 0 0 false false)=y))<;>rfl
 have h2:∀(k:List (dp×Interest)->List Interest)(l:List Interest)m,∃m',bQ.L1 a b k l m=k m':=by
  intro k l
  induction l with
  |nil=>exact λm=>⟨m,rfl⟩
  |cons y l ih=>
   intro m
   simp only[bQ.L1,Bool.cond_eq_ite]
   split
   .exact ih _
   .split
    .exact ih _
    .exact ih _
 obtain⟨m',e⟩:=h2 (bQ.K1 l) l []
 exact⟨_,by unfold bQ;rw[e];exact h1 m' l⟩
theorem JJ(l:List Interest)(a b:Int):(bQ l a b).length<=l.length:=by
 obtain⟨p,e⟩:=Iz l a b
 rw[e];exact List.length_filter_le _ _
theorem FF{α : Type}{k:Int}{v:α}:∀{m:List (Int×α)},k∉m.map (·.1)->(mput m k v).length=m.length+1/\∀p∈mput m k v,p=(k,v)\/p∈m
 |[],_=>by simp[mput]
 |(k',v')::m,hk=>by
  simp only[xK,qC,not_or]at hk
  obtain⟨h1,h2⟩:=FF (v:=v) hk.2
  simp only[mput,hk.1,if_false,xA,h1,qC,true_and]
  rintro p (rfl|hp)
  .exact .inr (.inl rfl)
  .rcases h2 p hp with h|h
   .exact .inl h
   .exact .inr (.inr h)
theorem IX{st:List Interest}{m:List (Int×Bool)}{q:List gU}(hg:pL st m q){k:Int}(h:mgetD m k false=false):k∉m.map (·.1):=by
 intro hk
 obtain⟨⟨k',v⟩,hp,rfl⟩:=jQ.1 hk
 have:∀{m:List (Int×Bool)},(∀p∈m,p.2=true)->k'∈m.map (·.1)->mgetD m k' false=true:=by
  intro m
  induction m with
  |nil=>intro _ h;simp at h
  |cons p m ih=>
   intro ha hm
   obtain⟨a,b⟩:=p
   by_cases e:k'=a
   .have:=ha (a,b) (zB ..)
    simp only at this
    simp[mgetD,mget?,e,this]
   .simp only[xK,qC,e,false_or]at hm
    have:=ih (λp hp=>ha p (vA _ hp)) hm
    simpa[mgetD,mget?,e]using this
 rw[this (λp hp=>(hg.1 p hp).1) hk]at h
 cases h
theorem oZ{st:List Interest}{m:List (Int×Bool)}{q:List gU}{w:gU}(hg:pL st m q)(hw:w.to∈st.map (·.Party))(h8:w.path.length<=8):pL st (conPut w m q).1 (conPut w m q).2:=by
 unfold conPut
 cases h:mgetD m w.to false with
 |true=>exact hg
 |false=>
  obtain⟨h1,h2⟩:=FF (v:=true) (IX hg h)
  refine⟨λp hp=>?_,?_,λw' hw'=>?_⟩
  .rcases h2 p hp with rfl|hp
   .exact⟨rfl,hw⟩
   .exact hg.1 p hp
  .show(q++[w]).length<=(mput m w.to true).length
   rw[h1,jA];have:=hg.2.1;simp;omega
  .rcases kH.1 (show w'∈q++[w]from hw')with hw'|hw'
   .exact hg.2.2 w' hw'
   .rw[jD.1 hw'];exact h8
theorem yJ{st:List Interest}{m:List (Int×Bool)}{q:List gU}{k:Int}{cap:Nat}(hg:pL st m q)(hn:(m.map (·.1)).Nodup)(hk:k∈st.map (·.Party))(hc:st.length<=cap)(h:mgetD m k false=false):q.length<cap:=by
 have h1:=IX hg h
 have h2:(k::m.map (·.1)).length<=(st.map (·.Party)).length:=CY (List.nodup_cons.2 ⟨h1,hn⟩) (λx hx=>by
  rcases qC.1 hx with rfl|hx
  .exact hk
  .obtain⟨p,hp,rfl⟩:=jQ.1 hx;exact(hg.1 p hp).2)
 simp only[xA,List.length_map]at h2
 have:=hg.2.1
 omega
theorem Pk{st:List Interest}{m:List (Int×Bool)}{q:List gU}(hg:pL st m q)(hn:(m.map (·.1)).Nodup):m.length<=st.length:=by
 have:=CY (b:=st.map (·.Party)) hn (λx hx=>by obtain⟨p,hp,rfl⟩:=jQ.1 hx;exact(hg.1 p hp).2)
 simpa using this
theorem vZ{m:List (Int×Bool)}{q:List gU}{w:gU}(hn:(m.map (·.1)).Nodup):((conPut w m q).1.map (·.1)).Nodup:=by
 unfold conPut
 cases mgetD m w.to false with
 |true=>exact hn
 |false=>exact qi _ _ hn
theorem DY{st:List Interest}{m:List (Int×Bool)}{q:List gU}{w:gU}{N:Nat}(hg:pL st m q)(hn:(m.map (·.1)).Nodup)(hw:w.to∈st.map (·.Party))(hN:st.length<=N):
  (conPut w m q).2.length+(N-(conPut w m q).1.length)<=q.length+(N-m.length):=by
 unfold conPut
 cases h:mgetD m w.to false with
 |true=>simp
 |false=>
  obtain⟨h1,_⟩:=FF (v:=true) (IX hg h)
  have h2:pL st (mput m w.to true) []:=by
   have:=oZ (w:=⟨[],w.to⟩) (q:=[]) (st:=st) (m:=m) ⟨hg.1,zN _,λ_ h=>(kA h).elim⟩ hw (by simp)
   simp only[conPut,h,cond_false]at this
   exact⟨this.1,zN _,λ_ h=>(kA h).elim⟩
  have h3:=Pk h2 (qi w.to true hn)
  show(q++[w]).length+(N-(mput m w.to true).length)<=_
  rw[h1]at h3
  rw[h1,jA]
  simp;omega
theorem AR{α : Type}(m:List (Int×α))(k j:Int)(v z:α):mgetD (mput m k v) j z=if j=k then v else mgetD m j z:=by
 induction m with
 |nil=>by_cases h:j=k<;>simp[mput,mgetD,mget?,h]
 |cons p m ih=>
  obtain⟨a,b⟩:=p
  by_cases h:k=a
  .subst h
   by_cases h2:j=k<;>simp[mput,mgetD,mget?,h2]
  .by_cases h2:j=a
   .subst h2
    have:¬j=k:=λe=>h e.symm
    simp[mput,h,mgetD,mget?,this]
   .simp only[mgetD]at ih ⊢
    simp only[mput,h,if_false,mget?,h2]
    exact ih
theorem GK.put{st:List Interest}{f:List (Int×List Interest)}(hf:GK st f){k:Int}{x:Interest}(hx:x∈st):GK st (mput f k (mgetD f k []++[x])):=by
 intro j y hy
 rw[AR]at hy
 split at hy
 .rcases kH.1 hy with hy|hy
  .exact hf k y hy
  .rw[jD.1 hy];exact hx
 .exact hf j y hy
theorem yX{α : Type}(A B:List α)(x y:α):(A++x::y::B).Perm (y::x::(A++B)):=
 List.perm_middle.trans ((List.Perm.cons x List.perm_middle).trans (List.Perm.swap y x _))
theorem vY{st:List Interest}{path:List Int}{N:Nat}(hN:st.length<=N)(h8:path.length+1<=8):∀{xs:List Interest}{m:List (Int×Bool)}{q:List gU},(∀x∈xs,x∈st)->pL st m q->(m.map (·.1)).Nodup ->
  (conStep path xs m q).2.length+(N-(conStep path xs m q).1.length)<=q.length+(N-m.length)
 |[],m,q,_,_,_=>kF _
 |x::xs,m,q,hx,hg,hn=>by
  have hp:(gU.mk (path++[x.No]) x.Party).to∈st.map (·.Party):=kM (hx x (zB ..))
  have h1:=DY (w:=⟨path++[x.No],x.Party⟩) hg hn hp hN
  have h2:=vY (path:=path) hN h8 (xs:=xs) (λy hy=>hx y (vA _ hy)) (oZ hg hp (by simpa using h8)) (vZ hn)
  simp only[conStep]
  exact kS h2 h1
theorem Ii{st:List Interest}{path:List Int}(h8:path.length+1<=8):∀{xs:List Interest}{m:List (Int×Bool)}{q:List gU},(∀x∈xs,x∈st)->pL st m q->(m.map (·.1)).Nodup ->
  pL st (conStep path xs m q).1 (conStep path xs m q).2/\((conStep path xs m q).1.map (·.1)).Nodup
 |[],m,q,_,hg,hn=>⟨hg,hn⟩
 |x::xs,m,q,hx,hg,hn=>by
  have hp:(gU.mk (path++[x.No]) x.Party).to∈st.map (·.Party):=kM (hx x (zB ..))
  exact Ii h8 (xs:=xs) (λy hy=>hx y (vA _ hy)) (oZ hg hp (by simpa using h8)) (vZ hn)
theorem zf{st:List Interest}{N:Nat}(hN:st.length<=N)(person:Int):∀(xs:List Interest)(f:List (Int×List Interest))(m:List (Int×Bool))(q:List gU),(∀x∈xs,x∈st)->GK st f->pL st m q->(m.map (·.1)).Nodup->q.length+(N-m.length)<=N ->
  GK st (conFill person xs f m q).1/\pL st (conFill person xs f m q).2.1 (conFill person xs f m q).2.2/\((conFill person xs f m q).2.1.map (·.1)).Nodup/\(conFill person xs f m q).2.2.length+(N-(conFill person xs f m q).2.1.length)<=N
 |[],f,m,q,_,hf,hg,hn,hs=>⟨hf,hg,hn,hs⟩
 |x::xs,f,m,q,hx,hf,hg,hn,hs=>by
  have hx':=λy hy=>hx y (vA x hy)
  have hx0:=hx x (zB ..)
  simp only[conFill,Bool.cond_eq_ite]
  split
  .exact zf hN person xs _ m q hx' (hf.put hx0) hg hn hs
  .split
   .have hp:(gU.mk [x.No] x.Party).to∈st.map (·.Party):=kM hx0
    exact zf hN person xs f _ _ hx' hf (oZ hg hp (by simp)) (vZ hn) (kS (DY hg hn hp hN) hs)
   .exact zf hN person xs f m q hx' hf hg hn hs
theorem wa{st:List Interest}{f:List (Int×List Interest)}(ps:List Int){N:Nat}(hN:st.length<=N)(hf:GK st f):∀(n n':Nat)(m:List (Int×Bool))(q:List gU),pL st m q->(m.map (·.1)).Nodup->q.length+(N-m.length)+1<=n->q.length+(N-m.length)+1<=n'->conLoop ps f n m q=conLoop ps f n' m q
 |0,_,_,_,_,_,h,_=>absurd h (by omega)
 |_,0,_,_,_,_,_,h=>absurd h (by omega)
 |n+1,n'+1,m,[],_,_,_,_=>rfl
 |n+1,n'+1,m,w::q,hg,hn,h,h'=>by
  rw[xA]at h h'
  have hg':pL st m q:=⟨hg.1,by have:=hg.2.1;rw[xA]at this;omega,λx hx=>hg.2.2 x (vA _ hx)⟩
  simp only[conLoop,Bool.cond_eq_ite]
  split
  .rfl
  .split
   .exact wa ps hN hf n n' m q hg' hn (by omega) (by omega)
   .next h8=>
    have h9:=hg.2.2 w (zB ..)
    have h10:w.path.length+1<=8:=by simp only[beq_iff_eq]at h8;omega
    have hs:=vY (path:=w.path) hN h10 (λx hx=>hf w.to x hx) hg' hn
    obtain⟨g1,g2⟩:=Ii (path:=w.path) h10 (λx hx=>hf w.to x hx) hg' hn
    exact wa ps hN hf n n' _ _ g1 g2 (by omega) (by omega)
theorem Jg{l l' st:List Interest}(h:st.length<=l.length)(h':st.length<=l'.length)(person:Int)(ps:List Int):conFind l person ps st=conFind l' person ps st:=by
 obtain⟨g1,g2,g3,g4⟩:=zf (kF st.length) person st [] [] [] (λ_ h=>h) (λk x hx=>by simp[mgetD,mget?]at hx) ⟨λ_ h=>(kA h).elim,kF _,λ_ h=>(kA h).elim⟩ List.nodup_nil (by simp)
 exact wa ps (kF _) g1 _ _ _ _ g2 g3 (by omega) (by omega)
theorem yP{l:List Interest}{p:Int}{ps:List Int}{t known:Int}(hk:0<=known)(h:cq l=0):eC (knownI known l) p ps t known=eC l p ps t known:=by
 have e1:=EW (t:=t) hk l
 have e2:cK (knownI known l) p ps t known=cK l p ps t known:=by
  unfold cK
  rw[h,Am (m:=knownI known l) (List.filter_sublist ..) h]
 unfold eC
 rw[e1,e2,Jg (l:=knownI known l) (l':=l) (st:=bQ l t known)]
 .rw[←e1]
  obtain⟨f,e⟩:=Bw (knownI known l) t known
  rw[e];exact List.length_filter_le _ _
 .obtain⟨f,e⟩:=Bw l t known
  rw[e];exact List.length_filter_le _ _
def lastV(t known:Int)(acc:Option Version)(y:Version):Option Version:=
 bif decide (y.At<=t)&&decide (y.Known<=known)then(match acc with
  |none=>some y
  |some a=>bif decide (a.At<=y.At)then some y else some a)else acc
def FV(t known:Int)(l:List Version):Option Version:=l.foldl (lastV t known) none
structure Su(f known:Int)(pre:List Version)(b:Int)(m:List (Int×Version)):Prop where
 at_:∀a,FV f known pre=some a->b=a.At
 no:FV f known pre=none->b=-1
 beg:mget? m f=FV f known pre
 has:∀t,f<t->(t∈m.map (·.1)↔∃y∈pre,y.At=t/\y.Known<=known)
 get:∀t,f<t->t∈m.map (·.1)->∃v,mget? m t=some v/\FV t known pre=some v/\v.At=t
 low:∀t,t∈m.map (·.1)->f<=t
theorem Qt(s:ByteArray):gN s=dP s:=by
 rw[jP]
 refine⟨MP,λh=>?_⟩
 unfold dP at h
 unfold gN
 rw[CA,IV]at h
 rw[Bool.cond_eq_ite]at h ⊢
 split at h
 .cases h
 .next hc=>
  simp only[xD,not_or,decide_eq_true_eq,Bool.not_eq_true]at hc
  obtain⟨⟨h1,h2⟩,h3⟩:=hc
  have hs:¬((s.size:Int)<1):=λhlt=>by
   have h9:=vi s
   have:s.toList=[]:=List.length_eq_zero_iff.1 (by omega)
   rw[this]at h1
   have e2:(⟨#[]⟩:ByteArray).toList=[]:=by
    have:=vi (⟨#[]⟩:ByteArray)
    exact List.length_eq_zero_iff.1 this
   rw[e2]at h1;simp at h1
  rw[if_neg]
  .exact h
  .simp only[xD,not_or,decide_eq_true_eq]
   exact⟨⟨hs,h2⟩,by simpa using h3⟩
theorem M5(s:ByteArray):mW s=dL s:=by
 rw[Ib];unfold mW;rw[Qt]
theorem DX(l:List ByteArray):eH l=bF l dL:=by
 have key:∀(L l:List ByteArray)(i:Nat),eH.L1 L eH.K1 l i=bF.L1 L dL bF.K1 l i:=by
  intro L l
  induction l with
  |nil=>intros;rfl
  |cons y l ih=>intro i;simp only[eH.L1,bF.L1,M5,rindex,ih]
 exact key l l 0
theorem FE(off:List ByteArray)(x:Expr):(∀z∈bu x 1,((!(du z.x))||di off z.x.Name)=true)->bP off x=true:=by
 refine aBk (P:=λx=>(∀z∈bu x 1,((!(du z.x))||di off z.x.Name)=true)->bP off x=true) ?_ x
 intro x ih h
 have h:=(qn (λy=>((!(du y))||di off y.Name)=true) x 1).1 h
 rw[Km]
 unfold bP.F
 have hx:=h.1
 unfold du di at hx
 rw[Bool.cond_eq_ite,if_neg]
 .have:∀l:List Expr,(∀y∈l,bP off y=true)->bP.L1 bP off bP.K1 l=true:=by
   intro l
   induction l with
   |nil=>intro _;rfl
   |cons y l ih2=>
    intro hl
    simp only[bP.L1,hl y (zB ..),Bool.not_true,cond_false]
    exact ih2 λz hz=>hl z (vA _ hz)
  exact this x.L λy hy=>ih y hy (h.2 y hy)
 .rw[rindex]
  simp only[xB,decide_eq_true_eq,not_and]
  intro hk hi
  rw[hk]at hx
  simp only[Bool.not_true,Bool.false_or,decide_eq_true_eq]at hx
  omega
theorem Gl{x:Expr}{u:Bool}(h:(aN x.Kind 1 4&&kindsP x.Kind x)=true)(h4:u=false->x.Kind≠4):aF.K1 x u=true:=by
 simp only[xB]at h
 have hb:1<=x.Kind/\x.Kind<=4:=by have:=h.1;simpa[aN]using this
 have hc:x.Kind=1\/x.Kind=2\/x.Kind=3\/x.Kind=4:=by omega
 have h2:=h.2
 unfold aF.K1
 rcases hc with e|e|e|e
 .rw[e]at h2 ⊢
  have h2:j7 x=true:=h2
  unfold j7 at h2
  rw[show((1:Int)==1)=true from rfl,cond_true];exact h2
 .rw[e]at h2 ⊢
  have h2:j6 x=true:=h2
  unfold j6 aN at h2
  rw[show((2:Int)==1)=false from rfl,show((2:Int)==2)=true from rfl,cond_false,cond_true];exact h2
 .rw[e]at h2 ⊢
  have h2:j5 x=true:=h2
  unfold j5 aN at h2
  rw[show((3:Int)==1)=false from rfl,show((3:Int)==2)=false from rfl,show((3:Int)==3)=true from rfl,cond_false,cond_false,cond_true]
  simp only[xB]at h2 ⊢
  exact⟨⟨⟨⟨h2.1.1,h2.1.2.1⟩,h2.1.2.2⟩,h2.2.1⟩,h2.2.2⟩
 .have hu:u=true:=by
   cases u with
   |true=>rfl
   |false=>exact absurd e (h4 rfl)
  subst hu
  rw[e]at h2 ⊢
  have h2:jd x=true:=h2
  unfold jd aN at h2
  rw[show((4:Int)==1)=false from rfl,show((4:Int)==2)=false from rfl,show((4:Int)==3)=false from rfl,show((4:Int)==4)=true from rfl,cond_false,cond_false,cond_false,cond_true]
  simp only[xB]at h2 ⊢
  exact⟨⟨⟨⟨trivial,h2.1.1⟩,h2.1.2⟩,h2.2.1⟩,h2.2.2⟩
theorem DT(u:Bool)(x:Expr):(∀z∈bu x 1,(aN z.x.Kind 1 4&&kindsP z.x.Kind z.x)=true/\(u=false->z.x.Kind≠4))->aF x u=true:=by
 refine aBk (P:=λx=>(∀z∈bu x 1,(aN z.x.Kind 1 4&&kindsP z.x.Kind z.x)=true/\(u=false->z.x.Kind≠4))->aF x u=true) ?_ x
 intro x ih h
 have h:=(qn (λy=>(aN y.Kind 1 4&&kindsP y.Kind y)=true/\(u=false->y.Kind≠4)) x 1).1 h
 rw[Id]
 unfold aF.F
 have:∀(k:Bool)(l:List Expr),(∀y∈l,aF y u=true)->aF.L1 aF u k l=k:=by
  intro k l
  induction l with
  |nil=>intro _;rfl
  |cons y l ih2=>
   intro hl
   simp only[aF.L1,hl y (zB ..),Bool.not_true,cond_false]
   exact ih2 λz hz=>hl z (vA _ hz)
 rw[this _ x.L λy hy=>ih y hy (h.2 y hy)]
 exact Gl h.1.1 h.1.2
theorem NW(l:List Expr):∀a:Int,bj.L1 bj (λg=>g) l a=a\/∃y∈l,bj.L1 bj (λg=>g) l a=bj y:=by
 induction l with
 |nil=>intro a;exact .inl rfl
 |cons y l ih=>
  intro a
  simp only[bj.L1]
  rcases ih (max a (bj y))with h|⟨z,hz,h⟩
  .rw[h]
   rcases Int.le_total a (bj y)with q|q
   .exact .inr ⟨y,zB ..,by omega⟩
   .exact .inl (by omega)
  .exact .inr ⟨z,vA _ hz,h⟩
theorem Gy(x:Expr):x.dep<=1500000->∀d:Int,∃z∈bu x d,z.depth=d+bj x-1:=by
 refine aBk (P:=λx=>x.dep<=1500000->∀d:Int,∃z∈bu x d,z.depth=d+bj x-1) ?_ x
 intro x ih hx d
 have hd:=(KW x hx).2
 rw[nF]
 rcases NW x.L 0 with h|⟨y,hy,h⟩
 .exact⟨⟨x,d⟩,zB ..,by rw[hd,h];show d=d+(0+1)-1;omega⟩
 .have hlt:=aAn hy
  obtain⟨z,hz,e⟩:=ih y hy (by omega) (d+1)
  exact⟨z,vA _ (List.mem_flatMap.2 ⟨y,hy,hz⟩),by rw[e,hd,h];omega⟩
theorem LK{x:Expr}(hx:x.dep<=1500000)(h1:(bu x 1).length<=256)(h2:∀z∈bu x 1,z.depth<=16):jZ x=false:=by
 unfold jZ
 rw[Ip x 256 (by decide) (by decide)]
 obtain⟨z,hz,e⟩:=Gy x hx 1
 have:=h2 z hz
 have hc:cnt x<=256:=h1
 simp only[Bool.or_eq_false_iff,decide_eq_false_iff_not]
 exact⟨by omega,by omega⟩
theorem Nz(off:List ByteArray)(x:Expr):(∀z∈bu x 1,z.x.No=rno off z.x)->bh (ah off x) x=true:=by
 refine aBk (P:=λx=>(∀z∈bu x 1,z.x.No=rno off z.x)->bh (ah off x) x=true) ?_ x
 intro x ih h
 have h:=(qn (λy=>y.No=rno off y) x 1).1 h
 rw[MD,Dx]
 unfold bh.F
 have e:(((((x.Kind != x.Kind)||(x.N != x.N))||(rno off x != x.No))||(!(x.Name.toList==x.Name.toList)))||(((x.L.map (ah off)).length:Int) != (x.L.length:Int)))=false:=by simp[h.1]
 show(bif(((((x.Kind != x.Kind)||(x.N != x.N))||(rno off x != x.No))||(!(x.Name.toList==x.Name.toList)))||(((x.L.map (ah off)).length:Int) != (x.L.length:Int)))then false else bh.L1 bh x bh.K1 (x.L.map (ah off)) 0)=true
 rw[e,cond_false]
 have:∀(l pre:List Expr),x.L=pre++l->bh.L1 bh x bh.K1 (l.map (ah off)) pre.length=true:=by
  intro l
  induction l with
  |nil=>intro _ _;rfl
  |cons y l ih2=>
   intro pre hp
   have hy:nthI x.L (pre.length:Int)=y:=po (by rw[hp];simp)
   have hm:y∈x.L:=by rw[hp];simp
   have:=ih2 (pre++[y]) (by rw[hp];simp)
   rw[jA,xA,vB,Nat.zero_add]at this
   simp only[xK,bh.L1,hy,ih y hm (h.2 y hm),Bool.not_true,cond_false]
   exact this
 exact this x.L [] rfl
theorem E2(l:List ByteArray):eE l l=true:=by
 have:∀(s pre:List ByteArray),l=pre++s->eE.L1 l eE.K1 s pre.length=true:=by
  intro s
  induction s with
  |nil=>intro _ _;rfl
  |cons y s ih=>
   intro pre hp
   have hy:nthI l (pre.length:Int)=y:=po (by rw[hp];simp)
   have:=ih (pre++[y]) (by rw[hp];simp)
   rw[jA,xA,vB,Nat.zero_add]at this
   simp only[eE.L1,hy,beq_self_eq_true,Bool.not_true,cond_false]
   exact this
 unfold eE
 rw[bne_self_eq_false,cond_false]
 exact this l [] rfl
theorem E7(off:List ByteArray):∀(l:List Rule)(i:Nat),(rrules off l i).length=l.length
 |[],_=>rfl
 |y::l,i=>by simp only[rrules,xA,E7 off l]
theorem Md{p:Policy}(hs:smP p)(h:dk p=0):gx p=0:=by
 obtain⟨h1,h2,h3⟩:=(CB p).1 h
 obtain⟨s1,s2,s3⟩:=(tH p).1 h1
 obtain⟨⟨a1,a2,a3⟩,a4⟩:=(Bz p).1 s1
 obtain⟨⟨n1,n2,n3⟩,n4⟩:=(FD p).1 s2
 unfold bq bq.K1 bq.K2 at s3
 rw[qo,Ck,EC]at s3
 obtain⟨f1,f2,f3⟩:=s3
 simp only[xB,decide_eq_true_eq,beq_iff_eq,aN]at f1
 have hlen:(ay p).length=p.Rules.length+1:=by rw[nf];simp
 have hrule:∀r∈p.Rules,r.Expr∈ay p:=λr hr=>Gq hr
 have hch:p.Change∈ay p:=by rw[nf];simp
 have hdep:∀x∈ay p,x.dep<=1500000:=λx hx=>by
  rw[nf]at hx
  simp only[kH,jQ,jD]at hx
  rcases hx with⟨r,hr,rfl⟩|rfl
  .exact hs.2.1 r hr
  .exact hs.2.2.1
 have hlarge:∀x∈ay p,jZ x=false:=λx hx=>LK (hdep x hx) (a4 x hx).1 (a4 x hx).2
 have hT:fh p=false:=by
  unfold fh
  rw[Bool.cond_eq_ite,if_neg]
  .have:∀l:List Rule,(∀r∈l,jZ r.Expr=false)->fh.L1 fh.K1 l=false:=by
    intro l
    induction l with
    |nil=>intro _;rfl
    |cons y l ih=>
     intro hl
     simp only[fh.L1,hl y (zB ..),cond_false]
     exact ih λz hz=>hl z (vA _ hz)
   exact this p.Rules λr hr=>hlarge _ (hrule r hr)
  .simp only[xD,decide_eq_true_eq,not_or,hlarge _ hch,jL,not_false_eq_true,and_true]
   omega
 have hN:gX p=true:=by
  unfold gX
  rw[M5,DX,DX,n1,n2,n3]
  simp only[Bool.not_true,Bool.or_self,cond_false]
  have:∀(k:Bool)(l:List Rule),(∀r∈l,bP p.Offices r.Expr=true)->gX.L1 p k l=k:=by
   intro k l
   induction l with
   |nil=>intro _;rfl
   |cons y l ih=>
    intro hl
    simp only[gX.L1,hl y (zB ..),Bool.not_true,cond_false]
    exact ih λz hz=>hl z (vA _ hz)
  rw[this _ p.Rules λr hr=>FE p.Offices _ (n4 _ (hrule r hr))]
  exact FE p.Offices _ (n4 _ hch)
 have hget:∀(j:Nat)(r:Rule),p.Rules[j]? = some r->(ay p)[j]? = some r.Expr:=λj r hj=>by
  have hlt:=(List.getElem?_eq_some_iff.1 hj).1
  rw[nf,List.getElem?_append_left (by simpa using hlt),kT,hj];rfl
 have hgetc:(ay p)[p.Rules.length]? = some p.Change:=by
  rw[nf,List.getElem?_append_right (by simp)];simp
 have hFm:fW p=true:=by
  unfold fW
  rw[Bool.cond_eq_ite,if_neg]
  .have:∀(l pre:List Rule),p.Rules=pre++l->fW.L1 p (fW.K1 p) l pre.length=true:=by
    intro l
    induction l with
    |nil=>
     intro pre _
     refine DT false _ λz hz=>?_
     obtain⟨q1,q2⟩:=f3 _ _ hgetc z hz
     refine⟨q1,λ_ he=>?_⟩
     rw[hlen,wrap64 (by omega),Nat.zero_add]at q2
     have e1:decide ((p.Rules.length:Int)<((p.Rules.length+1:Nat):Int)-1)=false:=decide_eq_false (by omega)
     rw[e1,Bool.false_or,he]at q2
     simp at q2
    |cons y l ih=>
     intro pre hp
     have hj:p.Rules[pre.length]? = some y:=by rw[hp];simp
     have q:=f2 pre.length y hj
     rw[Nat.zero_add]at q
     simp only[xB,aN,decide_eq_true_eq]at q
     have hfe:aF y.Expr true=true:=DT true _ λz hz=>⟨(f3 _ _ (hget _ _ hj) z hz).1,λhh=>by cases hh⟩
     have d1:decide (y.Think<0)=false:=by simp;omega
     have d2:decide (1099511627776<=y.Think)=false:=by simp;omega
     have:=ih (pre++[y]) (by rw[hp];simp)
     rw[jA,xA,vB,Nat.zero_add]at this
     simp only[fW.L1,q.1,d1,d2,hfe,Bool.not_true,Bool.or_self,cond_false]
     exact this
   exact this p.Rules [] rfl
  .simp only[xD,decide_eq_true_eq,bne_iff_ne,not_or,ne_eq,Decidable.not_not]
   omega
 have hRes:dR p=(kN p.Name p.Kinds p.Offices (rrules p.Offices p.Rules 0) (ah p.Offices p.Change) p.Mode,0):=by
  unfold dR
  rw[hT,hN,hFm]
  simp only[cond_false,Bool.not_true]
  rw[Bl,zG]
 have hsame:∀x,bR p.Offices x=true->bh (ah p.Offices x) x=true:=λx hx=>by
  refine Nz p.Offices x ?_
  unfold bR bR.K1 at hx
  exact(qU p.Offices _).1 hx
 have hSame:io (kN p.Name p.Kinds p.Offices (rrules p.Offices p.Rules 0) (ah p.Offices p.Change) p.Mode) p=true:=by
  unfold io
  rw[Bool.cond_eq_ite,if_neg]
  .have:∀(l pre:List Rule),p.Rules=pre++l->io.L1 p io.K1 (rrules p.Offices l pre.length) pre.length=true:=by
    intro l
    induction l with
    |nil=>intro _ _;rfl
    |cons y l ih=>
     intro pre hp
     have hy:nthI p.Rules (pre.length:Int)=y:=po (by rw[hp];simp)
     have hj:p.Rules[pre.length]? = some y:=by rw[hp];simp
     obtain⟨g1,g2⟩:=h2 pre.length y hj
     have:=ih (pre++[y]) (by rw[hp];simp)
     rw[jA,xA,vB,Nat.zero_add]at this
     simp only[rrules,io.L1,hy,hsame _ g2,g1,beq_self_eq_true,bne_self_eq_false,Bool.not_true,Bool.or_self,cond_false]
     exact this
   exact this p.Rules [] rfl
  .show ¬((((((!(p.Name.toList==p.Name.toList))||(p.Mode != p.Mode))||(!(eE p.Offices p.Offices)))||(!(eE p.Kinds p.Kinds)))||(((rrules p.Offices p.Rules 0).length:Int) != (p.Rules.length:Int)))||(!(bh (ah p.Offices p.Change) p.Change)))=true
   rw[E2,E2,E7,hsame _ h3]
   simp
 unfold gx
 rw[hRes]
 dsimp only
 rw[hSame];rfl
theorem Hq{l:List Version}(hs:smV l)(h:bw l=0):dN l=0:=by
 have g:=(mL l).1 h
 have hlen:=g.len
 unfold dN
 rw[Bool.cond_eq_ite,if_neg (by simp;omega)]
 have:∀(s pre:List Version),l=pre++s->dN.L1 l dN.K1 s pre.length=0:=by
  intro s
  induction s with
  |nil=>intro _ _;rfl
  |cons y s ih=>
   intro pre hp
   have hy:y∈l:=by rw[hp];simp
   obtain⟨q1,q2,q3,q4⟩:=g.each y hy
   have hlast:(decide (0<(pre.length:Int))&&decide (y.No<=(nthI l ((pre.length:Int)-1)).No))=false:=by
    rcases List.eq_nil_or_concat pre with rfl|⟨a,x,e⟩
    .rfl
    .rw[List.concat_eq_append]at e
     subst e
     have hx:nthI l (((a++[x]).length:Int)-1)=x:=by
      rw[show(((a++[x]).length:Int)-1)=(a.length:Int)from by simp]
      exact po (by rw[hp];simp)
     have hi:=g.inc
     rw[hp,List.pairwise_append]at hi
     have:=hi.2.2 x (by simp) y (zB ..)
     rw[hx]
     have e2:decide (y.No<=x.No)=false:=by simp;omega
     rw[e2,Bool.and_false]
   have:=ih (pre++[y]) (by rw[hp];simp)
   rw[jA,xA,vB,Nat.zero_add]at this
   simp only[dN.L1,Bool.cond_eq_ite]
   rw[if_neg]
   .exact this
   .have hck:=Md (hs.2 y hy) q4
    simp only[xD,not_or,decide_eq_true_eq,xB,qE,Bool.not_eq_false,bne_iff_ne,ne_eq,Classical.not_not,fM,hck,and_true]
    simp only[Bool.and_eq_false_iff,decide_eq_false_iff_not]at hlast
    omega
 exact this l [] rfl
theorem Fc{B:Int->Bool}{k:Bool}{L:List Int}(hB:∀y∈L,B y=false)(hL:L.Pairwise (·<·))(hk:k=true):∀(l pre:List Int),L=pre++l->refLs B L k l pre.length=true
 |[],_,_=>hk
 |y::l,pre,h=>by
  have hlast:(decide (0<(pre.length:Int))&&decide (y<=nthI L ((pre.length:Int)-1)))=false:=by
   rcases List.eq_nil_or_concat pre with rfl|⟨a,x,e⟩
   .rfl
   .rw[List.concat_eq_append]at e
    subst e
    have hx:nthI L (((a++[x]).length:Int)-1)=x:=by
     rw[show(((a++[x]).length:Int)-1)=(a.length:Int)from by simp]
     exact po (by rw[h];simp)
    have hi:=hL
    rw[h,List.pairwise_append]at hi
    have:=hi.2.2 x (by simp) y (zB ..)
    rw[hx]
    have e2:decide (y<=x)=false:=by simp;omega
    rw[e2,Bool.and_false]
  have ih:=Fc hB hL hk l (pre++[y]) (by rw[h];simp)
  rw[jA,xA,vB,Nat.zero_add]at ih
  have hy:y∈L:=by rw[h];simp
  simp only[refLs,hB y hy,hlast,Bool.or_self,cond_false]
  exact ih
theorem AE{l:List Int}{limit:Int}(h:((∀x∈l,0<=x/\x<limit)/\l.Pairwise (·<·))/\l.length<=16):eM l limit=true:=by
 have e:∀(L l:List Int)i,eM.L1 L limit (eM.K1 L) l i=refLs (λy=>decide (y<0)||decide (limit<=y)) L (eM.K1 L) l i:=by
  intro L l
  induction l with
  |nil=>intro i;rfl
  |cons y l ih=>intro i;simp only[eM.L1,refLs,ih]
 unfold eM
 rw[e]
 refine Fc (λy hy=>?_) h.1.2 ?_ l [] rfl
 .have:=h.1.1 y hy
  simp only[Bool.or_eq_false_iff,decide_eq_false_iff_not];omega
 .unfold eM.K1;rw[decide_eq_true_eq];omega
theorem Ie(no:Int):∀(l:List Document)(i:Nat),(l.any λd=>d.No==no)=true->0<=gg.L1 no gg.K1 l i
 |[],i,h=>by cases h
 |y::l,i,h=>by
  simp only[gg.L1,Bool.cond_eq_ite]
  split
  .omega
  .next hc=>
   rw[List.any_cons,Bool.eq_false_iff.2 hc,Bool.false_or]at h
   exact Ie no l (i+1) h
theorem ES(L:List Document):∀nos:List Int,(∀x∈nos,(L.any λd=>d.No==x)=true)->dA.L1 L dA.K1 nos=true
 |[],_=>rfl
 |y::nos,h=>by
  have h1:=Ie y L 0 (h y (zB ..))
  have:decide (gg L y<0)=false:=by unfold gg;simp;omega
  simp only[dA.L1,this,cond_false]
  exact ES L nos λx hx=>h x (vA _ hx)
theorem Pv{L:List Document}{d:Document}(h:eO (aA L) d=true):dA L d.Revokes=true/\dA L d.Needs=true:=by
 have hs:=(BB L L 0 []).2
 have key:∀nos:List Int,cB nos (λdl=>eG dl (aA L))=false->dA L nos=true:=by
  intro nos hn
  rw[containsF,List.any_eq_false]at hn
  refine ES L nos λx hx=>?_
  have h1:=hn x hx
  unfold eG at h1
  have e:mhas (aA L).at_ x=(mhas [] x||L.any λd=>d.No==x):=hs x
  rw[e]at h1
  simpa[mhas,mget?]using h1
 unfold eO at h
 simp only[xB,qE]at h
 exact⟨key _ h.1,key _ h.2⟩
theorem Gt{l:List Document}(h:aV l=0):dO l=0:=by
 have L:∀(L l:List Document)(i:Nat),aV.L1 L aV.K1 l i=0->dO.L1 L dO.K1 l i=0:=by
  intro L l
  induction l with
  |nil=>intros;rfl
  |cons y l ih=>
   intro i h
   simp only[aV.L1,Bool.cond_eq_ite]at h
   split at h
   .omega
   .next hc=>
    simp only[xD,not_or,qE,Bool.not_eq_false,Bool.not_eq_true]at hc
    obtain⟨⟨c1,c2⟩,c3⟩:=hc
    obtain⟨t1,t2⟩:=Pv c3
    have hR:iE y=true:=by
     simp only[gT,xB,decide_eq_true_eq,fS]at c1
     obtain⟨⟨⟨⟨⟨⟨⟨⟨⟨⟨⟨⟨p1,p2⟩,p3⟩,p4⟩,p5⟩,p6⟩,p7⟩,p8⟩,p9⟩,p10⟩,p11⟩,p12⟩,p13⟩:=c1
     unfold iE
     rw[Bool.cond_eq_ite,if_neg]
     .rw[AE ((Ey _ _).1 p11),AE ((Ey _ _).1 p12),AE ((Ey _ _).1 p13)]
      simp only[xB,decide_eq_true_eq,Bool.and_true]
      exact⟨⟨p8,p9⟩,p10⟩
     .simp only[lO,xD,decide_eq_true_eq,qE,Bool.and_eq_false_iff,decide_eq_false_iff_not,not_or]
      omega
    simp only[dO.L1,hR,c2,t1,t2,Bool.not_true,Bool.or_false,Bool.or_self,cond_false]
    exact ih (i+1) h
 unfold aV at h
 unfold dO
 rw[Bool.cond_eq_ite]at h ⊢
 split at h
 .omega
 .next hc=>rw[if_neg hc];exact L l l 0 h
theorem judge30{r:Register}(hs:smR r):dX r=0↔lh r=0:=by
 constructor
 .intro h
  obtain⟨d1,d2,d3,d4,d5,d6,d7⟩:=(jg r).1 h
  simp only[lh,(DE r.Appoints).symm.trans d1,(Cu r.Deputies).symm.trans d2,(An r.Interests).symm.trans d3,(yL r.Budgets).symm.trans d4,Hq hs.vers d5,Gt d6,(Aw r.Approvals).symm.trans d7]
  rfl
 .intro h
  obtain⟨c1,c2,c3,c4,c5,c6,c7⟩:=K6 h
  exact(jg r).2 ⟨(DE r.Appoints).trans c1,(Cu _).trans c2,(An r.Interests).trans c3,(yL _).trans c4,K9 hs.vers c5,Hn c6,(Aw _).trans c7⟩
def sKey(y:Interest):dp:=dp.mk y.Person y.Party y.Of
def sCnt(t known:Int)(y:Interest):Prop:=y.At<=t/\y.Known<=known
def sOver(z w:Interest):Prop:=z.At<w.At\/(w.At=z.At/\z.No<w.No)
structure So(t known:Int)(pre:List Interest)(m:List (dp×Interest)):Prop where
 some:∀k z,mget? m k=some z->z∈pre/\sKey z=k/\sCnt t known z/\∀w∈pre,sKey w=k->sCnt t known w->¬sOver z w
 none:∀k,mget? m k=none->∀w∈pre,sKey w=k->¬sCnt t known w
structure ChL(l:List Int):Prop where
 inc:l.Pairwise (·<·)
 zero:∃l',l=0::l'
 tm:∀x∈l,0<=x/\x<1099511627776
theorem Ny(l:List Document){d:Document}(hd:d∈l):mhas (aA l).at_ d.No=true:=by
 have:=(BB l l 0 []).2 d.No
 show mhas (aA.L1 (aA.K1 l) l 0 []).at_ d.No=true
 rw[this]
 simp only[xD,List.any_eq_true,beq_iff_eq]
 exact .inr ⟨d,hd,rfl⟩
theorem If{t:Int}(h:0<=t/\t<1099511627776):fS t=true:=by
 simp only[fS,xB,decide_eq_true_eq];exact h
theorem yu{l:List Document}{signed:List Int}{t:Int}(hc:aV l=0)(hs:bM l signed=true)(ht:0<=t/\t<1099511627776):(bz l signed t).2=0:=by
 unfold bz
 rw[hc,hs,If ht]
 simp only[bne_self_eq_false,cond_false,Bool.not_true,Bool.or_false]
 have:∀(s:List Document)(i:Nat)(g:List Int),(bz.L1 l signed t bz.K1 s i g).2=0:=by
  intro s
  induction s with
  |nil=>intro i g;rfl
  |cons y s ih=>intro i g;simp only[bz.L1,Bool.cond_eq_ite];split<;>exact ih _ _
 exact this _ _ _
theorem P5{l:List Document}{signed:List Int}{t:Int}{d:Document}(hc:aV l=0)(hs:bM l signed=true)(ht:0<=t/\t<1099511627776)(hd:d∈l):(e9 l signed d.No t).2.2=0:=by
 unfold e9
 rw[hc,hs,If ht,vr,Ny l hd];rfl
theorem Qx{l:List Document}{f:Document->Bool}{d:Document}(hd:d∈l)(hf:f d=true):0<=ad l f/\ad l f<(l.length:Int):=by
 unfold ad
 rcases FW f l 0 with⟨_,h⟩|⟨a,y,b,h1,h2,_⟩
 .rw[h d hd]at hf;cases hf
 .rw[h2,h1];simp only[jA,xA];omega
theorem OR{l:List Document}{signed:List Int}(h:bM l signed=true):signed.length=l.length:=by
 simp only[bM,xB,beq_iff_eq]at h
 have:=h.1
 omega
section
variable {c:bU} (h:jr c)
include h
theorem jr.docs:aV c.Register.Docs=0:=((jg _).1 h.chk).2.2.2.2.2.1
theorem Ho{signed:List Int}(hs:bM c.Register.Docs signed=true):(bz c.Register.Docs signed c.at_).2=0:=yu h.docs hs h.time
theorem NX{signed:List Int}{d:Document}(hs:bM c.Register.Docs signed=true)(hd:d∈c.Register.Docs):(e9 c.Register.Docs signed d.No c.at_).2.2=0:=P5 h.docs hs h.time hd
theorem Dg{signed:List Int}(hs:bM c.Register.Docs signed=true):0<=ad c.Register.Docs (λdl=>bx dl c)/\ad c.Register.Docs (λdl=>bx dl c)<(signed.length:Int):=by
 rw[OR hs]
 exact Qx h.doc (by simp[bx])
end
def setI(xs:List Int):List Int:=compI (sortI xs)
theorem Pq{l:List Document}{f:Document->Bool}(h:0<=ad l f):∃a y b,l=a++y::b/\nthI l (ad l f)=y/\f y=true/\∀x∈a,f x=false:=by
 unfold ad at h ⊢
 rcases FW f l 0 with⟨h1,_⟩|⟨a,y,b,h1,h2,h3,h4⟩
 .omega
 .refine⟨a,y,b,h1,?_,h3,h4⟩
  rw[h2,Nat.zero_add]
  exact po (by rw[h1];simp)
theorem IS{r:Register}{doc t known:Int}{c:bU}(hc:dX r=0)(h:lP r doc t known=.ok c):
  c=⟨r,c.doc,t,known⟩/\jr c/\c.doc.No=doc/\∃a b,r.Docs=a++c.doc::b/\∀x∈a,x.No≠doc:=by
 unfold lP at h
 rw[Bool.cond_eq_ite]at h
 split at h
 .cases h
 .next hn=>
  simp only[xD,not_or,decide_eq_true_eq]at hn
  obtain⟨⟨h1,h2⟩,h3⟩:=hn
  cases h
  obtain⟨a,y,b,e1,e2,e3,e4⟩:=Pq (by omega:0<=ad r.Docs (λdl=>bC dl doc))
  rw[e2]
  refine⟨rfl,⟨hc,by rw[e1];simp,?_,?_⟩,?_,a,b,e1,λx hx=>?_⟩
  .show 0<=t/\t<1099511627776;omega
  .show 0<=known/\known<1099511627776;omega
  .simpa[bC]using e3
  .simpa[bC]using e4 x hx
theorem KF(f:Version->Bool):∀(l:List Version)(i:Nat),(aY.L1 f aY.K1 l i=-1/\∀x∈l,f x=false) \/
  ∃a y b,l=a++y::b/\aY.L1 f aY.K1 l i=((i+a.length:Nat):Int)/\f y=true/\∀x∈a,f x=false
 |[],i=>.inl ⟨rfl,λ_ h=>(kA h).elim⟩
 |y::l,i=>by
  simp only[aY.L1]
  cases hy:f y with
  |true=>exact .inr ⟨[],y,l,rfl,by simp,hy,λ_ h=>(kA h).elim⟩
  |false=>
   rcases KF f l (i+1)with⟨h1,h2⟩|⟨a,z,b,rfl,h2,h3,h4⟩
   .exact .inl ⟨h1,λx hx=>by rcases qC.1 hx with rfl|hx;exact hy;exact h2 x hx⟩
   .refine .inr ⟨y::a,z,b,rfl,?_,h3,λx hx=>by rcases qC.1 hx with rfl|hx;exact hy;exact h4 x hx⟩
    rw[cond_false,h2];simp only[xA];congr 1;omega
theorem rU(c:bU)(no:Int):(eN c no=.error 1/\∀v∈c.Register.Versions,v.No≠no)\/∃a v b,c.Register.Versions=a++v::b/\eN c no=.ok v.Policy/\v.No=no/\∀x∈a,x.No≠no:=by
 unfold eN aY
 rcases KF (λdl=>eB dl no) c.Register.Versions 0 with⟨h1,h2⟩|⟨a,v,b,h1,h2,h3,h4⟩
 .left
  rw[h1]
  exact⟨rfl,λv hv=>by simpa[eB]using h2 v hv⟩
 .right
  refine⟨a,v,b,h1,?_,by simpa[eB]using h3,λx hx=>by simpa[eB]using h4 x hx⟩
  rw[h2,show decide (((0+a.length:Nat):Int)<0)=false from decide_eq_false (by omega),cond_false,Nat.zero_add,po (x:=v) (by rw[h1];simp)]
theorem NE{c:bU}{no:Int}{p:Policy}(h:eN c no=.ok p):∃v∈c.Register.Versions,v.No=no/\v.Policy=p:=by
 rcases rU c no with⟨h1,_⟩|⟨a,v,b,h1,h2,h3,_⟩
 .rw[h]at h1;cases h1
 .rw[h]at h2;cases h2
  exact⟨v,by rw[h1];simp,h3,rfl⟩
theorem BQ{c:bU}{no:Int}(h:∃v∈c.Register.Versions,v.No=no):exOk (eN c no):=by
 obtain⟨v,hv,hn⟩:=h
 rcases rU c no with⟨_,h2⟩|⟨_,_,_,_,h2,_⟩
 .exact absurd hn (h2 v hv)
 .rw[h2];trivial
structure Q8(p:Policy):Prop where
 sm:smP p
 off:p.Offices.length<=32
 rules:p.Rules.length=p.Kinds.length/\∀y∈p.Rules,0<=y.Think/\y.Think<=1099511627775
theorem Cy{c:bU}(h:jr c)(hs:smR c.Register){no:Int}{p:Policy}(hp:eN c no=.ok p):Q8 p:=by
 obtain⟨v,hv,_,rfl⟩:=NE hp
 have hg:=(h.vers.each v hv).2.2.2
 exact⟨hs.1.2 v hv,(zg hg).2.1,(zg hg).1,(GC hg).2.2⟩
theorem RD{ρ : Type}[Inhabited ρ]{x:Except Int ρ}{p:ρ}(h:x=.ok p):exD x=p:=by subst h;rfl
theorem N4(l:List Approval)(doc aH known:Int):(eD l doc aH known).length<=l.length:=by
 show(bo.L1 doc aH known bo.K1 l).length<=l.length
 induction l with
 |nil=>exact kF _
 |cons y l ih=>simp only[bo.L1,Bool.cond_eq_ite];split<;>simp only[xA]<;>omega
theorem N0(l:List Approval)(doc aH known:Int):(aG l doc aH known).length<=l.length:=by
 have h2:∀(g:List (fu×Approval))(s acc:List Approval),(aG.L2 g aG.K2 s acc).length<=acc.length+s.length:=by
  intro g s
  induction s with
  |nil=>intro acc;exact kF _
  |cons y s ih=>
   intro acc
   simp only[aG.L2,Bool.cond_eq_ite]
   split
   .have:=ih (acc++[y]);simp only[jA,xA,vB]at *;omega
   .have:=ih acc;simp only[xA];omega
 have h1:∀(s:List Approval)(g:List (fu×Approval)),(aG.L1 (aG.K1 l doc aH known) s g).length<=l.length:=by
  intro s
  induction s with
  |nil=>
   intro g
   have h3:=h2 g (eD l doc aH known) []
   have h4:=N4 l doc aH known
   show(aG.L2 g aG.K2 (eD l doc aH known) []).length<=l.length
   simp only[vB]at h3;omega
  |cons y s ih=>intro g;simp only[aG.L1,Bool.cond_eq_ite];split<;>exact ih _
 exact h1 _ _
theorem Cz(l:List Approval)(d b th t k:Int):(cA l d b th t k).1.length<=l.length:=by
 unfold cA
 simp only[Bool.cond_eq_ite]
 split
 .exact zN _
 .split
  .exact zN _
  .exact kS (List.length_filter_le _ _) (N0 _ _ _ _)
def goodA(c:bU)(y:Approval):Bool:=(((gf c.Register.Appoints y.Office y.For c.at_ c.known).2.2.1&&(aE c.Register.Deputies y.For y.By y.Office c.doc.Kind c.doc.Value c.at_ c.known).2.1)&&(!(ia c y.For)))&&(!(ia c y.By))
theorem MV(c:bU):∀l:List Approval,cR.L1 c cR.K1 l=l.filter (goodA c)
 |[]=>rfl
 |y::l=>by
  simp only[cR.L1,List.filter_cons,MV c l,Bool.cond_eq_ite]
  rfl
theorem Ez(c:bU)(p:Policy):gS c p=bif decide ((p.Kinds.length:Int)<=c.doc.Kind)then[]else((cA c.Register.Approvals c.doc.No c.doc.At ((nthI p.Rules c.doc.Kind).Think) c.at_ c.known).1).filter (goodA c):=by
 show cR c p=_
 unfold cR
 rw[MV]
theorem CV(c:bU)(p:Policy):da c p=setI ((gS c p).map (·.For)):=by
 have:∀(s:List Approval)(g:List Int),da.L1 da.K1 s g=setI (g++s.map (·.For)):=by
  intro s
  induction s with
  |nil=>intro g;simp[da.L1,da.K1,setI,slices_Compact_int]
  |cons y s ih=>intro g;simp only[da.L1,ih,xK,kD,qP,zG]
 have h:=this (gS c p) []
 rw[zG]at h
 exact h
theorem KZ:∀(xs out:List Int),(xs.foldl compStep out).length<=out.length+xs.length
 |[],out=>kF _
 |x::xs,out=>by
  simp only[aAy,xA]
  have h1:=KZ xs (compStep out x)
  have h2:(compStep out x).length<=out.length+1:=by unfold compStep;split<;>simp
  omega
theorem Pw{c:bU}(hs:smR c.Register)(p:Policy):(gS c p).length<=2000000:=by
 rw[Ez,Bool.cond_eq_ite]
 have h3:=hs.2.2.2.2.2.2
 split
 .exact zN _
 .exact kS (List.length_filter_le _ _) (kS (Cz _ _ _ _ _ _) h3)
theorem Fz{c:bU}(hs:smR c.Register)(p:Policy):(da c p).length<=2000000:=by
 rw[CV]
 have h1:=KZ (sortI ((gS c p).map (·.For))) []
 rw[jc,List.length_map]at h1
 have h2:(gS c p).length<=c.Register.Approvals.length:=by
  rw[Ez,Bool.cond_eq_ite]
  split
  .exact zN _
  .exact kS (List.length_filter_le _ _) (Cz _ _ _ _ _ _)
 have h3:=hs.2.2.2.2.2.2
 show(compI _).length<=_
 unfold compI
 simp only[vB]at h1
 omega
theorem IE(u:List Use)(v t k:Int):∀s:List Budget,(bp.L1 u v t k bp.K1 s).2.2=0
 |[]=>rfl
 |y::s=>by
  simp only[bp.L1]
  have:∀(l:List Int)(a b:Int),(bp.L3 (λzg3_b6_0 zg3_b5_0=>(bif(decide (y.Count<zg3_b5_0)||decide (y.Value<zg3_b6_0))then(y.No,false,0)else(bp.L1 u v t k bp.K1 s))) l a b).2.2=0:=by
   intro l
   induction l with
   |nil=>intro a b;simp only[bp.L3,Bool.cond_eq_ite];split;rfl;exact IE u v t k s
   |cons z l ih=>intro a b;simp only[bp.L3];exact ih _ _
  exact this _ _ _
theorem rA{a b z:Int}:aO a b [z]=true↔a<=z/\z<=b:=by
 simp only[aO,containsF,iA,List.any_cons,List.any_nil,Bool.or_false,qE,Bool.or_eq_false_iff,decide_eq_false_iff_not];omega
theorem D2{a b y z:Int}:aO a b [y,z]=true↔(a<=y/\y<=b)/\(a<=z/\z<=b):=by
 simp only[aO,containsF,iA,List.any_cons,List.any_nil,Bool.or_false,qE,Bool.or_eq_false_iff,decide_eq_false_iff_not];omega
theorem J4{l:List Budget}{u:List Use}(h:(bp l u 0 0 0 0).2.2=0){k v t n:Int}(hk:0<=k/\k<16)(hv:0<=v/\v<=1099511627776)(ht:0<=t/\t<1099511627776)(hn:0<=n/\n<1099511627776):(bp l u k v t n).2.2=0:=by
 unfold bp at h ⊢
 cases h1:(bT l) != 0 with
 |true=>
  rw[h1,cond_true]at h
  have:bT l=0:=h
  rw[this]at h1;cases h1
 |false=>
  rw[h1,cond_false]at h
  rw[cond_false]
  cases h2:decide (4096<(u.length:Int))with
  |true=>rw[h2,cond_true]at h;cases h
  |false=>
   rw[h2,cond_false]at h
   rw[cond_false]
   cases h3:ed u with
   |false=>rw[h3]at h;cases h
   |true=>
    rw[rA.2 (show(0:Int)<=k/\k<=15 by omega),rA.2 hv,D2.2 (show((0:Int)<=t/\t<=1099511627775)/\(0<=n/\n<=1099511627775) by omega)]
    exact IE _ _ _ _ _
theorem I0{l:List Document}{signed:List Int}{t:Int}(h:(bz l signed t).2=0):bM l signed=true:=by
 unfold bz at h
 cases h1:(aV l) != 0 with
 |true=>
  rw[h1,cond_true]at h
  have:aV l=0:=h
  rw[this]at h1;cases h1
 |false=>
  rw[h1,cond_false]at h
  cases h2:bM l signed with
  |true=>rfl
  |false=>rw[h2]at h;cases h
theorem Ij{c:bU}{signed:List Int}(h:ff c signed=false):c.doc.At<=c.at_:=by
 unfold ff at h
 simp only[Bool.or_eq_false_iff,decide_eq_false_iff_not]at h
 have:=h.1.1.1
 omega
theorem Nx:smP cG:=by
 refine⟨by decide,λr hr=>?_,by decide,by decide,by decide⟩
 rw[jD.1 hr];decide
theorem kW{a:List Appoint}{i:List Interest}{b:List Budget}(ha:a.length<=9)(hi:i.length<=9)(hb:b.length<=9):smR ⟨a,aw.Deputies,i,b,aw.Versions,aw.Docs,aw.Approvals⟩:=by
 have h1:aw.Versions.length<=2000000:=by decide
 have h2:aw.Deputies.length<=2000000:=by decide
 have h3:aw.Docs.length<=2000000:=by decide
 have h4:aw.Approvals.length<=2000000:=by decide
 refine⟨⟨h1,λv hv=>?_⟩,by show a.length<=_;omega,h2,by show i.length<=_;omega,by show b.length<=_;omega,h3,h4⟩
 rw[jD.1 hv];exact Nx
theorem KU(no:Int):∀(l:List Document)(i:Nat),iK.L1 no iK.K1 l i=ad.L1 (λdl=>bC dl no) ad.K1 l i
 |[],i=>rfl
 |y::l,i=>by
  simp only[iK.L1,ad.L1,bC,Bool.cond_eq_ite]
  split
  .rfl
  .exact KU no l (i+1)
theorem MK{r:Register}{doc t known:Int}(hd:0<=iK r doc)(ht:0<=t/\t<1099511627776)(hk:0<=known/\known<1099511627776):lP r doc t known=.ok ⟨r,nthI r.Docs (iK r doc),t,known⟩:=by
 have e:ad r.Docs (λdl=>bC dl doc)=iK r doc:=(KU doc r.Docs 0).symm
 unfold lP
 rw[e]
 have h1:decide (iK r doc<0)=false:=decide_eq_false (by omega)
 have h2:decide (min t known<0)=false:=decide_eq_false (by omega)
 have h3:decide (1099511627776<=max t known)=false:=decide_eq_false (by omega)
 rw[h1,h2,h3];rfl
structure Ss(r:Register)(doc version t known:Int):Prop where
 pol:(nZ r version).2=true
 chk:lh r=0
 doc:0<=iK r doc
 time:0<=t/\t<1099511627776
 know:0<=known/\known<1099511627776
theorem BT{l:List Int}{n:Int}{k:Nat}{i:Int}(h:∀x∈l,0<=x/\x<n)(hi:0<=i/\i<n):∀x∈(l.take k++[i])++l.drop k,0<=x/\x<n:=by
 intro x hx
 rcases kH.1 hx with hx|hx
 .rcases kH.1 hx with hx|hx
  .exact h x (List.mem_of_mem_take hx)
  .rw[jD.1 hx];exact hi
 .exact h x (List.mem_of_mem_drop hx)
theorem Qr{l:List Int}{n:Int}(h:∀x∈l,0<=x/\x<n)(hn:0<n)(i:Int):0<=nthI l i/\nthI l i<n:=
 MO (P:=λx:Int=>0<=x/\x<n) h ⟨Int.le_refl _,hn⟩ i
theorem GX{n:Int}:∀{l:List Int},fX l n=true->n∈l:=by
 have h:∀l:List Int,fX.L1 n (fX.K1) l=true->n∈l:=by
  intro l
  induction l with
  |nil=>intro h;simp[fX.L1,fX.K1]at h
  |cons y l ih=>
   intro h
   simp only[fX.L1,Bool.cond_eq_ite]at h
   split at h
   .rename_i e;rw[eq_of_beq e];exact zB
   .exact vA _ (ih h)
 intro l;exact h l
theorem F0{l:List Int}{i:Int}{n m:Nat}(h:∀x∈l,0<=x/\x<(n:Int))(e:m=n)(c:(!(fX l i))=false):0<=i/\i<(m:Int):=by
 subst e;exact h i (GX (by simpa using c))
theorem ss(signed:List Int)(t:Int):∀x∈bY signed t,0<=x/\x<(signed.length:Int):=by
 have h3:∀(y1:Int)(g:List Int)(k:Nat->List Int)(P:List Int->Prop),(∀i,P (k i))->∀(s:List Nat)(i:Nat),P (bY.L3 signed y1 g k s i):=by
  intro y1 g k P hk s
  induction s with
  |nil=>intro i;exact hk i
  |cons y s ih=>intro i;simp only[bY.L3,Bool.cond_eq_ite];split;exact ih _;exact hk _
 have h1:∀(s:List Int)(i:Nat)(g:List Int),i+s.length=signed.length->(∀x∈g,0<=x/\x<(signed.length:Int)) ->
   ∀x∈bY.L1 signed t (bY.K1) s i g,0<=x/\x<(signed.length:Int):=by
  intro s
  induction s with
  |nil=>intro i g _ hg;exact hg
  |cons y s ih=>
   intro i g hi hg
   simp only[xA]at hi
   simp only[bY.L1,Bool.cond_eq_ite]
   split
   .exact ih _ _ (by omega) hg
   .exact h3 _ _ _ (λr=>∀x∈r,0<=x/\x<(signed.length:Int)) (λk=>ih _ _ (by omega) (BT hg (by omega))) _ _
 exact h1 signed 0 [] (by omega) (λx hx=>(kA hx).elim)
theorem wh{l:List Document}{signed:List Int}(h:eI l signed=true):signed.length=l.length:=by
 have h1:∀s:List Int,eI.L1 (eI.K1 l signed) s=true->eI.K1 l signed=true:=by
  intro s
  induction s with
  |nil=>intro h;exact h
  |cons y s ih=>
   intro h
   simp only[eI.L1,Bool.cond_eq_ite]at h
   split at h
   .cases h
   .exact ih h
 have h2:=h1 signed h
 simp only[eI.K1,beq_iff_eq]at h2
 omega
theorem N5(l:List Document)(signed:List Int)(t:Int)(hsg:signed.length=l.length):(bZ l signed t).length=l.length:=by
 have h4:∀(i2:Nat)(y2:Int)(g:List Bool)(k:List Int->List Int)(P:List Int->Prop)(n:Nat),(∀r:List Int,r.length=n->P (k r)) ->
   ∀(s:List Nat)(i:Nat)(r:List Int),r.length=n->P (bZ.L4 l signed t i2 y2 g k s i r):=by
  intro i2 y2 g k P n hk s
  induction s with
  |nil=>intro i r hr;exact hk r hr
  |cons y s ih=>
   intro i r hr
   simp only[bZ.L4,Bool.cond_eq_ite]
   split
   .exact ih _ _ (by rw[List.length_set];exact hr)
   .exact ih _ _ hr
 have h2:∀(s:List Int)(i:Nat)(g:List Bool)(r:List Int),(bZ.L2 l signed t (bZ.K2) s i g r).length=r.length:=by
  intro s
  induction s with
  |nil=>intro i g r;rfl
  |cons y s ih=>
   intro i g r
   simp only[bZ.L2]
   exact h4 _ _ _ _ (λx=>x.length=r.length) r.length (λq hq=>by rw[ih];exact hq) _ _ _ rfl
 have h1:∀(s:List Document)(g:List Int),(bZ.L1 (bZ.K1 l signed t) s g).length=g.length+s.length:=by
  intro s
  induction s with
  |nil=>intro g;simp only[bZ.L1,bZ.K1];rw[h2];rfl
  |cons y s ih=>intro g;simp only[bZ.L1];rw[ih];simp only[jA,xA,vB];omega
 have:=h1 l []
 simpa[bZ]using this
theorem K7{l:List Document}(h:((dO l) != 0)=false):∀d∈l,d.Needs.length<=16:=by
 intro d hd
 have h0:dO l=0:=by simpa using h
 exact(Dv ((PW h0).2 d hd)).needs.2
theorem AH{l:List Budget}{n t known:Int}{x:Budget}(h:x∈eY l n t known):x∈l:=by
 have h1:∀(s:List Budget)(i:Nat)(g:List Budget),x∈eY.L1 l n t known (eY.K1) s i g->x∈g\/x∈s:=by
  intro s
  induction s with
  |nil=>intro i g h;exact .inl h
  |cons y s ih=>
   intro i g h
   simp only[eY.L1,Bool.cond_eq_ite]at h
   split at h
   .rcases ih _ _ h with h|h
    .rcases kH.1 h with h|h
     .exact .inl h
     .rw[jD.1 h];exact .inr zB
    .exact .inr (vA _ h)
   .rcases ih _ _ h with h|h
    .exact .inl h
    .exact .inr (vA _ h)
 rcases h1 l 0 [] h with h|h
 .exact(kA h).elim
 .exact h
theorem II{l:List Budget}{n t known:Int}{x:Budget}(h:fL l=0)(hx:x∈eY l n t known):x.Period≠0:=by
 have h2:bT l=0:=(yL l).trans h
 exact As (uY h2 x (AH hx))
theorem Ar(l:List Appoint)(f:Appoint->Int)(at_:Int):bX l f at_=l.filter λy=>decide (f y<=at_):=by
 have h:∀(s g:List Appoint),bX.L1 f at_ (bX.K1) s g=g++s.filter λy=>decide (f y<=at_):=by
  intro s
  induction s with
  |nil=>intro g;simp[bX.L1,bX.K1]
  |cons y s ih=>
   intro g
   simp only[bX.L1,List.filter_cons,ih]
   cases decide (f y<=at_)<;>simp
 simpa[bX]using h l []
theorem Cq(l:List Deputy)(f:Deputy->Int)(at_:Int):cm l f at_=l.filter λy=>decide (f y<=at_):=by
 have h:∀(s g:List Deputy),cm.L1 f at_ (cm.K1) s g=g++s.filter λy=>decide (f y<=at_):=by
  intro s
  induction s with
  |nil=>intro g;simp[cm.L1,cm.K1]
  |cons y s ih=>
   intro g
   simp only[cm.L1,List.filter_cons,ih]
   cases decide (f y<=at_)<;>simp
 simpa[cm]using h l []
theorem yE(l:List Interest)(f:Interest->Int)(at_:Int):bN l f at_=l.filter λy=>decide (f y<=at_):=by
 have h:∀(s g:List Interest),bN.L1 f at_ (bN.K1) s g=g++s.filter λy=>decide (f y<=at_):=by
  intro s
  induction s with
  |nil=>intro g;simp[bN.L1,bN.K1]
  |cons y s ih=>
   intro g
   simp only[bN.L1,List.filter_cons,ih]
   cases decide (f y<=at_)<;>simp
 simpa[bN]using h l []
theorem Cr(l:List Budget)(f:Budget->Int)(at_:Int):cn l f at_=l.filter λy=>decide (f y<=at_):=by
 have h:∀(s g:List Budget),cn.L1 f at_ (cn.K1) s g=g++s.filter λy=>decide (f y<=at_):=by
  intro s
  induction s with
  |nil=>intro g;simp[cn.L1,cn.K1]
  |cons y s ih=>
   intro g
   simp only[cn.L1,List.filter_cons,ih]
   cases decide (f y<=at_)<;>simp
 simpa[cn]using h l []
theorem Aq(l:List Version)(f:Version->Int)(at_:Int):bW l f at_=l.filter λy=>decide (f y<=at_):=by
 have h:∀(s g:List Version),bW.L1 f at_ (bW.K1) s g=g++s.filter λy=>decide (f y<=at_):=by
  intro s
  induction s with
  |nil=>intro g;simp[bW.L1,bW.K1]
  |cons y s ih=>
   intro g
   simp only[bW.L1,List.filter_cons,ih]
   cases decide (f y<=at_)<;>simp
 simpa[bW]using h l []
theorem yF(l:List Approval)(f:Approval->Int)(at_:Int):bO l f at_=l.filter λy=>decide (f y<=at_):=by
 have h:∀(s g:List Approval),bO.L1 f at_ (bO.K1) s g=g++s.filter λy=>decide (f y<=at_):=by
  intro s
  induction s with
  |nil=>intro g;simp[bO.L1,bO.K1]
  |cons y s ih=>
   intro g
   simp only[bO.L1,List.filter_cons,ih]
   cases decide (f y<=at_)<;>simp
 simpa[bO]using h l []
theorem NV(l:List Use)(f:Use->Int)(at_:Int):dw l f at_=l.filter λy=>decide (f y<=at_):=by
 have h:∀(s g:List Use),dw.L1 f at_ (dw.K1) s g=g++s.filter λy=>decide (f y<=at_):=by
  intro s
  induction s with
  |nil=>intro g;simp[dw.L1,dw.K1]
  |cons y s ih=>
   intro g
   simp only[dw.L1,List.filter_cons,ih]
   cases decide (f y<=at_)<;>simp
 simpa[dw]using h l []
theorem tG{r:Register}{signed:List Int}{u:List Use}{doc t known:Int}(h:kv r signed u doc t known=true):r.Docs.length<20/\signed.length<=40/\u.length<=30:=by
 simp only[kv,xB,decide_eq_true_eq]at h
 obtain⟨⟨⟨h1,h2⟩,h3⟩,_⟩:=h
 refine⟨?_,by omega,by omega⟩
 simp only[lJ,Bool.cond_eq_ite]at h1
 split at h1
 .cases h1
 .next hc=>simp only[xD,not_or,decide_eq_true_eq]at hc;omega
def knownReg(r:Register)(known:Int):Register:=jG (bX r.Appoints fE known) (cm r.Deputies fD known) (bN r.Interests fC known) (cn r.Budgets fB known) (bW r.Versions fA known) r.Docs (bO r.Approvals fy known)
theorem KT{r:Register}(h:smR r)(known:Int):smR (knownReg r known):=by
 obtain⟨h1,h2,h3,h4,h5,h6,h7⟩:=h
 simp only[knownReg,smR,smV,Ar,Cq,yE,Cr,Aq,yF]
 refine⟨⟨kS (List.length_filter_le _ _) h1.1,λv hv=>h1.2 v (aBH.1 hv).1⟩,?_,?_,?_,?_,h6,?_⟩<;>exact kS (List.length_filter_le _ _) (by assumption)
def knownB(known:Int)(l:List Budget):List Budget:=l.filter λy=>decide (y.Known<=known)
def knownU(known:Int)(l:List Use):List Use:=l.filter λy=>decide (y.Known<=known)
def bstM(kind t known:Int):List Budget->List (fN×Budget)->List (fN×Budget)
 |[],m=>m
 |y::l,m=>bif((decide (t<y.At)||decide (known<y.Known))||((y.Kind != (-1))&&(y.Kind != kind)))then bstM kind t known l m else bif((!(mhas m (fN.mk y.Kind y.Period)))||decide ((mgetD m (fN.mk y.Kind y.Period) (aAz 0 0 0 0 0 0 0 false)).At<=y.At))then bstM kind t known l (mput m (fN.mk y.Kind y.Period) y)else bstM kind t known l m
theorem Mf(kind t known:Int)(k:List (fN×Budget)->List Budget):∀(l:List Budget)m,aW.L1 kind t known k l m=k (bstM kind t known l m)
 |[],m=>rfl
 |y::l,m=>by
  simp only[aW.L1,bstM,Mf kind t known k l,Bool.cond_eq_ite]
  repeat' split
  all_goals rfl
theorem GE(kind t known:Int):∀(l:List Budget)m,bstM kind t known (knownB known l) m=bstM kind t known l m
 |[],m=>rfl
 |y::l,m=>by
  have ih:=GE kind t known l
  unfold knownB at ih ⊢
  rw[List.filter_cons]
  cases hy:decide (y.Known<=known)with
  |true=>simp only[if_true,bstM,ih]
  |false=>
   have:decide (known<y.Known)=true:=by simp at hy ⊢;omega
   simp only[jL,if_false,bstM,ih,this,Bool.or_true,Bool.true_or,cond_true]
theorem zh(kind t known:Int):∀(l:List Budget)m,(∀q∈m,q.2.Known<=known)->∀q∈bstM kind t known l m,q.2.Known<=known
 |[],m,h=>h
 |y::l,m,h=>by
  simp only[bstM,Bool.cond_eq_ite]
  split
  .exact zh kind t known l m h
  .next hc=>
   split
   .refine zh kind t known l _ λq hq=>?_
    rcases uM hq with rfl|hq
    .simp only[xD,decide_eq_true_eq,not_or]at hc;show y.Known<=known;omega
    .exact h q hq
   .exact zh kind t known l m h
theorem Me(v:List (fN×Budget)):∀(l g:List Budget),aW.L2 v aW.K2 l g=g++l.filter λy=>(!y.Gone)&&decide ((mgetD v (fN.mk y.Kind y.Period) (aAz 0 0 0 0 0 0 0 false))=y)
 |[],g=>by simp[aW.L2,aW.K2]
 |y::l,g=>by
  simp only[aW.L2,List.filter_cons,Me v l]
  cases((!y.Gone)&&decide ((mgetD v (fN.mk y.Kind y.Period) (aAz 0 0 0 0 0 0 0 false))=y))<;>simp
theorem Eo{kind t known:Int}(hk:0<=known)(l:List Budget):aW (knownB known l) kind t known=aW l kind t known:=by
 unfold aW
 rw[Mf,Mf,GE]
 unfold aW.K1
 have hv:=zh kind t known l [] (λ_ h=>(kA h).elim)
 generalize bstM kind t known l []=v at *
 rw[Me,Me,zG,zG]
 unfold knownB
 rw[List.filter_filter]
 apply aCS
 intro y hy
 cases hd:decide (mgetD v (fN.mk y.Kind y.Period) (aAz 0 0 0 0 0 0 0 false)=y)with
 |false=>simp
 |true=>
  have h1:=AQ (λq:Budget=>q.Known<=known) (z:=aAz 0 0 0 0 0 0 0 false) hk (fN.mk y.Kind y.Period) v hv
  rw[of_decide_eq_true hd]at h1
  simp[h1]
theorem Lp(b:Budget)(t known:Int)(u:List Use):ml b (knownU known u) t known=ml b u t known:=by
 have h:∀s:List Use,bS.L1 known b t bS.K1 (knownU known s)=bS.L1 known b t bS.K1 s:=by
  intro s
  induction s with
  |nil=>rfl
  |cons y s ih=>
   unfold knownU at ih ⊢
   rw[List.filter_cons]
   cases hy:decide (y.Known<=known)with
   |true=>simp only[if_true,bS.L1,ih]
   |false=>simp only[jL,if_false,bS.L1,ih,hy,Bool.false_and,cond_false]
 exact h u
theorem E9(u:List Use)(value t known:Int)(k:Int×Bool×Int):∀s:List Budget,bp.L1 (knownU known u) value t known k s=bp.L1 u value t known k s
 |[]=>rfl
 |y::s=>by simp only[bp.L1,Lp,E9 u value t known k s]
theorem yK{l m:List Budget}(hs:m.Sublist l)(h:bT l=0):bT m=0:=by
 unfold bT at h ⊢
 rw[budgetsP,Bool.cond_eq_ite]at h ⊢
 split at h
 .omega
 .next hc=>rw[if_neg (by have:=hs.length_le;simp only[decide_eq_true_eq]at hc ⊢;omega)];exact sO (by omega) hs h
theorem Av{l m:List Approval}(hs:m.Sublist l)(h:bK l=0):bK m=0:=by
 unfold bK at h ⊢
 rw[approvalsP,Bool.cond_eq_ite]at h ⊢
 split at h
 .omega
 .next hc=>rw[if_neg (by have:=hs.length_le;simp only[decide_eq_true_eq]at hc ⊢;omega)];exact sO (by omega) hs h
theorem Mg{l:List Budget}{u:List Use}{kind value t known:Int}(hk:0<=known)(hc:bT l=0)(h1:(bp l u kind value t known).2.2=0)(hu:ed (knownU known u)=true):bp (knownB known l) (knownU known u) kind value t known=bp l u kind value t known:=by
 have hc2:bT (knownB known l)=0:=yK (List.filter_sublist ..) hc
 have hl:(knownU known u).length<=u.length:=List.length_filter_le _ _
 unfold bp at h1 ⊢
 simp only[hc,hc2,bne_self_eq_false,cond_false,Eo hk,E9,hu,Bool.not_true]at h1 ⊢
 cases c1:decide (4096<(u.length:Int))with
 |true=>rw[c1]at h1;simp at h1
 |false=>
  have c2:decide (4096<((knownU known u).length:Int))=false:=by simp at c1 ⊢;omega
  rw[c1]at h1
  rw[c2]
  cases c3:ed u with
  |false=>rw[c3]at h1;simp at h1
  |true=>simp only[cond_false,Bool.not_true]
def knownD(known:Int)(l:List Deputy):List Deputy:=l.filter λy=>decide (y.Known<=known)
def knownP(known:Int)(l:List Approval):List Approval:=l.filter λy=>decide (y.Known<=known)
theorem deputiesP(l:List Deputy)(g:Int):cS.L1 cS.K1 l g=prgChk lT (·.No) 160 l g:=by
 induction l generalizing g with
 |nil=>rfl
 |cons y l ih=>simp only[cS.L1,prgChk,ih]
theorem Cs{l m:List Deputy}(hs:m.Sublist l)(h:cS l=0):cS m=0:=by
 unfold cS at h ⊢
 rw[deputiesP,Bool.cond_eq_ite]at h ⊢
 split at h
 .omega
 .next hc=>rw[if_neg (by have:=hs.length_le;simp only[decide_eq_true_eq]at hc ⊢;omega)];exact sO (by omega) hs h
theorem wE(l:List Approval)(doc t known:Int):eD (knownP known l) doc t known=eD l doc t known:=by
 have h:∀s:List Approval,bo.L1 doc t known bo.K1 (knownP known s)=bo.L1 doc t known bo.K1 s:=by
  intro s
  induction s with
  |nil=>rfl
  |cons y s ih=>
   unfold knownP at ih ⊢
   rw[List.filter_cons]
   cases hy:decide (y.Known<=known)with
   |true=>simp only[if_true,bo.L1,ih]
   |false=>simp only[jL,if_false,bo.L1,ih,hy,Bool.and_false,cond_false]
 exact h l
theorem Ep(l:List Approval)(doc t known:Int):aG (knownP known l) doc t known=aG l doc t known:=by
 unfold aG
 rw[wE]
 have:aG.K1 (knownP known l) doc t known=aG.K1 l doc t known:=by
  funext g;unfold aG.K1;rw[wE]
 rw[this]
theorem GM{l:List Approval}(h:bK l=0)(doc b th t known:Int):cA (knownP known l) doc b th t known=cA l doc b th t known:=by
 unfold cA
 rw[Ep,h,Av (m:=knownP known l) (List.filter_sublist ..) h]
theorem Gz(q:cD)(l:List Deputy):aD q (knownD q.known l)=aD q l:=by
 have hc:∀y:Deputy,decide (y.Known<=q.known)=false->eh q y=false:=by
  intro y hy;unfold eh;rw[hy,Bool.and_false]
 have h1:∀(k:List (dS×Deputy)->List Deputy)(s:List Deputy)(m:List (dS×Deputy)),aD.L1 q k (knownD q.known s) m=aD.L1 q k s m:=by
  intro k s
  induction s with
  |nil=>intro m;rfl
  |cons y s ih=>
   intro m
   unfold knownD at ih ⊢
   rw[List.filter_cons]
   cases hy:decide (y.Known<=q.known)with
   |true=>simp only[if_true,aD.L1,ih]
   |false=>simp only[jL,if_false,aD.L1,ih,hc y hy,Bool.false_and,cond_false]
 have h2:∀(v:List (dS×Deputy))(s:List Deputy),aC.L1 v (eh q) q aC.K1 (knownD q.known s)=aC.L1 v (eh q) q aC.K1 s:=by
  intro v s
  induction s with
  |nil=>rfl
  |cons y s ih=>
   unfold knownD at ih ⊢
   rw[List.filter_cons]
   cases hy:decide (y.Known<=q.known)with
   |true=>simp only[if_true,aC.L1,ih]
   |false=>simp only[jL,if_false,aC.L1,ih,hc y hy,Bool.and_false,Bool.false_and,cond_false]
 have h3:aD.K1 q (knownD q.known l)=aD.K1 q l:=by
  funext g;exact h2 g l
 unfold aD
 rw[h3];exact h1 _ l []
theorem Ln{l:List Deputy}(h:cS l=0)(a b o k v t known:Int):aE (knownD known l) a b o k v t known=aE l a b o k v t known:=by
 have hc:aD (cD.mk o k v t known) (knownD known l)=aD (cD.mk o k v t known) l:=Gz (cD.mk o k v t known) l
 have h4:∀(g:List (Int×Int))(kk:List Int->Int->List Int×Bool×Int)(s:List Nat)(i:Nat)(p:List Int)(z:Int),aE.L4 (knownD known l) a o k v t known g kk s i p z=aE.L4 l a o k v t known g kk s i p z:=by
  intro g kk s
  induction s with
  |nil=>intro i p z;rfl
  |cons y s ih=>intro i p z;simp only[aE.L4,hc,ih]
 have hk:aE.K1 (knownD known l) a o k v t known=aE.K1 l a o k v t known:=by
  funext g;unfold aE.K1;rw[h4]
 have h1:∀(kk:List (Int×Int)->List Int×Bool×Int)(s:List Nat)(i:Nat)(g:List (Int×Int)),aE.L1 (knownD known l) o k v t known kk s i g=aE.L1 l o k v t known kk s i g:=by
  intro kk s
  induction s with
  |nil=>intro i g;rfl
  |cons y s ih=>intro i g;simp only[aE.L1,hc,ih]
 have ha:∀q:cD,jy (knownD known l) a b q=jy l a b q:=by
  intro q;unfold jy;rw[h,Cs (m:=knownD known l) (List.filter_sublist ..) h]
 unfold aE
 rw[ha,hk,h1]
def regK(r:Register)(known:Int):Register:=⟨knownA known r.Appoints,knownD known r.Deputies,knownI known r.Interests,knownB known r.Budgets,knownV known r.Versions,r.Docs,knownP known r.Approvals⟩
theorem Kz(r:Register)(known:Int):knownReg r known=regK r known:=by
 simp only[knownReg,regK,Ar,Cq,yE,Cr,Aq,yF]
 rfl
theorem LB{r:Register}{known:Int}(h:dX r=0):dX (regK r known)=0:=by
 rw[jg]at h ⊢
 obtain⟨d1,d2,d3,d4,d5,d6,d7⟩:=h
 exact⟨yh (List.filter_sublist ..) d1,Cs (List.filter_sublist ..) d2,Am (List.filter_sublist ..) d3,yK (List.filter_sublist ..) d4,vg (List.filter_sublist ..) d5,d6,Av (List.filter_sublist ..) d7⟩
theorem Lj{l:List Appoint}{o p t known:Int}(h:cw l=0):gf (knownA known l) o p t known=gf l o p t known:=by
 have e1:cW (knownA known l) t known=cW l t known:=AV _ _ l []
 unfold gf
 rw[e1,h,yh (m:=knownA known l) (List.filter_sublist ..) h]
section
variable {r:Register} {d:Document} {t known:Int} (hc:dX r=0) (hk:0<=known)
include hc hk
theorem KI(y:Approval):goodA ⟨regK r known,d,t,known⟩ y=goodA ⟨r,d,t,known⟩ y:=by
 obtain⟨d1,d2,d3,d4,d5,d6,d7⟩:=(jg r).1 hc
 simp only[goodA,ia,regK]
 rw[Lj d1,Ln d2,yP hk d3,yP hk d3]
theorem IN(p:Policy):da ⟨regK r known,d,t,known⟩ p=da ⟨r,d,t,known⟩ p:=by
 obtain⟨d1,d2,d3,d4,d5,d6,d7⟩:=(jg r).1 hc
 rw[CV,CV,Ez,Ez]
 have e:(λy=>goodA ⟨regK r known,d,t,known⟩ y)=goodA ⟨r,d,t,known⟩:=by funext y;exact KI hc hk y
 have e2:goodA ⟨regK r known,d,t,known⟩=goodA ⟨r,d,t,known⟩:=e
 rw[e2]
 simp only[regK]
 rw[GM d7]
theorem Ef(p:Policy)(who:List Int):dG ⟨regK r known,d,t,known⟩ p who=dG ⟨r,d,t,known⟩ p who:=by
 have _:=hk
 obtain⟨d1,d2,d3,d4,d5,d6,d7⟩:=(jg r).1 hc
 have h:∀(k:List (List Holder)->Bool)(s:List ByteArray)(i:Nat)(g:List (List Holder)),dG.L1 ⟨regK r known,d,t,known⟩ k s i g=dG.L1 ⟨r,d,t,known⟩ k s i g:=by
  intro k s
  induction s with
  |nil=>intro i g;rfl
  |cons y s ih=>
   intro i g
   simp only[dG.L1,ih]
   simp only[regK,Hy d1]
 unfold dG
 rw[h]
 rfl
theorem wd:askJ ⟨regK r known,d,t,known⟩=askJ ⟨r,d,t,known⟩:=by
 have _:=hk
 obtain⟨d1,d2,d3,d4,d5,d6,d7⟩:=(jg r).1 hc
 show ba (knownV known r.Versions) d.At t known=ba r.Versions d.At t known
 rw[Jj d5]
end
section
variable {r:Register} {d:Document} {t known:Int} (hc:dX r=0) (hk:0<=known/\known<1099511627776) (ht:0<=t/\t<1099511627776) (hd:0<=d.At/\d.At<1099511627776) (hle:d.At<=t)
include hc hk ht hd hle
theorem QQ{no:Int}(h:no∈(askJ ⟨r,d,t,known⟩).1):∃v∈knownV known r.Versions,v.No=no:=by
 obtain⟨d1,d2,d3,d4,d5,d6,d7⟩:=(jg r).1 hc
 have g:=(mL (knownV known r.Versions)).1 (vg (List.filter_sublist ..) d5)
 rw[←wd hc hk.1]at h
 exact(Iq g hd ht hk hle).mem no h
theorem GH{no:Int}(h:no∈(askJ ⟨r,d,t,known⟩).1):askP ⟨regK r known,d,t,known⟩ no=askP ⟨r,d,t,known⟩ no:=by
 obtain⟨d1,d2,d3,d4,d5,d6,d7⟩:=(jg r).1 hc
 obtain⟨v,hv,hn⟩:=QQ hc hk ht hd hle h
 have hvl:=(aBH.1 hv).1
 have g:=(mL r.Versions).1 d5
 rcases rU ⟨regK r known,d,t,known⟩ no with⟨_,h0⟩|⟨a,w,b,h1,h2,h3,_⟩
 .exact absurd hn (h0 v hv)
 .rcases rU ⟨r,d,t,known⟩ no with⟨_,h0⟩|⟨a',w',b',h1',h2',h3',_⟩
  .exact absurd hn (h0 v hvl)
  .have hw:w∈knownV known r.Versions:=by
    have:w∈(regK r known).Versions:=by rw[show(regK r known).Versions=a++w::b from h1];exact zM _ zB
    exact this
   have hw':w'∈r.Versions:=by rw[show r.Versions=a'++w'::b' from h1'];exact zM _ zB
   have e:w=w':=MU g.inc (aBH.1 hw).1 hw' (h3.trans h3'.symm)
   unfold askP
   rw[h2,h2',e]
theorem CD{no:Int}(h:no∈(askJ ⟨r,d,t,known⟩).1):askWho ⟨regK r known,d,t,known⟩ no=askWho ⟨r,d,t,known⟩ no:=by
 unfold askWho
 rw[GH hc hk ht hd hle h,IN hc hk.1]
theorem Jh{no:Int}(h:no∈(askJ ⟨r,d,t,known⟩).1):askAns ⟨regK r known,d,t,known⟩ no=askAns ⟨r,d,t,known⟩ no:=by
 unfold askAns
 rw[GH hc hk ht hd hle h,CD hc hk ht hd hle h,Ef hc hk.1]
theorem Ji:askAll ⟨regK r known,d,t,known⟩=askAll ⟨r,d,t,known⟩:=by
 unfold askAll
 rw[wd hc hk.1]
 have:∀l:List Int,(∀no∈l,no∈(askJ ⟨r,d,t,known⟩).1)->l.flatMap (askWho ⟨regK r known,d,t,known⟩)=l.flatMap (askWho ⟨r,d,t,known⟩):=by
  intro l hl
  induction l with
  |nil=>rfl
  |cons y l ih=>
   rw[List.flatMap_cons,List.flatMap_cons,CD hc hk ht hd hle (hl y zB),ih λno hno=>hl no (vA _ hno)]
 rw[this _ λ_ h=>h]
theorem N1:gk ⟨regK r known,d,t,known⟩=gk ⟨r,d,t,known⟩:=by
 unfold gk
 rw[wd hc hk.1]
 have:(askJ ⟨r,d,t,known⟩).1.map (askAns ⟨regK r known,d,t,known⟩)=(askJ ⟨r,d,t,known⟩).1.map (askAns ⟨r,d,t,known⟩):=
  List.map_congr_left λno h=>Jh hc hk ht hd hle h
 rw[this]
end
def cutS(t:Int)(sg:List Int):List Int:=sg.map λx=>bif decide (t<x)then -1 else x
theorem sk{l:List Int}{i:Nat}(h:i<l.length):l.getD i 0∈l:=by
 rw[List.getD_eq_getElem?_getD,List.getElem?_eq_getElem h];exact List.getElem_mem h
theorem AY(f:Int->Int->Int)(P:Int->Prop):∀(j:Nat)(xs:List Int),j<xs.length->(∀x∈xs,P x)->(insIn f j xs).length=xs.length/\∀x∈insIn f j xs,P x
 |0,xs,_,h=>⟨rfl,h⟩
 |j+1,xs,hj,h=>by
  simp only[insIn,Bool.cond_eq_ite]
  split
  .have hl:((xs.set (j+1) (xs.getD j 0)).set j (xs.getD (j+1) 0)).length=xs.length:=by rw[List.length_set,List.length_set]
   have hp:∀x∈(xs.set (j+1) (xs.getD j 0)).set j (xs.getD (j+1) 0),P x:=by
    intro x hx
    rcases List.mem_or_eq_of_mem_set hx with hx|rfl
    .rcases List.mem_or_eq_of_mem_set hx with hx|rfl
     .exact h x hx
     .exact h _ (sk (by omega))
    .exact h _ (sk hj)
   have ih:=AY f P j _ (by rw[hl];omega) hp
   exact⟨ih.1.trans hl,ih.2⟩
  .exact⟨rfl,h⟩
theorem DL{f g:Int->Int->Int}{P:Int->Prop}(hfg:∀a b,P a->P b->f a b=g a b):∀(j:Nat)(xs:List Int),j<xs.length->(∀x∈xs,P x)->insIn f j xs=insIn g j xs
 |0,xs,_,h=>rfl
 |j+1,xs,hj,h=>by
  have e:=hfg (xs.getD (j+1) 0) (xs.getD j 0) (h _ (sk hj)) (h _ (sk (by omega)))
  simp only[insIn,Bool.cond_eq_ite,e]
  split
  .have hl:((xs.set (j+1) (xs.getD j 0)).set j (xs.getD (j+1) 0)).length=xs.length:=by rw[List.length_set,List.length_set]
   have hp:∀x∈(xs.set (j+1) (xs.getD j 0)).set j (xs.getD (j+1) 0),P x:=by
    intro x hx
    rcases List.mem_or_eq_of_mem_set hx with hx|rfl
    .rcases List.mem_or_eq_of_mem_set hx with hx|rfl
     .exact h x hx
     .exact h _ (sk (by omega))
    .exact h _ (sk hj)
   exact DL hfg j _ (by rw[hl];omega) hp
  .rfl
theorem BY{f g:Int->Int->Int}{P:Int->Prop}(hfg:∀a b,P a->P b->f a b=g a b):∀(m i:Nat)(xs:List Int),i+m<=xs.length->(∀x∈xs,P x)->insOut f m i xs=insOut g m i xs
 |0,i,xs,_,h=>rfl
 |m+1,i,xs,hi,h=>by
  simp only[insOut]
  rw[DL hfg i xs (by omega) h]
  have k:=AY g P i xs (by omega) h
  exact BY hfg m (i+1) _ (by rw[k.1];omega) k.2
theorem IA{f g:Int->Int->Int}{P:Int->Prop}(hfg:∀a b,P a->P b->f a b=g a b)(xs:List Int)(h:∀x∈xs,P x):dF xs f=dF xs g:=by
 unfold dF
 cases xs with
 |nil=>rfl
 |cons y l=>exact BY hfg _ _ _ (by simp only[xA];omega) h
theorem DK(f:Int->Int->Int)(P:Int->Prop):∀(m i:Nat)(xs:List Int),i+m<=xs.length->(∀x∈xs,P x)->∀x∈insOut f m i xs,P x
 |0,i,xs,_,h=>h
 |m+1,i,xs,hi,h=>by
  simp only[insOut]
  have k:=AY f P i xs (by omega) h
  exact DK f P m (i+1) _ (by rw[k.1];omega) k.2
theorem JK(f:Int->Int->Int)(P:Int->Prop)(xs:List Int)(h:∀x∈xs,P x):∀x∈dF xs f,P x:=by
 unfold dF
 cases xs with
 |nil=>intro x hx;exact(kA hx).elim
 |cons y l=>exact DK f P _ _ _ (by simp only[xA];omega) h
theorem Nr(l:List Int):jo l=l:=by
 have h:∀s:List Int,cN.L1 cN.K1 s=s:=by
  intro s
  induction s with
  |nil=>rfl
  |cons y s ih=>simp only[cN.L1,ih]
 exact h l
def Hx(t:Int)(sg:List Int)(x:Int):Prop:=nthI (cutS t sg) x=nthI sg x
theorem MT{t:Int}{sg:List Int}{i:Nat}{y:Int}(h:sg[i]? = some y)(hy:y<=t):Hx t sg (i:Int):=by
 have h2:(cutS t sg)[i]? = some y:=by
  unfold cutS
  rw[kT,h,aBf]
  have:decide (t<y)=false:=by simp;omega
  rw[this];rfl
 unfold Hx nthI
 simp[h,h2]
theorem JV{t:Int}{sg:List Int}(k k':List Int->List Int)(hk:∀g,(∀x∈g,Hx t sg x)->k' g=k g):∀(s:List Int)(i:Nat)(g:List Int),sg.drop i=s->(∀x∈g,Hx t sg x) ->
  aM.L1 t k' (cutS t s) i g=aM.L1 t k s i g:=by
 intro s
 induction s with
 |nil=>intro i g _ hg;exact hk g hg
 |cons y s ih=>
  intro i g hd hg
  have hget:sg[i]? = some y:=pI hd
  have hnext:sg.drop (i+1)=s:=kO hd
  show(bif(decide (0<=(bif decide (t<y)then -1 else y))&&decide ((bif decide (t<y)then -1 else y)<=t))then aM.L1 t k' (cutS t s) (i+1) (g++[(i:Int)])else aM.L1 t k' (cutS t s) (i+1) g)=_
  simp only[aM.L1]
  cases c:decide (t<y)with
  |true=>
   have c2:decide (y<=t)=false:=by simp at c ⊢;omega
   simp only[cond_true,c2,Bool.and_false,cond_false]
   exact ih _ _ hnext hg
  |false=>
   have c2:y<=t:=by simp at c;omega
   simp only[cond_false]
   cases decide (0<=y)&&decide (y<=t)with
   |true=>
    simp only[cond_true]
    refine ih _ _ hnext λx hx=>?_
    rcases kH.1 hx with hx|hx
    .exact hg x hx
    .rw[jD.1 hx];exact MT hget c2
   |false=>simp only[cond_false];exact ih _ _ hnext hg
theorem GP{t:Int}{sg:List Int}(k:List Int->List Int)(hk:∀g,(∀x∈g,Hx t sg x)->∀x∈k g,Hx t sg x):∀(s:List Int)(i:Nat)(g:List Int),sg.drop i=s->(∀x∈g,Hx t sg x) ->
  ∀x∈aM.L1 t k s i g,Hx t sg x:=by
 intro s
 induction s with
 |nil=>intro i g _ hg;exact hk g hg
 |cons y s ih=>
  intro i g hd hg
  have hget:sg[i]? = some y:=pI hd
  have hnext:sg.drop (i+1)=s:=kO hd
  simp only[aM.L1,Bool.cond_eq_ite]
  split
  .next c=>
   simp only[xB,decide_eq_true_eq]at c
   refine ih _ _ hnext λx hx=>?_
   rcases kH.1 hx with hx|hx
   .exact hg x hx
   .rw[jD.1 hx];exact MT hget c.2
  .exact ih _ _ hnext hg
theorem IC(l:List Document)(sg:List Int)(t:Int):aM (playP l (cutS t sg)) t=aM (playP l sg) t:=by
 refine JV _ _ (λg hg=>?_) sg 0 [] rfl (λx hx=>(kA hx).elim)
 unfold aM.K1
 rw[IA (P:=Hx t sg) (λa b ha hb=>?_) g hg]
 show cmp_Compare_int (nthI (cutS t sg) a) (nthI (cutS t sg) b)=cmp_Compare_int (nthI sg a) (nthI sg b)
 rw[ha,hb]
theorem GO(l:List Document)(sg:List Int)(t:Int):∀x∈aM (playP l sg) t,Hx t sg x:=
 GP _ (λg hg=>by unfold aM.K1;rw[Nr];exact JK _ _ g hg) sg 0 [] rfl (λx hx=>(kA hx).elim)
def withS(s:List Int)(p:eS):eS:={ p with signed:=s }
theorem NM{sg sg' s:List Int}{i:Int}(hi:nthI sg' i=nthI sg i)(p:eS)(no:Int):playLack sg' i (withS s p) no=withS s (playLack sg i p no):=by
 unfold playLack
 rw[hi]
 show(bif(cg p (mgetD p.shelf.at_ no 0) (nthI sg i)).1 != 0 then _ else _)=withS s (bif(cg p (mgetD p.shelf.at_ no 0) (nthI sg i)).1 != 0 then _ else _)
 cases(cg p (mgetD p.shelf.at_ no 0) (nthI sg i)).1 != 0<;>rfl
theorem Ky(sg:List Int)(i:Int)(p:eS)(no:Int):(playLack sg i p no).signed=p.signed:=by
 unfold playLack
 cases(cg p (mgetD p.shelf.at_ no 0) (nthI sg i)).1 != 0<;>rfl
theorem FO{sg sg' s:List Int}{i:Int}(hi:nthI sg' i=nthI sg i):∀(l:List (Int×Int))(p:eS),l.foldl (λq x=>playLack sg' i q x.2) (withS s p)=withS s (l.foldl (λq x=>playLack sg i q x.2) p)
 |[],p=>rfl
 |x::l,p=>by rw[aAy,aAy,NM hi,FO hi l]
theorem BW(sg:List Int)(i:Int):∀(l:List (Int×Int))(p:eS),(l.foldl (λq x=>playLack sg i q x.2) p).signed=p.signed
 |[],p=>rfl
 |x::l,p=>by rw[aAy,BW sg i l,Ky]
theorem Pj{sg sg':List Int}{i:Int}(hi:nthI sg' i=nthI sg i){p:eS}(hp:p.signed=sg):playMid (withS sg' p) i=withS sg' (playMid p i):=by
 subst hp
 exact FO (s:=sg') hi _ { p with lacks:=p.lacks.set i.toNat (-1) }
theorem FG(p:eS)(i:Int):(playMid p i).signed=p.signed:=BW _ _ _ _
theorem BK(d:Document)(s:List Int):∀(l:List Int)(p:eS),l.foldl (playRevoke d) (withS s p)=withS s (l.foldl (playRevoke d) p)
 |[],p=>rfl
 |x::l,p=>BK d s l (playRevoke d p x)
theorem xr(d:Document):∀(l:List Int)(p:eS),(l.foldl (playRevoke d) p).signed=p.signed
 |[],p=>rfl
 |x::l,p=>xr d l (playRevoke d p x)
theorem Nw{sg sg':List Int}{i:Int}(hi:nthI sg' i=nthI sg i){p:eS}(hp:p.signed=sg):playStep (withS sg' p) i=withS sg' (playStep p i):=by
 unfold playStep
 rw[Pj hi hp]
 show(bif decide (nthI (playMid p i).lacks i<0)then(nthI p.shelf.docs i).Revokes.foldl (playRevoke (nthI p.shelf.docs i)) (withS sg' (playDone (playMid p i) i))else withS sg' (playDone (playMid p i) i))=_
 rw[BK]
 cases decide (nthI (playMid p i).lacks i<0)<;>rfl
theorem JI(p:eS)(i:Int):(playStep p i).signed=p.signed:=by
 unfold playStep
 cases decide (nthI (playMid p i).lacks i<0)with
 |true=>exact(xr _ _ _).trans (FG p i)
 |false=>exact FG p i
theorem EU{sg sg':List Int}:∀(o:List Int)(p:eS),p.signed=sg->(∀i∈o,nthI sg' i=nthI sg i)->o.foldl playStep (withS sg' p)=withS sg' (o.foldl playStep p)
 |[],p,_,_=>rfl
 |i::o,p,hp,h=>by
  rw[aAy,aAy,Nw (h i zB) hp]
  exact EU o _ ((JI p i).trans hp) λj hj=>h j (vA _ hj)
theorem Fx(l:List Document)(sg:List Int)(t:Int):cf l (cutS t sg) t=withS (cutS t sg) (cf l sg t):=by
 unfold cf
 rw[IC]
 exact EU _ (playP l sg) rfl (GO l sg t)
theorem HO{l:List Document}{sg:List Int}:bM l sg=true↔sg.length=l.length/\∀x∈sg,hO x=false:=by
 unfold bM
 rw[xB,beq_iff_eq,containsF]
 simp only[qE,List.any_eq_false,Bool.not_eq_true]
 constructor
 .rintro⟨h1,h2⟩;exact⟨by omega,h2⟩
 .rintro⟨h1,h2⟩;exact⟨by omega,h2⟩
theorem CL{l:List Document}{sg:List Int}{t:Int}(h:bM l sg=true):bM l (cutS t sg)=true:=by
 rw[HO]at h ⊢
 refine⟨by unfold cutS;rw[List.length_map];exact h.1,λx hx=>?_⟩
 unfold cutS at hx
 obtain⟨y,hy,rfl⟩:=jQ.1 hx
 cases decide (t<y)with
 |true=>rfl
 |false=>exact h.2 y hy
theorem Li{l:List Document}{sg:List Int}{t:Int}(h:bM l sg=true):bz l (cutS t sg) t=bz l sg t:=by
 have h1:∀(k:List Int->List Int×Int)(s:List Document)(i:Nat)(g:List Int),bz.L1 l (cutS t sg) t k s i g=bz.L1 l sg t k s i g:=by
  intro k s
  induction s with
  |nil=>intro i g;rfl
  |cons y s ih=>
   intro i g
   simp only[bz.L1,ih,Fx]
   rfl
 unfold bz
 rw[h,CL h,h1]
theorem QR{l:List Document}{sg:List Int}{t no:Int}(h:bM l sg=true):e9 l (cutS t sg) no t=e9 l sg no t:=by
 unfold e9
 rw[h,CL h,Fx]
 rfl
theorem Pf{t:Int}{sg:List Int}{j:Int}(h:0<=j/\j<(sg.length:Int)):nthI (cutS t sg) j=bif decide (t<nthI sg j)then -1 else nthI sg j:=by
 have h1:=dh h
 have h2:(cutS t sg)[j.toNat]? = some (bif decide (t<nthI sg j)then -1 else nthI sg j):=by
  unfold cutS;rw[kT,h1,aBf]
 have h3:0<=j/\j<((cutS t sg).length:Int):=by unfold cutS;rw[List.length_map];exact h
 have h4:=dh h3
 rw[h2]at h4
 exact(qW h4).symm
section
variable {r:Register} {d:Document} {t known:Int} {signed:List Int} (hco:jr ⟨r,d,t,known⟩) (hs:bM r.Docs signed=true)
include hco hs
theorem J6:ey ⟨regK r known,d,t,known⟩ (cutS t signed)=ey ⟨r,d,t,known⟩ signed:=by
 have _:=hco
 unfold ey
 have:(λdl=>gI dl ⟨regK r known,d,t,known⟩ (cutS t signed))=λdl=>gI dl ⟨r,d,t,known⟩ signed:=by
  funext a
  unfold gI
  show(bif(!(ji a.Revokes d.No))then false else(((e9 r.Docs (cutS t signed) a.No t).1 != 1)&&((e9 r.Docs (cutS t signed) a.No t).1 != 4)))=_
  rw[QR hs]
 rw[this]
 rfl
theorem Mb:ff ⟨regK r known,d,t,known⟩ (cutS t signed)=ff ⟨r,d,t,known⟩ signed:=by
 have hi:=Dg hco hs
 unfold ff
 rw[J6 hco hs]
 show(((decide (t<d.At)||decide (d.Until<=t))||(decide (0<=nthI (cutS t signed) (ad r.Docs (λdl=>bx dl ⟨r,d,t,known⟩)))&&decide (nthI (cutS t signed) (ad r.Docs (λdl=>bx dl ⟨r,d,t,known⟩))<=t)))||_)=_
 have e:(decide (0<=nthI (cutS t signed) (ad r.Docs (λdl=>bx dl ⟨r,d,t,known⟩)))&&decide (nthI (cutS t signed) (ad r.Docs (λdl=>bx dl ⟨r,d,t,known⟩))<=t))=(decide (0<=nthI signed (ad r.Docs (λdl=>bx dl ⟨r,d,t,known⟩)))&&decide (nthI signed (ad r.Docs (λdl=>bx dl ⟨r,d,t,known⟩))<=t)):=by
  rw[Pf hi]
  generalize nthI signed (ad r.Docs (λdl=>bx dl ⟨r,d,t,known⟩))=x
  cases c:decide (t<x)with
  |true=>
   have:decide (x<=t)=false:=by simp at c ⊢;omega
   rw[this,Bool.and_false];rfl
  |false=>rfl
 rw[e]
theorem NL:gD ⟨regK r known,d,t,known⟩ (cutS t signed)=gD ⟨r,d,t,known⟩ signed:=by
 have _:=hco
 unfold gD
 show cB d.Needs (λdl=>jk dl ((bz r.Docs (cutS t signed) t).1))=_
 rw[Li hs]
end
theorem Jm(p:Use->Bool){u:List Use}(h:ed u=true):ed (u.filter p)=true:=by
 have key:∀(s:List Use)(m m':List (Int×Bool)),(∀x,mgetD m' x false=true->mgetD m x false=true)->ed.L1 ed.K1 s m=true->ed.L1 ed.K1 (s.filter p) m'=true:=by
  intro s
  induction s with
  |nil=>intro m m' _ _;rfl
  |cons y s ih=>
   intro m m' hm h
   simp only[ed.L1,Bool.cond_eq_ite]at h
   split at h
   .cases h
   .next hc=>
    simp only[xD,not_or,Bool.not_eq_true]at hc
    obtain⟨⟨⟨⟨c1,c2⟩,c3⟩,c4⟩,c5⟩:=hc
    rw[List.filter_cons]
    split
    .have c1':mgetD m' y.Doc false=false:=by
      cases e:mgetD m' y.Doc false with
      |false=>rfl
      |true=>rw[hm _ e]at c1;cases c1
     simp only[ed.L1,c1',c2,c3,c4,c5,Bool.or_false,cond_false]
     refine ih _ _ (λx hx=>?_) h
     unfold mgetD at hx hm ⊢
     rw[uN]at hx ⊢
     split
     .rfl
     .next hne=>rw[if_neg hne]at hx;exact hm x hx
    .refine ih _ _ (λx hx=>?_) h
     have:=hm x hx
     unfold mgetD at this ⊢
     rw[uN]
     split
     .rfl
     .exact this
 exact key u [] [] (λ_ h=>h) h
theorem CN{l:List Budget}{u:List Use}(h:(bp l u 0 0 0 0).2.2=0):u.length<=4096/\ed u=true:=by
 unfold bp at h
 cases c0:(bT l) != 0 with
 |true=>rw[c0]at h;simp only[cond_true]at h;rw[h]at c0;cases c0
 |false=>
  rw[c0]at h
  cases c1:decide (4096<(u.length:Int))with
  |true=>rw[c1]at h;simp at h
  |false=>
   rw[c1]at h
   cases c2:ed u with
   |false=>rw[c2]at h;simp at h
   |true=>exact⟨by simp at c1;omega,rfl⟩
theorem HU{l:List Budget}{u:List Use}(hc:bT l=0)(hl:u.length<=4096)(hu:ed u=true):(bp l u 0 0 0 0).2.2=0:=by
 unfold bp
 have c1:decide (4096<(u.length:Int))=false:=by simp;omega
 rw[hc,c1,hu]
 have c2:(((!(aO 0 15 ([0])))||(!(aO 0 1099511627776 ([0]))))||(!(aO 0 1099511627775 ([0,0]))))=false:=by decide
 rw[c2]
 exact IE u 0 0 0 _
section
variable {r:Register} {d:Document} {t known:Int} {signed:List Int} {u:List Use} (hco:jr ⟨r,d,t,known⟩) (hs:bM r.Docs signed=true) (hr:(bp r.Budgets u 0 0 0 0).2.2=0)
include hco hs hr
theorem IZ:judgeC ⟨regK r known,d,t,known⟩ (regK r known) (cutS t signed) (knownU known u) t known=judgeC ⟨r,d,t,known⟩ r signed u t known:=by
 have hc:=hco.chk
 have hg:=hco.good
 unfold judgeC
 rw[Mb hco hs,NL hco hs]
 cases hcl:ff ⟨r,d,t,known⟩ signed with
 |true=>rfl
 |false=>
  have hle:d.At<=t:=Ij hcl
  have hk:=hco.know
  have ht:=hco.time
  rw[N1 hc hk ht hg.at_ hle,wd hc hk.1,Ji hc hk ht hg.at_ hle]
  have he:(bp r.Budgets u d.Kind d.Value t known).2.2=0:=J4 hr hg.kind hg.value ht hk
  have hR:judgeRoom ⟨regK r known,d,t,known⟩ (regK r known) (knownU known u) t known=judgeRoom ⟨r,d,t,known⟩ r u t known:=
   Mg hk.1 ((jg r).1 hc).2.2.2.1 he (Jm _ (CN hr).2)
  rw[hR]
end
theorem Lh{r:Register}(hc:dX r=0){doc t known:Int}{signed:List Int}{u:List Use}(hd:0<=iK r doc)(ht:0<=t/\t<1099511627776)(hk:0<=known/\known<1099511627776)(hs:bM r.Docs signed=true)(hr:(bp r.Budgets u 0 0 0 0).2.2=0):
  (cU r signed u doc t known).2=0/\cU (regK r known) (cutS t signed) (knownU known u) doc t known=cU r signed u doc t known:=by
 have ho:=MK hd ht hk
 obtain⟨_,hco,_,_⟩:=IS hc ho
 have hdc:aV r.Docs=0:=((jg r).1 hc).2.2.2.2.2.1
 have hbc:bT r.Budgets=0:=((jg r).1 hc).2.2.2.1
 have hi:(bz r.Docs signed 0).2=0:=yu hdc hs ⟨Int.le_refl _,by decide⟩
 have hi2:(bz (regK r known).Docs (cutS t signed) 0).2=0:=yu hdc (CL hs) ⟨Int.le_refl _,by decide⟩
 have hr2:(bp (regK r known).Budgets (knownU known u) 0 0 0 0).2.2=0:=
  HU (yK (List.filter_sublist ..) hbc) (kS (List.length_filter_le _ _) (CN hr).1) (Jm _ (CN hr).2)
 have ho2:lP (regK r known) doc t known=.ok ⟨regK r known,nthI r.Docs (iK r doc),t,known⟩:=MK (r:=regK r known) hd ht hk
 have hJ:=IZ hco hs hr
 unfold cU
 rw[hc,hi,hr,ho,LB hc,hi2,hr2,ho2]
 exact⟨rfl,by simp only[bne_self_eq_false,cond_false,hJ]⟩
theorem JS(b:List Int):∀(l pre:List Int),b=pre++l->fg.L1 b true l pre.length=true
 |[],_,_=>rfl
 |y::l,pre,h=>by
  have hy:nthI b (pre.length:Int)=y:=po (by rw[h];simp)
  have ih:=JS b l (pre++[y]) (by rw[h];simp)
  rw[jA,xA,vB,Nat.zero_add]at ih
  have e:(y != y)=false:=by simp
  simp only[fg.L1,hy,e,cond_false]
  exact ih
theorem Lu(s:List Int):fg s s=true:=by
 unfold fg
 have e:((s.length:Int) != (s.length:Int))=false:=by simp
 rw[e]
 exact JS s s [] rfl
theorem uses18{u:List Use}(h:fp u=true):ed u=true:=by
 have h3:∀(y:Use)(k:Bool)(s:List Nat)(j:Nat),fp.L3 u y k s j=true->k=true/\∀q:Nat,j<=q->q<j+s.length->(nthI u (q:Int)).Doc≠y.Doc:=by
  intro y k s
  induction s with
  |nil=>intro j h;exact⟨h,λq h1 h2=>by simp at h2;omega⟩
  |cons z s ih=>
   intro j h
   simp only[fp.L3,Bool.cond_eq_ite]at h
   split at h
   .cases h
   .next hc=>
    obtain⟨h1,h2⟩:=ih _ h
    refine⟨h1,λq hq hq2=>?_⟩
    rcases xQ j q with e|e
    .exact h2 q e (by simp only[xA]at hq2;omega)
    .have:q=j:=by omega
     subst this
     intro hh;exact hc (by rw[hh];exact beq_self_eq_true _)
 have h1:∀(s:List Use)(i:Nat)(m:List (Int×Bool)),u.drop i=s->(∀x,mgetD m x false=true->∃q:Nat,q<i/\(nthI u (q:Int)).Doc=x)->fp.L1 u (fp.K1) s i=true->ed.L1 ed.K1 s m=true:=by
  intro s
  induction s with
  |nil=>intro i m _ _ _;rfl
  |cons y s ih=>
   intro i m hd hm h
   simp only[fp.L1,Bool.cond_eq_ite]at h
   split at h
   .cases h
   .next hc=>
    simp only[xD,not_or,Bool.not_eq_true,Bool.not_eq_false',fP,oI,gY,xB,decide_eq_true_eq]at hc
    obtain⟨⟨⟨⟨c1,c2⟩,c3⟩,c4⟩,c5⟩:=hc
    obtain⟨h4,h5⟩:=h3 _ _ _ _ h
    have e0:mgetD m y.Doc false=false:=by
     cases e:mgetD m y.Doc false with
     |false=>rfl
     |true=>
      obtain⟨q,hq,he⟩:=hm _ e
      exact absurd he (h5 q (zN _) (by rw[List.length_range];omega))
    simp only[ed.L1,e0,(rA (a:=0) (b:=4095) (z:=y.Doc)).2 ⟨by omega,by omega⟩,(rA (a:=0) (b:=15) (z:=y.Kind)).2 ⟨by omega,by omega⟩,(rA (a:=0) (b:=1099511627776) (z:=y.Value)).2 ⟨by omega,by omega⟩,(D2 (a:=0) (b:=1099511627775) (y:=y.At) (z:=y.Known)).2 ⟨⟨by omega,by omega⟩,⟨by omega,by omega⟩⟩,Bool.not_true,Bool.or_false,cond_false]
    refine ih (i+1) _ (kO hd) (λx hx=>?_) h4
    unfold mgetD at hx
    rw[uN]at hx
    split at hx
    .next e=>exact⟨i,Nat.lt_succ_self _,by rw[e,po (pI hd)]⟩
    .obtain⟨q,hq,he⟩:=hm x hx;exact⟨q,by omega,he⟩
 exact h1 u 0 [] rfl (λx hx=>by cases hx) h
theorem signs17{l:List Document}{signed:List Int}(h:eI l signed=true):bM l signed=true:=by
 rw[HO]
 refine⟨wh h,?_⟩
 have h1:∀s:List Int,eI.L1 (eI.K1 l signed) s=true->∀x∈s,hO x=false:=by
  intro s
  induction s with
  |nil=>intro _ x hx;exact(kA hx).elim
  |cons y s ih=>
   intro h x hx
   simp only[eI.L1,Bool.cond_eq_ite]at h
   split at h
   .cases h
   .next hc=>
    rcases qC.1 hx with rfl|hx
    .exact Bool.eq_false_iff.2 hc
    .exact ih h x hx
 exact h1 signed h
theorem JF(t:Int)(k:List Int->Bool):∀(s g:List Int),fm.L1 t k s g=k (g++cutS t s)
 |[],g=>by simp[fm.L1,cutS]
 |y::s,g=>by
  simp only[fm.L1,JF t k s]
  unfold cutS
  rw[xK]
  cases decide (t<y)<;>simp only[cond_true,cond_false,kD,qP,zG]
theorem known_true{r:Register}(hsm:smR r)(signed:List Int)(u:List Use)(doc t known:Int):fm r signed u doc t known=true:=by
 unfold fm
 rw[show sR=true from rfl]
 cases hg:kv r signed u doc t known with
 |false=>rfl
 |true=>
  simp only[Bool.not_true,cond_false]
  rw[JF,zG]
  simp only[kv,xB,beq_iff_eq]at hg
  have he:=hg.2
  unfold ny at he
  simp only[Bool.cond_eq_ite]at he
  split at he
  .cases he
  .next e1=>
   split at he
   .next e2=>exact absurd he (by simpa using e2)
   .next e2=>
    split at he
    .next e3=>exact absurd he (by simpa using e3)
    .next e3=>
     split at he
     .cases he
     .next e4=>
      have c1:lh r=0:=by simpa using e1
      have c2:(fx r.Docs signed 0).2=0:=by simpa using e2
      have c3:(gF r.Budgets u 0 0 0 0).2.2=0:=by simpa using e3
      simp only[xD,not_or,Bool.not_eq_true,Bool.not_eq_false',decide_eq_true_eq,me,xB]at e4
      obtain⟨⟨h4,h5⟩,h6⟩:=e4
      have hc:=(judge30 hsm).2 c1
      have hs:bM r.Docs signed=true:=by
       refine signs17 ?_
       unfold fx at c2
       cases q1:dO r.Docs != 0 with
       |true=>rw[q1]at c2;simp only[cond_true]at c2;rw[c2]at q1;cases q1
       |false=>
        rw[q1]at c2
        cases q2:eI r.Docs signed with
        |true=>rfl
        |false=>rw[q2]at c2;simp at c2
      have hu:u.length<=4096/\ed u=true:=by
       unfold gF at c3
       cases q1:fL r.Budgets != 0 with
       |true=>rw[q1]at c3;simp only[cond_true]at c3;rw[c3]at q1;cases q1
       |false=>
        rw[q1]at c3
        cases q2:decide (4096<(u.length:Int))with
        |true=>rw[q2]at c3;simp at c3
        |false=>
         rw[q2]at c3
         cases q3:fp u with
         |true=>exact⟨by simp at q2;omega,uses18 q3⟩
         |false=>rw[q3]at c3;simp at c3
      have hr:=HU ((jg r).1 hc).2.2.2.1 hu.1 hu.2
      obtain⟨j1,j2⟩:=Lh hc (doc:=doc) (known:=known) (by omega) h5 h6 hs hr
      have hR:jG (bX r.Appoints fE known) (cm r.Deputies fD known) (bN r.Interests fC known) (cn r.Budgets fB known) (bW r.Versions fA known) r.Docs (bO r.Approvals fy known)=regK r known:=Kz r known
      have hU:dw u gj known=knownU known u:=NV _ _ _
      unfold fm.K1
      rw[hR,hU,j2,j1]
      simp only[oH,beq_self_eq_true,Lu,Bool.and_self]
end Go.Sg

namespace Go.Sg
section
variable {P:Program} {b:Frame} {n:Nat} {k:List Item} {F:List Frame->(Machine->Prop)->Prop} {e:Env} {ds:List Deferred} {X:Cx} {h:HF} {L:LH}
variable {ops:Array Oper} {l:List Oper} {d:Nat} {ty:TypeId} {pos:String} {af:Array Edge} {g:Option (Nat×Bool)}
def memN:List Nat->Nat->Bool
 |[],_=>false
 |a::l,s=>bif aBc s a then true else memN l s
def mix(S:List Nat)(e' e:Env):Env:=λs=>bif memN S s then e' s else e s
def subN:List Nat->List Nat->Bool
 |[],_=>true
 |a::l,S=>memN S a&&subN l S
def Agr(S:List Nat)(e e':Env):Prop:=∀s,memN S s=false->e' s=e s
theorem yN{S:List Nat}{e:Env}:Agr S e e:=λ_ _=>rfl
theorem CE{S:List Nat}{e e':Env}{d:Nat}{w:Value}(hd:memN S d=true)(h:Agr S e e'):Agr S e (upd e' d w):=λs hs=>by
 unfold upd
 cases hb:aBc s d with
 |true=>rw[aAe hb,hd]at hs;cases hs
 |false=>exact h s hs
theorem Pl{S T:List Nat}(h:subN T S=true){s:Nat}(hs:memN S s=false):memN T s=false:=by
 induction T with
 |nil=>rfl
 |cons a T ih=>
  simp only[subN,xB]at h
  simp only[memN]
  cases hb:aBc s a with
  |true=>rw[aAe hb,h.1]at hs;cases hs
  |false=>exact ih h.2
theorem CG{S T:List Nat}{e e' e2:Env}(hT:subN T S=true)(h:Agr S e e'):Agr S e (mix T e2 e'):=λs hs=>by
 unfold mix
 rw[Pl hT hs];exact h s hs
theorem MB(m:Nat)(S:List Nat)(d:Nat)(v:Value)(t':(∀e',e' d=v->(ha:Agr S e e':=by repeat (first|exact yN|refine CE rfl ?_|refine CG rfl ?_))->TO P b n ops (l.drop m) k F e' ds X h L)->TO P b n ops l k F e ds X h L)(hk:∀e'',TO P b n ops (l.drop m) k F (upd (mix S e'' e) d v) ds X h L):TO P b n ops l k F e ds X h L:=
 t' λe' hv ha=>by
  have e1:upd (mix S e' e) d v=e':=funext λs=>by
   unfold upd
   cases hb:aBc s d with
   |true=>rw[aAe hb];exact hv.symm
   |false=>
    show mix S e' e s=e' s
    unfold mix
    cases hm:memN S s with
    |true=>rfl
    |false=>exact(ha s hm).symm
  have:=hk e'
  rw[e1]at this
  exact this
theorem ae{α : Type}{x y z:α}{c:Bool}{o:Operand}{p q:Code}(hs:x=bif c then y else z)(hx:e.ev o=.bool c)(t1:c=true->x=y->TT P b n (.code p::k) F e ds X h L)(t2:c=false->x=z->TT P b n (.code q::k) F e ds X h L):TT P b n (.code (.cond o p q)::k) F e ds X h L:=
 ky hx (λe'=>t1 e' (hs.trans (by rw[e'];rfl))) (λe'=>t2 e' (hs.trans (by rw[e'];rfl)))
end
end Go.Sg

namespace Go.Sg
inductive Qs
 |tt (k:List Item) (e:Env)
 |to (ops:Array Oper) (l:List Oper) (k:List Item) (e:Env)
@[reducible] def Qs.holds (P:Program) (b:Frame) (n:Nat) (F:List Frame->(Machine->Prop)->Prop) (ds:List Deferred) (X:Cx) (h:HF) (L:LH):Qs->Prop
 |.tt k e=>TT P b n k F e ds X h L
 |.to ops l k e=>TO P b n ops l k F e ds X h L
def opQ(e:Env):Op->Option Value
 |.move x=>some (e.ev x)
 |.assign x=>some (e.ev x)
 |.pick c x y=>match e.ev c with
  |.bool s=>some (bif s then e.ev x else e.ev y)
  |_=>none
 |.extract x i=>match e.ev x with
  |.tuple ⟨vs⟩=>nth vs i
  |_=>none
 |.unOp .not _ x=>match e.ev x with
  |.bool s=>some (.bool !s)
  |_=>none
 |.binOp op _ x y _=>binV op (e.ev x) (e.ev y)
 |_=>none
def qstepO(n:Nat)(ops:Array Oper)(l:List Oper)(k:List Item)(e:Env):Option Qs:=
 match l with
 |[]=>some (.tt k e)
 |⟨some d,op,ty,pos,af,g⟩::l=>
  match Nat.blt d n with
  |false=>none
  |true=>match guardB ops e ⟨some d,op,ty,pos,af,g⟩with
   |false=>some (.to ops l k (upd e d undef))
   |true=>match opQ e op with
    |some v=>some (.to ops l k (upd e d v))
    |none=>none
 |_=>none
def qstepT(k:List Item)(e:Env):Option Qs:=
 match k with
 |.code .skip::k=>some (.tt k e)
 |.code (.seq x y)::k=>some (.tt (.code x::.code y::k) e)
 |.code (.block id c)::k=>some (.tt (.code c::.inBlock id::k) e)
 |.inBlock _::k=>some (.tt k e)
 |.code (.exit id)::k=>match exitTo id k with
  |some k'=>some (.tt k' e)
  |none=>none
 |.code (.cond c x y)::k=>match e.ev c with
  |.bool true=>some (.tt (.code x::k) e)
  |.bool false=>some (.tt (.code y::k) e)
  |_=>none
 |.code (.region _ ⟨l⟩ false)::k=>some (.to ⟨l⟩ l k e)
 |_=>none
def runQ(n:Nat):Nat->Qs->Option Qs
 |0,s=>some s
 |m+1,.tt k e=>match qstepT k e with
  |some s=>runQ n m s
  |none=>none
 |m+1,.to ops l k e=>match qstepO n ops l k e with
  |some s=>runQ n m s
  |none=>none
section
variable {P:Program} {b:Frame} {n:Nat} {k:List Item} {F:List Frame->(Machine->Prop)->Prop} {e:Env} {ds:List Deferred} {X:Cx} {h:HF} {L:LH}
theorem IT{op:Op}{v:Value}(hv:opQ e op=some v):noDefer op=true/\∀(d:Option Nat)(ty:TypeId)(pos:String)(af:Array Edge)(g:Option (Nat×Bool))w,(execOp e.ev ⟨d,op,ty,pos,af,g⟩).run P w=.ok (.value v) w:=by
 unfold opQ at hv
 split at hv
 .cases hv;exact⟨rfl,λ_ _ _ _ _ w=>by simp[execOp]⟩
 .cases hv;exact⟨rfl,λ_ _ _ _ _ w=>by simp[execOp]⟩
 .split at hv
  .next s hc=>cases hv;exact⟨rfl,λ_ _ _ _ _ w=>by cases s<;>simp[execOp,hc,asBool]⟩
  .cases hv
 .split at hv
  .next vs hx=>exact⟨rfl,λ_ _ _ _ _ w=>by rw[iM]at hv;simp[execOp,hx,Instr.extract,hv]⟩
  .cases hv
 .split at hv
  .next s hx=>cases hv;exact⟨rfl,λ_ _ _ _ _ w=>by simp[execOp,hx,Op.unary]⟩
  .cases hv
 .next op t x y u=>
  exact⟨rfl,λ_ _ _ _ _ w=>by
   have:=E6 (P:=P) (t:=t) (x:=x) (y:=y) hv w
   simp only[execOp,Sem.run_bind]at this ⊢
   simp[this]⟩
 .cases hv
theorem ND{ops:Array Oper}{l:List Oper}{s:Qs}(hs:qstepO n ops l k e=some s)(t:s.holds P b n F ds X h L):TO P b n ops l k F e ds X h L:=by
 unfold qstepO at hs
 split at hs
 .cases hs;exact aJ t
 .split at hs
  .cases hs
  .next hd=>
   split at hs
   .next hg=>cases hs;exact IU t hd hg
   .next hg=>
    split at hs
    .next v hv=>
     cases hs
     obtain⟨h1,h2⟩:=IT (P:=P) hv
     exact tV v h1 (λw _=>h2 _ _ _ _ _ w) hd hg t
    .cases hs
 .cases hs
theorem HX{s:Qs}(hs:qstepT k e=some s)(t:s.holds P b n F ds X h L):TT P b n k F e ds X h L:=by
 unfold qstepT at hs
 split at hs
 .cases hs;exact aI t
 .cases hs;exact el t
 .cases hs;exact mA t
 .cases hs;exact fe t
 .split at hs
  .next hx=>cases hs;exact md hx t
  .cases hs
 .split at hs
  .next hc=>cases hs;exact lM hc t
  .next hc=>cases hs;exact pb hc t
  .cases hs
 .cases hs;exact bE t
 .cases hs
theorem Eu:∀(m:Nat)(a:Qs){s:Qs},runQ n m a=some s->s.holds P b n F ds X h L->a.holds P b n F ds X h L
 |0,_,_,hr,t=>by cases hr;exact t
 |m+1,.tt k e,s,hr,t=>by
  unfold runQ at hr
  split at hr
  .next s' hs=>exact HX hs (Eu m s' hr t)
  .cases hr
 |m+1,.to ops l k e,s,hr,t=>by
  unfold runQ at hr
  split at hr
  .next s' hs=>exact ND hs (Eu m s' hr t)
  .cases hr
theorem qT(m:Nat){s:Qs}(hr:runQ n m (.tt k e)=some s)(t:s.holds P b n F ds X h L):TT P b n k F e ds X h L:=Eu m (.tt k e) hr t
theorem qO{ops:Array Oper}{l:List Oper}(m:Nat){s:Qs}(hr:runQ n m (.to ops l k e)=some s)(t:s.holds P b n F ds X h L):TO P b n ops l k F e ds X h L:=Eu m (.to ops l k e) hr t
end
end Go.Sg
