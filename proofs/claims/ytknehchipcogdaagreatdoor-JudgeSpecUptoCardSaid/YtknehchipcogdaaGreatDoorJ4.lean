import Derived.Test.YtknehchipcogdaaGreatDoorJ3
/- A part of the proof of JudgeSpec. -/
set_option linter.unusedVariables false
set_option linter.unusedSimpArgs false
set_option maxRecDepth 100000
open List renaming length_cons→xA,not_mem_nil→vA,length_append→kA,mem_cons_self→zB,length_nil→xB,mem_singleton→kB,mem_cons_of_mem→qC,append_assoc→zC,mem_cons→vC,nil_append→qD,mem_append→qE,range→xF,map_cons→jG,foldl_cons→zK,cons_append→jK,mem_map→qM,mem_filter→qN,mem_append_left→jN,all_eq_true→qP,mem_map_of_mem→zT,nodup_nil→XV,map_append→X3,nodup_append→Yj,filter_congr→Yk,map_nil→Zt,mem_filterMap→Z0
open Bool renaming and_eq_true→jA,or_eq_true→xC,not_eq_true'→vD,eq_iff_iff→jF,false_eq_true→kT
open Go.IntKind renaming wrap→jD
open Nat renaming le_refl→zE,zero_le→kJ,eq_of_beq_eq_true→xL,le_trans→zN,lt_or_ge→vR,beq→kV
open Go.Sg.OSeat renaming mk→Yg
open Go.Sg.Budget renaming mk→YM

namespace Go.Sg
variable {E:List aE}{a ad b bD i n o:Int}{all:List av}{c:bZ}{d:aj}{f:aj->Bool}{g:List (Int×Int)}{k:Nat}{l:List aj}{p:aw}{signed:List Int}{u:List Use}{w:List fw}{x:Budget}{α:Type}{s:List α}{y:α}
section
theorem Fl(so:Bool):∀(l:List Bool)(i:Nat),decide (gY.L1 so gY.K1 l i<0)=!(l.any λb=>b==so)
 |[],i=>rfl
 |y::l,i=>by
  have ih:=Fl so l (i+1)
  simp only[gY.L1,List.any_cons,Bool.cond_eq_ite]
  grind
theorem SX(so:Bool)(l:List Bool):decide (0<=gY l so)=l.any λb=>b==so:=by
 have h:=Fl so l 0
 have e:decide (0<=gY l so)=!(decide (gY l so<0)):=by
  grind
 rw[e]
 show(!(decide (gY.L1 so gY.K1 l 0<0)))=_
 rw[h,Bool.not_not]
theorem decide27(mode:Int)(l:List Bool):oV mode l=ip mode l:=by
 rw[MC]
 have hE:rA mode l=lq mode l:=by
  unfold rA lq
  by_cases hm:1<=mode/\mode<=4
  .have h1:(decide (mode<1)||decide (4<mode))=false:=by simp;omega
   have h2:mhas lx mode=true:=by
    have:mode=1\/mode=2\/mode=3\/mode=4:=by omega
    rcases this with rfl|rfl|rfl|rfl<;>rfl
   rw[h1,h2];rfl
  .have h1:(decide (mode<1)||decide (4<mode))=true:=by
    grind
   have h2:mhas lx mode=false:=by
    have n1:¬mode=1:=by omega
    have n2:¬mode=2:=by omega
    have n3:¬mode=3:=by omega
    have n4:¬mode=4:=by omega
    simp[mhas,lx,mput,mget?,n1,n2,n3,n4]
   rw[h1,h2];rfl
 unfold oV
 rw[hE]
 congr 1
 congr 1
 unfold rR decV
 have a1:(l.any λb=>b==true)=l.any id:=by congr 1;funext b;cases b<;>rfl
 have a2:(l.any λb=>b==false)=l.any λb=>!b:=by congr 1;funext b;cases b<;>rfl
 have f1:=Fl false l 0
 rw[show gY.L1 false gY.K1 l 0=gY l false from rfl,a2]at f1
 rw[f1,SX,a1]
 by_cases h3:mode=3
 .subst h3
  have hl:(decide (0<(l.length:Int))&&!(l.any λb=>!b))=(l.any id&&!(l.any λb=>!b)):=by
   cases l with
   |nil=>rfl
   |cons b l=>cases b<;>simp
  exact hl
 .grind
theorem has21(n:Int):∀l:List Int,lY l n=l.contains n
 |[]=>rfl
 |y::l=>by
  have ih:=has21 n l
  unfold lY at ih ⊢
  simp only[lY.L1,List.contains_cons,ih,Bool.cond_eq_ite]
  grind
theorem PM(gv:List Int)(k:Int->Bool)(b:Bool)(hk:∀g,k g=b):∀(l:List aV)(g:Int),bC.L1 gv k l g=((l.any λy=>gv.contains y.bw)||b)
 |[],g=>by simp[bC.L1,hk]
 |y::l,g=>by
  have ih:=PM gv k b hk l
  simp only[bC.L1,has21,Bool.and_true,List.any_cons]
  cases gv.contains y.bw<;>simp[ih]
theorem Db(gv:List Int)(k:Int->Bool):∀(l:List aV)(g:Int),0<=g->g+64*l.length<=1000000000000->(∀y∈l,1<=y.fD/\y.fD<=64)->bC.L3 gv k l g=k (g+wsum (l.filter λy=>gv.contains y.bw))
 |[],g,_,_,_=>by simp[bC.L3,wsum]
 |y::l,g,h0,hb,h=>by
  have hy:=h y (zB ..)
  have hl:=λz hz=>h z (qC y hz)
  rw[xA]at hb
  have e:jD .i64 (g+y.fD)=g+y.fD:=wrap64 (by omega)
  simp only[bC.L3,has21,Bool.and_false,cond_false,e,List.filter_cons]
  cases gv.contains y.bw with
  |true=>
   simp only[cond_true,if_true]
   rw[Db gv k l _ (by omega) (by omega) hl]
   grind [wsum]
  |false=>
   simp only[cond_false,kT,if_false]
   rw[Db gv k l _ h0 (by omega) hl]
theorem QQ(rec:ai->Int->List (List aV)->List Int->Bool)(v:Int)(hs:List (List aV))(w:List Int)(k:Int->Bool):∀(l:List ai)(g:Int),0<=g->g+l.length<=1000000000000->bC.L4 rec v hs w k l g=k (g+(l.countP λy=>rec y v hs w:Nat))
 |[],g,_,_=>by simp[bC.L4]
 |y::l,g,h0,hb=>by
  rw[xA]at hb
  have e:jD .i64 (g+1)=g+1:=wrap64 (by omega)
  simp only[bC.L4,e]
  rw[QQ rec v hs w k l g h0 (by omega),QQ rec v hs w k l (g+1) (by omega) (by omega),List.countP_cons]
  grind
theorem fulfil21{v:Int}{hs:List (List aV)}{w:List Int}{n:Int}(hw:∀l∈hs,∀y∈l,1<=y.fD/\y.fD<=64)(hl:∀l∈hs,l.length<=2000000):∀(m:Nat)(x:ai),x.dep<=2000000->OkX n x->bC.go m x v hs w=dM.go m ⟨v,hs,w⟩ x
 |0,x,_,_=>rfl
 |m+1,x,hd,ho=>by
  have ih:=fulfil21 (v:=v) (w:=w) (n:=n) hw hl m
  have hk:=ho.kind
  have hH:(∀y∈nthI hs x.No,1<=y.fD/\y.fD<=64)/\(nthI hs x.No).length<=2000000:=Nq (P:=λl:List aV=>(∀y∈l,1<=y.fD/\y.fD<=64)/\l.length<=2000000) (λl hl2=>⟨hw l hl2,hl l hl2⟩) ⟨(λ_ h=>(vA h).elim),kJ _⟩ x.No
  have hc:x.Kind=1\/x.Kind=2\/x.Kind=3\/x.Kind=4:=by omega
  simp only[bC.go,bC.F,dM.go,dM.F,fulQ]
  rcases hc with e|e|e|e
  .rw[e]
   simp only[beq_self_eq_true,cond_true,if_true]
   rw[PM w _ false (λg=>by simp[bC.K1,e]),Bool.or_false]
   unfold fp
   rw[Qa]
   show((nthI hs x.No).any λy=>w.contains y.bw)=fp.L1 fp.K1 ((nthI hs x.No).filter λy=>w.contains y.bw) false
   cases hf:(nthI hs x.No).filter λy=>w.contains y.bw with
   |nil=>
    rw[List.filter_eq_nil_iff]at hf
    rw[List.any_eq_false.2 hf];rfl
   |cons y l=>
    have hy:y∈(nthI hs x.No).filter λy=>w.contains y.bw:=by rw[hf];exact zB ..
    obtain⟨h1,h2⟩:=qN.1 hy
    rw[List.any_eq_true.2 ⟨y,h1,h2⟩];rfl
  .rw[e]
   have n1:((2:Int)==1)=false:=rfl
   simp only[n1,beq_self_eq_true,cond_true,cond_false,show ¬(2:Int)=1 from by decide,if_true,if_false]
   unfold dA
   rw[Qa,Db w _ _ _ (Int.le_refl _) (by omega) hH.1]
   have h1:=List.length_filter_le (λy:aV=>w.contains y.bw) (nthI hs x.No)
   rw[Lh _ _ _ (Int.le_refl _) (by show(0:Int)+64*((List.filter (λy:aV=>w.contains y.bw) (nthI hs x.No)).length:Nat)<=_;omega) λy hy=>hH.1 y (qN.1 hy).1]
   rfl
  .rw[e]
   have n1:((3:Int)==1)=false:=rfl
   have n2:((3:Int)==2)=false:=rfl
   simp only[n1,n2,beq_self_eq_true,cond_true,cond_false,show ¬(3:Int)=1 from by decide,show ¬(3:Int)=2 from by decide,if_true,if_false]
   unfold eS.F
   have hln:=ai.QC x
   rw[QQ _ _ _ _ _ _ _ (Int.le_refl _) (by omega),Up _ _ _ _ _ (Int.le_refl _) (by omega)]
   have:(x.L.countP λy=>bC.go m y v hs w)=x.L.countP (dM.go m ⟨v,hs,w⟩):=List.countP_congr λy hy=>by rw[ih y (by have:=ai.lI hy;omega) (ho.sub y hy)]
   rw[this];rfl
  .rw[e]
   have n1:((4:Int)==1)=false:=rfl
   have n2:((4:Int)==2)=false:=rfl
   have n3:((4:Int)==3)=false:=rfl
   simp only[n1,n2,n3,cond_true,cond_false,show ¬(4:Int)=1 from by decide,show ¬(4:Int)=2 from by decide,show ¬(4:Int)=3 from by decide,if_true,if_false]
   unfold ml.F
   have h2:=ho.two e
   have m0:nthI x.L 0∈x.L:=lu (by omega)
   have m1:nthI x.L 1∈x.L:=lu (by omega)
   rw[ih _ (by have:=ai.lI m0;omega) (ho.sub _ m0),ih _ (by have:=ai.lI m1;omega) (ho.sub _ m1)]
theorem C5{α : Type}(f:α->Int):∀{a b:List α},a.Pairwise (λx y=>f x<f y)->b.Pairwise (λx y=>f x<f y)->(∀x,x∈a↔x∈b)->a=b
 |[],[],_,_,_=>rfl
 |[],y::b,_,_,h=>absurd ((h y).2 (zB ..)) vA
 |x::a,[],_,_,h=>absurd ((h x).1 (zB ..)) vA
 |x::a,y::b,ha,hb,h=>by
  obtain⟨a1,a2⟩:=List.pairwise_cons.1 ha
  obtain⟨b1,b2⟩:=List.pairwise_cons.1 hb
  have e:x=y:=by
   all_goals grind
  subst e
  congr 1
  refine C5 f a2 b2 λz=>⟨λhz=>?_,λhz=>?_⟩
  all_goals grind
def lastA(t ad:Int)(s:OSeat)(acc:Option aA)(y:aA):Option aA:=
 bif(decide (y.At<=t)&&decide (y.eH<=ad))&&((y.dQ==s.aI)&&(y.bw==s.bu))then(match acc with
  |none=>some y
  |some a=>bif decide (a.At<=y.At)then some y else some a)else acc
theorem Ji(t ad:Int)(s:OSeat):∀(l:List aA)(m:List (OSeat×aA)),mget? (cY.L1 (λfX=>jW fX t ad) jU cY.K1 l m) s=l.foldl (lastA t ad s) (mget? m s)
 |[],m=>rfl
 |y::l,m=>by
  have ih:=Ji t ad s l
  simp only[cY.L1,zK]
  rw[Bool.cond_eq_ite]
  have hkey:(jW y t ad).1=Yg y.dQ y.bw:=rfl
  have hcnt:(jW y t ad).2=(decide (y.At<=t)&&decide (y.eH<=ad)):=rfl
  rw[hkey,hcnt]
  by_cases hs:s=Yg y.dQ y.bw
  .subst hs
   have e1:((y.dQ==(Yg y.dQ y.bw).aI)&&(y.bw==(Yg y.dQ y.bw).bu))=true:=by simp
   cases hc:(decide (y.At<=t)&&decide (y.eH<=ad))with
   |false=>
    rw[if_neg (by simp),ih]
    congr 1
    simp only[lastA,hc,Bool.false_and,cond_false]
   |true=>
    cases hm:mget? m (Yg y.dQ y.bw)with
    |none=>
     have h1:mhas m (Yg y.dQ y.bw)=false:=by unfold mhas;rw[hm];rfl
     rw[h1,if_pos (by simp),ih,i8,if_pos rfl]
     congr 1
     simp only[lastA,hc,e1,Bool.and_true,cond_true]
    |some a=>
     have h1:mhas m (Yg y.dQ y.bw)=true:=by unfold mhas;rw[hm];rfl
     have h2:mgetD m (Yg y.dQ y.bw) (aA.mk 0 0 0 0 0 0 false)=a:=by unfold mgetD;rw[hm];rfl
     rw[h1,h2]
     by_cases ha:a.At<=y.At
     .have h3:jU a y=false:=by simp[jU];omega
      rw[h3,if_pos (by simp),ih,i8,if_pos rfl]
      congr 1
      have:decide (a.At<=y.At)=true:=by simpa using ha
      simp only[lastA,hc,e1,Bool.and_true,cond_true,this]
     .have h3:jU a y=true:=by simp[jU];omega
      rw[h3,if_neg (by simp),ih,hm]
      congr 1
      have:decide (a.At<=y.At)=false:=by simpa using ha
      simp only[lastA,hc,e1,Bool.and_true,cond_true,this,cond_false]
  .have e1:((y.dQ==s.aI)&&(y.bw==s.bu))=false:=by
    rw[Bool.eq_false_iff]
    intro h
    simp only[jA,beq_iff_eq]at h
    exact hs (by cases s;simp only at h;rw[h.1,h.2])
   have e2:lastA t ad s (mget? m s) y=mget? m s:=by simp only[lastA,e1,Bool.and_false,cond_false]
   grind [i8]
theorem last15{L:List aA}(o p t ad:Int):∀(l pre:List aA)(g:Int)(acc:Option aA),L=pre++l->(g<0/\acc=none\/0<=g/\acc=some (nthI L g)) ->
  (dI.L1 L o p t ad dI.K1 l pre.length g<0/\l.foldl (lastA t ad ⟨o,p⟩) acc=none)\/(0<=dI.L1 L o p t ad dI.K1 l pre.length g/\l.foldl (lastA t ad ⟨o,p⟩) acc=some (nthI L (dI.L1 L o p t ad dI.K1 l pre.length g)))
 |[],pre,g,acc,_,h=>h
 |y::l,pre,g,acc,hL,h=>by
  have hx:nthI L (pre.length:Int)=y:=ky (by rw[hL];simp)
  have ih:=λ(g':Int)(acc':Option aA)=>last15 (L:=L) o p t ad l (pre++[y]) g' acc' (by rw[hL];simp)
  rw[kA,xA,xB,Nat.zero_add]at ih
  simp only[dI.L1,zK,uz]
  have ec:(((y.dQ==o)&&(y.bw==p))&&(decide (y.At<=t)&&decide (y.eH<=ad)))=((decide (y.At<=t)&&decide (y.eH<=ad))&&((y.dQ==o)&&(y.bw==p))):=Bool.and_comm _ _
  rw[ec]
  cases hc:((decide (y.At<=t)&&decide (y.eH<=ad))&&((y.dQ==o)&&(y.bw==p)))with
  |false=>
   rw[Bool.false_and,cond_false]
   have:lastA t ad ⟨o,p⟩ acc y=acc:=by simp only[lastA,hc,cond_false]
   rw[this]
   exact ih g acc h
  |true=>
   rw[Bool.true_and]
   rcases h with⟨h1,h2⟩|⟨h1,h2⟩
   .have e1:(decide (g<0)||decide ((nthI L g).At<=y.At))=true:=by simp[h1]
    rw[e1,cond_true]
    subst h2
    have:lastA t ad ⟨o,p⟩ none y=some y:=by simp only[lastA,hc,cond_true]
    rw[this]
    exact ih _ _ (.inr ⟨by omega,by rw[hx]⟩)
   .subst h2
    have e0:decide (g<0)=false:=by simp;omega
    rw[e0,Bool.false_or]
    cases ha:decide ((nthI L g).At<=y.At)with
    |true=>
     rw[cond_true]
     have:lastA t ad ⟨o,p⟩ (some (nthI L g)) y=some y:=by simp only[lastA,hc,cond_true,ha]
     rw[this]
     exact ih _ _ (.inr ⟨by omega,by rw[hx]⟩)
    |false=>
     rw[cond_false]
     have:lastA t ad ⟨o,p⟩ (some (nthI L g)) y=some (nthI L g):=by simp only[lastA,hc,cond_true,ha,cond_false]
     rw[this]
     exact ih _ _ (.inr ⟨h1,rfl⟩)
theorem FP(l:List aA)(o t ad:Int):∀(s:List Nat)(i:Nat)(g:List aV),s=List.range' i s.length->dP.L1 l o t ad dP.K1 s i g=(g++(s.filterMap λ(p:Nat)=>bif(decide (0<=dI l o (p:Int) t ad)&&!((nthI l (dI l o (p:Int) t ad)).mU))then some (aV.mk (p:Int) (nthI l (dI l o (p:Int) t ad)).fD)else none),0)
 |[],i,g,_=>by simp[dP.L1,dP.K1]
 |y::s,i,g,h=>by
  rw[xA,List.range'_succ]at h
  obtain⟨h1,h2⟩:=List.cons.inj h
  have ih:=λg=>FP l o t ad s (i+1) g h2
  simp only[dP.L1,ih,List.filterMap_cons]
  subst h1
  cases(decide (0<=dI l o (y:Int) t ad)&&!((nthI l (dI l o (y:Int) t ad)).mU))<;>simp
theorem C6(key:aA->OSeat×Bool)(later:aA->aA->Bool):∀(l:List aA)m,(m.map (·.1)).Nodup->((cY.L1 key later cY.K1 l m).map (·.1)).Nodup
 |[],m,h=>h
 |y::l,m,h=>by
  simp only[cY.L1,Bool.cond_eq_ite]
  split
  .exact C6 key later l _ (rf _ _ h)
  .exact C6 key later l _ h
theorem D3{κ α : Type}[DecidableEq κ]{x:κ}{v:α}:∀{m:List (κ×α)},mget? m x=some v->x∈m.map (·.1)
 |[],h=>by cases h
 |(k,w)::m,h=>by
  unfold mget? at h
  split at h
  .grind
  .exact qC _ (D3 h)
theorem Jh(t ad:Int)(s:OSeat):∀(l:List aA)(acc:Option aA),(∀a,acc=some a->a.dQ=s.aI/\a.bw=s.bu)->∀a,l.foldl (lastA t ad s) acc=some a->a.dQ=s.aI/\a.bw=s.bu
 |[],acc,h,a,e=>h a e
 |y::l,acc,h,a,e=>by
  refine Jh t ad s l (lastA t ad s acc y) (λb hb=>?_) a e
  unfold lastA at hb
  grind
theorem LV(t ad:Int)(s:OSeat):∀(l:List aA)(acc:Option aA)a,l.foldl (lastA t ad s) acc=some a->a∈l\/acc=some a
 |[],acc,a,e=>.inr e
 |y::l,acc,a,e=>by
  rcases LV t ad s l (lastA t ad s acc y) a e with h|h
  .exact .inl (qC _ h)
  .unfold lastA at h
   grind
theorem Te{l:List aA}(hc:du l=0){t:Int}(ho:0<=o/\o<32)(ht:0<=t/\t<1099511627776)(hk:0<=ad/\ad<1099511627776):dP l o t ad=jh l o t ad:=by
 have h1:∀x:Int,0<=x/\x<1099511627776->fQ x=true:=λx hx=>by simp only[fQ,fq,jA,decide_eq_true_eq];omega
 have h2:gl o=true:=by simp only[gl,fq,jA,decide_eq_true_eq];omega
 have r1:∀x:Int,0<=x/\x<1099511627776->mt x=true:=λx hx=>by simp only[mt,jA,decide_eq_true_eq];omega
 have r2:mO o=true:=by simp only[mO,jA,decide_eq_true_eq];omega
 have hl:∀y∈l,0<=y.bw/\y.bw<64:=by
  have h:=hc
  unfold du at h
  rw[officesP,Bool.cond_eq_ite]at h
  split at h
  .omega
  .intro y hy
   have:=(((rB (by omega) l (-1)).1 h).1 y hy).1
   unfold nV at this
   rw[Bool.cond_eq_ite]at this
   split at this<;>simp only[jA,ji,fq,decide_eq_true_eq]at this<;>omega
 unfold dP jh
 rw[←wD,hc,h1 t ht,h1 ad hk,h2,r1 t ht,r1 ad hk,r2]
 simp only[bne_self_eq_false,cond_false,Bool.not_true,Bool.or_self]
 rw[FP l o t ad (xF 64) 0 [] (by rw[List.length_range];exact List.range_eq_range'),Gm,qD]
 congr 1
 unfold nE cm cm.K1
 rw[vw]
 have hget:∀s,mget? (gj l t ad) s=l.foldl (lastA t ad s) none:=λs=>Ji t ad s l []
 have hnd:((gj l t ad).map (·.1)).Nodup:=C6 _ _ l [] XV
 generalize gj l t ad=m at *
 have hval:∀s v,mget? m s=some v->mgetD m s (aA.mk 0 0 0 0 0 0 false)=v:=λs v e=>by unfold mgetD;rw[e];rfl
 have hseat:∀s v,mget? m s=some v->(v.dQ=s.aI/\v.bw=s.bu)/\v∈l:=λs v e=>by
  grind [Jh,LV]
 have hlast:∀p:Int,(dI l o p t ad<0/\mget? m ⟨o,p⟩=none)\/(0<=dI l o p t ad/\mget? m ⟨o,p⟩=some (nthI l (dI l o p t ad))):=λp=>by
  rw[hget]
  exact last15 (L:=l) o p t ad l [] (-1) none rfl (.inl ⟨by omega,rfl⟩)
 refine C5 (λh:aV=>h.bw) ?_ ?_ λx=>?_
 .rw[List.pairwise_filterMap]
  refine List.pairwise_lt_range.imp λ{a b}hab x hx y hy=>?_
  grind
 .rw[List.pairwise_filterMap]
  have hss:=yB (aI:=o) ((pR (m.map Prod.fst)).nodup_iff.2 hnd) (yC (m.map Prod.fst))
  refine hss.imp_of_mem λ{a b}ha hb hab x hx y hy=>?_
  have hpa:∀s x,s∈(seatS (m.map Prod.fst)).filter (λy=>y.aI==o)->(bif(mgetD m s (aA.mk 0 0 0 0 0 0 false)).mU then none else some (aV.mk (mgetD m s (aA.mk 0 0 0 0 0 0 false)).bw (mgetD m s (aA.mk 0 0 0 0 0 0 false)).fD))=some x->x.bw=s.bu:=λs x hs hx=>by
   rw[Bool.cond_eq_ite]at hx
   split at hx
   .cases hx
   .obtain⟨v,hv,_⟩:=rF ((pR _).mem_iff.1 (qN.1 hs).1)
    grind
  rw[hpa a x ha hx,hpa b y hb hy];exact hab
 .rw[Z0,Z0]
  constructor
  .rintro⟨p,hp,hx⟩
   rw[Bool.cond_eq_ite]at hx
   split at hx
   .next hg=>
    simp only[jA,decide_eq_true_eq,vD]at hg
    grind [pR,D3]
   .cases hx
  .rintro⟨s,hs,hx⟩
   obtain⟨hs1,hs2⟩:=qN.1 hs
   obtain⟨v,hv,_⟩:=rF ((pR _).mem_iff.1 hs1)
   have ho2:s.aI=o:=by simpa using hs2
   obtain⟨⟨g1,g2⟩,g3⟩:=hseat s v hv
   have hb:=hl v g3
   rw[hval s v hv,Bool.cond_eq_ite]at hx
   split at hx
   .cases hx
   .next hg=>
    have es:s=⟨o,v.bw⟩:=by cases s;simp only at ho2 g2;rw[ho2,g2]
    refine⟨v.bw.toNat,by rw[List.mem_range];omega,?_⟩
    grind
def lastV(t ad:Int)(acc:Option aC)(y:aC):Option aC:=
 bif decide (y.At<=t)&&decide (y.eH<=ad)then(match acc with
  |none=>some y
  |some a=>bif decide (a.At<=y.At)then some y else some a)else acc
def FV(t ad:Int)(l:List aC):Option aC:=l.foldl (lastV t ad) none
theorem wN(t ad:Int)(l:List aC)(y:aC):FV t ad (l++[y])=lastV t ad (FV t ad l) y:=by simp[FV,List.foldl_append]
theorem force20{L:List aC}(t ad:Int):∀(l pre:List aC)(g:Int)(acc:Option aC),L=pre++l->(g<0/\acc=none\/0<=g/\acc=some (nthI L g)) ->
  (cn.L1 L t ad cn.K1 l pre.length g<0/\l.foldl (lastV t ad) acc=none)\/(0<=cn.L1 L t ad cn.K1 l pre.length g/\l.foldl (lastV t ad) acc=some (nthI L (cn.L1 L t ad cn.K1 l pre.length g)))
 |[],pre,g,acc,_,h=>h
 |y::l,pre,g,acc,hL,h=>by
  have hx:nthI L (pre.length:Int)=y:=ky (by rw[hL];simp)
  have ih:=λ(g':Int)(acc':Option aC)=>force20 (L:=L) t ad l (pre++[y]) g' acc' (by rw[hL];simp)
  rw[kA,xA,xB,Nat.zero_add]at ih
  simp only[cn.L1,zK]
  cases hc:(decide (y.At<=t)&&decide (y.eH<=ad))with
  |false=>
   rw[Bool.false_and,cond_false]
   have:lastV t ad acc y=acc:=by simp only[lastV,hc,cond_false]
   rw[this]
   exact ih g acc h
  |true=>
   rw[Bool.true_and]
   rcases h with⟨h1,h2⟩|⟨h1,h2⟩
   .have e1:(decide (g<0)||decide ((nthI L g).At<=y.At))=true:=by simp[h1]
    rw[e1,cond_true]
    subst h2
    have:lastV t ad none y=some y:=by simp only[lastV,hc,cond_true]
    grind
   .subst h2
    have e0:decide (g<0)=false:=by simp;omega
    rw[e0,Bool.false_or]
    cases ha:decide ((nthI L g).At<=y.At)with
    |true=>
     rw[cond_true]
     have:lastV t ad (some (nthI L g)) y=some y:=by simp only[lastV,hc,cond_true,ha]
     grind
    |false=>
     rw[cond_false]
     have:lastV t ad (some (nthI L g)) y=some (nthI L g):=by simp only[lastV,hc,cond_true,ha,cond_false]
     rw[this]
     exact ih _ _ (.inr ⟨h1,rfl⟩)
theorem PN(l:List aC)(t ad:Int):(cn l t ad<0/\FV t ad l=none)\/(0<=cn l t ad/\FV t ad l=some (nthI l (cn l t ad))):=
 force20 (L:=l) t ad l [] (-1) none rfl (.inl ⟨by omega,rfl⟩)
theorem qX(t ad:Int):∀(l:List aC)(acc:Option aC)(v:aC),(∀a,acc=some a->a.At<=t)->l.foldl (lastV t ad) acc=some v ->
  (v∈l/\v.eH<=ad\/acc=some v)/\v.At<=t/\(∀y∈l,y.At<=t->y.eH<=ad->y.At<=v.At)/\∀a,acc=some a->a.At<=v.At
 |[],acc,v,h0,h=>⟨.inr h,h0 v h,λ_ hy=>(vA hy).elim,λa ha=>by have h2:acc=some v:=h;rw[h2]at ha;rw[Option.some.inj ha];exact Int.le_refl _⟩
 |y::l,acc,v,h0,h=>by
  rw[zK]at h
  cases hc:(decide (y.At<=t)&&decide (y.eH<=ad))with
  |false=>
   have e:lastV t ad acc y=acc:=by simp only[lastV,hc,cond_false]
   rw[e]at h
   obtain⟨h1,h2,h3,h4⟩:=qX t ad l acc v h0 h
   grind
  |true=>
   have hc2:=hc
   simp only[jA,decide_eq_true_eq]at hc2
   have step:∀w,lastV t ad acc y=some w->((w=y/\∀a,acc=some a->a.At<=y.At)\/(acc=some w/\y.At<=w.At)):=λw hw=>by
    simp only[lastV,hc,cond_true]at hw
    cases acc with
    |none=>exact .inl ⟨(Option.some.inj hw).symm,λa ha=>by cases ha⟩
    |some a=>
     grind
   have hn:∃w,lastV t ad acc y=some w:=by
    simp only[lastV,hc,cond_true]
    cases acc with
    |none=>exact⟨_,rfl⟩
    |some a=>dsimp only;cases decide (a.At<=y.At)<;>exact⟨_,rfl⟩
   obtain⟨w,hw⟩:=hn
   have hwt:w.At<=t:=by
    grind
   obtain⟨h1,h2,h3,h4⟩:=qX t ad l (lastV t ad acc y) v (λa ha=>by rw[hw]at ha;rw[←Option.some.inj ha];exact hwt) h
   grind
theorem N6(t ad:Int):∀(l:List aC)(acc:Option aC),l.foldl (lastV t ad) acc=none->acc=none/\∀y∈l,¬(y.At<=t/\y.eH<=ad)
 |[],acc,h=>⟨h,λ_ hy=>(vA hy).elim⟩
 |y::l,acc,h=>by
  rw[zK]at h
  obtain⟨h1,h2⟩:=N6 t ad l _ h
  cases hc:(decide (y.At<=t)&&decide (y.eH<=ad))with
  |false=>
   simp only[lastV,hc,cond_false]at h1
   grind
  |true=>
   exfalso
   simp only[lastV,hc,cond_true]at h1
   grind
theorem Vu{P:List α->Prop}(h0:P [])(h1:∀l x,P l->P (l++[x]))(l:List α):P l:=by
 have:∀m:List α,P m.reverse:=by
  intro m
  induction m with
  |nil=>exact h0
  |cons x m ih=>rw[List.reverse_cons];exact h1 _ _ ih
 have h:=this l.reverse
 rw[List.reverse_reverse]at h
 exact h
theorem Hy{s t:Int}(hst:s<=t):∀(l:List aC)(v:aC),FV t ad l=some v->v.At<=s->FV s ad l=some v:=by
 intro l
 refine Vu (P:=λl=>∀v:aC,FV t ad l=some v->v.At<=s->FV s ad l=some v) ?_ ?_ l
 .intro v h _;cases h
 .intro l y ih v h hv
  rw[wN]at h ⊢
  cases hc:(decide (y.At<=t)&&decide (y.eH<=ad))with
  |false=>
   have h1:FV t ad l=some v:=by simpa only[lastV,hc,cond_false]using h
   grind [lastV]
  |true=>
   simp only[lastV,hc,cond_true]at h
   simp only[jA,decide_eq_true_eq]at hc
   cases hF:FV t ad l with
   |none=>
    rw[hF]at h
    have e:y=v:=Option.some.inj h
    subst e
    have:FV s ad l=none:=by
     cases hF2:FV s ad l with
     |none=>rfl
     |some w=>
      have h3:=qX s ad l none w (λ_ h=>by cases h) hF2
      have h4:=(N6 t ad l none hF).2 w ((h3.1.resolve_right (by simp)).1)
      grind
    rw[this]
    have:(decide (y.At<=s)&&decide (y.eH<=ad))=true:=by simp[hv,hc.2]
    simp only[lastV,this,cond_true]
   |some a=>
    rw[hF]at h
    simp only[Bool.cond_eq_ite,decide_eq_true_eq]at h
    split at h
    .next q=>
     have e:y=v:=Option.some.inj h
     subst e
     have hd:(decide (y.At<=s)&&decide (y.eH<=ad))=true:=by simp[hv,hc.2]
     cases hF2:FV s ad l with
     |none=>simp only[lastV,hd,cond_true]
     |some w=>
      have h3:=qX s ad l none w (λ_ h=>by cases h) hF2
      have h4:=qX t ad l none a (λ_ h=>by cases h) hF
      have h5:=h4.2.2.1 w ((h3.1.resolve_right (by simp)).1) (by omega) ((h3.1.resolve_right (by simp)).2)
      have:decide (w.At<=y.At)=true:=by simp;omega
      simp only[lastV,hd,cond_true,this]
    .next q=>
     have e:a=v:=Option.some.inj h
     subst e
     have h2:=ih a hF hv
     rw[h2]
     unfold lastV
     grind
structure V9(f ad:Int)(pre:List aC)(b:Int)(m:List (Int×aC)):Prop where
 at_:∀a,FV f ad pre=some a->b=a.At
 no:FV f ad pre=none->b=-1
 beg:mget? m f=FV f ad pre
 has:∀t,f<t->(t∈m.map (·.1)↔∃y∈pre,y.At=t/\y.eH<=ad)
 get:∀t,f<t->t∈m.map (·.1)->∃v,mget? m t=some v/\FV t ad pre=some v/\v.At=t
 low:∀t,t∈m.map (·.1)->f<=t
theorem Ux{f:Int}{l pre:List aC}{m:List (Int×aC)}(hpos:∀y∈pre++l,0<=y.At)(h:V9 f ad pre b m):∃b',V9 f ad (pre++l) b' (inForceM ad f l b m):=by
 induction l generalizing pre b m with
 |nil=>rw[List.append_nil];exact⟨b,h⟩
 |cons y l ih=>
  have hy0:=hpos y (by simp)
  have hap:pre++y::l=(pre++[y])++l:=by simp
  rw[hap]at hpos ⊢
  simp only[inForceM,Bool.cond_eq_ite,decide_eq_true_eq]
  split
  .next hk=>
   have hL:∀t,FV t ad (pre++[y])=FV t ad pre:=λt=>by
    rw[wN]
    have:(decide (y.At<=t)&&decide (y.eH<=ad))=false:=by simp;omega
    simp only[lastV,this,cond_false]
   refine ih hpos ⟨by rw[hL];exact h.at_,by rw[hL];exact h.no,by rw[hL];exact h.beg,λt ht=>?_,λt ht hm=>by rw[hL];exact h.get t ht hm,h.low⟩
   rw[h.has t ht]
   grind
  .next hk=>
   split
   .next ha=>
    have hcf:(decide (y.At<=f)&&decide (y.eH<=ad))=true:=by simp;omega
    have hup:∀t,f<t->(∃v,FV t ad pre=some v/\v.At=t)->FV t ad (pre++[y])=FV t ad pre:=λt ht⟨v,hv,hvt⟩=>by
     rw[wN,hv]
     have hc:(decide (y.At<=t)&&decide (y.eH<=ad))=true:=by simp;omega
     have hd:decide (v.At<=y.At)=false:=by simp;omega
     simp only[lastV,hc,cond_true,hd,cond_false]
    have hhas:∀t,f<t->((∃z∈pre,z.At=t/\z.eH<=ad)↔∃z∈pre++[y],z.At=t/\z.eH<=ad):=λt ht=>by
     grind
    split
    .next hb=>
     have hF:∃a,FV f ad pre=some a:=by
      cases hf:FV f ad pre with
      |none=>have:=h.no hf;omega
      |some a=>exact⟨a,rfl⟩
     obtain⟨a,hf⟩:=hF
     have hba:=h.at_ a hf
     have hL:FV f ad (pre++[y])=FV f ad pre:=by
      rw[wN,hf]
      have hd:decide (a.At<=y.At)=false:=by simp;omega
      simp only[lastV,hcf,cond_true,hd,cond_false]
     refine ih hpos ⟨by rw[hL];exact h.at_,by rw[hL];exact h.no,by rw[hL];exact h.beg,λt ht=>(h.has t ht).trans (hhas t ht),λt ht hm=>?_,h.low⟩
     obtain⟨v,g1,g2,g3⟩:=h.get t ht hm
     grind
    .next hb=>
     have hL:FV f ad (pre++[y])=some y:=by
      rw[wN]
      cases hf:FV f ad pre with
      |none=>simp only[lastV,hcf,cond_true]
      |some a=>
       have:=h.at_ a hf
       have hd:decide (a.At<=y.At)=true:=by simp;omega
       simp only[lastV,hcf,cond_true,hd]
     refine ih hpos ⟨λa e=>by rw[hL]at e;rw[←Option.some.inj e],λe=>(by rw[hL]at e;cases e),by rw[hL,i8,if_pos rfl],λt ht=>?_,λt ht hm=>?_,λt hm=>?_⟩
     .rw[rE,←hhas t ht,←h.has t ht]
      grind
     .have hm2:=((rE _ _ _ _).1 hm).resolve_left (by omega)
      obtain⟨v,g1,g2,g3⟩:=h.get t ht hm2
      grind [i8]
     .rcases(rE _ _ _ _).1 hm with e|e
      .omega
      .exact h.low t e
   .next ha=>
    have hLf:FV f ad (pre++[y])=FV f ad pre:=by
     rw[wN]
     have:(decide (y.At<=f)&&decide (y.eH<=ad))=false:=by simp;omega
     simp only[lastV,this,cond_false]
    refine ih hpos ⟨by rw[hLf];exact h.at_,by rw[hLf];exact h.no,by rw[hLf,i8,if_neg (by omega)];exact h.beg,λt ht=>?_,λt ht hm=>?_,λt hm=>?_⟩
    .rw[rE,h.has t ht]
     grind
    .by_cases e:t=y.At
     .subst e
      refine⟨y,by rw[i8,if_pos rfl],?_,rfl⟩
      rw[wN]
      have hc:(decide (y.At<=y.At)&&decide (y.eH<=ad))=true:=by simp;omega
      cases hF:FV y.At ad pre with
      |none=>simp only[lastV,hc,cond_true]
      |some a=>
       have:=(qX y.At ad pre none a (λ_ h=>by cases h) hF).2.1
       have hd:decide (a.At<=y.At)=true:=by simpa using this
       simp only[lastV,hc,cond_true,hd]
     .have hm2:=((rE _ _ _ _).1 hm).resolve_left e
      obtain⟨v,g1,g2,g3⟩:=h.get t ht hm2
      refine⟨v,by rw[i8,if_neg e];exact g1,?_,g3⟩
      rw[wN,g2]
      unfold lastV
      cases hc:(decide (y.At<=t)&&decide (y.eH<=ad))with
      |false=>rfl
      |true=>
       grind
    .rcases(rE _ _ _ _).1 hm with e|e
     .omega
     .exact h.low t e
theorem VL{f:Int}{l:List aC}(hpos:∀y∈l,0<=y.At):∃b,V9 f ad l b (inForceM ad f l (-1) []):=by
 have h0:V9 f ad [] (-1) []:=⟨(λa h=>by cases h),λ_=>rfl,rfl,(λt _=>by simp),(λt _ h=>(vA h).elim),λt h=>(vA h).elim⟩
 obtain⟨b,h⟩:=Ux (l:=l) (pre:=[]) (by simpa using hpos) h0
 exact⟨b,by simpa using h⟩
theorem Uk(W:List Int)(n:Int):∀(l pre:List Int),W=pre++l->(∀x∈pre,x<n)->W.Pairwise (·<·) ->
  (gG.L1 n (gG.K1 W n) l pre.length).Pairwise (·<·)/\∀x,x∈gG.L1 n (gG.K1 W n) l pre.length↔x=n\/x∈W:=by
 have hK:∀(l pre:List Int),W=pre++l->(∀x∈pre,x<n)->(∀x∈l,n<=x)->W.Pairwise (·<·)->(gG.K1 W n pre.length).Pairwise (·<·)/\∀x,x∈gG.K1 W n pre.length↔x=n\/x∈W:=by
  intro l pre h hp hl hW
  unfold gG.K1
  rw[show(((pre.length:Int):Int)).toNat=pre.length from by omega]
  rw[Bool.cond_eq_ite]
  split
  .next hc=>
   simp only[jA,decide_eq_true_eq,beq_iff_eq]at hc
   grind [lu]
  .next hc=>
   have hnl:∀x∈l,n<x:=by
    intro x hx
    cases l with
    |nil=>cases hx
    |cons y l=>
     have hy:nthI W (pre.length:Int)=y:=ky (by rw[h];simp)
     rw[hy]at hc
     have hlen:(pre.length:Int)<(W.length:Int):=by rw[h];simp;omega
     have hne:y≠n:=λe=>hc (by simp[hlen,e])
     have hy2:=hl y (zB ..)
     rw[h,List.pairwise_append]at hW
     rcases vC.1 hx with rfl|hx
     .omega
     .have:=(List.pairwise_cons.1 hW.2.1).1 x hx;omega
   grind
 intro l
 induction l with
 |nil=>intro pre h hp hW;exact hK [] pre h hp (λ_ h=>(vA h).elim) hW
 |cons y l ih=>
  intro pre h hp hW
  simp only[gG.L1,Bool.cond_eq_ite,decide_eq_true_eq]
  split
  .next hy=>
   have:=ih (pre++[y]) (by rw[h];simp) (λx hx=>by
    rcases qE.1 hx with hx|hx
    .exact hp x hx
    .rw[kB.1 hx];exact hy) hW
   rw[kA,xA,xB,Nat.zero_add]at this
   exact this
  .next hy=>
   refine hK (y::l) pre h hp (λx hx=>?_) hW
   rw[h,List.pairwise_append]at hW
   rcases vC.1 hx with rfl|hx
   .omega
   .have:=(List.pairwise_cons.1 hW.2.1).1 x hx;omega
theorem put27{l:List Int}(n:Int)(h:l.Pairwise (·<·)):(gG l n).Pairwise (·<·)/\∀x,x∈gG l n↔x=n\/x∈l:=Uk l n l [] rfl (λ_ h=>(vA h).elim) h
theorem between27(l:List aC)(aW at_ ad:Int):(dk l aW at_ ad).Pairwise (·<·)/\∀n,n∈dk l aW at_ ad↔(∃v,FV aW ad l=some v/\v.No=n)\/∃y∈l,(aW<y.At/\y.At<=at_)/\∃v,FV y.At ad l=some v/\v.No=n:=by
 have hF:∀t,decide (0<=cn l t ad)=(FV t ad l).isSome/\∀v,FV t ad l=some v->nthI l (cn l t ad)=v:=λt=>by
  rcases PN l t ad with⟨h1,h2⟩|⟨h1,h2⟩
  all_goals grind
 have step:∀(s:List aC)(g:List Int),g.Pairwise (·<·)->(dk.L1 l aW at_ ad dk.K1 s g).Pairwise (·<·)/\∀n,n∈dk.L1 l aW at_ ad dk.K1 s g↔n∈g\/∃y∈s,(aW<y.At/\y.At<=at_)/\∃v,FV y.At ad l=some v/\v.No=n:=by
  intro s
  induction s with
  |nil=>intro g hg;exact⟨hg,λn=>by simp[dk.L1,dk.K1]⟩
  |cons y s ih=>
   intro g hg
   simp only[dk.L1]
   rw[(hF y.At).1]
   cases hc:((decide (aW<y.At)&&decide (y.At<=at_))&&(FV y.At ad l).isSome)with
   |true=>
    rw[cond_true]
    simp only[jA,decide_eq_true_eq]at hc
    obtain⟨v,hv⟩:=Option.isSome_iff_exists.1 hc.2
    rw[(hF y.At).2 v hv]
    obtain⟨p1,p2⟩:=put27 v.No hg
    all_goals grind
   |false=>
    all_goals grind
 have same:∀(s:List aC)(g:List Int),dk.L2 l aW at_ ad dk.K2 s g=dk.L1 l aW at_ ad dk.K1 s g:=by
  intro s
  induction s with
  |nil=>intro g;rfl
  |cons y s ih=>intro g;simp only[dk.L2,dk.L1,ih]
 unfold dk
 rw[(hF aW).1]
 cases hb:FV aW ad l with
 |none=>
  rw[Option.isSome_none,cond_false,same]
  obtain⟨q1,q2⟩:=step l [] List.Pairwise.nil
  exact⟨q1,λn=>by rw[q2];simp⟩
 |some v=>
  rw[Option.isSome_some,cond_true,(hF aW).2 v hb]
  obtain⟨p1,p2⟩:=put27 v.No (l:=[]) List.Pairwise.nil
  all_goals grind
theorem CA(aW at_:Int)(k:Bool->List aC->List Int×Int×Int):∀(l:List (Int×aC))b g,l.Pairwise (λp q=>p.1<q.1)->aN.L1 aW at_ k l b g=k (b||(l.filter λp=>decide (p.1<=at_)).any λp=>p.1==aW) (g++(l.filter λp=>decide (p.1<=at_)).map (·.2))
 |[],b,g,_=>by simp[aN.L1]
 |y::l,b,g,h=>by
  obtain⟨h1,h2⟩:=List.pairwise_cons.1 h
  simp only[aN.L1,Bool.cond_eq_ite,decide_eq_true_eq]
  split
  .next hy=>
   have:((y::l).filter λp=>decide (p.1<=at_))=[]:=by
    rw[List.filter_eq_nil_iff]
    grind
   rw[this];simp
  .next hy=>
   rw[CA aW at_ k l _ _ h2,List.filter_cons,if_pos (by simp;omega)]
   simp[Bool.or_assoc]
theorem Qd{l:List aC}(g:Kl l)(hr:dE l=0){aW at_:Int}(hb:0<=aW/\aW<1099511627776)(ht:0<=at_/\at_<1099511627776)(hk:0<=ad/\ad<1099511627776)(eT:aW<=at_):fY l aW at_ ad=aN l aW at_ ad:=by
 have hj:=BZ g (aW:=aW) (at_:=at_) (ad:=ad) hb ht hk eT
 have h0:bE l=0:=(rI l).2 g
 have h1:∀x:Int,0<=x/\x<1099511627776->io x=true:=λx hx=>by simp[io,hx]
 have r1:∀x:Int,0<=x/\x<1099511627776->nq x=true:=λx hx=>by simp[nq,hx]
 have h2:decide (at_<aW)=false:=by simp;omega
 have hF:∀t,decide (cn l t ad<0)=(FV t ad l).isNone/\∀v,FV t ad l=some v->nthI l (cn l t ad)=v:=λt=>by
  all_goals grind [PN]
 obtain⟨b0,inv⟩:=VL (f:=aW) (ad:=ad) (l:=l) λy hy=>(g.each y hy).1.1
 have hnd:((inForceM ad aW l (-1) []).map (·.1)).Nodup:=ov ad aW l (-1) [] XV
 have hP:aN l aW at_ ad=aN.L1 aW at_ aN.K1 (gh l aW ad) false []:=by
  unfold aN
  rw[h0,h1 _ hb,h1 _ ht,h1 _ hk,h2];rfl
 have hP2:=CA aW at_ aN.K1 (gh l aW ad) false [] (D6 l aW ad)
 rw[Bool.false_or,qD]at hP2
 have hE:=yS l aW ad
 generalize inForceM ad aW l (-1) []=m at inv hnd hE
 have hent:(gh l aW ad).filter (λp=>decide (p.1<=at_))=((sortI (m.map Prod.fst)).filter λk=>decide (k<=at_)).map λy=>(y,mgetD m y (aC.mk 0 0 0 (aw.mk (⟨#[]⟩:ByteArray) [] [] [] (ai.mk 0 0 0 (⟨#[]⟩:ByteArray) []) 0))):=by
  rw[hE,List.filter_map];rfl
 generalize hks:(sortI (m.map Prod.fst)).filter (λk=>decide (k<=at_))=ks at hent
 have kin:∀t,t∈ks↔t∈m.map (·.1)/\t<=at_:=λt=>by
  rw[←hks,qN,(m7 _).mem_iff];simp
 have krise:ks.Pairwise (·<·):=by
  rw[←hks];exact(EJ (oJ _) ((m7 _).nodup_iff.2 hnd)).sublist (List.filter_sublist ..)
 rw[hent]at hP2
 generalize hz:(aC.mk 0 0 0 (aw.mk (⟨#[]⟩:ByteArray) [] [] [] (ai.mk 0 0 0 (⟨#[]⟩:ByteArray) []) 0))=z at hP2 hent
 have kval:∀t∈ks,∃v,mgetD m t z=v/\FV t ad l=some v/\(t=aW\/aW<t/\v.At=t):=λt h=>by
  obtain⟨q1,q2⟩:=(kin t).1 h
  have q3:=inv.low t q1
  by_cases e:t=aW
  .subst e
   obtain⟨v,hv,_⟩:=rF q1
   exact⟨v,by unfold mgetD;rw[hv];rfl,by rw[←inv.beg];exact hv,.inl rfl⟩
  .obtain⟨v,a1,a2,a3⟩:=inv.get t (by omega) q1
   exact⟨v,by unfold mgetD;rw[a1];rfl,a2,.inr ⟨by omega,a3⟩⟩
 have hany:((ks.map λy=>(y,mgetD m y z)).any λp=>p.1==aW)=ks.contains aW:=by
  rw[List.any_map,jF,List.any_eq_true,List.contains_iff_mem]
  constructor
  .rintro⟨x,hx,e⟩;rw[show aW=x from(by simpa using e:x=aW).symm];exact hx
  .intro h;exact⟨aW,h,by simp⟩
 have hmet:(ks.map λy=>(y,mgetD m y z)).map (·.2)=ks.map λy=>mgetD m y z:=by rw[List.map_map];rfl
 rw[hany,hmet]at hP2
 have hbeg:ks.contains aW=(FV aW ad l).isSome:=by
  rw[jF,List.contains_iff_mem,kin]
  constructor
  .rintro⟨q,_⟩
   obtain⟨v,hv,_⟩:=rF q
   rw[inv.beg]at hv;rw[hv];rfl
  .intro h
   obtain⟨v,hv⟩:=Option.isSome_iff_exists.1 h
   exact⟨D3 (by rw[inv.beg];exact hv),eT⟩
 have hR:fY l aW at_ ad=(bif(FV at_ ad l).isNone then([],0,0)else(bif((nthI l (cn l at_ ad)).aw.Mode==1)then(bif(FV aW ad l).isNone then([],(nthI l (cn l at_ ad)).aw.Mode,0)else([(nthI l (cn l aW ad)).No],(nthI l (cn l at_ ad)).aw.Mode,0))else(bif((nthI l (cn l at_ ad)).aw.Mode==2)then([(nthI l (cn l at_ ad)).No],(nthI l (cn l at_ ad)).aw.Mode,0)else((dk l aW at_ ad),(nthI l (cn l at_ ad)).aw.Mode,0)))):=by
  unfold fY
  rw[hr,r1 _ hb,r1 _ ht,r1 _ hk,h2,(hF at_).1,(hF aW).1];rfl
 rw[hR,hP,hP2]
 rw[hP,hP2]at hj
 cases hw:FV at_ ad l with
 |none=>
  have hno:ks=[]:=by
   cases hks2:ks with
   |nil=>rfl
   |cons t ts=>
    exfalso
    have hmem:t∈ks:=by rw[hks2];exact zB ..
    obtain⟨v,_,hv,_⟩:=kval t hmem
    have f1:=qX t ad l none v (λ_ h=>by cases h) hv
    have f2:=f1.1.resolve_right (by simp)
    exact(N6 at_ ad l none hw).2 v f2.1 ⟨by have:=((kin t).1 hmem).2;omega,f2.2⟩
  rw[hno];rfl
 |some w=>
  rw[Option.isNone_some,cond_false,(hF at_).2 w hw]
  have f1:=qX at_ ad l none w (λ_ h=>by cases h) hw
  have f2:=f1.1.resolve_right (by simp)
  have hlast:∃κ,κ∈ks/\mgetD m κ z=w/\∀t∈ks,t<=κ:=by
   by_cases hwb:w.At<=aW
   .have hfb:=Hy eT l w hw hwb
    have hm:aW∈ks:=(kin aW).2 ⟨D3 (by rw[inv.beg];exact hfb),eT⟩
    refine⟨aW,hm,?_,λt h=>?_⟩
    .obtain⟨v,a1,a2,_⟩:=kval aW hm
     rw[hfb]at a2;rw[a1];exact(Option.some.inj a2).symm
    .obtain⟨v,_,a2,a3⟩:=kval t h
     rcases a3 with e|⟨q1,q2⟩
     .omega
     .have g1:=qX t ad l none v (λ_ h=>by cases h) a2
      have g2:=g1.1.resolve_right (by simp)
      have:=f1.2.2.1 v g2.1 (by have:=((kin t).1 h).2;omega) g2.2
      omega
   .have hm:w.At∈ks:=(kin w.At).2 ⟨(inv.has w.At (by omega)).2 ⟨w,f2.1,rfl,f2.2⟩,f1.2.1⟩
    have hfw:=Hy (s:=w.At) f1.2.1 l w hw (Int.le_refl _)
    refine⟨w.At,hm,?_,λt h=>?_⟩
    .obtain⟨v,a1,a2,_⟩:=kval w.At hm
     rw[hfw]at a2;rw[a1];exact(Option.some.inj a2).symm
    .obtain⟨v,_,a2,a3⟩:=kval t h
     rcases a3 with e|⟨q1,q2⟩
     .omega
     .have g1:=qX t ad l none v (λ_ h=>by cases h) a2
      have g2:=g1.1.resolve_right (by simp)
      have:=f1.2.2.1 v g2.1 (by have:=((kin t).1 h).2;omega) g2.2
      omega
  obtain⟨κ,k1,k2,k3⟩:=hlast
  obtain⟨init,hinit⟩:∃init,ks=init++[κ]:=by
   rcases List.eq_nil_or_concat ks with e|⟨a,x,e⟩
   .rw[e]at k1;cases k1
   .rw[List.concat_eq_append]at e
    refine⟨a,?_⟩
    have hx:x=κ:=by
     rw[e]at k1 krise
     rcases qE.1 k1 with h|h
     .have q1:=(List.pairwise_append.1 krise).2.2 κ h x (by simp)
      have q2:=k3 x (by rw[e];simp)
      omega
     .exact(kB.1 h).symm
    rw[e,hx]
  have hlen:((ks.map λy=>mgetD m y z).length:Int)-1=(init.length:Int):=by rw[hinit];simp
  have hnth:nthI (ks.map λy=>mgetD m y z) (((ks.map λy=>mgetD m y z).length:Int)-1)=w:=by
   rw[hlen];exact ky (by rw[hinit];simp[k2])
  have hne:(((ks.map λy=>mgetD m y z).length:Int)==0)=false:=by rw[hinit];simp;omega
  have hmode:=g.mode f2.1
  unfold aN.K1 at hj ⊢
  rw[hne,hnth]at hj ⊢
  simp only[cond_false,Ca,aN.K2,qD]at hj ⊢
  rw[hnth]at hj ⊢
  rw[hbeg]at hj ⊢
  have hmm:w.aw.Mode=1\/w.aw.Mode=2\/w.aw.Mode=3\/w.aw.Mode=4:=by omega
  rcases hmm with e|e|e
  .rw[e]
   have:judgesP 1=kb:=rfl
   rw[this]
   unfold kb
   cases hfb:FV aW ad l with
   |none=>rfl
   |some a=>
    have hbm:aW∈ks:=by rw[←List.contains_iff_mem,hbeg,hfb];rfl
    obtain⟨t0,ts,hts⟩:∃t0 ts,ks=t0::ts:=by cases ks with
     |nil=>cases hbm
     |cons t0 ts=>exact⟨t0,ts,rfl⟩
    have ht0:t0=aW:=by
     have q1:=inv.low t0 ((kin t0).1 (by rw[hts];exact zB ..)).1
     rw[hts]at hbm krise
     rcases vC.1 hbm with q|q
     .exact q.symm
     .have:=(List.pairwise_cons.1 krise).1 aW q;omega
    obtain⟨v,a1,a2,_⟩:=kval aW hbm
    rw[hfb]at a2
    rw[(hF aW).2 a hfb,hts,ht0,jG,a1,←Option.some.inj a2]
    rfl
  .rw[e]
   have:judgesP 2=jp:=rfl
   rw[this]
   unfold jp
   rw[show(((((ks.map λy=>mgetD m y z).length:Int)-1):Int)).toNat=init.length from by rw[hlen];omega,hinit,X3,List.drop_left' (by simp)]
   simp only[jG,Zt,k2]
   rfl
  .have hP3:judgesP w.aw.Mode=kc:=by rcases e with e|e<;>rw[e]<;>rfl
   have n1:(w.aw.Mode==1)=false:=by rcases e with e|e<;>rw[e]<;>rfl
   have n2:(w.aw.Mode==2)=false:=by rcases e with e|e<;>rw[e]<;>rfl
   rw[hP3]at hj ⊢
   rw[n1,n2]
   simp only[cond_false]
   unfold kc at hj ⊢
   congr 1
   obtain⟨b1,b2⟩:=between27 l aW at_ ad
   refine C5 (λx:Int=>x) b1 hj.rise λn=>?_
   rw[b2,(m7 _).mem_iff]
   simp only[qM]
   constructor
   .rintro(⟨v,hv,hn⟩|⟨y,hy,⟨y1,y2⟩,v,hv,hn⟩)
    .have hbm:aW∈ks:=by rw[←List.contains_iff_mem,hbeg,hv];rfl
     obtain⟨u,a1,a2,_⟩:=kval aW hbm
     rw[hv]at a2
     exact⟨u,⟨aW,hbm,a1⟩,by rw[←Option.some.inj a2];exact hn⟩
    .have g1:=qX y.At ad l none v (λ_ h=>by cases h) hv
     have g2:=g1.1.resolve_right (by simp)
     by_cases hvb:v.At<=aW
     .have hfb:=Hy (s:=aW) (by omega) l v hv hvb
      have hbm:aW∈ks:=by rw[←List.contains_iff_mem,hbeg,hfb];rfl
      obtain⟨u,a1,a2,_⟩:=kval aW hbm
      rw[hfb]at a2
      exact⟨u,⟨aW,hbm,a1⟩,by rw[←Option.some.inj a2];exact hn⟩
     .have hm:v.At∈ks:=(kin v.At).2 ⟨(inv.has v.At (by omega)).2 ⟨v,g2.1,rfl,g2.2⟩,by have:=g1.2.1;omega⟩
      have hfv:=Hy (s:=v.At) g1.2.1 l v hv (Int.le_refl _)
      obtain⟨u,a1,a2,_⟩:=kval v.At hm
      rw[hfv]at a2
      exact⟨u,⟨v.At,hm,a1⟩,by rw[←Option.some.inj a2];exact hn⟩
   .rintro⟨u,⟨t,htk,hu⟩,hn⟩
    obtain⟨v,a1,a2,a3⟩:=kval t htk
    have huv:u=v:=hu.symm.trans a1
    rw[huv]at hn
    rcases a3 with q|⟨q1,q2⟩
    .subst q;exact .inl ⟨v,a2,hn⟩
    .have g1:=qX t ad l none v (λ_ h=>by cases h) a2
     have g2:=g1.1.resolve_right (by simp)
     exact .inr ⟨v,g2.1,⟨by omega,by have:=((kin t).1 htk).2;omega⟩,v,by rw[q2];exact a2,hn⟩
theorem VI(s:ByteArray):kx s=hY s:=by
 rw[jF]
 refine⟨RN,λh=>?_⟩
 unfold hY at h
 unfold kx
 rw[Eu,Nr]at h
 rw[Bool.cond_eq_ite]at h ⊢
 split at h
 .cases h
 .next hc=>
  simp only[xC,not_or,decide_eq_true_eq,Bool.not_eq_true]at hc
  obtain⟨⟨h1,h2⟩,h3⟩:=hc
  have hs:¬((s.size:Int)<1):=λhlt=>by
   have h9:=yx s
   have:s.toList=[]:=List.length_eq_zero_iff.1 (by omega)
   rw[this]at h1
   have e2:(⟨#[]⟩:ByteArray).toList=[]:=by
    have:=yx (⟨#[]⟩:ByteArray)
    exact List.length_eq_zero_iff.1 this
   rw[e2]at h1;simp at h1
  grind
theorem R4(s:ByteArray):pV s=gy s:=by
 rw[Mg];unfold pV;rw[VI]
theorem Gj(l:List ByteArray):fP l=cA l gy:=by
 have key:∀(L l:List ByteArray)(i:Nat),fP.L1 L fP.K1 l i=cA.L1 L gy cA.K1 l i:=by
  intro L l
  induction l with
  |nil=>intros;rfl
  |cons y l ih=>intro i;simp only[fP.L1,cA.L1,R4,rindex,ih]
 exact key l l 0
theorem Ja(off:List ByteArray)(x:ai):(∀z∈bB x 1,((!(dR z.x))||dZ off z.x.Name)=true)->cq off x=true:=by
 refine ai.ind (P:=λx=>(∀z∈bB x 1,((!(dR z.x))||dZ off z.x.Name)=true)->cq off x=true) ?_ x
 intro x ih h
 have h:=(s7 (λy=>((!(dR y))||dZ off y.Name)=true) x 1).1 h
 rw[Pa]
 unfold cq.F
 have hx:=h.1
 unfold dR dZ at hx
 rw[Bool.cond_eq_ite,if_neg]
 .have:∀l:List ai,(∀y∈l,cq off y=true)->cq.L1 cq off cq.K1 l=true:=by
   intro l
   induction l with
   |nil=>intro _;rfl
   |cons y l ih2=>
    intro hl
    simp only[cq.L1,hl y (zB ..),Bool.not_true,cond_false]
    grind
  grind
 .rw[rindex]
  grind
theorem JP{x:ai}{u:Bool}(h:(aY x.Kind 1 4&&kindsP x.Kind x)=true)(h4:u=false->x.Kind≠4):aO.K1 x u=true:=by
 simp only[jA]at h
 have hb:1<=x.Kind/\x.Kind<=4:=by have:=h.1;simpa[aY]using this
 have hc:x.Kind=1\/x.Kind=2\/x.Kind=3\/x.Kind=4:=by omega
 have h2:=h.2
 unfold aO.K1
 rcases hc with e|e|e|e
 .rw[e]at h2 ⊢
  have h2:mw x=true:=h2
  grind [mw]
 .rw[e]at h2 ⊢
  have h2:mv x=true:=h2
  grind [mv,aY]
 .rw[e]at h2 ⊢
  have h2:mu x=true:=h2
  unfold mu aY at h2
  grind
 .have hu:u=true:=by
   grind
  subst hu
  rw[e]at h2 ⊢
  have h2:lF x=true:=h2
  unfold lF aY at h2
  grind
theorem Gb(u:Bool)(x:ai):(∀z∈bB x 1,(aY z.x.Kind 1 4&&kindsP z.x.Kind z.x)=true/\(u=false->z.x.Kind≠4))->aO x u=true:=by
 refine ai.ind (P:=λx=>(∀z∈bB x 1,(aY z.x.Kind 1 4&&kindsP z.x.Kind z.x)=true/\(u=false->z.x.Kind≠4))->aO x u=true) ?_ x
 intro x ih h
 have h:=(s7 (λy=>(aY y.Kind 1 4&&kindsP y.Kind y)=true/\(u=false->y.Kind≠4)) x 1).1 h
 rw[Mi]
 unfold aO.F
 have:∀(k:Bool)(l:List ai),(∀y∈l,aO y u=true)->aO.L1 aO u k l=k:=by
  intro k l
  induction l with
  |nil=>intro _;rfl
  |cons y l ih2=>
   intro hl
   simp only[aO.L1,hl y (zB ..),Bool.not_true,cond_false]
   grind
 grind [JP]
theorem S2(l:List ai):∀a:Int,bI.L1 bI (λg=>g) l a=a\/∃y∈l,bI.L1 bI (λg=>g) l a=bI y:=by
 induction l with
 |nil=>intro a;exact .inl rfl
 |cons y l ih=>
  grind [bI.L1]
theorem J7(x:ai):x.dep<=1500000->∀d:Int,∃z∈bB x d,z.depth=d+bI x-1:=by
 refine ai.ind (P:=λx=>x.dep<=1500000->∀d:Int,∃z∈bB x d,z.depth=d+bI x-1) ?_ x
 intro x ih hx d
 have hd:=(PU x hx).2
 rw[pW]
 rcases S2 x.L 0 with h|⟨y,hy,h⟩
 .exact⟨⟨x,d⟩,zB ..,by rw[hd,h];show d=d+(0+1)-1;omega⟩
 .have hlt:=ai.lI hy
  obtain⟨z,hz,e⟩:=ih y hy (by omega) (d+1)
  grind
theorem QF{x:ai}(hx:x.dep<=1500000)(h1:(bB x 1).length<=256)(h2:∀z∈bB x 1,z.depth<=16):mX x=false:=by
 unfold mX
 rw[Mz x 256 (by decide) (by decide)]
 obtain⟨z,hz,e⟩:=J7 x hx 1
 grind [Bool.or_eq_false_iff,decide_eq_false_iff_not,cnt]
theorem Sz(off:List ByteArray)(x:ai):(∀z∈bB x 1,z.x.No=rno off z.x)->bA (ao off x) x=true:=by
 refine ai.ind (P:=λx=>(∀z∈bB x 1,z.x.No=rno off z.x)->bA (ao off x) x=true) ?_ x
 intro x ih h
 have h:=(s7 (λy=>y.No=rno off y) x 1).1 h
 rw[Rv,FM]
 unfold bA.F
 have e:(((((x.Kind != x.Kind)||(x.N != x.N))||(rno off x != x.No))||(!(x.Name.toList==x.Name.toList)))||(((x.L.map (ao off)).length:Int) != (x.L.length:Int)))=false:=by simp[h.1]
 show(bif(((((x.Kind != x.Kind)||(x.N != x.N))||(rno off x != x.No))||(!(x.Name.toList==x.Name.toList)))||(((x.L.map (ao off)).length:Int) != (x.L.length:Int)))then false else bA.L1 bA x bA.K1 (x.L.map (ao off)) 0)=true
 rw[e,cond_false]
 have:∀(l pre:List ai),x.L=pre++l->bA.L1 bA x bA.K1 (l.map (ao off)) pre.length=true:=by
  intro l
  induction l with
  |nil=>intro _ _;rfl
  |cons y l ih2=>
   intro pre hp
   have hy:nthI x.L (pre.length:Int)=y:=ky (by rw[hp];simp)
   have hm:y∈x.L:=by rw[hp];simp
   have:=ih2 (pre++[y]) (by rw[hp];simp)
   rw[kA,xA,xB,Nat.zero_add]at this
   simp only[jG,bA.L1,hy,ih y hm (h.2 y hm),Bool.not_true,cond_false]
   exact this
 exact this x.L [] rfl
theorem Ql(l:List ByteArray):gx l l=true:=by
 have:∀(s pre:List ByteArray),l=pre++s->gx.L1 l gx.K1 s pre.length=true:=by
  intro s
  induction s with
  |nil=>intro _ _;rfl
  |cons y s ih=>
   intro pre hp
   have hy:nthI l (pre.length:Int)=y:=ky (by rw[hp];simp)
   have:=ih (pre++[y]) (by rw[hp];simp)
   rw[kA,xA,xB,Nat.zero_add]at this
   simp only[gx.L1,hy,beq_self_eq_true,Bool.not_true,cond_false]
   exact this
 unfold gx
 rw[bne_self_eq_false,cond_false]
 exact this l [] rfl
theorem Ij(off:List ByteArray):∀(l:List fI)(i:Nat),(rrules off l i).length=l.length
 |[],_=>rfl
 |y::l,i=>by simp only[rrules,xA,Ij off l]
theorem Ke(hs:smP p)(h:dF p=0):ma p=0:=by
 obtain⟨h1,h2,h3⟩:=(Ev p).1 h
 obtain⟨s1,s2,s3⟩:=(wp p).1 h1
 obtain⟨⟨a1,a2,a3⟩,a4⟩:=(DA p).1 s1
 obtain⟨⟨n1,n2,n3⟩,n4⟩:=(I9 p).1 s2
 unfold bq bq.K1 bq.K2 at s3
 rw[s8,Ej,Ht]at s3
 obtain⟨f1,f2,f3⟩:=s3
 simp only[jA,decide_eq_true_eq,beq_iff_eq,aY]at f1
 have hlen:(aH p).length=p.dt.length+1:=by rw[ox];simp
 have hrule:∀r∈p.dt,r.ai∈aH p:=λr hr=>De hr
 have hch:p.aP∈aH p:=by rw[ox];simp
 have hdep:∀x∈aH p,x.dep<=1500000:=λx hx=>by
  rw[ox]at hx
  simp only[qE,qM,kB]at hx
  rcases hx with⟨r,hr,rfl⟩|rfl
  .exact hs.2.1 r hr
  .exact hs.2.2.1
 have hlarge:∀x∈aH p,mX x=false:=λx hx=>QF (hdep x hx) (a4 x hx).1 (a4 x hx).2
 have hT:fN p=false:=by
  unfold fN
  rw[Bool.cond_eq_ite,if_neg]
  .have:∀l:List fI,(∀r∈l,mX r.ai=false)->fN.L1 fN.K1 l=false:=by
    intro l
    induction l with
    |nil=>intro _;rfl
    |cons y l ih=>
     intro hl
     simp only[fN.L1,hl y (zB ..),cond_false]
     exact ih λz hz=>hl z (qC _ hz)
   exact this p.dt λr hr=>hlarge _ (hrule r hr)
  .simp only[xC,decide_eq_true_eq,not_or,hlarge _ hch,kT,not_false_eq_true,and_true]
   omega
 have hN:jc p=true:=by
  unfold jc
  rw[R4,Gj,Gj,n1,n2,n3]
  simp only[Bool.not_true,Bool.or_self,cond_false]
  have:∀(k:Bool)(l:List fI),(∀r∈l,cq p.aD r.ai=true)->jc.L1 p k l=k:=by
   intro k l
   induction l with
   |nil=>intro _;rfl
   |cons y l ih=>
    intro hl
    simp only[jc.L1,hl y (zB ..),Bool.not_true,cond_false]
    exact ih λz hz=>hl z (qC _ hz)
  rw[this _ p.dt λr hr=>Ja p.aD _ (n4 _ (hrule r hr))]
  exact Ja p.aD _ (n4 _ hch)
 have hget:∀(j:Nat)(r:fI),p.dt[j]? = some r->(aH p)[j]? = some r.ai:=λj r hj=>by
  have hlt:=(List.getElem?_eq_some_iff.1 hj).1
  rw[ox,List.getElem?_append_left (by simpa using hlt),List.getElem?_map,hj];rfl
 have hgetc:(aH p)[p.dt.length]? = some p.aP:=by
  rw[ox,List.getElem?_append_right (by simp)];simp
 have hFm:ic p=true:=by
  unfold ic
  rw[Bool.cond_eq_ite,if_neg]
  .have:∀(l pre:List fI),p.dt=pre++l->ic.L1 p (ic.K1 p) l pre.length=true:=by
    intro l
    induction l with
    |nil=>
     intro pre _
     refine Gb false _ λz hz=>?_
     obtain⟨q1,q2⟩:=f3 _ _ hgetc z hz
     refine⟨q1,λ_ he=>?_⟩
     rw[hlen,wrap64 (by omega),Nat.zero_add]at q2
     have e1:decide ((p.dt.length:Int)<((p.dt.length+1:Nat):Int)-1)=false:=decide_eq_false (by omega)
     rw[e1,Bool.false_or,he]at q2
     simp at q2
    |cons y l ih=>
     intro pre hp
     have hj:p.dt[pre.length]? = some y:=by rw[hp];simp
     have q:=f2 pre.length y hj
     rw[Nat.zero_add]at q
     simp only[jA,aY,decide_eq_true_eq]at q
     have hfe:aO y.ai true=true:=Gb true _ λz hz=>⟨(f3 _ _ (hget _ _ hj) z hz).1,λhh=>by cases hh⟩
     have d1:decide (y.iJ<0)=false:=by simp;omega
     have d2:decide (1099511627776<=y.iJ)=false:=by simp;omega
     have:=ih (pre++[y]) (by rw[hp];simp)
     rw[kA,xA,xB,Nat.zero_add]at this
     simp only[ic.L1,q.1,d1,d2,hfe,Bool.not_true,Bool.or_self,cond_false]
     exact this
   exact this p.dt [] rfl
  .simp only[xC,decide_eq_true_eq,bne_iff_ne,not_or,ne_eq,Decidable.not_not]
   omega
 have hRes:eM p=(aw.mk p.Name p.ey p.aD (rrules p.aD p.dt 0) (ao p.aD p.aP) p.Mode,0):=by
  unfold eM
  rw[hT,hN,hFm]
  simp only[cond_false,Bool.not_true]
  rw[Dl,qD]
 have hsame:∀x,cW p.aD x=true->bA (ao p.aD x) x=true:=λx hx=>by
  refine Sz p.aD x ?_
  unfold cW cW.K1 at hx
  exact(tr p.aD _).1 hx
 have hSame:jO (aw.mk p.Name p.ey p.aD (rrules p.aD p.dt 0) (ao p.aD p.aP) p.Mode) p=true:=by
  unfold jO
  rw[Bool.cond_eq_ite,if_neg]
  .have:∀(l pre:List fI),p.dt=pre++l->jO.L1 p jO.K1 (rrules p.aD l pre.length) pre.length=true:=by
    intro l
    induction l with
    |nil=>intro _ _;rfl
    |cons y l ih=>
     intro pre hp
     have hy:nthI p.dt (pre.length:Int)=y:=ky (by rw[hp];simp)
     have hj:p.dt[pre.length]? = some y:=by rw[hp];simp
     obtain⟨g1,g2⟩:=h2 pre.length y hj
     have:=ih (pre++[y]) (by rw[hp];simp)
     rw[kA,xA,xB,Nat.zero_add]at this
     simp only[rrules,jO.L1,hy,hsame _ g2,g1,beq_self_eq_true,bne_self_eq_false,Bool.not_true,Bool.or_self,cond_false]
     exact this
   exact this p.dt [] rfl
  .grind [rrules,Ql,Ij]
 unfold ma
 rw[hRes]
 dsimp only
 rw[hSame];rfl
theorem xi{l:List aC}(hs:smV l)(h:bE l=0):dE l=0:=by
 have g:=(rI l).1 h
 have hlen:=g.len
 unfold dE
 rw[Bool.cond_eq_ite,if_neg (by simp;omega)]
 have:∀(s pre:List aC),l=pre++s->dE.L1 l dE.K1 s pre.length=0:=by
  intro s
  induction s with
  |nil=>intro _ _;rfl
  |cons y s ih=>
   intro pre hp
   have hy:y∈l:=by rw[hp];simp
   obtain⟨q1,q2,q3,q4⟩:=g.each y hy
   have hlast:(decide (0<(pre.length:Int))&&decide (y.No<=(nthI l ((pre.length:Int)-1)).No))=false:=by
    rcases List.eq_nil_or_concat pre with rfl|⟨a,x,e⟩
    .rfl
    .rw[List.concat_eq_append]at e
     subst e
     have hx:nthI l (((a++[x]).length:Int)-1)=x:=by
      rw[show(((a++[x]).length:Int)-1)=(a.length:Int)from by simp]
      exact ky (by rw[hp];simp)
     have hi:=g.inc
     grind
   have:=ih (pre++[y]) (by rw[hp];simp)
   rw[kA,xA,xB,Nat.zero_add]at this
   simp only[dE.L1,Bool.cond_eq_ite]
   rw[if_neg]
   .exact this
   .have hck:=Ke (hs.2 y hy) q4
    simp only[xC,not_or,decide_eq_true_eq,jA,vD,Bool.not_eq_false,bne_iff_ne,ne_eq,Classical.not_not,nq,hck,and_true]
    grind
 exact this l [] rfl
theorem yG{B:Int->Bool}{k:Bool}{L:List Int}(hB:∀y∈L,B y=false)(hL:L.Pairwise (·<·))(hk:k=true):∀(l pre:List Int),L=pre++l->refLs B L k l pre.length=true
 |[],_,_=>hk
 |y::l,pre,h=>by
  have hlast:(decide (0<(pre.length:Int))&&decide (y<=nthI L ((pre.length:Int)-1)))=false:=by
   rcases List.eq_nil_or_concat pre with rfl|⟨a,x,e⟩
   .rfl
   .rw[List.concat_eq_append]at e
    subst e
    have hx:nthI L (((a++[x]).length:Int)-1)=x:=by
     rw[show(((a++[x]).length:Int)-1)=(a.length:Int)from by simp]
     exact ky (by rw[h];simp)
    grind
  have ih:=yG hB hL hk l (pre++[y]) (by rw[h];simp)
  rw[kA,xA,xB,Nat.zero_add]at ih
  have hy:y∈L:=by rw[h];simp
  simp only[refLs,hB y hy,hlast,Bool.or_self,cond_false]
  exact ih
theorem CP{l:List Int}{ew:Int}(h:((∀x∈l,0<=x/\x<ew)/\l.Pairwise (·<·))/\l.length<=16):gI l ew=true:=by
 have e:∀(L l:List Int)i,gI.L1 L ew (gI.K1 L) l i=refLs (λy=>decide (y<0)||decide (ew<=y)) L (gI.K1 L) l i:=by
  intro L l
  induction l with
  |nil=>intro i;rfl
  |cons y l ih=>intro i;simp only[gI.L1,refLs,ih]
 unfold gI
 rw[e]
 refine yG (λy hy=>?_) h.1.2 ?_ l [] rfl
 all_goals grind [gI.K1,Bool.or_eq_false_iff,decide_eq_false_iff_not]
theorem people21{l:List Int}:fZ l=true↔(∀x∈l,0<=x/\x<64)/\l.Pairwise (·<·):=by
 refine⟨Qq,λh=>?_⟩
 have e:∀(L l:List Int)i,fZ.L1 L fZ.K1 l i=refLs (λy=>decide (y<0)||decide (64<=y)) L true l i:=by
  intro L l
  induction l with
  |nil=>intro i;rfl
  |cons y l ih=>intro i;simp only[fZ.L1,refLs,ih]
 unfold fZ
 rw[e]
 refine yG (λy hy=>?_) h.2 rfl l [] rfl
 have:=h.1 y hy
 simp only[Bool.or_eq_false_iff,decide_eq_false_iff_not];omega
theorem Ml(no:Int):∀(l:List aj)(i:Nat),(l.any λd=>d.No==no)=true->0<=cD.L1 no cD.K1 l i
 |[],i,h=>by cases h
 |y::l,i,h=>by
  simp only[cD.L1,Bool.cond_eq_ite]
  split
  .omega
  .next hc=>
   rw[List.any_cons,Bool.eq_false_iff.2 hc,Bool.false_or]at h
   exact Ml no l (i+1) h
theorem HX(L:List aj):∀nos:List Int,(∀x∈nos,(L.any λd=>d.No==x)=true)->gg.L1 L gg.K1 nos=true
 |[],_=>rfl
 |y::nos,h=>by
  have h1:=Ml y L 0 (h y (zB ..))
  have:decide (cD L y<0)=false:=by unfold cD;simp;omega
  simp only[gg.L1,this,cond_false]
  exact HX L nos λx hx=>h x (qC _ hx)
theorem UE{L:List aj}(h:ld (aG L) d=true):gg L d.eX=true/\gg L d.eQ=true:=by
 have hs:=(xx L L 0 []).2
 have key:∀nos:List Int,fB nos (λfX=>je fX (aG L))=false->gg L nos=true:=by
  intro nos hn
  rw[containsF,List.any_eq_false]at hn
  refine HX L nos λx hx=>?_
  have h1:=hn x hx
  unfold je at h1
  have e:mhas (aG L).at_ x=(mhas [] x||L.any λd=>d.No==x):=hs x
  rw[e]at h1
  simpa[mhas,mget?]using h1
 unfold ld at h
 grind
theorem qe(h:aR l=0):dH l=0:=by
 have L:∀(L l:List aj)(i:Nat),aR.L1 L aR.K1 l i=0->dH.L1 L dH.K1 l i=0:=by
  intro L l
  induction l with
  |nil=>intros;rfl
  |cons y l ih=>
   intro i h
   simp only[aR.L1,Bool.cond_eq_ite]at h
   split at h
   .omega
   .next hc=>
    simp only[xC,not_or,vD,Bool.not_eq_false,Bool.not_eq_true]at hc
    obtain⟨⟨c1,c2⟩,c3⟩:=hc
    obtain⟨t1,t2⟩:=UE c3
    have hR:nO y=true:=by
     simp only[m9,jA,decide_eq_true_eq,j3]at c1
     obtain⟨⟨⟨⟨⟨⟨⟨⟨⟨⟨⟨⟨p1,p2⟩,p3⟩,p4⟩,p5⟩,p6⟩,p7⟩,p8⟩,p9⟩,p10⟩,p11⟩,p12⟩,p13⟩:=c1
     unfold nO
     rw[Bool.cond_eq_ite,if_neg]
     .rw[CP ((Hq _ _).1 p11),CP ((Hq _ _).1 p12),CP ((Hq _ _).1 p13)]
      grind
     .simp only[mr,xC,decide_eq_true_eq,vD,Bool.and_eq_false_iff,decide_eq_false_iff_not,not_or]
      omega
    simp only[dH.L1,hR,c2,t1,t2,Bool.not_true,Bool.or_false,Bool.or_self,cond_false]
    exact ih (i+1) h
 grind [aR,dH]
theorem judge30{r:Register}(hs:smR r):cQ r=0↔ij r=0:=by
 constructor
 .intro h
  obtain⟨d1,d2,d3,d4,d5,d6,d7⟩:=(kh r).1 h
  simp only[ij,(wD r.fj).symm.trans d1,(yX r.dY).symm.trans d2,(tb r.gu).symm.trans d3,(tP r.fF).symm.trans d4,xi hs.vers d5,qe d6,(td r.bS).symm.trans d7]
  rfl
 .intro h
  obtain⟨c1,c2,c3,c4,c5,c6,c7⟩:=P1 h
  exact(kh r).2 ⟨(wD r.fj).trans c1,(yX _).trans c2,(tb r.gu).trans c3,(tP _).trans c4,P3 hs.vers c5,K8 c6,(td _).trans c7⟩
def wtOk(y:aV):Bool:=!(decide (y.fD<1)||decide (64<y.fD))
theorem Wj(k:List Int->Bool):∀(l:List aV)(g:List Int),dg.L3 k l g=(l.all wtOk&&k (g++l.map (·.bw)))
 |[],g=>by simp[dg.L3]
 |y::l,g=>by
  simp only[dg.L3,List.all_cons,jG,Wj k l,wtOk]
  grind
def rowOk(l:List aV):Bool:=l.all wtOk&&dL (l.map (·.bw))
theorem Wk(k:Bool):∀hs:List (List aV),dg.L1 k hs=(hs.all rowOk&&k)
 |[]=>by simp[dg.L1]
 |l::hs=>by
  simp only[dg.L1,Wj,Wk k hs,List.all_cons,rowOk,qD]
  grind
theorem Uh(k:Bool)(L:List aV):∀(l pre:List aV)(g:Int),L=pre++l->(pre=[]/\g=-1)\/(0<=g/\∃a z,pre=a++[z]/\g=z.bw) ->
  eh.L3 L k l pre.length=((l.all wtOk&&dL.L1 dL.K1 (l.map (·.bw)) g)&&k)
 |[],_,_,_,_=>by simp[eh.L3,dL.L1,dL.K1]
 |y::l,pre,g,e,hg=>by
  have hc:(decide (y.bw<0)||(decide (0<(pre.length:Int))&&decide (y.bw<=(nthI L ((pre.length:Int)-1)).bw)))=decide (y.bw<=g):=by
   rcases hg with⟨rfl,rfl⟩|⟨h0,a,z,rfl,rfl⟩
   .simp;omega
   .have hx:nthI L (((a++[z]).length:Int)-1)=z:=by
     rw[show(((a++[z]).length:Int)-1)=(a.length:Int)from by simp]
     exact ky (by rw[e];simp)
    grind
  have ih:=λhy:0<=y.bw=>Uh k L l (pre++[y]) y.bw (by rw[e];simp) (.inr ⟨hy,pre,y,rfl,rfl⟩)
  rw[kA,xA,xB,Nat.zero_add]at ih
  simp only[eh.L3,List.all_cons,jG,dL.L1,wtOk]
  grind
theorem Ui(k:Bool):∀hs:List (List aV),eh.L1 k hs=(hs.all rowOk&&k)
 |[]=>by simp[eh.L1]
 |l::hs=>by
  simp only[eh.L1,List.all_cons]
  have:=Uh (eh.L1 k hs) l l [] (-1) rfl (.inl ⟨rfl,rfl⟩)
  rw[xB]at this
  rw[this,Ui k hs,rowOk,dL]
  simp only[Bool.and_assoc]
theorem right21(hs:List (List aV))(n:Int):dg hs n=eh hs n:=by
 unfold dg eh
 rw[Wk,Ui,dg.K1,eh.K1]
 grind
theorem ppeople21(l:List Int):dL l=fZ l:=by
 rw[jF,LK,people21]
theorem check20(hs:smP p):dF p=0↔ma p=0:=⟨Ke hs,Ew hs⟩
theorem permits21{kind value:Int}{hs:List (List aV)}{w:List Int}(hp:smP p)(hl:∀l∈hs,l.length<=2000000):
  (me p kind value hs w).1=(lr p kind value hs w).1/\((me p kind value hs w).2=0↔(lr p kind value hs w).2=0):=by
 unfold me lr
 have h1:=check20 hp
 by_cases hc:dF p=0
 .rw[hc,h1.1 hc,←right21,←ppeople21]
  simp only[bne_self_eq_false,cond_false]
  cases hk:(((decide (kind<0)||decide ((p.ey.length:Int)<=kind))||decide (value<0))||decide (1099511627776<value))with
  |true=>simp
  |false=>
   cases hr:dg hs (p.aD.length:Int)with
   |false=>simp
   |true=>
    cases hw:dL w with
    |false=>simp
    |true=>
     obtain⟨a1,a2,a3⟩:=sS hc
     simp only[Bool.or_eq_false_iff,decide_eq_false_iff_not]at hk
     have hm:nthI p.dt kind∈p.dt:=lu (by rw[a1];omega)
     have ho:OkX (p.aD.length:Int) (nthI p.dt kind).ai:=a3 _ (by rw[ox];exact jN _ (zT hm))
     have hd:=hp.2.1 _ hm
     simp only[Bool.not_true,cond_false,dM,bC]
     rw[fulfil21 (rightH hr) hl _ _ (by omega) ho]
     exact⟨rfl,trivial⟩
 .grind
theorem QB{α : Type}{f:α->Int}:∀{l:List α},l.Pairwise (λa b=>f a<f b)->∀{a b:α},a∈l->b∈l->f a=f b->a=b
 |[],_,_,_,ha,_,_=>(vA ha).elim
 |y::l,h,a,b,ha,hb,e=>by
  rw[List.pairwise_cons]at h
  rcases vC.1 ha with e1|ha2
  .grind
  .rcases vC.1 hb with e2|hb2
   .have:=h.1 a ha2;rw[e2]at e;omega
   .exact QB h.2 ha2 hb2 e
def sKey(y:av):dX:=dX.mk y.bw y.eG y.Of
def sCnt(t ad:Int)(y:av):Prop:=y.At<=t/\y.eH<=ad
def sOver(z w:av):Prop:=z.At<w.At\/(w.At=z.At/\z.No<w.No)
structure Mx(t ad:Int)(pre:List av)(m:List (dX×av)):Prop where
 some:∀k z,mget? m k=some z->z∈pre/\sKey z=k/\sCnt t ad z/\∀w∈pre,sKey w=k->sCnt t ad w->¬sOver z w
 none:∀k,mget? m k=none->∀w∈pre,sKey w=k->¬sCnt t ad w
theorem Lu{t ad:Int}:∀(l pre:List av)(m:List (dX×av)),(pre++l).Pairwise (λa b=>a.No<b.No)->Mx t ad pre m->Mx t ad (pre++l) (stMap t ad l m)
 |[],pre,m,_,h=>by rw[List.append_nil];exact h
 |y::l,pre,m,hp,h=>by
  have hno:∀w∈pre,w.No<y.No:=λw hw=>(List.pairwise_append.1 hp).2.2 w hw y (zB ..)
  have hp2:((pre++[y])++l).Pairwise (λa b=>a.No<b.No):=by rw[zC];exact hp
  have go:∀m',Mx t ad (pre++[y]) m'->Mx t ad (pre++y::l) (stMap t ad l m'):=λm' h'=>by
   have:=Lu l (pre++[y]) m' hp2 h'
   rwa [zC]at this
  have stay:(∀z,mget? m (sKey y)=some z->sCnt t ad y->¬sOver z y)->(mget? m (sKey y)=none->¬sCnt t ad y)->Mx t ad (pre++[y]) m:=λh1 h2=>by
   constructor
   .intro k z hz
    obtain⟨a1,a2,a3,a4⟩:=h.some k z hz
    grind
   .intro k hz w hw hk
    rcases qE.1 hw with hw|hw
    .exact h.none k hz w hw hk
    .grind
  simp only[stMap,Bool.cond_eq_ite]
  split
  .next hc=>
   have hc:¬sCnt t ad y:=by
    simp only[xC,decide_eq_true_eq]at hc
    intro h;unfold sCnt at h;omega
   grind
  .next hc=>
   have hc:sCnt t ad y:=by
    simp only[xC,decide_eq_true_eq]at hc
    unfold sCnt;omega
   split
   .next hn=>
    refine go _ ⟨λk z hz=>?_,λk hz w hw hk=>?_⟩
    .rw[i8]at hz
     split at hz
     .next hk=>
      cases hz
      refine⟨by simp,hk.symm,hc,λw hw hkw hcw=>?_⟩
      rcases qE.1 hw with hw|hw
      .have hb:=hno w hw
       cases hm:mget? m (sKey y)with
       |none=>exact(h.none _ hm w hw (by rw[hkw,hk];rfl) hcw).elim
       |some z0=>
        have a4:=(h.some _ _ hm).2.2.2 w hw (by rw[hkw,hk];rfl) hcw
        have:z0.At<=y.At:=by
         simp only[mhas,mgetD,show mget? m (dX.mk y.bw y.eG y.Of)=some z0 from hm]at hn
         simpa using hn
        unfold sOver at a4 ⊢;omega
      .grind [sOver]
     .next hk=>
      obtain⟨a1,a2,a3,a4⟩:=h.some k z hz
      refine⟨jN _ a1,a2,a3,λw hw hkw hcw=>?_⟩
      rcases qE.1 hw with hw|hw
      .exact a4 w hw hkw hcw
      .rw[kB.1 hw]at hkw;exact(hk hkw.symm).elim
    .rw[i8]at hz
     split at hz
     .cases hz
     .next hk2=>
      rcases qE.1 hw with hw|hw
      .exact h.none k hz w hw hk
      .rw[kB.1 hw]at hk;exact(hk2 hk.symm).elim
   .next hn=>
    refine go m (stay (λz hz _=>?_) (λhz=>?_))
    .have:¬z.At<=y.At:=by
      simp only[mhas,mgetD,show mget? m (dX.mk y.bw y.eG y.Of)=some z from hz]at hn
      simpa using hn
     unfold sOver;omega
    .simp only[mhas,mgetD,show mget? m (dX.mk y.bw y.eG y.Of)=none from hz]at hn
     simp at hn
theorem H5{x:av}{t ad:Int}:∀l:List av,ib.L1 x t ad ib.K1 l=true↔∀w∈l,sKey w=sKey x->sCnt t ad w->¬sOver x w
 |[]=>by simp[ib.L1,ib.K1]
 |y::l=>by
  have ih:=H5 (x:=x) (t:=t) (ad:=ad) l
  simp only[ib.L1,Bool.cond_eq_ite,List.forall_mem_cons]
  have e:(((tv y x)&&(nN y t ad))&&(decide (x.At<y.At)||((y.At==x.At)&&decide (x.No<y.No))))=true↔sKey y=sKey x/\sCnt t ad y/\sOver x y:=by
   simp only[tv,nN,jA,xC,beq_iff_eq,decide_eq_true_eq,sKey,sCnt,sOver,dX.mk.injEq,and_assoc]
  split
  .next hc=>
   obtain⟨a,b,c⟩:=e.1 hc
   constructor
   .intro h;cases h
   .intro h;exact(h.1 a b c).elim
  .next hc=>
   rw[ih]
   constructor
   .exact λh=>⟨λa b c=>hc (e.2 ⟨a,b,c⟩),h⟩
   .exact λh=>h.2
theorem standing29{l:List av}{t:Int}(ht:0<=t)(hk:0<=ad)(hp:l.Pairwise (λa b=>a.No<b.No)):cH l t ad=l.filter (λx=>ib l x t ad):=by
 unfold cH
 rw[FD]
 unfold cH.K1 em em.K1
 have hv:Mx t ad l (stMap t ad l []):=by
  have:=Lu (t:=t) (ad:=ad) l [] [] hp ⟨λk z h=>(by simp[mget?]at h),λk h w hw=>(vA hw).elim⟩
  exact this
 generalize stMap t ad l []=v at *
 rw[xr]
 apply Yk
 intro y hy
 rw[jF]
 unfold ib
 rw[Bool.cond_eq_ite]
 have hg:mgetD v (sKey y) (av.mk 0 0 0 0 0 false false)=y↔sCnt t ad y/\∀w∈l,sKey w=sKey y->sCnt t ad w->¬sOver y w:=by
  cases hm:mget? v (sKey y)with
  |none=>
   have h1:=hv.none _ hm y hy rfl
   constructor
   .intro h
    simp only[mgetD,hm,Option.getD]at h
    exact(h1 (by rw[←h];exact⟨ht,hk⟩)).elim
   .exact λh=>(h1 h.1).elim
  |some z=>
   obtain⟨a1,a2,a3,a4⟩:=hv.some _ _ hm
   simp only[mgetD,hm,Option.getD]
   constructor
   .rintro rfl;exact⟨a3,a4⟩
   .rintro⟨b1,b2⟩
    have c1:=a4 y hy rfl b1
    have c2:=b2 z a1 a2 a3
    have:z.No=y.No:=by unfold sOver at c1 c2;omega
    exact QB (f:=λx:av=>x.No) hp a1 hy this
 split
 .next hc=>
  constructor
  .intro h
   simp only[jA,decide_eq_true_eq]at h
   have:=(hg.1 h.2).1
   unfold sCnt at this
   simp[nN,this.1,this.2]at hc
   simp[hc]at h
  .intro h;cases h
 .next hc=>
  simp only[xC,not_or,Bool.not_eq_true,Bool.not_eq_false',nN,jA,decide_eq_true_eq]at hc
  rw[H5,hc.1]
  simp only[Bool.not_false,Bool.true_and,decide_eq_true_eq]
  exact hg.trans ⟨λh=>h.2,λh=>⟨hc.2,h⟩⟩
def rwFill(gv:Int):List av->List fw->List fw
 |[],w=>w
 |x::l,w=>bif(!x.Of)&&(x.bw==gv)then rwFill gv l (rwPut w ⟨[x.No],x.eG⟩)else rwFill gv l w
def rwStep(path:List Int)(to:Int):List av->List fw->List fw
 |[],w=>w
 |x::l,w=>bif x.Of&&(x.bw==to)then rwStep path to l (rwPut w ⟨path++[x.No],x.eG⟩)else rwStep path to l w
def rwLoop(bQ:List Int)(all:List av):Nat->Nat->List fw->List Int×Bool
 |0,_,_=>([],false)
 |n+1,k,w=>match w[k]? with
  |none=>([],false)
  |some x=>bif m5 bQ x.To then(x.mn,true)else bif(x.mn.length:Int)==8 then rwLoop bQ all n (k+1) w
   else rwLoop bQ all n (k+1) (rwStep x.mn x.To all w)
def standR(l:List av)(t ad:Int):List av:=l.filter (λx=>ib l x t ad)
def conflictR(l:List av)(gv:Int)(bQ:List Int)(t ad:Int):List Int×Bool×Int:=
 bif lg l gv bQ t ad != 0 then([],false,lg l gv bQ t ad)
 else((rwLoop bQ (standR l t ad) (l.length+1) 0 (rwFill gv (standR l t ad) [])).1,(rwLoop bQ (standR l t ad) (l.length+1) 0 (rwFill gv (standR l t ad) [])).2,0)
def toI(w:fw):iX:=⟨w.mn,w.To⟩
def Met(m:List (Int×Bool))(w:List fw):Prop:=∀t,mgetD m t false=w.any (λx=>x.To==t)
theorem LA{m:List (Int×Bool)}{d e:List fw}(x:fw)(h:Met m (d++e)):∃e',rwPut (d++e) x=d++e'/\(conPut (toI x) m (e.map toI)).2=e'.map toI/\Met (conPut (toI x) m (e.map toI)).1 (d++e'):=by
 unfold rwPut conPut
 rw[show(toI x).to=x.To from rfl,h x.To]
 cases hb:(d++e).any (λw=>w.To==x.To)with
 |true=>exact⟨e,rfl,rfl,h⟩
 |false=>
  refine⟨e++[x],by simp,by simp,λt=>?_⟩
  show mgetD (mput m x.To true) t false=_
  rw[vq,h t,←zC,List.any_append]
  grind
theorem CN(path:List Int)(to:Int):∀(l:List av){m:List (Int×Bool)}{d e:List fw},Met m (d++e)->∃e',rwStep path to l (d++e)=d++e'/\(conStep path (l.filter λx=>x.Of&&(x.bw==to)) m (e.map toI)).2=e'.map toI/\Met (conStep path (l.filter λx=>x.Of&&(x.bw==to)) m (e.map toI)).1 (d++e')
 |[],m,d,e,h=>⟨e,rfl,rfl,h⟩
 |x::l,m,d,e,h=>by
  simp only[rwStep,List.filter_cons,Bool.cond_eq_ite]
  split
  .obtain⟨e1,a1,a2,a3⟩:=LA ⟨path++[x.No],x.eG⟩ h
   simp only[conStep]
   rw[a1]
   rw[show(conPut ⟨path++[x.No],x.eG⟩ m (e.map toI)).2=e1.map toI from a2]
   exact CN path to l a3
  .exact CN path to l h
theorem yD(gv:Int):∀(l:List av)(f:List (Int×List av)){m:List (Int×Bool)}{e:List fw},Met m e->∃e',rwFill gv l e=e'/\(conFill gv l f m (e.map toI)).2.2=e'.map toI/\Met (conFill gv l f m (e.map toI)).2.1 e'/\∀to,mgetD (conFill gv l f m (e.map toI)).1 to []=mgetD f to []++l.filter λx=>x.Of&&(x.bw==to)
 |[],f,m,e,h=>⟨e,rfl,rfl,h,λto=>by simp[conFill]⟩
 |x::l,f,m,e,h=>by
  simp only[rwFill,conFill,List.filter_cons]
  cases ho:x.Of with
  |true=>
   simp only[Bool.not_true,Bool.false_and,cond_false,cond_true,Bool.true_and]
   obtain⟨e',a1,a2,a3,a4⟩:=yD gv l (mput f x.bw (mgetD f x.bw []++[x])) h
   refine⟨e',a1,a2,a3,λto=>?_⟩
   rw[a4,vq]
   grind
  |false=>
   simp only[Bool.not_false,Bool.true_and,cond_false,Bool.false_and,kT,if_false]
   cases hw:x.bw==gv with
   |true=>
    simp only[cond_true]
    obtain⟨e1,a1,a2,a3⟩:=LA (d:=[]) (e:=e) ⟨[x.No],x.eG⟩ h
    rw[qD,qD]at a1
    rw[a1]
    rw[show(conPut ⟨[x.No],x.eG⟩ m (e.map toI)).2=e1.map toI from a2]
    exact yD gv l f a3
   |false=>exact yD gv l f h
theorem has29(n:Int):∀l:List Int,m5 l n=l.contains n
 |[]=>rfl
 |y::l=>by
  have ih:=has29 n l
  unfold m5 at ih ⊢
  simp only[m5.L1,List.contains_cons,ih,Bool.cond_eq_ite]
  grind
theorem CO{ps:List Int}{all:List av}{f:List (Int×List av)}(hf:∀to,mgetD f to []=all.filter λx=>x.Of&&(x.bw==to)):∀(n:Nat){m:List (Int×Bool)}{d e:List fw},Met m (d++e)->rwLoop ps all n d.length (d++e)=conLoop ps f n m (e.map toI)
 |0,m,d,e,h=>rfl
 |n+1,m,d,[],h=>by simp[rwLoop,conLoop]
 |n+1,m,d,x::e,h=>by
  have hx:(d++x::e)[d.length]? = some x:=by simp
  have hl:d.length+1=(d++[x]).length:=by simp
  have hd:d++x::e=(d++[x])++e:=by simp
  simp only[rwLoop,hx,jG,conLoop]
  rw[has29,show(toI x).to=x.To from rfl,show(toI x).path=x.mn from rfl]
  cases ps.contains x.To with
  |true=>rfl
  |false=>
   simp only[cond_false]
   rw[hd]at h ⊢
   rw[hl]
   cases(x.mn.length:Int)==8 with
   |true=>exact CO hf n h
   |false=>
    simp only[cond_false]
    obtain⟨e',a1,a2,a3⟩:=CN x.mn x.To all h
    rw[a1,hf,a2]
    exact CO hf n a3
theorem Br(b:Bool):∀(l:List Int)(g:Int),cG.L1 (λ_=>bif b then 1 else 0) l g=bif b||!(decide ((∀x∈l,g<x/\x<=1048576)/\l.Pairwise (·<·)))then 1 else 0
 |[],g=>by simp[cG.L1]
 |y::l,g=>by
  simp only[cG.L1,Br b l y]
  cases hc:(decide (y<=g)||decide (1048576<y))with
  |true=>
   rw[show decide ((∀x∈y::l,g<x/\x<=1048576)/\(y::l).Pairwise (·<·))=false from by
    simp only[xC,decide_eq_true_eq]at hc
    simp only[decide_eq_false_iff_not]
    intro h;have:=h.1 y (zB ..);omega]
   simp
  |false=>
   simp only[Bool.or_eq_false_iff,decide_eq_false_iff_not]at hc
   simp only[cond_false]
   congr 3
   rw[decide_eq_decide,List.pairwise_cons,List.forall_mem_cons]
   grind
theorem parties29{l:List Int}:gC l=true↔((∀x∈l,-1<x/\x<=1048576)/\l.Pairwise (·<·))/\l.length<=16:=by
 have e:∀(L l:List Int)i,gC.L1 L (gC.K1 L) l i=refLs (λy=>!(nM y)) L (gC.K1 L) l i:=by
  intro L l
  induction l with
  |nil=>intro i;rfl
  |cons y l ih=>intro i;simp only[gC.L1,refLs,ih]
 have hB:∀y:Int,(!(nM y))=false↔-1<y/\y<=1048576:=λy=>by
  simp only[nM,Bool.not_eq_false',jA,decide_eq_true_eq];omega
 have hK:gC.K1 l=true↔l.length<=16:=by simp only[gC.K1,decide_eq_true_eq];omega
 unfold gC
 rw[e]
 constructor
 .grind [Im]
 .intro h
  exact yG (λy hy=>(hB y).2 (h.1.1 y hy)) h.1.2 (hK.2 h.2) l [] rfl
theorem examine29(l:List av)(p:Int)(ps:List Int)(t ad:Int):cG l p ps t ad=lg l p ps t ad:=by
 unfold cG lg
 rw[tb]
 cases iS l != 0 with
 |true=>rfl
 |false=>
  simp only[cond_false]
  have e:=Br ((((!(dS p 64))||decide (16<(ps.length:Int)))||(!(dS t 1099511627776)))||(!(dS ad 1099511627776))) ps (-1)
  rw[show cG.K1 p ps t ad=λ_=>bif((((!(dS p 64))||decide (16<(ps.length:Int)))||(!(dS t 1099511627776)))||(!(dS ad 1099511627776)))then 1 else 0 from rfl,e]
  congr 1
  have hp:gC ps=(decide ((∀x∈ps,-1<x/\x<=1048576)/\ps.Pairwise (·<·))&&!(decide (16<(ps.length:Int)))):=by
   rw[jF,parties29]
   grind
  grind [dS,qj,oU]
theorem KZ{l:List av}(h:cK l=0):l.Pairwise (λa b=>a.No<b.No):=by grind [cK,interestsP,rB]
theorem conflict29(l:List av)(p:Int)(ps:List Int)(t ad:Int):fy l p ps t ad=conflictR l p ps t ad:=by
 unfold fy conflictR
 rw[examine29]
 cases he:lg l p ps t ad != 0 with
 |true=>rfl
 |false=>
  have h0:lg l p ps t ad=0:=by simpa using he
  have hc:cK l=0/\0<=t/\0<=ad:=by
   rw[tb]
   unfold lg at h0
   rw[Bool.cond_eq_ite]at h0
   split at h0
   .next h=>simp[h0]at h
   .next h=>
    rw[Bool.cond_eq_ite]at h0
    split at h0
    .omega
    .next h2=>
     simp only[xC,not_or,Bool.not_eq_true,Bool.not_eq_false',oU,jA,decide_eq_true_eq]at h2
     exact⟨by simpa using h,by omega,by omega⟩
  have hs:cH l t ad=standR l t ad:=standing29 hc.2.1 hc.2.2 (KZ hc.1)
  simp only[cond_false,conFind,hs]
  obtain⟨e',a1,a2,a3,a4⟩:=yD p (standR l t ad) [] (m:=[]) (e:=[]) (λt=>rfl)
  have:=CO (ps:=ps) (all:=standR l t ad) (f:=(conFill p (standR l t ad) [] [] []).1) (λto=>by
   have:=a4 to
   rw[Zt]at this
   rw[this];rfl) (l.length+1) (d:=[]) (e:=e') a3
  grind
structure ChL(l:List Int):Prop where
 inc:l.Pairwise (·<·)
 zero:∃l',l=0::l'
 tm:∀x∈l,0<=x/\x<1099511627776
theorem SF{a b:List Int}(ha:a.Pairwise (·<·))(hb:b.Pairwise (·<·))(h:∀x,x∈a↔x∈b):a=b:=
 (DI ha hb λx hx=>(h x).1 hx).eq_of_length_le (DI hb ha λx hx=>(h x).2 hx).length_le
theorem Lv(l:List aj)(hd:d∈l):mhas (aG l).at_ d.No=true:=by
 have:=(xx l l 0 []).2 d.No
 show mhas (aG.L1 (aG.K1 l) l 0 []).at_ d.No=true
 grind
theorem uS{t:Int}(h:0<=t/\t<1099511627776):j3 t=true:=by
 simp only[j3,jA,decide_eq_true_eq];exact h
theorem F0{t:Int}(hc:aR l=0)(hs:bT l signed=true)(ht:0<=t/\t<1099511627776):(bR l signed t).2=0:=by
 unfold bR
 rw[hc,hs,uS ht]
 simp only[bne_self_eq_false,cond_false,Bool.not_true,Bool.or_false]
 have:∀(s:List aj)(i:Nat)(g:List Int),(bR.L1 l signed t bR.K1 s i g).2=0:=by
  intro s
  induction s with
  |nil=>intro i g;rfl
  |cons y s ih=>intro i g;simp only[bR.L1,Bool.cond_eq_ite];split<;>exact ih _ _
 exact this _ _ _
theorem Vh{t:Int}(hc:aR l=0)(hs:bT l signed=true)(ht:0<=t/\t<1099511627776)(hd:d∈l):(i5 l signed d.No t).2.2=0:=by grind [i5,uS,uC,Lv]
theorem VO(hd:d∈l)(hf:f d=true):0<=ah l f/\ah l f<(l.length:Int):=by grind [ah,kA,xA,D7]
theorem TW(h:bT l signed=true):signed.length=l.length:=by
 simp only[bT,jA,beq_iff_eq]at h
 have:=h.1
 omega
section
variable {c:bZ} (h:kj c)
include h
theorem kj.docs:aR c.Register.cj=0:=((kh _).1 h.chk).2.2.2.2.2.1
theorem K9{signed:List Int}(hs:bT c.Register.cj signed=true):(bR c.Register.cj signed c.at_).2=0:=F0 h.docs hs h.time
theorem S3{signed:List Int}{d:aj}(hs:bT c.Register.cj signed=true)(hd:d∈c.Register.cj):(i5 c.Register.cj signed d.No c.at_).2.2=0:=Vh h.docs hs h.time hd
theorem S4{signed:List Int}(hs:bT c.Register.cj signed=true):0<=ah c.Register.cj (λfX=>iV fX c)/\ah c.Register.cj (λfX=>iV fX c)<(signed.length:Int):=by
 rw[TW hs]
 exact VO h.bD (by simp[iV])
end
theorem J9:∀(xs out:List Int),out.Pairwise (·<·)->(∀a∈out,∀y∈xs,a<=y)->xs.Pairwise (·<=·) ->
  (xs.foldl compStep out).Pairwise (·<·)/\∀z,z∈xs.foldl compStep out↔z∈out\/z∈xs
 |[],out,h1,_,_=>⟨h1,λz=>by simp⟩
 |x::xs,out,h1,h2,h3=>by
  rw[List.pairwise_cons]at h3
  simp only[zK]
  by_cases hx:out.getLast? = some x
  .have e:compStep out x=out:=by simp[compStep,hx]
   rw[e]
   obtain⟨a,b⟩:=J9 xs out h1 (λa ha y hy=>h2 a ha y (qC _ hy)) h3.2
   grind
  .have e:compStep out x=out++[x]:=by simp[compStep,hx]
   rw[e]
   have hlt:∀a∈out,a<x:=by
    intro a ha
    have eT:=h2 a ha x (zB ..)
    rcases Int.lt_or_eq_of_le eT with h|h
    .exact h
    .exfalso
     subst h
     obtain⟨pre,post,hp⟩:=List.append_of_mem ha
     cases post with
     |nil=>exact hx (by rw[hp];simp)
     |cons p post=>
      rw[hp,List.pairwise_append]at h1
      have h4:=(List.pairwise_cons.1 h1.2.1).1 p (zB ..)
      have h5:=h2 p (by rw[hp];simp) a (zB ..)
      omega
   obtain⟨a,b⟩:=J9 xs (out++[x]) (by
     rw[List.pairwise_append]
     exact⟨h1,List.pairwise_singleton _ _,λa ha y hy=>by rw[kB.1 hy];exact hlt a ha⟩) (λa ha y hy=>by
     rcases qE.1 ha with ha|ha
     .grind
     .rw[kB.1 ha];exact h3.1 y hy) h3.2
   grind
def setI(xs:List Int):List Int:=compI (sortI xs)
theorem Vr(xs:List Int):(setI xs).Pairwise (·<·)/\∀z,z∈setI xs↔z∈xs:=by
 obtain⟨a,b⟩:=J9 (sortI xs) [] List.Pairwise.nil (λ_ h=>(vA h).elim) (oJ xs)
 refine⟨a,λz=>(b z).trans ?_⟩
 rw[(m7 xs).mem_iff]
 simp
theorem Lw{a xs:List Int}(h:a.Pairwise (·<·))(hm:∀z,z∈a↔z∈xs):a=setI xs:=by grind [SF,Vr]
theorem Uz(h:0<=ah l f):∃a y b,l=a++y::b/\nthI l (ah l f)=y/\f y=true/\∀x∈a,f x=false:=by
 unfold ah at h ⊢
 rcases D7 f l 0 with⟨h1,_⟩|⟨a,y,b,h1,h2,h3,h4⟩
 .omega
 .refine⟨a,y,b,h1,?_,h3,h4⟩
  rw[h2,Nat.zero_add]
  exact ky (by rw[h1];simp)
theorem Nn{r:Register}{t:Int}(hc:cQ r=0)(h:nr r bD t ad=.ok c):
  c=⟨r,c.bD,t,ad⟩/\kj c/\c.bD.No=bD/\∃a b,r.cj=a++c.bD::b/\∀x∈a,x.No≠bD:=by
 unfold nr at h
 rw[Bool.cond_eq_ite]at h
 split at h
 .cases h
 .next hn=>
  simp only[xC,not_or,decide_eq_true_eq]at hn
  obtain⟨⟨h1,h2⟩,h3⟩:=hn
  cases h
  obtain⟨a,y,b,e1,e2,e3,e4⟩:=Uz (by omega:0<=ah r.cj (λfX=>bz fX bD))
  rw[e2]
  refine⟨rfl,⟨hc,by rw[e1];simp,?_,?_⟩,?_,a,b,e1,λx hx=>?_⟩
  .show 0<=t/\t<1099511627776;omega
  .grind
  .simpa[bz]using e3
  .simpa[bz]using e4 x hx
theorem PF(f:aC->Bool):∀(l:List aC)(i:Nat),(bM.L1 f bM.K1 l i=-1/\∀x∈l,f x=false) \/
  ∃a y b,l=a++y::b/\bM.L1 f bM.K1 l i=((i+a.length:Nat):Int)/\f y=true/\∀x∈a,f x=false
 |[],i=>.inl ⟨rfl,λ_ h=>(vA h).elim⟩
 |y::l,i=>by
  simp only[bM.L1]
  cases hy:f y with
  |true=>exact .inr ⟨[],y,l,rfl,by simp,hy,λ_ h=>(vA h).elim⟩
  |false=>
   rcases PF f l (i+1)with⟨h1,h2⟩|⟨a,z,b,rfl,h2,h3,h4⟩
   all_goals grind
theorem yK(c:bZ)(no:Int):(gm c no=.error 1/\∀v∈c.Register.Versions,v.No≠no)\/∃a v b,c.Register.Versions=a++v::b/\gm c no=.ok v.aw/\v.No=no/\∀x∈a,x.No≠no:=by
 unfold gm bM
 rcases PF (λfX=>ju fX no) c.Register.Versions 0 with⟨h1,h2⟩|⟨a,v,b,h1,h2,h3,h4⟩
 .left
  rw[h1]
  exact⟨rfl,λv hv=>by simpa[ju]using h2 v hv⟩
 .right
  refine⟨a,v,b,h1,?_,by simpa[ju]using h3,λx hx=>by simpa[ju]using h4 x hx⟩
  rw[h2,show decide (((0+a.length:Nat):Int)<0)=false from decide_eq_false (by omega),cond_false,Nat.zero_add,ky (x:=v) (by rw[h1];simp)]
theorem SI{no:Int}(h:gm c no=.ok p):∃v∈c.Register.Versions,v.No=no/\v.aw=p:=by grind [yK]
theorem Ng{no:Int}(h:∃v∈c.Register.Versions,v.No=no):exOk (gm c no):=by
 obtain⟨v,hv,hn⟩:=h
 rcases yK c no with⟨_,h2⟩|⟨_,_,_,_,h2,_⟩
 .exact absurd hn (h2 v hv)
 .rw[h2];trivial
structure Qc(p:aw):Prop where
 sm:smP p
 off:p.aD.length<=32
 rules:p.dt.length=p.ey.length/\∀y∈p.dt,0<=y.iJ/\y.iJ<=1099511627775
theorem uJ(h:kj c)(hs:smR c.Register){no:Int}(hp:gm c no=.ok p):Qc p:=by
 obtain⟨v,hv,_,rfl⟩:=SI hp
 have hg:=(h.vers.each v hv).2.2.2
 exact⟨hs.1.2 v hv,(sS hg).2.1,(sS hg).1,(Kd hg).2.2⟩
theorem WS{ρ : Type}[Inhabited ρ]{x:Except Int ρ}{p:ρ}(h:x=.ok p):exD x=p:=by subst h;rfl
theorem Tb(l:List ae)(bD aT ad:Int):(fS l bD aT ad).length<=l.length:=by
 show(de.L1 bD aT ad de.K1 l).length<=l.length
 induction l with
 |nil=>exact zE _
 |cons y l ih=>simp only[de.L1,Bool.cond_eq_ite];split<;>simp only[xA]<;>omega
theorem S8(l:List ae)(bD aT ad:Int):(aK l bD aT ad).length<=l.length:=by
 have h2:∀(g:List (eY×ae))(s acc:List ae),(aK.L2 g aK.K2 s acc).length<=acc.length+s.length:=by
  intro g s
  induction s with
  |nil=>intro acc;exact zE _
  |cons y s ih=>
   intro acc
   simp only[aK.L2,Bool.cond_eq_ite]
   grind
 have h1:∀(s:List ae)(g:List (eY×ae)),(aK.L1 (aK.K1 l bD aT ad) s g).length<=l.length:=by
  intro s
  induction s with
  |nil=>
   intro g
   have h3:=h2 g (fS l bD aT ad) []
   have h4:=Tb l bD aT ad
   show(aK.L2 g aK.K2 (fS l bD aT ad) []).length<=l.length
   simp only[xB]at h3;omega
  |cons y s ih=>intro g;simp only[aK.L1,Bool.cond_eq_ite];split<;>exact ih _
 exact h1 _ _
theorem Es(l:List ae)(d b th t k:Int):(cC l d b th t k).1.length<=l.length:=by
 unfold cC
 simp only[Bool.cond_eq_ite]
 split
 .exact kJ _
 .split
  .exact kJ _
  .exact zN (List.length_filter_le _ _) (S8 _ _ _ _)
def goodA(c:bZ)(y:ae):Bool:=(((jq c.Register.fj y.dQ y.For c.at_ c.ad).2.2.1&&(aJ c.Register.dY y.For y.By y.dQ c.bD.Kind c.bD.Value c.at_ c.ad).2.1)&&(!(jY c y.For)))&&(!(jY c y.By))
theorem RZ(c:bZ):∀l:List ae,dl.L1 c dl.K1 l=l.filter (goodA c)
 |[]=>rfl
 |y::l=>by
  simp only[dl.L1,List.filter_cons,RZ c l,Bool.cond_eq_ite]
  rfl
theorem NF(c:bZ)(p:aw):j8 c p=bif decide ((p.ey.length:Int)<=c.bD.Kind)then[]else((cC c.Register.bS c.bD.No c.bD.At ((nthI p.dt c.bD.Kind).iJ) c.at_ c.ad).1).filter (goodA c):=by
 show dl c p=_
 unfold dl
 rw[RZ]
theorem LM(c:bZ)(p:aw):cZ c p=setI ((j8 c p).map (·.For)):=by
 have:∀(s:List ae)(g:List Int),cZ.L1 cZ.K1 s g=setI (g++s.map (·.For)):=by
  intro s
  induction s with
  |nil=>intro g;simp[cZ.L1,cZ.K1,setI,slices_Compact_int]
  |cons y s ih=>intro g;simp only[cZ.L1,ih,jG,zC,jK,qD]
 have h:=this (j8 c p) []
 rw[qD]at h
 exact h
theorem PX:∀(xs out:List Int),(xs.foldl compStep out).length<=out.length+xs.length
 |[],out=>zE _
 |x::xs,out=>by
  simp only[zK,xA]
  have h1:=PX xs (compStep out x)
  grind [compStep]
theorem UF(hs:smR c.Register)(p:aw):(j8 c p).length<=2000000:=by
 rw[NF,Bool.cond_eq_ite]
 have h3:=hs.2.2.2.2.2.2
 grind [Es]
theorem I3(hs:smR c.Register)(p:aw):(cZ c p).length<=2000000:=by
 rw[LM]
 have h1:=PX (sortI ((j8 c p).map (·.For))) []
 rw[kO,List.length_map]at h1
 have h2:(j8 c p).length<=c.Register.bS.length:=by
  grind [NF,Es]
 have h3:=hs.2.2.2.2.2.2
 show(compI _).length<=_
 grind [compI,xB]
theorem MW(u:List Use)(v t k:Int):∀s:List Budget,(bo.L1 u v t k bo.K1 s).2.2=0
 |[]=>rfl
 |y::s=>by
  simp only[bo.L1]
  have:∀(l:List Int)(a b:Int),(bo.L3 (λzg3_b6_0 zg3_b5_0=>(bif(decide (y.Count<zg3_b5_0)||decide (y.Value<zg3_b6_0))then(y.No,false,0)else(bo.L1 u v t k bo.K1 s))) l a b).2.2=0:=by
   intro l
   induction l with
   |nil=>intro a b;simp only[bo.L3,Bool.cond_eq_ite];split;rfl;exact MW u v t k s
   |cons z l ih=>intro a b;simp only[bo.L3];exact ih _ _
  exact this _ _ _
theorem oI{z:Int}:ct a b [z]=true↔a<=z/\z<=b:=by
 simp only[ct,containsF,lV,List.any_cons,List.any_nil,Bool.or_false,vD,Bool.or_eq_false_iff,decide_eq_false_iff_not];omega
theorem wJ{y z:Int}:ct a b [y,z]=true↔(a<=y/\y<=b)/\(a<=z/\z<=b):=by
 simp only[ct,containsF,lV,List.any_cons,List.any_nil,Bool.or_false,vD,Bool.or_eq_false_iff,decide_eq_false_iff_not];omega
theorem Ub{l:List Budget}(h:(bo l u 0 0 0 0).2.2=0){k v t:Int}(hk:0<=k/\k<16)(hv:0<=v/\v<=1099511627776)(ht:0<=t/\t<1099511627776)(hn:0<=n/\n<1099511627776):(bo l u k v t n).2.2=0:=by
 unfold bo at h ⊢
 cases h1:(bY l) != 0 with
 |true=>
  grind
 |false=>
  rw[h1,cond_false]at h
  rw[cond_false]
  cases h2:decide (4096<(u.length:Int))with
  |true=>rw[h2,cond_true]at h;cases h
  |false=>
   rw[h2,cond_false]at h
   rw[cond_false]
   cases h3:fE u with
   |false=>rw[h3]at h;cases h
   |true=>
    rw[oI.2 (show(0:Int)<=k/\k<=15 by omega),oI.2 hv,wJ.2 (show((0:Int)<=t/\t<=1099511627775)/\(0<=n/\n<=1099511627775) by omega)]
    exact MW _ _ _ _ _
theorem NC{t:Int}(h:(bR l signed t).2=0):bT l signed=true:=by grind [bR]
theorem S5(h:iy c signed=false):c.bD.At<=c.at_:=by grind [iy,Bool.or_eq_false_iff,decide_eq_false_iff_not]
theorem Sy:smP cL:=by
 refine⟨by decide,λr hr=>?_,by decide,by decide,by decide⟩
 rw[kB.1 hr];decide
theorem mp{a:List aA}{i:List av}{b:List Budget}(ha:a.length<=9)(hi:i.length<=9)(hb:b.length<=9):smR ⟨a,aQ.dY,i,b,aQ.Versions,aQ.cj,aQ.bS⟩:=by
 have h1:aQ.Versions.length<=2000000:=by decide
 have h2:aQ.dY.length<=2000000:=by decide
 have h3:aQ.cj.length<=2000000:=by decide
 have h4:aQ.bS.length<=2000000:=by decide
 refine⟨⟨h1,λv hv=>?_⟩,by show a.length<=_;omega,h2,by show i.length<=_;omega,by show b.length<=_;omega,h3,h4⟩
 rw[kB.1 hv];exact Sy
theorem En(no:Int):∀(l:List aj)(i:Nat),cI.L1 no cI.K1 l i=ah.L1 (λfX=>bz fX no) ah.K1 l i
 |[],i=>rfl
 |y::l,i=>by
  simp only[cI.L1,ah.L1,bz,Bool.cond_eq_ite]
  split
  .rfl
  .exact En no l (i+1)
theorem VH{r:Register}{t:Int}(hd:0<=cI r bD)(ht:0<=t/\t<1099511627776)(hk:0<=ad/\ad<1099511627776):nr r bD t ad=.ok ⟨r,nthI r.cj (cI r bD),t,ad⟩:=by
 have e:ah r.cj (λfX=>bz fX bD)=cI r bD:=(En bD r.cj 0).symm
 grind [nr]
theorem DZ{l:List Int}(h:∀x∈l,0<=x/\x<n)(hi:0<=i/\i<n):∀x∈(l.take k++[i])++l.drop k,0<=x/\x<n:=by grind
theorem VG{l:List Int}(h:∀x∈l,0<=x/\x<n)(hn:0<n)(i:Int):0<=nthI l i/\nthI l i<n:=
 Nq (P:=λx:Int=>0<=x/\x<n) h ⟨Int.le_refl _,hn⟩ i
theorem w6:∀{l:List Int},eV l n=true->n∈l:=by
 have h:∀l:List Int,eV.L1 n (eV.K1) l=true->n∈l:=by
  intro l
  induction l with
  |nil=>intro h;simp[eV.L1,eV.K1]at h
  |cons y l ih=>
   intro h
   simp only[eV.L1,Bool.cond_eq_ite]at h
   grind
 intro l;exact h l
theorem UD{l:List Int}{n m:Nat}(h:∀x∈l,0<=x/\x<(n:Int))(e:m=n)(c:(!(eV l i))=false):0<=i/\i<(m:Int):=by
 subst e;exact h i (w6 (by simpa using c))
theorem uV(signed:List Int)(t:Int):∀x∈aX signed t,0<=x/\x<(signed.length:Int):=by
 have h3:∀(y1:Int)(g:List Int)(k:Nat->List Int)(P:List Int->Prop),(∀i,P (k i))->∀(s:List Nat)(i:Nat),P (aX.L3 signed y1 g k s i):=by
  intro y1 g k P hk s
  induction s with
  |nil=>intro i;exact hk i
  |cons y s ih=>intro i;simp only[aX.L3,Bool.cond_eq_ite];split;exact ih _;exact hk _
 have h1:∀(s:List Int)(i:Nat)(g:List Int),i+s.length=signed.length->(∀x∈g,0<=x/\x<(signed.length:Int)) ->
   ∀x∈aX.L1 signed t (aX.K1) s i g,0<=x/\x<(signed.length:Int):=by
  intro s
  induction s with
  |nil=>intro i g _ hg;exact hg
  |cons y s ih=>
   intro i g hi hg
   simp only[xA]at hi
   simp only[aX.L1,Bool.cond_eq_ite]
   split
   .exact ih _ _ (by omega) hg
   .exact h3 _ _ _ (λr=>∀x∈r,0<=x/\x<(signed.length:Int)) (λk=>ih _ _ (by omega) (DZ hg (by omega))) _ _
 exact h1 signed 0 [] (by omega) (λx hx=>(vA hx).elim)
theorem uM{l:List aj}{signed:List Int}(h:dq l signed=true):signed.length=l.length:=by
 have h1:∀s:List Int,dq.L1 (dq.K1 l signed) s=true->dq.K1 l signed=true:=by
  intro s
  induction s with
  |nil=>intro h;exact h
  |cons y s ih=>
   intro h
   simp only[dq.L1,Bool.cond_eq_ite]at h
   split at h
   .cases h
   .exact ih h
 have h2:=h1 signed h
 simp only[dq.K1,beq_iff_eq]at h2
 omega
theorem Tc(l:List aj)(signed:List Int)(t:Int)(hsg:signed.length=l.length):(bx l signed t).length=l.length:=by
 have h4:∀(i2:Nat)(y2:Int)(g:List Bool)(k:List Int->List Int)(P:List Int->Prop)(n:Nat),(∀r:List Int,r.length=n->P (k r)) ->
   ∀(s:List Nat)(i:Nat)(r:List Int),r.length=n->P (bx.L4 l signed t i2 y2 g k s i r):=by
  intro i2 y2 g k P n hk s
  induction s with
  |nil=>intro i r hr;exact hk r hr
  |cons y s ih=>
   intro i r hr
   simp only[bx.L4,Bool.cond_eq_ite]
   grind
 have h2:∀(s:List Int)(i:Nat)(g:List Bool)(r:List Int),(bx.L2 l signed t (bx.K2) s i g r).length=r.length:=by
  intro s
  induction s with
  |nil=>intro i g r;rfl
  |cons y s ih=>
   intro i g r
   simp only[bx.L2]
   exact h4 _ _ _ _ (λx=>x.length=r.length) r.length (λq hq=>by rw[ih];exact hq) _ _ _ rfl
 have h1:∀(s:List aj)(g:List Int),(bx.L1 (bx.K1 l signed t) s g).length=g.length+s.length:=by
  intro s
  induction s with
  |nil=>intro g;simp only[bx.L1,bx.K1];rw[h2];rfl
  |cons y s ih=>intro g;simp only[bx.L1];rw[ih];simp only[kA,xA,xB];omega
 have:=h1 l []
 simpa[bx]using this
theorem Gp{l:List aj}(h:((dH l) != 0)=false):∀d∈l,d.eQ.length<=16:=by
 intro d hd
 have h0:dH l=0:=by simpa using h
 exact(FJ ((U5 h0).2 d hd)).needs.2
theorem CU{l:List Budget}{t:Int}(h:x∈eK l n t ad):x∈l:=by
 have h1:∀(s:List Budget)(i:Nat)(g:List Budget),x∈eK.L1 l n t ad (eK.K1) s i g->x∈g\/x∈s:=by
  intro s
  induction s with
  |nil=>intro i g h;exact .inl h
  |cons y s ih=>
   intro i g h
   simp only[eK.L1,Bool.cond_eq_ite]at h
   grind
 rcases h1 l 0 [] h with h|h
 .exact(vA h).elim
 .exact h
theorem M6{l:List Budget}{n t ad:Int}{x:Budget}(h:iE l=0)(hx:x∈eK l n t ad):x.mH≠0:=by
 have h2:bY l=0:=(tP l).trans h
 grind [xj,sU,CU]
def bstM(kind t ad:Int):List Budget->List (ig×Budget)->List (ig×Budget)
 |[],m=>m
 |y::l,m=>bif((decide (t<y.At)||decide (ad<y.eH))||((y.Kind != (-1))&&(y.Kind != kind)))then bstM kind t ad l m else bif((!(mhas m (ig.mk y.Kind y.mH)))||decide ((mgetD m (ig.mk y.Kind y.mH) (YM 0 0 0 0 0 0 0 false)).At<=y.At))then bstM kind t ad l (mput m (ig.mk y.Kind y.mH) y)else bstM kind t ad l m
theorem U8(kind t ad:Int)(k:List (ig×Budget)->List Budget):∀(l:List Budget)m,aZ.L1 kind t ad k l m=k (bstM kind t ad l m)
 |[],m=>rfl
 |y::l,m=>by
  simp only[aZ.L1,bstM,U8 kind t ad k l,Bool.cond_eq_ite]
  repeat' split
  all_goals rfl
theorem U7(v:List (ig×Budget)):∀(l g:List Budget),aZ.L2 v aZ.K2 l g=g++l.filter λy=>(!y.mU)&&decide ((mgetD v (ig.mk y.Kind y.mH) (YM 0 0 0 0 0 0 0 false))=y)
 |[],g=>by simp[aZ.L2,aZ.K2]
 |y::l,g=>by
  simp only[aZ.L2,List.filter_cons,U7 v l]
  grind
theorem deputiesP(l:List aE)(g:Int):dG.L1 dG.K1 l g=prgChk oz (·.No) 160 l g:=by
 induction l generalizing g with
 |nil=>rfl
 |cons y l ih=>simp only[dG.L1,prgChk,ih]
theorem BG{sg:List Int}:bT l sg=true↔sg.length=l.length/\∀x∈sg,lG x=false:=by
 unfold bT
 rw[jA,beq_iff_eq,containsF]
 grind
theorem SD{l:List Budget}(h:(bo l u 0 0 0 0).2.2=0):u.length<=4096/\fE u=true:=by
 unfold bo at h
 cases c0:(bY l) != 0 with
 |true=>rw[c0]at h;simp only[cond_true]at h;rw[h]at c0;cases c0
 |false=>
  grind
theorem SE{l:List Budget}(hc:bY l=0)(hl:u.length<=4096)(hu:fE u=true):(bo l u 0 0 0 0).2.2=0:=by
 unfold bo
 have c1:decide (4096<(u.length:Int))=false:=by simp;omega
 rw[hc,c1,hu]
 have c2:(((!(ct 0 15 ([0])))||(!(ct 0 1099511627776 ([0]))))||(!(ct 0 1099511627775 ([0,0]))))=false:=by decide
 rw[c2]
 exact MW u 0 0 0 _
section
variable {r:Register} {d:aj} {t ad:Int} {signed:List Int} {u:List Use} (hco:kj ⟨r,d,t,ad⟩) (hs:bT r.cj signed=true) (hr:(bo r.fF u 0 0 0 0).2.2=0)
include hco hs hr
end
theorem OJ(b:List Int):∀(l pre:List Int),b=pre++l->iv.L1 b true l pre.length=true
 |[],_,_=>rfl
 |y::l,pre,h=>by
  have hy:nthI b (pre.length:Int)=y:=ky (by rw[h];simp)
  have ih:=OJ b l (pre++[y]) (by rw[h];simp)
  rw[kA,xA,xB,Nat.zero_add]at ih
  have e:(y != y)=false:=by simp
  simp only[iv.L1,hy,e,cond_false]
  exact ih
theorem Qj(s:List Int):iv s s=true:=by
 unfold iv
 have e:((s.length:Int) != (s.length:Int))=false:=by simp
 rw[e]
 exact OJ s s [] rfl
theorem uses18(h:eZ u=true):fE u=true:=by
 have h3:∀(y:Use)(k:Bool)(s:List Nat)(j:Nat),eZ.L3 u y k s j=true->k=true/\∀q:Nat,j<=q->q<j+s.length->(nthI u (q:Int)).Doc≠y.Doc:=by
  intro y k s
  induction s with
  |nil=>intro j h;exact⟨h,λq h1 h2=>by simp at h2;omega⟩
  |cons z s ih=>
   intro j h
   simp only[eZ.L3,Bool.cond_eq_ite]at h
   split at h
   .cases h
   .next hc=>
    obtain⟨h1,h2⟩:=ih _ h
    grind
 have h1:∀(s:List Use)(i:Nat)(m:List (Int×Bool)),u.drop i=s->(∀x,mgetD m x false=true->∃q:Nat,q<i/\(nthI u (q:Int)).Doc=x)->eZ.L1 u (eZ.K1) s i=true->fE.L1 fE.K1 s m=true:=by
  intro s
  induction s with
  |nil=>intro i m _ _ _;rfl
  |cons y s ih=>
   intro i m hd hm h
   simp only[eZ.L1,Bool.cond_eq_ite]at h
   split at h
   .cases h
   .next hc=>
    simp only[xC,not_or,Bool.not_eq_true,Bool.not_eq_false',ie,oW,jg,jA,decide_eq_true_eq]at hc
    obtain⟨⟨⟨⟨c1,c2⟩,c3⟩,c4⟩,c5⟩:=hc
    obtain⟨h4,h5⟩:=h3 _ _ _ _ h
    have e0:mgetD m y.Doc false=false:=by
     grind
    simp only[fE.L1,e0,(oI (a:=0) (b:=4095) (z:=y.Doc)).2 ⟨by omega,by omega⟩,(oI (a:=0) (b:=15) (z:=y.Kind)).2 ⟨by omega,by omega⟩,(oI (a:=0) (b:=1099511627776) (z:=y.Value)).2 ⟨by omega,by omega⟩,(wJ (a:=0) (b:=1099511627775) (y:=y.At) (z:=y.eH)).2 ⟨⟨by omega,by omega⟩,⟨by omega,by omega⟩⟩,Bool.not_true,Bool.or_false,cond_false]
    refine ih (i+1) _ (nl hd) (λx hx=>?_) h4
    unfold mgetD at hx
    rw[i8]at hx
    split at hx
    .next e=>exact⟨i,Nat.lt_succ_self _,by rw[e,ky (sR hd)]⟩
    .obtain⟨q,hq,he⟩:=hm x hx;exact⟨q,by omega,he⟩
 exact h1 u 0 [] rfl (λx hx=>by cases hx) h
theorem signs17(h:dq l signed=true):bT l signed=true:=by
 rw[BG]
 refine⟨uM h,?_⟩
 have h1:∀s:List Int,dq.L1 (dq.K1 l signed) s=true->∀x∈s,lG x=false:=by
  intro s
  induction s with
  |nil=>intro _ x hx;exact(vA hx).elim
  |cons y s ih=>
   intro h x hx
   simp only[dq.L1,Bool.cond_eq_ite]at h
   split at h
   .cases h
   .next hc=>
    rcases vC.1 hx with rfl|hx
    .exact Bool.eq_false_iff.2 hc
    .exact ih h x hx
 exact h1 signed h
theorem BW{r:Register}(hsm:smR r){t:Int}(he:jb r signed u bD t ad=0):
  cQ r=0/\0<=cI r bD/\(0<=t/\t<1099511627776)/\(0<=ad/\ad<1099511627776)/\bT r.cj signed=true/\(bo r.fF u 0 0 0 0).2.2=0:=by
 unfold jb at he
 simp only[Bool.cond_eq_ite]at he
 split at he
 .cases he
 .next e1=>
  split at he
  .next e2=>exact absurd he (by simpa using e2)
  .next e2=>
   split at he
   .next e3=>exact absurd he (by simpa using e3)
   .next e3=>
    split at he
    .cases he
    .next e4=>
     have c1:ij r=0:=by simpa using e1
     have c2:(ej r.cj signed 0).2=0:=by simpa using e2
     have c3:(gH r.fF u 0 0 0 0).2.2=0:=by simpa using e3
     simp only[xC,not_or,Bool.not_eq_true,Bool.not_eq_false',decide_eq_true_eq,nL,jA]at e4
     obtain⟨⟨h4,h5⟩,h6⟩:=e4
     have hc:=(judge30 hsm).2 c1
     have hs:bT r.cj signed=true:=by
      refine signs17 ?_
      unfold ej at c2
      cases q1:dH r.cj != 0 with
      |true=>rw[q1]at c2;simp only[cond_true]at c2;rw[c2]at q1;cases q1
      |false=>
       rw[q1]at c2
       cases q2:dq r.cj signed with
       |true=>rfl
       |false=>rw[q2]at c2;simp at c2
     have hu:u.length<=4096/\fE u=true:=by
      unfold gH at c3
      cases q1:iE r.fF != 0 with
      |true=>rw[q1]at c3;simp only[cond_true]at c3;rw[c3]at q1;cases q1
      |false=>
       rw[q1]at c3
       cases q2:decide (4096<(u.length:Int))with
       |true=>rw[q2]at c3;simp at c3
       |false=>
        rw[q2]at c3
        cases q3:eZ u with
        |true=>exact⟨by simp at q2;omega,uses18 q3⟩
        |false=>rw[q3]at c3;simp at c3
     exact⟨hc,by omega,h5,h6,hs,SE ((kh r).1 hc).2.2.2.1 hu.1 hu.2⟩
abbrev rCourt(r:Register)(bD t ad:Int):bZ:=⟨r,nthI r.cj (cI r bD),t,ad⟩
theorem BV{r:Register}(hsm:smR r){t:Int}(he:jb r signed u bD t ad=0):
  kj (rCourt r bD t ad)/\da r signed u bD t ad=(judgeC (rCourt r bD t ad) r signed u t ad,0):=by
 obtain⟨hc,hd,ht,hk,hs,hr⟩:=BW hsm he
 have ho:=VH hd ht hk
 obtain⟨_,hco,_,_⟩:=Nn hc ho
 have hdc:aR r.cj=0:=((kh r).1 hc).2.2.2.2.2.1
 have hi:(bR r.cj signed 0).2=0:=F0 hdc hs ⟨Int.le_refl _,by decide⟩
 refine⟨hco,?_⟩
 unfold da
 rw[hc,hi,hr,ho]
 rfl
theorem Ez(l:List Int)(n:Int):(l.any λz=>z==n)=kY l n:=by grind [N1]
section
variable {α κ : Type} [DecidableEq κ] (key:α->κ) (at_ no:α->Int) (z0:α)
def gMap:List α->List (κ×α)->List (κ×α)
 |[],m=>m
 |y::l,m=>gMap l (bif(!(mhas m (key y)))||decide (at_ (mgetD m (key y) z0)<=at_ y)then mput m (key y) y else m)
def gOver(z w:α):Prop:=at_ z<at_ w\/(at_ w=at_ z/\no z<no w)
structure Tf(pre:List α)(m:List (κ×α)):Prop where
 some:∀k z,mget? m k=some z->z∈pre/\key z=k/\∀w∈pre,key w=k->¬gOver at_ no z w
 none:∀k,mget? m k=none->∀w∈pre,key w≠k
theorem Jq:∀(l pre:List α)(m:List (κ×α)),(pre++l).Pairwise (λa b=>no a<no b)->Tf key at_ no pre m->Tf key at_ no (pre++l) (gMap key at_ z0 l m)
 |[],pre,m,_,h=>by rw[List.append_nil];exact h
 |y::l,pre,m,hp,h=>by
  have hno:∀w∈pre,no w<no y:=λw hw=>(List.pairwise_append.1 hp).2.2 w hw y (zB ..)
  have hp2:((pre++[y])++l).Pairwise (λa b=>no a<no b):=by rw[zC];exact hp
  have go:∀m',Tf key at_ no (pre++[y]) m'->Tf key at_ no (pre++y::l) (gMap key at_ z0 l m'):=λm' h'=>by
   have:=Jq l (pre++[y]) m' hp2 h'
   rwa [zC]at this
  simp only[gMap,Bool.cond_eq_ite]
  split
  .next hn=>
   refine go _ ⟨λk z hz=>?_,λk hz w hw hk=>?_⟩
   .rw[i8]at hz
    split at hz
    .next hk=>
     cases hz
     refine⟨by simp,hk.symm,λw hw hkw=>?_⟩
     rcases qE.1 hw with hw|hw
     .have hb:=hno w hw
      cases hm:mget? m (key y)with
      |none=>exact(h.none _ hm w hw (by rw[hkw,hk])).elim
      |some z1=>
       have a4:=(h.some _ _ hm).2.2 w hw (by rw[hkw,hk])
       have:at_ z1<=at_ y:=by
        simp only[mhas,mgetD,hm]at hn
        simpa using hn
       unfold gOver at a4 ⊢;omega
     .rw[kB.1 hw];unfold gOver;omega
    .next hk=>
     obtain⟨a1,a2,a4⟩:=h.some k z hz
     refine⟨jN _ a1,a2,λw hw hkw=>?_⟩
     rcases qE.1 hw with hw|hw
     .exact a4 w hw hkw
     .rw[kB.1 hw]at hkw;exact(hk hkw.symm).elim
   .rw[i8]at hz
    split at hz
    .cases hz
    .next hk2=>
     rcases qE.1 hw with hw|hw
     .exact h.none k hz w hw hk
     .rw[kB.1 hw]at hk;exact(hk2 hk.symm).elim
  .next hn=>
   refine go m ⟨λk z hz=>?_,λk hz w hw hk=>?_⟩
   .obtain⟨a1,a2,a4⟩:=h.some k z hz
    refine⟨jN _ a1,a2,λw hw hkw=>?_⟩
    rcases qE.1 hw with hw|hw
    .exact a4 w hw hkw
    .rw[kB.1 hw]at hkw ⊢
     subst hkw
     have:¬at_ z<=at_ y:=by
      simp only[mhas,mgetD,hz]at hn
      simpa using hn
     unfold gOver;omega
   .rcases qE.1 hw with hw|hw
    .exact h.none k hz w hw hk
    .rw[kB.1 hw]at hk
     subst hk
     simp only[mhas,mgetD,hz]at hn
     simp at hn
theorem Js{L:List α}(hp:L.Pairwise (λa b=>no a<no b)){y:α}(hy:y∈L):mgetD (gMap key at_ z0 L []) (key y) z0=y↔∀w∈L,key w=key y->¬gOver at_ no y w:=by
 have hv:Tf key at_ no L (gMap key at_ z0 L []):=by
  have:=Jq key at_ no z0 L [] [] hp ⟨λk z h=>(by simp[mget?]at h),λk h w hw=>(vA hw).elim⟩
  exact this
 cases hm:mget? (gMap key at_ z0 L []) (key y)with
 |none=>exact(hv.none _ hm y hy rfl).elim
 |some z=>
  obtain⟨a1,a2,a4⟩:=hv.some _ _ hm
  simp only[mgetD,hm,Option.getD]
  constructor
  .rintro rfl;exact a4
  .intro b2
   have c1:=a4 y hy rfl
   have c2:=b2 z a1 a2
   have:no z=no y:=by unfold gOver at c1 c2;omega
   exact QB (f:=no) hp a1 hy this
end
def cntA(bD t ad:Int)(y:ae):Bool:=((y.Doc==bD)&&decide (y.At<=t))&&decide (y.eH<=ad)
theorem EB(bD t ad:Int):∀l:List ae,de.L1 bD t ad de.K1 l=l.filter (cntA bD t ad)
 |[]=>rfl
 |y::l=>by
  simp only[de.L1,EB bD t ad l,List.filter_cons]
  show(bif cntA bD t ad y then _ else _)=(if cntA bD t ad y=true then _ else _)
  cases cntA bD t ad y<;>rfl
abbrev z0A:ae:=ae.mk 0 0 0 0 0 0 0 false
theorem Vb(k:List (eY×ae)->List ae):∀(l:List ae)(m:List (eY×ae)),aK.L1 k l m=k (gMap bF (·.At) z0A l m)
 |[],m=>rfl
 |y::l,m=>by
  simp only[aK.L1,Vb k l,gMap]
  cases(!(mhas m (bF y)))||decide ((mgetD m (bF y) z0A).At<=y.At)<;>rfl
theorem Va(v:List (eY×ae)):∀(l g:List ae),aK.L2 v aK.K2 l g=g++l.filter λy=>(!y.mU)&&decide ((mgetD v (bF y) z0A)=y)
 |[],g=>by simp[aK.L2,aK.K2]
 |y::l,g=>by
  simp only[aK.L2,Va v l,List.filter_cons]
  cases(!y.mU)&&decide ((mgetD v (bF y) z0A)=y)<;>simp
theorem Dw{x:ae}{t ad:Int}:∀l:List ae,gR.L1 x t ad gR.K1 l=true↔∀w∈l,mN w t ad=true->ry w x=true->¬rx w x=true
 |[]=>by simp[gR.L1,gR.K1]
 |y::l=>by
  simp only[gR.L1,Bool.cond_eq_ite,List.forall_mem_cons,jA]
  split
  .next hc=>exact⟨λh=>(by cases h),λh=>(h.1 hc.1.1 hc.1.2 hc.2).elim⟩
  .next hc=>rw[Dw l];exact⟨λh=>⟨λa b c=>hc ⟨⟨a,b⟩,c⟩,h⟩,λh=>h.2⟩
theorem about28(w y:ae):ry w y=true↔bF w=bF y:=by
 simp only[ry,bF,jA,beq_iff_eq,eY.mk.injEq,and_assoc]
theorem after28(w y:ae):rx w y=true↔gOver (λx:ae=>x.At) (λx=>x.No) y w:=by
 simp only[rx,gOver,xC,jA,beq_iff_eq,decide_eq_true_eq]
theorem wR(l:List ae)(bD t ad:Int):∀s g:List ae,eC.L1 l bD t ad eC.K1 s g=(g++s.filter λy=>(y.Doc==bD)&&gR l y t ad,0)
 |[],g=>by simp[eC.L1,eC.K1]
 |y::s,g=>by
  simp only[eC.L1,wR l bD t ad s,List.filter_cons]
  cases(y.Doc==bD)&&gR l y t ad<;>simp
theorem astanding28{l:List ae}(hp:l.Pairwise (λa b=>a.No<b.No))(bD t ad:Int):aK l bD t ad=l.filter λy=>(y.Doc==bD)&&gR l y t ad:=by
 unfold aK
 rw[Vb]
 unfold aK.K1
 rw[Va,qD]
 have hc:fS l bD t ad=l.filter (cntA bD t ad):=EB bD t ad l
 rw[hc,List.filter_filter]
 apply Yk
 intro y hy
 rw[jF]
 cases hcy:cntA bD t ad y with
 |false=>
  rw[Bool.and_false]
  constructor
  .intro h;cases h
  .intro h
   simp only[jA,gR,Bool.cond_eq_ite]at h
   obtain⟨h1,h2⟩:=h
   split at h2
   .cases h2
   .next hq=>
    simp only[xC,not_or,Bool.not_eq_true,Bool.not_eq_false',mN,jA]at hq
    simp[cntA,h1,hq.2.1,hq.2.2]at hcy
 |true=>
  have hcy':=hcy
  simp only[cntA,jA,beq_iff_eq,decide_eq_true_eq]at hcy'
  rw[Bool.and_true,jA,decide_eq_true_eq]
  have hm:y∈l.filter (cntA bD t ad):=qN.2 ⟨hy,hcy⟩
  rw[Js bF (λx:ae=>x.At) (λx=>x.No) z0A (hp.sublist List.filter_sublist) hm]
  have hcn:mN y t ad=true:=by simp[mN,hcy'.1.2,hcy'.2]
  unfold gR
  rw[hcn,hcy'.1.1]
  cases hg:y.mU with
  |true=>simp
  |false=>
   simp only[Bool.not_false,true_and,beq_self_eq_true,Bool.not_true,Bool.or_self,cond_false,Bool.true_and,Dw]
   constructor
   .intro h w hw h1 h2 h3
    have h4:=(about28 w y).1 h2
    refine h w (qN.2 ⟨hw,?_⟩) h4 ((after28 w y).1 h3)
    have h5:w.Doc=y.Doc:=congrArg eY.bD h4
    simp only[mN,jA,decide_eq_true_eq]at h1
    simp[cntA,h5,hcy'.1.1,h1.1,h1.2]
   .intro h w hw h4 h5
    obtain⟨h6,h7⟩:=qN.1 hw
    simp only[cntA,jA,beq_iff_eq,decide_eq_true_eq]at h7
    exact h w h6 (by simp[mN,h7.1.2,h7.2]) ((about28 w y).2 h4) ((after28 w y).2 h5)
theorem xh(b th t:Int):∀s g:List ae,fd.L1 b th t fd.K1 s g=(g++s.filter λy=>decide (b<=y.At)&&decide ((y.At+th)<=t),0)
 |[],g=>by simp[fd.L1,fd.K1]
 |y::s,g=>by
  simp only[fd.L1,xh b th t s,List.filter_cons]
  cases decide (b<=y.At)&&decide ((y.At+th)<=t)<;>simp
theorem Q5{l:List ae}(h:bN l=0)(h':gV l=0){th t:Int}(hd:0<=bD/\bD<4096)(hb:0<=b/\b<1099511627776)(hth:0<=th/\th<1099511627776)(ht:0<=t/\t<1099511627776)(hk:0<=ad/\ad<1099511627776):
  (cC l bD b th t ad).1=(fd l bD b th t ad).1:=by
 have hp:l.Pairwise (λa b=>a.No<b.No):=by
  unfold bN at h
  simp only[Bool.cond_eq_ite]at h
  split at h
  .cases h
  .rw[approvalsP]at h;exact((rB (by decide) _ _).1 h).2
 have hr:=rq h
 have hst:(eC l bD t ad).1=aK l bD t ad:=by
  unfold eC
  rw[h',wR,astanding28 hp]
  simp only[bne_self_eq_false,cond_false,pA,iO,kU]
  rw[show(decide (0<=bD)&&decide (bD<=4095))=true from by simp;omega,show(decide (0<=t)&&decide (t<=1099511627775))=true from by simp;omega,show(decide (0<=ad)&&decide (ad<=1099511627775))=true from by simp;omega]
  simp
 unfold cC fd
 rw[h,h',hst,xh]
 have e1:eN 4095 [bD]=true:=by
  unfold eN
  rw[containsF]
  simp only[List.any_cons,List.any_nil,jZ,Bool.or_false,vD,Bool.or_eq_false_iff,decide_eq_false_iff_not]
  omega
 have e2:eN 1099511627775 [b,th,t,ad]=true:=by
  unfold eN
  rw[containsF]
  simp only[List.any_cons,List.any_nil,jZ,Bool.or_false,vD,Bool.or_eq_false_iff,decide_eq_false_iff_not]
  omega
 rw[e1,e2]
 simp only[bne_self_eq_false,Bool.not_true,Bool.or_self,cond_false,qD,pA,iO,kU]
 rw[show(decide (0<=bD)&&decide (bD<=4095))=true from by simp;omega,show(decide (0<=t)&&decide (t<=1099511627775))=true from by simp;omega,show(decide (0<=ad)&&decide (ad<=1099511627775))=true from by simp;omega,
  show(decide (0<=b)&&decide (b<=1099511627775))=true from by simp;omega,show(decide (0<=th)&&decide (th<=1099511627775))=true from by simp;omega]
 simp only[Bool.not_true,Bool.or_self,cond_false]
 unfold fL
 apply Yk
 intro y hy
 have hy':=CI hy
 have hya:=(BB (hr y hy')).2.2.2.2
 have hw:jD .i64 (t-y.At)=t-y.At:=by
  have:=nv (z:=t-y.At) (by omega)
  injection this
 show(!(decide (y.At<b)||decide (jD .i64 (t-y.At)<th)))=_
 rw[hw,jF]
 simp only[vD,Bool.or_eq_false_iff,decide_eq_false_iff_not,jA,decide_eq_true_eq]
 omega
theorem Wa{l:List aA}(hc:du l=0){p t:Int}(ho:0<=o/\o<32)(hp:0<=p/\p<64)(ht:0<=t/\t<1099511627776)(hk:0<=ad/\ad<1099511627776):oG l o p t ad=jq l o p t ad:=by
 have h1:∀x:Int,0<=x/\x<1099511627776->fQ x=true:=λx hx=>by simp only[fQ,fq,jA,decide_eq_true_eq];omega
 have h2:gl o=true:=by simp only[gl,fq,jA,decide_eq_true_eq];omega
 have h3:ji p=true:=by simp only[ji,fq,jA,decide_eq_true_eq];omega
 have r1:∀x:Int,0<=x/\x<1099511627776->mt x=true:=λx hx=>by simp only[mt,jA,decide_eq_true_eq];omega
 have r2:mO o=true:=by simp only[mO,jA,decide_eq_true_eq];omega
 have r3:oZ p=true:=by simp only[oZ,jA,decide_eq_true_eq];omega
 unfold oG jq
 rw[←wD,hc,h1 t ht,h1 ad hk,h2,h3,r1 t ht,r1 ad hk,r2,r3]
 simp only[bne_self_eq_false,cond_false,Bool.not_true,Bool.or_self]
 have hg:mget? (gj l t ad) ⟨o,p⟩=l.foldl (lastA t ad ⟨o,p⟩) none:=Ji t ad ⟨o,p⟩ l []
 have hl:=last15 (L:=l) o p t ad l [] (-1) none rfl (.inl ⟨by omega,rfl⟩)
 unfold dI
 rcases hl with⟨a,b⟩|⟨a,b⟩
 .rw[b]at hg
  simp only[xB]at a
  have e:decide (dI.L1 l o p t ad dI.K1 l 0 (-1)<0)=true:=decide_eq_true a
  simp only[e,mhas,mgetD,hg,Option.isSome,Bool.not_false,Bool.true_or,cond_true]
 .rw[b]at hg
  simp only[xB]at a hg
  have e:decide (dI.L1 l o p t ad dI.K1 l 0 (-1)<0)=false:=decide_eq_false (by omega)
  simp only[e,mhas,mgetD,hg,Option.isSome,Option.getD,Bool.not_true,Bool.false_or]
abbrev z0D:aE:=aE.mk 0 0 0 0 0 0 0 0 0 false
def dKey(y:aE):ea:=ea.mk y.From y.To y.dQ y.Kind
theorem Se(q:bL)(k:List (ea×aE)->List aE):∀(l:List aE)(m:List (ea×aE)),aL.L1 q k l m=k (gMap dKey (·.At) z0D (l.filter (dC q)) m)
 |[],m=>rfl
 |y::l,m=>by
  simp only[aL.L1,Se q k l,List.filter_cons]
  cases dC q y with
  |false=>rfl
  |true=>
   simp only[Bool.true_and,if_true,gMap]
   show(bif(!(mhas m (dKey y)))||decide ((mgetD m (dKey y) z0D).At<=y.At)then _ else _)=_
   show _=k (gMap dKey (·.At) z0D (l.filter (dC q)) (bif(!(mhas m (dKey y)))||decide ((mgetD m (dKey y) z0D).At<=y.At)then mput m (dKey y) y else m))
   cases(!(mhas m (dKey y)))||decide ((mgetD m (dKey y) z0D).At<=y.At)<;>rfl
theorem Gk(v:List (ea×aE))(f:aE->Bool)(q:bL):∀l:List aE,bX.L1 v f q bX.K1 l=l.filter λy=>(decide (mgetD v (dKey y) z0D=y)&&f y)&&i7 q y
 |[]=>rfl
 |y::l=>by
  simp only[bX.L1,Gk v f q l,List.filter_cons]
  show(bif(decide (mgetD v (dKey y) z0D=y)&&f y)&&i7 q y then _ else _)=_
  grind
def dLater(t ad:Int)(y z:aE):Bool:=((iU z t ad)&&(mb y z))&&(decide (y.At<z.At)||((z.At==y.At)&&decide (y.No<z.No)))
theorem UZ(t ad:Int)(y:aE)(k:Bool->List aE):∀(s:List aE)(g:Bool),cN.L3 t ad y k s g=k (g&&s.all λz=>!(dLater t ad y z))
 |[],g=>by simp[cN.L3]
 |z::s,g=>by
  simp only[cN.L3,UZ t ad y k s,List.all_cons]
  grind [dLater]
def dStands(l:List aE)(t ad:Int)(y:aE):Bool:=(((iU y t ad)&&(!y.mU))&&decide (t<y.nS))&&l.all λz=>!(dLater t ad y z)
theorem QV(l:List aE)(t ad:Int):∀s g:List aE,cN.L1 l t ad cN.K1 s g=g++s.filter (dStands l t ad)
 |[],g=>by simp[cN.L1,cN.K1]
 |y::s,g=>by
  simp only[cN.L1,UZ,QV l t ad s,List.filter_cons]
  grind [dStands]
theorem Mp(o k v:Int):∀s g:List aE,eL.L1 o k v eL.K1 s g=g++s.filter λy=>oY y o k v
 |[],g=>by simp[eL.L1,eL.K1]
 |y::s,g=>by
  simp only[eL.L1,Mp o k v s,List.filter_cons]
  cases oY y o k v<;>simp
theorem later16(t ad:Int)(y z:aE):dLater t ad y z=true↔(z.At<=t/\z.eH<=ad)/\dKey z=dKey y/\gOver (λx:aE=>x.At) (λx=>x.No) y z:=by
 simp only[dLater,iU,mb,gOver,dKey,jA,xC,beq_iff_eq,decide_eq_true_eq,ea.mk.injEq]
 grind
theorem covering16{l:List aE}(hp:l.Pairwise (λa b=>a.No<b.No))(o k v t ad:Int):aL (bL.mk o k v t ad) l=eL l o k v t ad:=by
 unfold aL eL cN
 rw[Se,Mp,QV,qD,qD,List.filter_filter]
 unfold aL.K1 bX
 rw[Gk]
 apply Yk
 intro y hy
 rw[jF]
 have hcn:dC (bL.mk o k v t ad) y=iU y t ad:=rfl
 have hcv:i7 (bL.mk o k v t ad) y=(((!y.mU)&&decide (t<y.nS))&&oY y o k v):=by
  simp only[i7,oY,Bool.and_assoc]
 rw[hcn,hcv]
 cases hc:iU y t ad with
 |false=>simp[dStands,hc]
 |true=>
  have hm:y∈l.filter (dC (bL.mk o k v t ad)):=qN.2 ⟨hy,hc⟩
  have hg:=Js dKey (λx:aE=>x.At) (λx=>x.No) z0D (hp.sublist List.filter_sublist) hm
  simp only[Bool.and_true,jA,decide_eq_true_eq,dStands,hc,Bool.true_and,qP,vD]
  rw[hg]
  have e:(∀w∈l.filter (dC (bL.mk o k v t ad)),dKey w=dKey y->¬gOver (λx:aE=>x.At) (λx=>x.No) y w)↔∀z∈l,dLater t ad y z=false:=by
   constructor
   .intro h z hz
    cases hl:dLater t ad y z with
    |false=>rfl
    |true=>
     obtain⟨a,b,c⟩:=(later16 t ad y z).1 hl
     grind [dC,a.1,a.2]
   .intro h w hw h1 h2
    obtain⟨h3,h4⟩:=qN.1 hw
    simp only[dC,jA,decide_eq_true_eq]at h4
    grind [later16]
  grind
theorem PY(l:List aE):dx l=l:=by
 have:∀(l g:List aE),dj.L1 dj.K1 l g=g++l:=by
  intro l
  induction l with
  |nil=>intro g;simp[dj.L1,dj.K1]
  |cons y l ih=>intro g;simp only[dj.L1,ih];simp
 exact(this l []).trans (qD _)
def walkN(E:List aE)(b:Int):Nat->Int->Prop
 |0,a=>a=b
 |n+1,a=>∃x∈E,x.From=a/\walkN E b n x.To
def farStep(i:Nat)(g:List (Int×Int))(y:aE):List (Int×Int):=bif((mhas g y.To)&&((mgetD g y.To 0)==(i:Int)))&&(!(mhas g y.From))then mput g y.From (((i+1):Nat):Int)else g
theorem Mr(i:Nat)(k:List (Int×Int)->List Int×Bool×Int):∀(s:List aE)(g:List (Int×Int)),aJ.L3 i k s g=k (s.foldl (farStep i) g)
 |[],g=>rfl
 |y::s,g=>by
  simp only[aJ.L3,Mr i k s,zK,farStep]
  grind
def farAll(E:List aE):List Nat->Nat->List (Int×Int)->List (Int×Int)
 |[],_,g=>g
 |_::s,i,g=>farAll E s (i+1) (E.foldl (farStep i) g)
theorem Ms(l:List aE)(o kd v t n:Int)(k:List (Int×Int)->List Int×Bool×Int):∀(s:List Nat)(i:Nat)(g:List (Int×Int)),aJ.L1 l o kd v t n k s i g=k (farAll (aL (bL.mk o kd v t n) l) s i g)
 |[],i,g=>rfl
 |y::s,i,g=>by
  simp only[aJ.L1,Mr,Ms l o kd v t n k s,farAll,PY]
structure Far(E:List aE)(b:Int)(i:Nat)(g:List (Int×Int)):Prop where
 sound:∀p v,mget? g p=some v->∃m:Nat,v=(m:Int)/\m<=i/\walkN E b m p
 start:mget? g b=some 0
 closed:∀x∈E,∀m:Nat,mget? g x.To=some (m:Int)->m<i->∃m':Nat,mget? g x.From=some (m':Int)/\m'<=m+1
theorem Jd{p:Int}(h:mhas g p=true):∃v,mget? g p=some v:=by
 unfold mhas at h
 cases e:mget? g p with
 |none=>rw[e]at h;cases h
 |some v=>exact⟨v,rfl⟩
structure Qe(E:List aE)(b:Int)(i:Nat)(g0:List (Int×Int))(done:List aE)(g:List (Int×Int)):Prop where
 keep:∀p v,mget? g0 p=some v->mget? g p=some v
 new:∀p v,mget? g p=some v->mget? g0 p=some v\/(v=((i+1:Nat):Int)/\walkN E b (i+1) p)
 met:∀x∈done,mget? g0 x.To=some (i:Int)->∃v,mget? g x.From=some v
theorem Mo{E:List aE}{b:Int}{i:Nat}{g0:List (Int×Int)}(hw:∀p,mget? g0 p=some (i:Int)->walkN E b i p):∀(s done:List aE)(g:List (Int×Int)),(∀x∈s,x∈E)->Qe E b i g0 done g->Qe E b i g0 (done++s) (s.foldl (farStep i) g)
 |[],done,g,_,h=>by rw[List.append_nil];exact h
 |y::s,done,g,hs,h=>by
  have go:Qe E b i g0 (done++[y]) (farStep i g y)->Qe E b i g0 (done++y::s) ((y::s).foldl (farStep i) g):=λh'=>by
   have:=Mo hw s (done++[y]) _ (λx hx=>hs x (qC _ hx)) h'
   rwa [zC]at this
  refine go ?_
  have hto:mget? g0 y.To=some (i:Int)↔mget? g y.To=some (i:Int):=by
   constructor
   .exact h.keep _ _
   .intro e
    rcases h.new _ _ e with e'|⟨e',_⟩
    all_goals grind
  unfold farStep
  cases hc:((mhas g y.To)&&((mgetD g y.To 0)==(i:Int)))&&(!(mhas g y.From))with
  |true=>
   simp only[jA,vD,beq_iff_eq]at hc
   obtain⟨⟨h1,h2⟩,h3⟩:=hc
   obtain⟨v,hv⟩:=Jd h1
   have hvi:v=(i:Int):=by simpa[mgetD,hv]using h2
   have hg0:=hto.2 (by rw[hv,hvi])
   have hnone:mget? g y.From=none:=by
    unfold mhas at h3
    cases e:mget? g y.From with
    |none=>rfl
    |some w=>rw[e]at h3;cases h3
   have hwk:walkN E b (i+1) y.From:=⟨y,hs y (zB ..),rfl,hw _ hg0⟩
   rw[cond_true]
   refine⟨λp w hp=>?_,λp w hp=>?_,λx hx hx0=>?_⟩
   .rw[i8]
    split
    .next e=>rw[e]at hp;have:=h.keep _ _ hp;rw[hnone]at this;cases this
    .exact h.keep _ _ hp
   .rw[i8]at hp
    split at hp
    .grind
    .exact h.new _ _ hp
   .rw[i8]
    split
    .exact⟨_,rfl⟩
    .next e=>
     rcases qE.1 hx with hx|hx
     .exact h.met x hx hx0
     .grind
  |false=>
   rw[cond_false]
   refine⟨h.keep,h.new,λx hx hx0=>?_⟩
   rcases qE.1 hx with hx|hx
   .exact h.met x hx hx0
   .rw[kB.1 hx]at hx0 ⊢
    have h1:=hto.1 hx0
    have h2:mhas g y.From=true:=by
     cases e:mhas g y.From with
     |true=>rfl
     |false=>simp[mhas,mgetD,h1,e]at hc;unfold mhas at e;rw[hc]at e;cases e
    exact Jd h2
theorem SY{i:Nat}(h:Far E b i g):Far E b (i+1) (E.foldl (farStep i) g):=by
 have hw:∀p,mget? g p=some (i:Int)->walkN E b i p:=λp hp=>by
  obtain⟨m,e,_,w⟩:=h.sound p _ hp
  have:i=m:=by omega
  subst this;exact w
 have f:Qe E b i g E (E.foldl (farStep i) g):=by
  have:=Mo hw E [] g (λ_ hx=>hx) ⟨λ_ _ e=>e,λ_ _ e=>.inl e,λx hx=>(vA hx).elim⟩
  exact this
 refine⟨λp v hp=>?_,f.keep _ _ h.start,λx hx m hm hlt=>?_⟩
 .rcases f.new _ _ hp with e|⟨e,w⟩
  .obtain⟨m,a,c,d⟩:=h.sound p v e;exact⟨m,a,by omega,d⟩
  .exact⟨i+1,e,zE _,w⟩
 .have hm0:mget? g x.To=some (m:Int):=by
   rcases f.new _ _ hm with e|⟨e,_⟩
   all_goals grind
  by_cases hi:m<i
  .obtain⟨m',a,c⟩:=h.closed x hx m hm0 hi
   exact⟨m',f.keep _ _ a,c⟩
  .have e:m=i:=by omega
   subst e
   obtain⟨v,hv⟩:=f.met x hx hm0
   rcases f.new _ _ hv with e|⟨e,_⟩
   .obtain⟨m',a,c,_⟩:=h.sound _ _ e
    exact⟨m',by rw[hv,a],by omega⟩
   .grind
theorem Sb{E:List aE}{b:Int}:∀(s:List Nat)(i:Nat)(g:List (Int×Int)),Far E b i g->Far E b (i+s.length) (farAll E s i g)
 |[],i,g,h=>h
 |_::s,i,g,h=>by
  have:=Sb s (i+1) _ (SY h)
  rw[xA,show i+(s.length+1)=i+1+s.length from by omega]
  exact this
theorem Mn{E:List aE}{b:Int}{i:Nat}{g:List (Int×Int)}(h:Far E b i g):∀(n:Nat)(p:Int),n<=i->walkN E b n p->∃m:Nat,mget? g p=some (m:Int)/\m<=n
 |0,p,_,hp=>⟨0,by have:p=b:=hp;rw[this];exact h.start,zE _⟩
 |n+1,p,hn,hp=>by
  obtain⟨x,hx,e,w⟩:=hp
  obtain⟨m,hm,hl⟩:=Mn h n x.To (by omega) w
  obtain⟨m',a,c⟩:=h.closed x hx m hm (by omega)
  exact⟨m',by rw[←e];exact a,by omega⟩
theorem Q2{l:List aE}{k v t:Int}:(aJ.K1 l a o k v t n g).2.1=mhas g a:=by
 unfold aJ.K1
 cases mhas g a with
 |false=>rfl
 |true=>
  simp only[Bool.not_true,cond_false]
  have:∀(s:List Nat)(i:Nat)(p:List Int)(q:Int),(aJ.L4 l a o k v t n g aJ.K4 s i p q).2.1=true:=by
   intro s
   induction s with
   |nil=>intro i p q;rfl
   |cons y s ih=>
    intro i p q
    simp only[aJ.L4]
    have:∀(L:List aE)(p:List Int)(q:Int),(aJ.L6 a g i (λzg6_16 zg6_31=>aJ.L4 l a o k v t n g aJ.K4 s (i+1) zg6_16 zg6_31) L p q).2.1=true:=by
     intro L
     induction L with
     |nil=>intro p q;exact ih _ _ _
     |cons z L ihL=>intro p q;simp only[aJ.L6,Bool.cond_eq_ite];split;exact ih _ _ _;exact ihL _ _
    exact this _ _ _
  exact this _ _ _ _
theorem Q1{l:List aE}{k v t:Int}(h0:ly l a b (bL.mk o k v t n)=0):(aJ l a b o k v t n).2.1=true↔∃m≤8,walkN (aL (bL.mk o k v t n) l) b m a:=by
 unfold aJ
 rw[h0]
 simp only[bne_self_eq_false,cond_false]
 rw[Ms,Q2]
 have hF:=Sb (E:=aL (bL.mk o k v t n) l) (b:=b) (xF 8) 0 (mput [] b 0)
  ⟨λp w hp=>by
   rw[i8]at hp
   split at hp
   .next e=>cases hp;exact⟨0,rfl,zE _,e⟩
   .exact absurd hp (by simp[mget?]),by rw[i8,if_pos rfl],λx hx m hm hlt=>(by omega)⟩
 rw[List.length_range,Nat.zero_add]at hF
 constructor
 .intro h
  obtain⟨w,hw⟩:=Jd h
  obtain⟨m,_,c,d⟩:=hF.sound _ _ hw
  exact⟨m,c,d⟩
 .rintro⟨m,hm,hw⟩
  obtain⟨m',e,_⟩:=Mn hF m a hm hw
  simp[mhas,e]
def spath(E:List aE)(b:Int):Nat->List Int->Int->Prop
 |0,_,a=>a=b
 |n+1,seen,a=>∃x∈E,x.From=a/\x.To∉seen/\spath E b n (seen++[x.To]) x.To
theorem H9{E:List aE}{b:Int}:∀(n:Nat)(seen:List Int)(a:Int),spath E b n seen a->walkN E b n a
 |0,_,_,h=>h
 |n+1,seen,a,⟨x,hx,e,_,h⟩=>⟨x,hx,e,H9 n _ _ h⟩
theorem Hz{E:List aE}{b:Int}:∀(n:Nat)(seen:List Int)(a:Int),walkN E b n a->(∀s∈seen,∀m<n,¬walkN E b m s)->(∀m<n,¬walkN E b m a)->spath E b n seen a
 |0,_,_,h,_,_=>h
 |n+1,seen,a,⟨x,hx,e,h⟩,hs,ha=>by
  have hx':∀m<n,¬walkN E b m x.To:=λm hm w=>ha (m+1) (by omega) ⟨x,hx,e,w⟩
  refine⟨x,hx,e,λhm=>hs _ hm n (by omega) h,Hz n _ _ h (λs hsm m hm=>?_) hx'⟩
  grind
theorem QE:∀n:Nat,walkN E b n a->∃m≤n,walkN E b m a/\∀q<m,¬walkN E b q a:=by
 intro n
 induction n using Nat.strongRecOn with
 |_ n ih=>
  grind
theorem Sx{N:Nat}:(∃n≤N,spath E b n [a] a)↔∃n≤N,walkN E b n a:=by
 constructor
 .rintro⟨n,h,p⟩;exact⟨n,h,H9 _ _ _ p⟩
 .rintro⟨n,h,w⟩
  obtain⟨m,h1,h2,h3⟩:=QE n w
  exact⟨m,by omega,Hz m _ _ h2 (λs hs q hq=>by rw[kB.1 hs];exact h3 q hq) h3⟩
theorem has16(n:Int):∀l:List Int,lZ l n=true↔n∈l:=by
 intro l
 unfold lZ
 induction l with
 |nil=>simp[lZ.L1,lZ.K1]
 |cons y l ih=>
  simp only[lZ.L1,Bool.cond_eq_ite,vC]
  grind
def lastI(p:List Int):Int:=nthI p ((p.length:Int)-1)
theorem LU(p:List Int)(x:Int):lastI (p++[x])=x:=by
 unfold lastI
 have:(((p++[x]).length:Int)-1)=(p.length:Int):=by simp
 rw[this]
 exact ky (by simp)
theorem V6{P:α->Prop}:(∃x∈y::s,P x)↔P y\/∃x∈s,P x:=by grind
theorem Q6(rec:List aE->List Int->Int->Int->List Int×Bool)(l:List aE)(p:List Int)(b many:Int):∀s:List aE,(cX.L1 rec l p b many cX.K1 s).2=true↔∃x∈s,x.From=lastI p/\x.To∉p/\(rec l (p++[x.To]) b (many-1)).2=true
 |[]=>by simp[cX.L1,cX.K1]
 |y::s=>by
  rw[V6]
  simp only[cX.L1,Bool.cond_eq_ite]
  have ih:=Q6 rec l p b many s
  split
  .next h=>
   rw[ih]
   refine⟨.inr,λh'=>h'.elim (λh2=>?_) id⟩
   simp only[xC,bne_iff_ne,has16]at h
   exact(h.elim (λa=>a h2.1) (λa=>h2.2.1 a)).elim
  .next h=>
   simp only[xC,not_or,bne_iff_ne,ne_eq,Decidable.not_not,has16]at h
   split
   .next h2=>exact⟨λ_=>.inl ⟨h.1,h.2,h2⟩,λ_=>rfl⟩
   .grind
theorem MD(l:List aE)(b:Int):∀(n:Nat)(p:List Int),(cX.go (n+1) l p b (n:Int)).2=true↔spath l b n p (lastI p)
 |0,p=>by
  show(cX.F (cX.go 0) l p b 0).2=true↔lastI p=b
  simp[cX.F,lastI]
 |n+1,p=>by
  show(cX.F (cX.go (n+1)) l p b ((n+1:Nat):Int)).2=true↔_
  unfold cX.F
  rw[show(((n+1:Nat):Int)==0)=false from by rw[beq_eq_false_iff_ne];omega,cond_false,Q6]
  rw[show((n+1:Nat):Int)-1=(n:Int)from by omega]
  constructor
  .rintro⟨x,hx,h1,h2,h3⟩
   have:=(MD l b n (p++[x.To])).1 h3
   rw[LU]at this
   exact⟨x,hx,h1,h2,this⟩
  .rintro⟨x,hx,h1,h2,h3⟩
   refine⟨x,hx,h1,h2,(MD l b n (p++[x.To])).2 ?_⟩
   rw[LU];exact h3
theorem walk16(l:List aE)(b:Int)(n:Nat)(a:Int):(cX l [a] b (n:Int)).2=true↔spath l b n [a] a:=by
 unfold cX
 rw[show((n:Int)).toNat=n from by omega]
 exact MD l b n [a]
theorem Kf(l:List aE)(a b o k v t n:Int):∀(s:List Nat)(i:Nat),(fJ.L1 l a b o k v t n fJ.K1 s i).2.1=true↔∃j:Nat,i<=j/\j<i+s.length/\(cX (eL l o k v t n) [a] b (j:Int)).2=true
 |[],i=>by
  simp only[fJ.L1,fJ.K1,xB]
  exact⟨λh=>(by cases h),λ⟨j,h1,h2,_⟩=>by omega⟩
 |y::s,i=>by
  simp only[fJ.L1,Bool.cond_eq_ite,xA]
  split
  .next h=>exact⟨λ_=>⟨i,zE _,by omega,h⟩,λ_=>rfl⟩
  .next h=>
   rw[Kf l a b o k v t n s (i+1)]
   constructor
   .rintro⟨j,h1,h2,h3⟩;exact⟨j,by omega,by omega,h3⟩
   .rintro⟨j,h1,h2,h3⟩
    refine⟨j,?_,by omega,h3⟩
    rcases vR i j with h4|h4
    .omega
    .have:j=i:=by omega
     rw[this]at h3;exact(h h3).elim
theorem Wb{l:List aE}(hp:l.Pairwise (λx y=>x.No<y.No)){k v t:Int}(h0:ly l a b (bL.mk o k v t n)=0)(h1:nP l a b o k v t n=0):(aJ l a b o k v t n).2.1=(fJ l a b o k v t n).2.1:=by
 rw[jF,Q1 h0,covering16 hp]
 unfold fJ
 rw[h1]
 simp only[bne_self_eq_false,cond_false]
 rw[Kf,List.length_range]
 rw[←Sx]
 constructor
 .rintro⟨m,hm,hs⟩;exact⟨m,kJ _,by omega,(walk16 _ b m a).2 hs⟩
 .rintro⟨m,_,hm,hs⟩;exact⟨m,by omega,(walk16 _ b m a).1 hs⟩
def uo(all:List av)(w:List fw):Prop:=(w.map (·.To)).Nodup/\(∀x∈w,x.To∈all.map (·.eG))/\∀x∈w,x.mn.length<=8
theorem uo.nil:uo all []:=⟨XV,λ_ h=>(vA h).elim,λ_ h=>(vA h).elim⟩
theorem uo.len(h:uo all w):w.length<=all.length:=by
 have:=BO h.1 (b:=all.map (·.eG)) (λt ht=>by obtain⟨x,hx,rfl⟩:=qM.1 ht;exact h.2.1 x hx)
 simpa using this
theorem uo.put(h:uo all w){x:fw}(ht:x.To∈all.map (·.eG))(hp:x.mn.length<=8):uo all (rwPut w x):=by
 unfold rwPut
 cases hb:w.any (λw=>w.To==x.To)with
 |true=>exact h
 |false=>
  simp only[cond_false]
  refine⟨?_,λy hy=>?_,λy hy=>?_⟩
  .rw[X3,Yj]
   refine⟨h.1,by simp,λa ha c hc e=>?_⟩
   grind
  .rcases qE.1 hy with hy|hy
   .exact h.2.1 y hy
   .rw[kB.1 hy];exact ht
  .rcases qE.1 hy with hy|hy
   .exact h.2.2 y hy
   .rw[kB.1 hy];exact hp
theorem OP(w:List fw)(x:fw):w.length<=(rwPut w x).length:=by
 unfold rwPut
 cases w.any (λw=>w.To==x.To)<;>simp
theorem LB(x:fw)(hk:k<w.length):nthI (rwPut w x) (k:Int)=nthI w (k:Int):=by
 unfold rwPut
 cases w.any (λw=>w.To==x.To)with
 |true=>rfl
 |false=>
  have h1:w[k]? = some w[k]:=List.getElem?_eq_getElem hk
  grind [ky]
theorem yF(l:List av)(t ad:Int):dD l t ad=standR l t ad:=by
 have key:∀(s g:List av),dD.L1 l t ad dD.K1 s g=g++s.filter λx=>ib l x t ad:=by
  intro s
  induction s with
  |nil=>intro g;simp[dD.L1,dD.K1]
  |cons y s ih=>
   grind [dD.L1]
 grind [dD,standR]
theorem Kq(l:List av)(t ad:Int):(dD l t ad).length<=l.length:=by
 rw[yF];exact List.length_filter_le _ _
theorem LO{x:av}(h:x∈all):x.eG∈all.map (·.eG):=zT h
theorem uo.at(h:uo all w)(hk:k<w.length):(nthI w (k:Int)).mn.length<=8:=h.2.2 _ (lu ⟨by omega,by omega⟩)
theorem cL1(gv:Int)(k:List fw->List Int×Bool×Int):∀(s:List av)(g:List fw),bJ.L1 gv k s g=k (rwFill gv s g)
 |[],g=>rfl
 |y::s,g=>by
  simp only[bJ.L1,rwFill,cL1 gv k s]
  cases(!y.Of)&&(y.bw==gv)<;>rfl
theorem cL3(i:Nat)(k:List fw->List Int×Bool×Int)(x:fw):∀(s:List av)(g:List fw),i<g.length->nthI g (i:Int)=x->bJ.L3 i k s g=k (rwStep x.mn x.To s g)
 |[],g,_,_=>rfl
 |y::s,g,hi,hx=>by
  simp only[bJ.L3,rwStep,hx]
  rw[cL3 i k x s g hi hx,cL3 i k x s (rwPut g ⟨x.mn++[y.No],y.eG⟩) (Nat.lt_of_lt_of_le hi (OP _ _)) ((LB _ hi).trans hx)]
  cases y.Of&&(y.bw==x.To)<;>rfl
theorem cL2(l:List av)(ps:List Int)(t ad:Int):∀(n i:Nat)(g:List fw),bJ.L2 l ps t ad bJ.K2 n i g=((rwLoop ps (standR l t ad) n i g).1,(rwLoop ps (standR l t ad) n i g).2,0)
 |0,i,g=>rfl
 |n+1,i,g=>by
  simp only[bJ.L2,rwLoop]
  rcases vR i g.length with hi|hi
  .have h1:g[i]? = some g[i]:=List.getElem?_eq_getElem hi
   have h2:decide ((i:Int)<(g.length:Int))=true:=decide_eq_true (by omega)
   rw[h2,cond_true,ky h1,h1,cL3 i _ g[i] _ g hi (ky h1),cL2 l ps t ad n (i+1) g,cL2 l ps t ad n (i+1),yF]
   grind
  .have h2:decide ((i:Int)<(g.length:Int))=false:=decide_eq_false (by omega)
   rw[h2,cond_false,List.getElem?_eq_none hi]
   rfl
theorem Gl(l:List av)(gv:Int)(ps:List Int)(t ad:Int):bJ l gv ps t ad=conflictR l gv ps t ad:=by
 unfold bJ conflictR
 cases lg l gv ps t ad != 0 with
 |true=>rfl
 |false=>
  simp only[cond_false]
  rw[cL1,yF]
  exact cL2 l ps t ad _ _ _
theorem I1(n:Int)(k:Nat->List Int):∀(s:List Int)(i:Nat),fu.L1 n k s i=k (i+(s.takeWhile λy=>decide (y<n)).length)
 |[],i=>rfl
 |y::s,i=>by
  simp only[fu.L1,List.takeWhile_cons]
  cases decide (y<n)with
  |true=>simp only[cond_true,if_true,xA,I1 n k s];congr 1;omega
  |false=>simp
theorem Ov{p:Int->Bool}:∀l:List Int,l.take (l.takeWhile p).length=l.takeWhile p/\l.drop (l.takeWhile p).length=l.dropWhile p
 |[]=>⟨rfl,rfl⟩
 |y::l=>by
  simp only[List.takeWhile_cons,List.dropWhile_cons]
  split
  .obtain⟨a,b⟩:=Ov l
   exact⟨by rw[xA,List.take_succ_cons,a],by rw[xA,List.drop_succ_cons,b]⟩
  .exact⟨rfl,rfl⟩
theorem Ow{p:Int->Bool}:∀(l:List Int)(x:Int),x∈l.takeWhile p->p x=true
 |[],x,h=>(vA h).elim
 |y::l,x,h=>by
  simp only[List.takeWhile_cons]at h
  split at h
  .next hy=>
   rcases vC.1 h with rfl|h
   .exact hy
   .exact Ow l x h
  .exact(vA h).elim
theorem put30{l:List Int}(hl:l.Pairwise (·<·))(n:Int):(fu l n).Pairwise (·<·)/\∀x,x∈fu l n↔x∈l\/x=n:=by
 unfold fu
 rw[I1,Nat.zero_add]
 unfold fu.K1
 obtain⟨h1,h2⟩:=Ov (p:=λy=>decide (y<n)) l
 have htl:∀x∈l.takeWhile (λy=>decide (y<n)),x<n:=λx hx=>by simpa using Ow l x hx
 have hsp:l.takeWhile (λy=>decide (y<n))++l.dropWhile (λy=>decide (y<n))=l:=List.takeWhile_append_dropWhile
 have hdp:(l.dropWhile λy=>decide (y<n)).Pairwise (·<·):=hl.sublist (List.dropWhile_sublist _)
 have htp:(l.takeWhile λy=>decide (y<n)).Pairwise (·<·):=hl.sublist (List.takeWhile_sublist _)
 generalize hT:l.takeWhile (λy=>decide (y<n))=T at *
 generalize hD:l.dropWhile (λy=>decide (y<n))=D at *
 have hhead:∀z D',D=z::D'->¬z<n:=λz D' e=>by
  have:=List.head_dropWhile_not (λy=>decide (y<n)) (l:=l) (by rw[hD,e];simp)
  grind
 cases D with
 |nil=>
  grind
 |cons z D=>
  have hz:=hhead z D rfl
  have hget:nthI l (T.length:Int)=z:=ky (by rw[←hsp];simp)
  have hlen:decide ((T.length:Int)<(l.length:Int))=true:=by
   rw[←hsp];simp;omega
  rw[hget,hlen,Bool.true_and]
  cases hzn:z==n with
  |true=>
   grind
  |false=>
   rw[cond_false,show((T.length:Int)).toNat=T.length from by omega,h1,h2]
   have hne:¬z=n:=by simpa using hzn
   rw[List.pairwise_cons]at hdp
   refine⟨?_,λx=>?_⟩
   .rw[zC,List.pairwise_append]
    grind
   .grind
theorem FU(r:Register)(d:aj)(t ad:Int):∀(s:List ae)(g:List Int),eJ.L1 r d t ad eJ.K1 s g=(s.filter λy=>pU r y d t ad).foldl (λg y=>fu g y.For) g
 |[],g=>rfl
 |y::s,g=>by
  simp only[eJ.L1,FU r d t ad s,List.filter_cons]
  cases pU r y d t ad<;>rfl
theorem JQ:∀(s:List ae)(g:List Int),g.Pairwise (·<·)->(s.foldl (λg y=>fu g y.For) g).Pairwise (·<·)/\∀x,x∈s.foldl (λg y=>fu g y.For) g↔x∈g\/∃y∈s,x=y.For
 |[],g,h=>⟨h,λx=>by simp⟩
 |y::s,g,h=>by
  obtain⟨a,b⟩:=put30 h y.For
  obtain⟨c,d⟩:=JQ s (fu g y.For) a
  grind
section
variable {c:bZ} (h:kj c)
include h
theorem QW:c.Register.dY.Pairwise λx y=>x.No<y.No:=by
 have hc:=((kh _).1 h.chk).2.1
 unfold dG at hc
 simp only[Bool.cond_eq_ite]at hc
 grind [deputiesP,rB]
theorem good30{y:ae}(hy:(0<=y.Doc/\y.Doc<4096)/\(0<=y.By/\y.By<64)/\(0<=y.For/\y.For<64)/\(0<=y.dQ/\y.dQ<32)/\(0<=y.At/\y.At<1099511627776)):pU c.Register y c.bD c.at_ c.ad=goodA c y:=by
 obtain⟨_,h1,h2,h3,_⟩:=hy
 have h4:=h.time
 have h5:=h.know
 have h6:=h.kind
 have h7:=h.good.value
 have e2:∀z:Int,0<=z/\z<64->iW z=true:=λz hz=>by simp only[iW,dB,jA,decide_eq_true_eq];omega
 have e3:∀z:Int,0<=z/\z<1099511627776->j4 z=true:=λz hz=>by simp only[j4,dB,jA,decide_eq_true_eq];omega
 have e4:dB y.dQ 0 31=true:=by simp only[dB,jA,decide_eq_true_eq];omega
 have e5:dB c.bD.Kind 0 15=true:=by simp only[dB,jA,decide_eq_true_eq];omega
 have e6:dB c.bD.Value 0 1099511627776=true:=by simp only[dB,jA,decide_eq_true_eq];omega
 have r2:∀z:Int,0<=z/\z<64->nk z=true:=λz hz=>by simp only[nk,gE,jA,decide_eq_true_eq];omega
 have r3:∀z:Int,0<=z/\z<1099511627776->oX z=true:=λz hz=>by simp only[oX,gE,jA,decide_eq_true_eq];omega
 have r4:gE y.dQ 0 31=true:=by simp only[gE,jA,decide_eq_true_eq];omega
 have r5:gE c.bD.Kind 0 15=true:=by simp only[gE,jA,decide_eq_true_eq];omega
 have r6:gE c.bD.Value 0 1099511627776=true:=by simp only[gE,jA,decide_eq_true_eq];omega
 have hdc:=((kh _).1 h.chk).2.1
 have a0:ly c.Register.dY y.For y.By (bL.mk y.dQ c.bD.Kind c.bD.Value c.at_ c.ad)=0:=by
  grind [ly]
 have a1:nP c.Register.dY y.For y.By y.dQ c.bD.Kind c.bD.Value c.at_ c.ad=0:=by
  grind [nP,yX]
 unfold pU goodA vh jY
 rw[Wa ((kh _).1 h.chk).1 h3 h2 h4 h5,Wb (QW h) a0 a1,Gl,Gl,←conflict29,←conflict29]
theorem people30(hp:Qc p):eJ c.Register c.bD p c.at_ c.ad=cZ c p:=by
 rw[LM,NF]
 unfold eJ
 cases hk:decide ((p.ey.length:Int)<=c.bD.Kind)with
 |true=>rfl
 |false=>
  simp only[cond_false]
  have hkl:0<=c.bD.Kind/\c.bD.Kind<(p.dt.length:Int):=by
   have:=of_decide_eq_false hk
   have:=hp.rules.1
   have:=h.kind
   omega
  have hth:=hp.rules.2 _ (lu hkl)
  have hac:=((kh _).1 h.chk).2.2.2.2.2.2
  have hcn:=Q5 hac (by rw[←td];exact hac) h.good.no h.good.at_ (th:=(nthI p.dt c.bD.Kind).iJ) ⟨hth.1,by omega⟩ h.time h.know
  rw[FU,←hcn]
  have hf:((cC c.Register.bS c.bD.No c.bD.At ((nthI p.dt c.bD.Kind).iJ) c.at_ c.ad).1.filter λy=>pU c.Register y c.bD c.at_ c.ad)=(cC c.Register.bS c.bD.No c.bD.At ((nthI p.dt c.bD.Kind).iJ) c.at_ c.ad).1.filter (goodA c):=
   Yk λy hy=>good30 h (wa h hy)
  rw[hf]
  obtain⟨a,b⟩:=JQ ((cC c.Register.bS c.bD.No c.bD.At ((nthI p.dt c.bD.Kind).iJ) c.at_ c.ad).1.filter (goodA c)) [] List.Pairwise.nil
  refine Lw a λx=>?_
  grind
end
theorem LY(r:Register):cQ r=0\/cQ r=300:=by
 unfold cQ
 have:∀(s:List Nat)(i:Nat),cQ.L1 r cQ.K1 s i=0\/cQ.L1 r cQ.K1 s i=300:=by
  intro s
  induction s with
  |nil=>intro i;exact .inl rfl
  |cons y s ih=>intro i;simp only[cQ.L1,Bool.cond_eq_ite];split;exact .inr rfl;exact ih _
 exact this _ _
theorem rver(no:Int):∀(l:List aC)(i:Nat),(cR.L1 no cR.K1 l i=-1/\∀v∈l,v.No≠no) \/
  ∃a v b,l=a++v::b/\cR.L1 no cR.K1 l i=((i+a.length:Nat):Int)/\v.No=no/\∀x∈a,x.No≠no
 |[],i=>.inl ⟨rfl,λ_ h=>(vA h).elim⟩
 |y::l,i=>by
  simp only[cR.L1]
  cases e:y.No==no with
  |true=>exact .inr ⟨[],y,l,rfl,by simp,by simpa using e,λ_ h=>(vA h).elim⟩
  |false=>
   have hne:y.No≠no:=by simpa using e
   rw[cond_false]
   rcases rver no l (i+1)with⟨h1,h2⟩|⟨a,v,b,h1,h2,h3,h4⟩
   all_goals grind
theorem policy30(c:bZ)(no:Int):(gm c no=.error 1/\cR c.Register no<0)\/(0<=cR c.Register no/\gm c no=.ok (nthI c.Register.Versions (cR c.Register no)).aw):=by
 unfold cR
 rcases yK c no with⟨h1,h2⟩|⟨a,v,b,h1,h2,h3,h4⟩
 .grind [rver]
 .rcases rver no c.Register.Versions 0 with⟨_,g2⟩|⟨a',v',b',g1,g2,g3,g4⟩
  .exact(g2 v (by rw[h1];simp) h3).elim
  .refine .inr ⟨by rw[g2];omega,?_⟩
   have e:a=a'/\v=v':=by
    have hh:a++v::b=a'++v'::b':=by rw[←h1,←g1]
    clear h1 g1 g2 h2
    induction a generalizing a' with
    |nil=>
     cases a' with
     |nil=>simp at hh;exact⟨rfl,hh.1⟩
     |cons z a'=>simp at hh;exact(g4 z (zB ..) (hh.1▸h3)).elim
    |cons z a ih=>
     cases a' with
     |nil=>simp at hh;exact(h4 z (zB ..) (hh.1▸g3)).elim
     |cons z' a'=>
      grind
   grind [nthI,ky]
theorem E7(L:List aA)(o p t ad:Int):∀(s:List aA)(i:Nat)(g:Int),g<((i+s.length:Nat):Int)->dI.L1 L o p t ad dI.K1 s i g<((i+s.length:Nat):Int)
 |[],i,g,h=>h
 |y::s,i,g,h=>by
  simp only[dI.L1,Bool.cond_eq_ite,xA]at h ⊢
  rw[show i+(s.length+1)=i+1+s.length from by omega]at h ⊢
  split
  .exact E7 L o p t ad s (i+1) _ (by omega)
  .exact E7 L o p t ad s (i+1) _ h
theorem SN(l:List aA)(o p t ad:Int):dI l o p t ad<(l.length:Int):=by
 have:=E7 l o p t ad l 0 (-1) (by omega)
 rw[Nat.zero_add]at this
 exact this
theorem OC(l:List aE)(t ad:Int):(cN l t ad).length<=l.length:=by grind [cN,QV]
theorem ED(rec:List aE->List Int->Int->Int->List Int×Bool)(l:List aE)(p:List Int)(b many:Int)(N:Nat)(h:∀q,(rec l q b (many-1)).1.length+1<=N):∀s:List aE,(cX.L1 rec l p b many cX.K1 s).1.length<=N
 |[]=>kJ _
 |y::s=>by
  simp only[cX.L1,Bool.cond_eq_ite]
  split
  .exact ED rec l p b many N h s
  .split
   .grind
   .exact ED rec l p b many N h s
theorem HH:∀(m:Nat)(q:List aE)(p:List Int)(b n:Int),0<=n->(cX.go m q p b n).1.length<=n.toNat
 |0,q,p,b,n,_=>kJ _
 |m+1,q,p,b,n,hn=>by
  show(cX.F (cX.go m) q p b n).1.length<=n.toNat
  unfold cX.F
  cases h:n==0 with
  |true=>exact kJ _
  |false=>
   have:n≠0:=by simpa using h
   rw[cond_false]
   exact ED _ q p b n _ (λr=>by have:=HH m q r b (n-1) (by omega);omega) q
theorem OB(l:List ae)(bD t ad:Int):(eC l bD t ad).1.Sublist l:=by
 unfold eC
 simp only[Bool.cond_eq_ite]
 split
 .exact List.nil_sublist _
 .split
  .exact List.nil_sublist _
  .rw[wR,qD];exact List.filter_sublist
theorem H7(l:List ae)(bD t ad:Int):(eC l bD t ad).1.length<=l.length:=(OB l bD t ad).length_le
theorem PZ{l:List ae}{bD b th t k:Int}(h:((gV l) != 0)=false)(h2:(((((!(pA bD))||(!(iO b)))||(!(iO th)))||(!(iO t)))||(!(iO k)))=false){y:ae}(hy:y∈(eC l bD t k).1):
  (0<=y.At/\y.At<1099511627776)/\(0<=th/\th<1099511627776):=by
 have hc:bN l=0:=by rw[td];simpa using h
 refine⟨(BB (rq hc y ((OB l bD t k).subset hy))).2.2.2.2,?_⟩
 simp only[Bool.or_eq_false_iff,Bool.not_eq_false',iO,kU,jA,decide_eq_true_eq]at h2
 omega
theorem EY(l:List Int)(n:Int):(fu l n).length<=l.length+1:=by grind [fu,fu.K1,kA,List.length_take,List.length_drop,xA,xB,I1]
theorem Fq(l:List ae)(bD b th t ad:Int):(fd l bD b th t ad).1.length<=l.length:=by
 unfold fd
 simp only[Bool.cond_eq_ite]
 grind [xh,H7]
abbrev z0B:Budget:=YM 0 0 0 0 0 0 0 false
def bKey(y:Budget):ig:=ig.mk y.Kind y.mH
def bCnt(kind t ad:Int)(y:Budget):Bool:=((decide (y.At<=t)&&decide (y.eH<=ad))&&((y.Kind==(-1))||(y.Kind==kind)))
theorem Kh(kind t ad:Int):∀(l:List Budget)m,bstM kind t ad l m=gMap bKey (·.At) z0B (l.filter (bCnt kind t ad)) m
 |[],m=>rfl
 |y::l,m=>by
  have hc:((decide (t<y.At)||decide (ad<y.eH))||((y.Kind != (-1))&&(y.Kind != kind)))=!(bCnt kind t ad y):=by
   grind [bCnt,bne,Bool.not_and,Bool.not_or]
  simp only[bstM,List.filter_cons,hc]
  cases bCnt kind t ad y with
  |false=>simp only[Bool.not_false,cond_true,kT,if_false];exact Kh kind t ad l m
  |true=>
   simp only[Bool.not_true,cond_false,if_true,gMap]
   show(bif(!(mhas m (bKey y)))||decide ((mgetD m (bKey y) z0B).At<=y.At)then _ else _)=gMap bKey (·.At) z0B (l.filter (bCnt kind t ad)) (bif(!(mhas m (bKey y)))||decide ((mgetD m (bKey y) z0B).At<=y.At)then mput m (bKey y) y else m)
   cases(!(mhas m (bKey y)))||decide ((mgetD m (bKey y) z0B).At<=y.At)<;>simp only[cond_true,cond_false]<;>exact Kh kind t ad l _
theorem Dx{L:List Budget}{i t ad:Int}{x:Budget}(hx:nthI L i=x):∀l:List Budget,iT.L1 L i t ad iT.K1 l=true↔∀w∈l,kW w t ad=true->bKey w=bKey x->¬gOver (λb:Budget=>b.At) (λb=>b.No) x w
 |[]=>by simp[iT.L1,iT.K1]
 |y::l=>by
  simp only[iT.L1,Bool.cond_eq_ite,List.forall_mem_cons,hx]
  have e:((((y.Kind==x.Kind)&&(y.mH==x.mH))&&(kW y t ad))&&(decide (x.At<y.At)||((y.At==x.At)&&decide (x.No<y.No))))=true↔kW y t ad=true/\bKey y=bKey x/\gOver (λb:Budget=>b.At) (λb=>b.No) x y:=by
   simp only[jA,xC,beq_iff_eq,decide_eq_true_eq,bKey,ig.mk.injEq,gOver]
   grind
  split
  .grind
  .next h=>rw[Dx hx l];exact⟨λh'=>⟨λa b c=>h (e.2 ⟨a,b,c⟩),h'⟩,λh'=>h'.2⟩
def bStands(l:List Budget)(t ad:Int)(y:Budget):Bool:=(!y.mU&&kW y t ad)&&l.all λw=>!((kW w t ad&&decide (bKey w=bKey y))&&(decide (y.At<w.At)||(decide (w.At=y.At)&&decide (y.No<w.No))))
theorem stands18{L:List Budget}{t:Int}(hx:nthI L i=x):iT L i t ad=bStands L t ad x:=by
 unfold iT bStands
 rw[hx,jF,Bool.cond_eq_ite]
 split
 .grind
 .next h=>
  simp only[xC,not_or,Bool.not_eq_true,Bool.not_eq_false']at h
  rw[Dx hx,h.1,h.2]
  simp only[Bool.not_false,Bool.and_self,Bool.true_and,qP,vD,Bool.and_eq_false_iff,gOver]
  grind
theorem BA(L:List Budget)(n t ad:Int):∀(s pre g:List Budget),L=pre++s->eK.L1 L n t ad eK.K1 s pre.length g=g++s.filter λy=>((y.Kind==(-1))||(y.Kind==n))&&bStands L t ad y
 |[],pre,g,_=>by simp[eK.L1,eK.K1]
 |y::s,pre,g,h=>by
  have hy:nthI L (pre.length:Int)=y:=ky (by rw[h];simp)
  have ih:=λg=>BA L n t ad s (pre++[y]) g (by rw[h];simp)
  simp only[kA,xA,xB,Nat.zero_add]at ih
  simp only[eK.L1,stands18 hy,ih,List.filter_cons]
  grind
theorem bstanding18{l:List Budget}(h:bY l=0)(n t ad:Int):aZ l n t ad=eK l n t ad:=by
 have hr:=sU h
 have hp:l.Pairwise (λa b=>a.No<b.No):=by
  unfold bY at h
  simp only[Bool.cond_eq_ite]at h
  grind [budgetsP,rB]
 unfold aZ eK
 rw[U8]
 unfold aZ.K1
 rw[U7,qD,Kh]
 have:=BA l n t ad l [] [] rfl
 rw[xB,qD]at this
 rw[this]
 apply Yk
 intro y hy
 have hv:Tf bKey (λb:Budget=>b.At) (λb=>b.No) (l.filter (bCnt n t ad)) (gMap bKey (·.At) z0B (l.filter (bCnt n t ad)) []):=by
  have:=Jq bKey (λb:Budget=>b.At) (λb=>b.No) z0B (l.filter (bCnt n t ad)) [] [] (hp.sublist List.filter_sublist) ⟨λk z h=>(by simp[mget?]at h),λk h w hw=>(vA hw).elim⟩
  exact this
 show((!y.mU)&&decide (mgetD (gMap bKey (·.At) z0B (l.filter (bCnt n t ad)) []) (bKey y) z0B=y))=_
 rw[jF,jA,decide_eq_true_eq]
 have hcc:bCnt n t ad y=(kW y t ad&&((y.Kind==(-1))||(y.Kind==n))):=rfl
 cases hc:bCnt n t ad y with
 |false=>
  constructor
  .rintro⟨_,h2⟩
   exfalso
   cases hm:mget? (gMap bKey (·.At) z0B (l.filter (bCnt n t ad)) []) (bKey y)with
   |none=>
    simp only[mgetD,hm,Option.getD]at h2
    have:=xj (hr y hy)
    rw[←h2]at this
    exact this rfl
   |some z=>
    simp only[mgetD,hm,Option.getD]at h2
    have:=(qN.1 (hv.some _ _ hm).1).2
    rw[h2,hc]at this
    cases this
  .intro h2
   simp only[bStands,jA]at h2
   rw[hcc,h2.2.1.2,h2.1]at hc
   cases hc
 |true=>
  have hm:y∈l.filter (bCnt n t ad):=qN.2 ⟨hy,hc⟩
  rw[Js bKey (λb:Budget=>b.At) (λb=>b.No) z0B (hp.sublist List.filter_sublist) hm]
  rw[hcc,jA]at hc
  simp only[bStands,hc.1,hc.2,Bool.true_and,Bool.and_true,jA,qP,vD,Bool.and_eq_false_iff]
  refine and_congr Iff.rfl ?_
  constructor
  .intro h' w hw
   by_cases a:kW w t ad=true
   .by_cases b:bKey w=bKey y
    .have hk:w.Kind=y.Kind:=congrArg ig.kind b
     have:=h' w (qN.2 ⟨hw,by show(kW w t ad&&((w.Kind==(-1))||(w.Kind==n)))=true;rw[a,hk];simpa using hc.2⟩) b
     grind [gOver,Bool.or_eq_false_iff,Bool.and_eq_false_iff,decide_eq_false_iff_not]
    .left;right;exact decide_eq_false b
   .left;left;simpa using a
  .intro h' w hw b c
   obtain⟨hw1,hw2⟩:=qN.1 hw
   have hw3:(kW w t ad&&((w.Kind==(-1))||(w.Kind==n)))=true:=hw2
   grind [gOver,Bool.or_eq_false_iff,Bool.and_eq_false_iff,decide_eq_false_iff_not]
theorem Vg{z:Int}(h:-9223372036854775808<=z/\z<=9223372036854775807):jD .i64 z=z:=by grind [nv]
theorem RA(k:Int->Int->Int×Bool×Int):∀(s:List Int)(a b:Int),bo.L3 k s a b=k (s.foldl (λa v=>jD .i64 (a+v)) a) (s.foldl (λb _=>jD .i64 (b+1)) b)
 |[],a,b=>rfl
 |y::s,a,b=>by simp only[bo.L3,RA k s,zK]
theorem Kb:∀(s:List Int)(b:Int),0<=b->b+s.length<=1000000->s.foldl (λb _=>jD .i64 (b+1)) b=b+s.length
 |[],b,_,_=>by simp
 |y::s,b,h0,h1=>by
  simp only[xA]at h1
  rw[zK,Vg (by omega),Kb s (b+1) (by omega) (by omega),xA]
  omega
theorem RI(x:Budget)(t ad:Int)(k:Int->Int->Bool):∀(s:List Use)(c v:Int),kZ.L1 x t ad k s c v=k ((eD.L1 ad x t eD.K1 s).foldl (λb _=>jD .i64 (b+1)) c) ((eD.L1 ad x t eD.K1 s).foldl (λa v=>jD .i64 (a+v)) v)
 |[],c,v=>rfl
 |y::s,c,v=>by
  simp only[kZ.L1,eD.L1,RI x t ad k s]
  grind
theorem Od(x:Budget)(t ad:Int):∀s:List Use,(eD.L1 ad x t eD.K1 s).length<=s.length
 |[]=>zE _
 |y::s=>by
  have:=Od x t ad s
  simp only[eD.L1,Bool.cond_eq_ite]
  grind
theorem LC{u:List Use}(hu:u.length<=4096)(value t ad:Int):∀s:List Budget,bo.L1 u value t ad bo.K1 s=gH.L1 u value t ad gH.K1 s
 |[]=>rfl
 |y::s=>by
  have hl:=Od y t ad u
  simp only[bo.L1,gH.L1,RA,LC hu value t ad s]
  have e:(decide (y.Count<(qp y u t ad).foldl (λb _=>jD .i64 (b+1)) 1)||decide (y.Value<(qp y u t ad).foldl (λa v=>jD .i64 (a+v)) value))=kZ y u value t ad:=by
   unfold kZ
   rw[RI]
   unfold kZ.K1
   show(decide (y.Count<(eD.L1 ad y t eD.K1 u).foldl (λb _=>jD .i64 (b+1)) 1)||_)=_
   rw[Kb _ 1 (by omega) (by omega),Kb _ 0 (by omega) (by omega)]
   rw[show decide (y.Count<1+((eD.L1 ad y t eD.K1 u).length:Int))=decide (y.Count<=0+((eD.L1 ad y t eD.K1 u).length:Int))from decide_eq_decide.2 (by omega)]
   rfl
  rw[e]
theorem Vc{l:List Budget}{v t:Int}(h:bY l=0)(hu:u.length<=4096)(h1:fE u=true)(h2:eZ u=true)(hn:0<=n/\n<16)(hv:0<=v/\v<=1099511627776)(ht:0<=t/\t<1099511627776)(hk:0<=ad/\ad<1099511627776):
  bo l u n v t ad=gH l u n v t ad:=by
 unfold bo gH
 rw[h1,h2,←tP,h,bstanding18 h,LC hu]
 have e1:ct 0 15 [n]=true:=oI.2 (by omega)
 have e2:ct 0 1099511627776 [v]=true:=oI.2 (by omega)
 have e3:ct 0 1099511627775 [t,ad]=true:=wJ.2 (by omega)
 have r1:oW n=true:=by simp only[oW,jA,decide_eq_true_eq];omega
 have r2:ie v 0 1099511627776=true:=by simp only[ie,jA,decide_eq_true_eq];omega
 have r3:∀z:Int,0<=z/\z<1099511627776->jg z=true:=λz hz=>by simp only[jg,jA,decide_eq_true_eq];omega
 grind
theorem Lj(u:List Use)(y:Use)(k:Bool):∀(s:List Nat)(j:Nat),eZ.L3 u y k s j=true↔k=true/\∀q:Nat,j<=q->q<j+s.length->(nthI u (q:Int)).Doc≠y.Doc
 |[],j=>by
  grind [eZ.L3,xB]
 |z::s,j=>by
  simp only[eZ.L3,Bool.cond_eq_ite,xA]
  split
  .grind
  .next hc=>
   rw[Lj u y k s (j+1)]
   grind
theorem uses18'(h:fE u=true):eZ u=true:=by
 have h1:∀(s:List Use)(i:Nat)(m:List (Int×Bool)),u.drop i=s->(∀q:Nat,q<i->mgetD m (nthI u (q:Int)).Doc false=true)->fE.L1 fE.K1 s m=true->eZ.L1 u eZ.K1 s i=true:=by
  intro s
  induction s with
  |nil=>intro i m _ _ _;rfl
  |cons y s ih=>
   intro i m hd hm h
   simp only[fE.L1,Bool.cond_eq_ite]at h
   split at h
   .cases h
   .next hc=>
    simp only[xC,not_or,Bool.not_eq_true,Bool.not_eq_false',oI,wJ]at hc
    obtain⟨⟨⟨⟨c1,c2⟩,c3⟩,c4⟩,c5⟩:=hc
    have r1:ie y.Doc 0 4095=true:=by simp only[ie,jA,decide_eq_true_eq];omega
    have r2:oW y.Kind=true:=by simp only[oW,jA,decide_eq_true_eq];omega
    have r3:ie y.Value 0 1099511627776=true:=by simp only[ie,jA,decide_eq_true_eq];omega
    have r4:jg y.At=true:=by simp only[jg,jA,decide_eq_true_eq];omega
    have r5:jg y.eH=true:=by simp only[jg,jA,decide_eq_true_eq];omega
    simp only[eZ.L1,r1,r2,r3,r4,r5,Bool.not_true,Bool.or_self,cond_false]
    rw[Lj]
    refine⟨ih (i+1) _ (nl hd) (λq hq=>?_) h,λq _ hq e=>?_⟩
    .unfold mgetD
     rw[i8]
     split
     .rfl
     .next hne=>
      rcases vR q i with e|e
      .have:=hm q e;unfold mgetD at this;exact this
      .have:q=i:=by omega
       subst this
       exact(hne (by rw[ky (sR hd)])).elim
    .grind
 exact h1 u 0 [] rfl (λq hq=>by omega) h
theorem Q8(u:List Use):fE u=eZ u:=by
 rw[jF];exact⟨uses18',uses18⟩
theorem signs17'(h:bT l signed=true):dq l signed=true:=by
 rw[BG]at h
 have h1:∀s:List Int,(∀x∈s,lG x=false)->dq.L1 (dq.K1 l signed) s=dq.K1 l signed:=by
  intro s
  induction s with
  |nil=>intro _;rfl
  |cons y s ih=>
   intro h
   have hy:((y != (-1))&&(!(mr y)))=false:=h y (zB ..)
   simp only[dq.L1,hy,cond_false]
   grind
 grind [dq,dq.K1]
theorem Ia(l:List aj)(signed:List Int):bT l signed=dq l signed:=by
 rw[jF];exact⟨signs17',signs17⟩
theorem K0(h:aR l=0)(h':dH l=0)(signed:List Int)(t:Int):(bR l signed t).2=(ej l signed t).2:=by
 unfold bR ej
 rw[h,h',Ia]
 have ht:j3 t=mr t:=rfl
 rw[ht]
 simp only[bne_self_eq_false,cond_false]
 cases hq:(!(dq l signed))||(!(mr t))with
 |true=>rfl
 |false=>
  simp only[cond_false]
  have:∀(s:List aj)(i:Nat)(g:List Int),(ej.L1 l signed t ej.K1 s i g).2=0:=by
   intro s
   induction s with
   |nil=>intro i g;rfl
   |cons y s ih=>intro i g;simp only[ej.L1,Bool.cond_eq_ite];split<;>exact ih _ _
  have d:∀(s:List aj)(i:Nat)(g:List Int),(bR.L1 l signed t bR.K1 s i g).2=0:=by
   intro s
   induction s with
   |nil=>intro i g;rfl
   |cons y s ih=>intro i g;simp only[bR.L1,Bool.cond_eq_ite];split<;>exact ih _ _
  exact(d _ _ _).trans (this _ _ _).symm
theorem Gh(l0:List aj):∀(l pre:List aj),l0=pre++l->aR.L1 l0 0 l pre.length=0->(pre≠[]->∀y∈l.head?,(nthI l0 ((pre.length:Int)-1)).No<y.No)/\l.Pairwise (λa b=>a.No<b.No)
 |[],_,_,_=>⟨λ_ _ h=>(by simp at h),List.Pairwise.nil⟩
 |y::l,pre,h0,h=>by
  simp only[aR.L1,Bool.cond_eq_ite]at h
  split at h
  .omega
  .next hc=>
   simp only[xC,not_or,Bool.not_eq_true,Bool.and_eq_false_iff,decide_eq_false_iff_not]at hc
   obtain⟨i1,i2⟩:=Gh l0 l (pre++[y]) (by rw[h0];simp) (by simpa using h)
   have hy:nthI l0 (((pre++[y]).length:Nat)-1:Int)=y:=by
    have:(((pre++[y]).length:Nat)-1:Int)=(pre.length:Int):=by simp
    rw[this];exact ky (by rw[h0];simp)
   rw[hy]at i1
   refine⟨λhne z hz=>?_,?_⟩
   .cases hz
    have:0<pre.length:=List.length_pos_iff.2 hne
    rcases hc.1.2 with h'|h'<;>omega
   .cases l with
    |nil=>simp
    |cons z l=>
     have hyz:=i1 (by simp) z rfl
     rw[List.pairwise_cons]
     refine⟨λw hw=>?_,i2⟩
     rcases vC.1 hw with rfl|hw
     .exact hyz
     .have:=(List.pairwise_cons.1 i2).1 w hw;omega
theorem PS(h:aR l=0):l.Pairwise (λa b=>a.No<b.No):=by
 unfold aR aR.K1 at h
 rw[Bool.cond_eq_ite]at h
 split at h
 .omega
 .exact(Gh l l [] rfl h).2
section
variable {r:Register} {bD:Int} (hc:cQ r=0) (hd:0<=cI r bD)
include hc hd
end
def insB(cmp:Int->Int->Int):List Int->Int->List Int
 |[],x=>[x]
 |y::p,x=>if cmp x y<0 then y::insB cmp p x else x::y::p
theorem PB(cmp:Int->Int->Int):∀(p:List Int)(x:Int),(insB cmp p x).length=p.length+1
 |[],x=>rfl
 |y::p,x=>by unfold insB;split<;>simp[PB cmp p]
theorem RX(cmp:Int->Int->Int):∀(p:List Int)(x:Int)(r:List Int),insIn cmp p.length (p.reverse++x::r)=(insB cmp p x).reverse++r
 |[],x,r=>rfl
 |y::p,x,r=>by
  have e:(y::p).reverse++x::r=p.reverse++y::x::r:=by simp
  rw[e,xA]
  have h1:(p.reverse++y::x::r).getD (p.length+1) 0=x:=by
   grind
  have h2:(p.reverse++y::x::r).getD p.length 0=y:=by
   grind
  simp only[insIn,h1,h2,insB,Bool.cond_eq_ite,decide_eq_true_eq]
  by_cases hc:cmp x y<0
  .rw[if_pos hc,if_pos hc]
   have h3:((p.reverse++y::x::r).set (p.length+1) y).set p.length x=p.reverse++x::y::r:=by
    grind
   rw[h3,RX cmp p x (y::r)]
   simp
  .rw[if_neg hc,if_neg hc]
   simp
theorem PA(cmp:Int->Int->Int):∀(r p:List Int),insOut cmp r.length p.length (p.reverse++r)=(r.foldl (insB cmp) p).reverse
 |[],p=>by simp[insOut]
 |x::r,p=>by
  simp only[xA,insOut,zK]
  rw[RX cmp p x r,←PB cmp p x]
  exact PA cmp r (insB cmp p x)
theorem TU(cmp:Int->Int->Int)(xs:List Int):fa xs cmp=(xs.foldl (insB cmp) []).reverse:=by
 cases xs with
 |nil=>rfl
 |cons x r=>exact PA cmp r [x]
def signedUp(t:Int):List Int->Nat->List Int
 |[],_=>[]
 |y::s,i=>if 0<=y/\y<=t then(i:Int)::signedUp t s (i+1)else signedUp t s (i+1)
theorem FE(t:Int)(k:List Int->List Int):∀(s:List Int)(i:Nat)(g:List Int),bj.L1 t k s i g=k (g++signedUp t s i)
 |[],i,g=>by simp[bj.L1,signedUp]
 |y::s,i,g=>by
  simp only[bj.L1,signedUp,FE t k s,Bool.cond_eq_ite,jA,decide_eq_true_eq]
  split<;>simp
theorem FF(t:Int):∀(s pre:List Int),∀x∈signedUp t s pre.length,0<=x/\x<((pre++s).length:Int)/\(0<=nthI (pre++s) x/\nthI (pre++s) x<=t)
 |[],pre,x,hx=>(vA hx).elim
 |y::s,pre,x,hx=>by
  have ih:=FF t s (pre++[y])
  rw[kA,List.length_singleton]at ih
  simp only[zC,jK,qD]at ih
  grind [signedUp,nthI]
def cntB(f:Int->Bool):List Int->Nat
 |[]=>0
 |y::p=>if f y then cntB f p+1 else 0
theorem Sk(f:Int->Bool):∀p:List Int,cntB f p<=p.length
 |[]=>zE _
 |y::p=>by have:=Sk f p;unfold cntB;split<;>simp only[xA]<;>omega
theorem PC(cmp:Int->Int->Int)(x:Int):∀p:List Int,insB cmp p x=p.take (cntB (λy=>decide (cmp x y<0)) p)++x::p.drop (cntB (λy=>decide (cmp x y<0)) p)
 |[]=>rfl
 |y::p=>by
  unfold insB cntB
  by_cases h:cmp x y<0
  .simp[h,PC cmp x p]
  .simp[h]
theorem O2(signed:List Int)(y1:Int)(p:List Int)(k:Nat->List Int):∀(s:List Nat)(i:Nat),i+s.length=p.length ->
  aX.L3 signed y1 p.reverse k s i=k (i+cntB (λy=>decide (y1<nthI signed y)) (p.drop i))
 |[],i,h=>by
  have:p.drop i=[]:=List.drop_eq_nil_iff.2 (by simp at h;omega)
  rw[this];rfl
 |q::s,i,h=>by
  simp only[xA]at h
  have hi:i<p.length:=by omega
  have hg:nthI p.reverse (((p.reverse.length-(i+1):Nat)):Int)=p[i]:=by
   grind [nthI]
  rw[List.drop_eq_getElem_cons hi]
  simp only[aX.L3,hg,cntB,Bool.cond_eq_ite,O2 signed y1 p k s (i+1) (by omega)]
  split
  .congr 1;omega
  .rfl
theorem J8(a b:Int):cmp_Compare_int a b<0↔a<b:=by
 have h:∀z:Int,cmp_isNaN_int z=false:=λz=>by unfold cmp_isNaN_int;simp
 unfold cmp_Compare_int
 grind
theorem Nj(signed:List Int)(t:Int)(k:List Int->List Int)(cmp:Int->Int->Int)(hcmp:∀a b,cmp a b<0↔nthI signed a<nthI signed b):∀(s pre p:List Int),signed=pre++s ->
  aX.L1 signed t k s pre.length p.reverse=k ((signedUp t s pre.length).foldl (insB cmp) p).reverse
 |[],pre,p,_=>rfl
 |y::s,pre,p,h=>by
  have ih:=λq=>Nj signed t k cmp hcmp s (pre++[y]) q (by rw[h];simp)
  simp only[kA,List.length_singleton]at ih
  have hy:nthI signed (pre.length:Int)=y:=by rw[h];unfold nthI;simp
  simp only[aX.L1,signedUp,Bool.cond_eq_ite,xC,decide_eq_true_eq]
  by_cases hc:0<=y/\y<=t
  .rw[if_neg (by omega),if_pos hc,O2 signed y p _ _ 0 (by simp),zK,←ih]
   congr 1
   have e:(λz=>decide (y<nthI signed z))=λz=>decide (cmp (pre.length:Int) z<0):=by
    funext z;rw[decide_eq_decide,hcmp,hy]
   rw[List.drop_zero,Nat.zero_add,e,PC]
   generalize hz:cntB (λz=>decide (cmp (pre.length:Int) z<0)) p=z
   have hzl:z<=p.length:=by rw[←hz];exact Sk _ _
   rw[Int.toNat_natCast,List.length_reverse]
   simp only[List.reverse_append,List.reverse_cons,zC]
   have h1:p.reverse.take (p.length-z)=(p.drop z).reverse:=by
    rw[List.take_reverse,show p.length-(p.length-z)=z from by omega]
   have h2:p.reverse.drop (p.length-z)=(p.take z).reverse:=by
    rw[List.drop_reverse,show p.length-(p.length-z)=z from by omega]
   rw[h1,h2]
  .rw[if_pos (by omega),if_neg hc,ih]
theorem order17(p:ff)(t:Int):bj p t=aX p.signed t:=by
 unfold bj aX
 rw[FE,qD]
 have:=Nj p.signed t aX.K1 (λa b=>jw a b p) (λa b=>J8 _ _) p.signed [] [] rfl
 simp only[xB,List.reverse_nil]at this
 rw[this]
 show lN (fa _ _)=_
 have hv:∀s:List Int,lN s=s:=λs=>by
  show eR.L1 eR.K1 s=s
  induction s with
  |nil=>rfl
  |cons y s ih=>simp only[eR.L1,ih]
 rw[hv,TU];rfl
theorem has17(l:List Int)(n:Int):eV l n=l.any (·==n):=by
 unfold eV
 induction l with
 |nil=>rfl
 |cons y l ih=>simp only[eV.L1,List.any_cons,ih,Bool.cond_eq_ite];cases(y==n)<;>rfl
theorem pX[Inhabited α]{l:List α}{j:Int}{v:α}(hi:0<=i/\i<(l.length:Int))(hj:0<=j):nthI (l.set i.toNat v) j=if j=i then v else nthI l j:=by
 unfold nthI
 grind
theorem R9{l:List aj}(hi:l.Pairwise (λa b=>a.No<b.No)):∀(s pre:List aj),l=pre++s->∀(m:List (Int×Int))(no:Int),(∃d∈s,d.No=no) ->
  mget? (aG.L1 (aG.K1 l) s pre.length m).at_ no=some (cD.L1 no cD.K1 s pre.length)/\(pre.length:Int)<=cD.L1 no cD.K1 s pre.length/\cD.L1 no cD.K1 s pre.length<(pre.length:Int)+s.length
 |[],pre,_,m,no,h=>by obtain⟨d,hd,_⟩:=h;exact(vA hd).elim
 |y::s,pre,e,m,no,h=>by
  have hp:(y::s).Pairwise (λa b=>a.No<b.No):=by rw[e]at hi;exact(List.pairwise_append.1 hi).2.1
  have hnot:∀(s:List aj)(i:Nat)(m:List (Int×Int)),(∀d∈s,d.No≠no)->mget? (aG.L1 (aG.K1 l) s i m).at_ no=mget? m no:=by
   intro s
   induction s with
   |nil=>intro i m _;rfl
   |cons z s ih=>
    intro i m h
    show mget? (aG.L1 (aG.K1 l) s (i+1) (mput m z.No (i:Int))).at_ no=_
    grind [i8]
  by_cases hy:y.No=no
  .have hn:∀d∈s,d.No≠no:=λd hd=>by have:=(List.pairwise_cons.1 hp).1 d hd;omega
   have hf:cD.L1 no cD.K1 (y::s) pre.length=(pre.length:Int):=by
    simp only[cD.L1,Bool.cond_eq_ite];rw[if_pos (by simpa using hy)]
   rw[hf]
   refine⟨?_,Int.le_refl _,by simp only[xA];omega⟩
   show mget? (aG.L1 (aG.K1 l) s (pre.length+1) (mput m y.No (pre.length:Int))).at_ no=_
   grind [i8]
  .have hex:∃d∈s,d.No=no:=by
    grind
   have hf:cD.L1 no cD.K1 (y::s) pre.length=cD.L1 no cD.K1 s (pre.length+1):=by
    simp only[cD.L1,Bool.cond_eq_ite];rw[if_neg (by simpa using hy)]
   have ih:=R9 hi s (pre++[y]) (by rw[e];simp) (mput m y.No (pre.length:Int)) no hex
   rw[kA,List.length_singleton]at ih
   rw[hf]
   exact⟨ih.1,by omega,by simp only[xA];omega⟩
theorem JW(hi:l.Pairwise (λa b=>a.No<b.No)){no:Int}(h:∃d∈l,d.No=no):mgetD (aG l).at_ no 0=cD l no/\0<=cD l no/\cD l no<(l.length:Int):=by
 obtain⟨h1,h2,h3⟩:=R9 hi l [] rfl [] no h
 simp only[xB]at h1 h2 h3
 refine⟨?_,by unfold cD;simpa using h2,by unfold cD;simpa using h3⟩
 show mgetD (aG.L1 (aG.K1 l) l 0 []).at_ no 0=_
 unfold mgetD
 rw[h1];rfl
structure Gt(l:List aj)(P:ff)(D:List Int)(eff:List Bool):Prop where
 sh:P.shelf=aG l
 ln1:P.done.length=l.length
 ln2:P.lacks.length=l.length
 ln3:eff.length=l.length
 dn:∀i,0<=i->i<(l.length:Int)->nthI P.done i=eV D i
 ef:∀i∈D,nthI eff i=decide (nthI P.lacks i<0)
 rv:∀no,decide (0<((mgetD P.revoked no []).length:Int))=D.any λk=>nthI eff k&&eV (nthI l k).eX no
open Classical in
theorem H4(l:List aj)(D:List Int)(eff:List Bool)(i:Int)(k:Int×Int):∀(s pre:List aj),l=pre++s ->
  (fg.L1 l D eff i k s pre.length).1=if(∃j:Nat,pre.length<=j/\j<l.length/\((eV D (j:Int)&&nthI eff (j:Int))&&eV (nthI l (j:Int)).eX (nthI l i).No)=true)then 5 else k.1
 |[],pre,e=>by
  rw[if_neg]
  .rfl
  .grind
 |y::s,pre,e=>by
  have ih:=H4 l D eff i k s (pre++[y]) (by rw[e];simp)
  rw[kA,List.length_singleton]at ih
  have hy:nthI l (pre.length:Int)=y:=by rw[e];unfold nthI;simp
  have hl:pre.length<l.length:=by rw[e];simp
  simp only[fg.L1,Bool.cond_eq_ite]
  by_cases hc:((eV D (pre.length:Int)&&nthI eff (pre.length:Int))&&eV y.eX (nthI l i).No)=true
  .rw[if_pos hc,if_pos ⟨pre.length,zE _,hl,by rw[hy];exact hc⟩]
  .rw[if_neg hc,ih]
   congr 1
   grind
open Classical in
theorem state17{P:ff}{D:List Int}{eff eff':List Bool}(S:Gt l P D eff)(hD:∀k∈D,0<=k/\k<(l.length:Int))(he:∀k∈D,nthI eff' k=nthI eff k)(hi:0<=i/\i<(l.length:Int))(t:Int):
  (cu P i t).1=(fg l D eff' i t).1:=by
 have hdocs:P.shelf.docs=l:=by rw[S.sh];exact(xx l l 0 []).1
 unfold cu fg
 rw[S.dn i hi.1 hi.2,hdocs]
 cases hh:eV D i with
 |false=>rfl
 |true=>
  have hm:i∈D:=w6 hh
  simp only[Bool.not_true,cond_false]
  rw[he i hm,S.ef i hm]
  by_cases hl:nthI P.lacks i<0
  .rw[show decide (0<=nthI P.lacks i)=false from decide_eq_false (by omega),show decide (nthI P.lacks i<0)=true from decide_eq_true hl]
   simp only[Bool.not_true,cond_false]
   have h1:=H4 l D eff' i (fg.K1 l i t) l [] rfl
   simp only[xB]at h1
   rw[h1,S.rv]
   have h2:(D.any λk=>nthI eff k&&eV (nthI l k).eX (nthI l i).No)=decide (∃j:Nat,0<=j/\j<l.length/\((eV D (j:Int)&&nthI eff' (j:Int))&&eV (nthI l (j:Int)).eX (nthI l i).No)=true):=by
    rw[jF,List.any_eq_true,decide_eq_true_iff]
    constructor
    .rintro⟨k,hk,h⟩
     have hr:=hD k hk
     refine⟨k.toNat,kJ _,by omega,?_⟩
     rw[show(k.toNat:Int)=k from by omega,he k hk,has17 D k]
     grind
    .rintro⟨j,_,hj,h⟩
     simp only[jA]at h
     grind [w6]
   rw[h2]
   by_cases hx:(∃j:Nat,0<=j/\j<l.length/\((eV D (j:Int)&&nthI eff' (j:Int))&&eV (nthI l (j:Int)).eX (nthI l i).No)=true)
   .rw[decide_eq_true hx,if_pos hx];rfl
   .rw[decide_eq_false hx,if_neg hx]
    rfl
  .grind
theorem Mt(s:List Int):∀m,m<=s.length->(backL s m).map (·.2)=(s.take m).reverse
 |0,_=>by simp[backL]
 |m+1,h=>by
  have e:nthI s (m:Int)=s[m]:=by
   grind [nthI]
  rw[backL,jG,Mt s m (by omega),List.take_succ_eq_append_getElem (by omega),List.reverse_append,e]
  rfl
def lastF(f:Int->Bool):List Int->Int->Int
 |[],v=>v
 |y::s,v=>lastF f s (if f y then y else v)
theorem E6(f:Int->Bool):∀(s:List Int)(v:Int),(∀x∈s,0<=x)->(lastF f s v<0↔v<0/\∀x∈s,f x=false)
 |[],v,_=>by simp[lastF]
 |y::s,v,h=>by
  have hy:=h y (zB ..)
  rw[lastF,E6 f s _ λx hx=>h x (qC _ hx)]
  grind
section
variable {l:List aj} {P:ff} {D:List Int} {eff:List Bool} (hi:l.Pairwise (λa b=>a.No<b.No)) (hN:∀d∈l,∀x∈d.eQ,0<=x/\∃e∈l,e.No=x) (S:Gt l P D eff) (hD:∀k∈D,0<=k/\k<(l.length:Int)) {i:Int} (hir:0<=i/\i<(l.length:Int)) (hin:i∉D)
include S hir hin hD in
theorem Ru(v:Int):Gt l { P with lacks:=P.lacks.set i.toNat v } D eff:=by
 refine⟨S.sh,S.ln1,by simp[S.ln2],S.ln3,S.dn,λk hk=>?_,S.rv⟩
 have hki:k≠i:=λe=>hin (e▸hk)
 show nthI eff k=decide (nthI (P.lacks.set i.toNat v) k<0)
 rw[pX (by rw[S.ln2];exact hir) (hD k hk).1,if_neg hki]
 exact S.ef k hk
def failF(l:List aj)(D:List Int)(eff:List Bool)(t:Int)(no:Int):Bool:=(fg l D eff (cD l no) t).1 != 0
include hi S hD hir hin in
theorem Pe(t:Int):∀(R:List (Int×Int))(v:Int),(∀x∈R,∃e∈l,e.No=x.2)->nthI P.signed i=t ->
  R.foldl (λq x=>playLack P.signed i q x.2) { P with lacks:=P.lacks.set i.toNat v }={ P with lacks:=P.lacks.set i.toNat (lastF (failF l D eff t) (R.map (·.2)) v) }
 |[],v,_,_=>rfl
 |x::R,v,h,ht=>by
  obtain⟨h1,h2,h3⟩:=JW hi (h x (zB ..))
  have hs:=state17 (Ru S hD hir hin v) hD (λ_ _=>rfl) ⟨h2,h3⟩ t
  have hp:playLack P.signed i { P with lacks:=P.lacks.set i.toNat v } x.2={ P with lacks:=P.lacks.set i.toNat (if failF l D eff t x.2 then x.2 else v) }:=by
   unfold playLack failF
   show(bif(cu { P with lacks:=P.lacks.set i.toNat v } (mgetD P.shelf.at_ x.2 0) (nthI P.signed i)).1 != 0 then _ else _)=_
   rw[ht,show mgetD P.shelf.at_ x.2 0=cD l x.2 from by rw[S.sh];exact h1,hs]
   cases(fg l D eff (cD l x.2) t).1 != 0 with
   |true=>simp
   |false=>rfl
  rw[zK,hp,Pe t R _ (λy hy=>h y (qC _ hy)) ht]
  rfl
omit hi hN S hD hir hin in
theorem FK(d:aj):∀(R:List Int)(p:ff),(R.foldl (playRevoke d) p).shelf=p.shelf/\(R.foldl (playRevoke d) p).signed=p.signed/\(R.foldl (playRevoke d) p).done=p.done/\(R.foldl (playRevoke d) p).lacks=p.lacks /\
  ∀no,decide (0<(((mgetD (R.foldl (playRevoke d) p).revoked no []).length:Nat):Int))=(decide (0<((mgetD p.revoked no []).length:Int))||eV R no)
 |[],p=>⟨rfl,rfl,rfl,rfl,λno=>by rw[has17];simp⟩
 |y::R,p=>by
  obtain⟨h1,h2,h3,h4,h5⟩:=FK d R (playRevoke d p y)
  refine⟨h1,h2,h3,h4,λno=>?_⟩
  rw[zK,h5 no,has17,has17,List.any_cons]
  show(decide (0<(((mgetD (mput p.revoked y (mgetD p.revoked y []++[d.No])) no []).length:Nat):Int))||_)=_
  have e:mgetD (mput p.revoked y (mgetD p.revoked y []++[d.No])) no []=if no=y then mgetD p.revoked y []++[d.No]else mgetD p.revoked no []:=by
   show(mget? _ no).getD []=_
   rw[i8]
   split<;>rfl
  rw[e]
  by_cases hy:no=y
  .subst hy
   simp<;>omega
  .rw[if_neg hy,show(y==no)=false from by simpa using λe=>hy e.symm]
   simp
def needF(l:List aj)(D:List Int)(eff:List Bool)(i t:Int):Bool:=(nthI l i).eQ.all λno=>!(failF l D eff t no)
include hi hN S hD hir hin in
theorem step17:Gt l (playStep P i) (D++[i]) (eff.set i.toNat (needF l D eff i (nthI P.signed i)))/\(playStep P i).signed=P.signed:=by
 have hdocs:P.shelf.docs=l:=by rw[S.sh];exact(xx l l 0 []).1
 have hmem:nthI l i∈l:=lu hir
 have hb:(j9 (nthI l i).eQ).map (·.2)=(nthI l i).eQ.reverse:=by
  show(backL _ _).map _=_
  rw[Mt _ _ (zE _),List.take_length]
 have hbm:∀x∈j9 (nthI l i).eQ,∃e∈l,e.No=x.2:=λx hx=>by
  have:x.2∈(j9 (nthI l i).eQ).map (·.2):=qM.2 ⟨x,hx,rfl⟩
  rw[hb,List.mem_reverse]at this
  exact(hN _ hmem _ this).2
 have hmid:playMid P i={ P with lacks:=P.lacks.set i.toNat (lastF (failF l D eff (nthI P.signed i)) (nthI l i).eQ.reverse (-1)) }:=by
  unfold playMid
  rw[hdocs,←hb]
  exact Pe hi S hD hir hin _ _ (-1) hbm rfl
 generalize hv:lastF (failF l D eff (nthI P.signed i)) (nthI l i).eQ.reverse (-1)=v at hmid
 have hok:decide (v<0)=needF l D eff i (nthI P.signed i):=by
  rw[←hv,jF,decide_eq_true_iff,E6 _ _ _ λx hx=>(hN _ hmem x (List.mem_reverse.1 hx)).1]
  unfold needF
  rw[qP]
  simp
 have hlk:nthI (playMid P i).lacks i=v:=by
  rw[hmid]
  show nthI (P.lacks.set i.toNat v) i=v
  rw[pX (by rw[S.ln2];exact hir) hir.1,if_pos rfl]
 have S1:=Ru S hD hir hin v
 have base:∀Q:ff,Q.shelf=P.shelf->Q.done=P.done.set i.toNat true->Q.lacks=P.lacks.set i.toNat v->(∀no,decide (0<((mgetD Q.revoked no []).length:Int))=(decide (0<((mgetD P.revoked no []).length:Int))||(decide (v<0)&&eV (nthI l i).eX no))) ->
   Gt l Q (D++[i]) (eff.set i.toNat (needF l D eff i (nthI P.signed i))):=λQ q1 q2 q3 q4=>by
  have hE:∀k,0<=k->nthI (eff.set i.toNat (needF l D eff i (nthI P.signed i))) k=if k=i then needF l D eff i (nthI P.signed i)else nthI eff k:=λk hk=>pX (by rw[S.ln3];exact hir) hk
  refine⟨q1.trans S.sh,by rw[q2];simp[S.ln1],by rw[q3];simp[S.ln2],by simp[S.ln3],λj h1 h2=>?_,λk hk=>?_,λno=>?_⟩
  .rw[q2,pX (by rw[S.ln1];exact hir) h1,has17,List.any_append]
   by_cases hj:j=i
   .subst hj;simp
   .rw[if_neg hj,S.dn j h1 h2,has17]
    have:(i==j)=false:=by simpa using λe=>hj e.symm
    simp[this]
  .rcases qE.1 hk with hk|hk
   .have hki:k≠i:=λe=>hin (e▸hk)
    rw[hE k (hD k hk).1,if_neg hki,q3,pX (by rw[S.ln2];exact hir) (hD k hk).1,if_neg hki]
    exact S.ef k hk
   .rw[kB.1 hk,hE i hir.1,if_pos rfl,q3,pX (by rw[S.ln2];exact hir) hir.1,if_pos rfl,hok]
  .rw[q4 no,S.rv no,List.any_append]
   have h1:(D.any λk=>nthI (eff.set i.toNat (needF l D eff i (nthI P.signed i))) k&&eV (nthI l k).eX no)=D.any λk=>nthI eff k&&eV (nthI l k).eX no:=by
    rw[jF,List.any_eq_true,List.any_eq_true]
    have hk:∀k∈D,nthI (eff.set i.toNat (needF l D eff i (nthI P.signed i))) k=nthI eff k:=λk hk=>by
     have hki:k≠i:=λe=>hin (e▸hk)
     rw[hE k (hD k hk).1,if_neg hki]
    exact⟨λ⟨k,a,b⟩=>⟨k,a,by rw[←hk k a];exact b⟩,λ⟨k,a,b⟩=>⟨k,a,by rw[hk k a];exact b⟩⟩
   rw[h1,hok]
   simp[hE i hir.1]
 unfold playStep
 rw[hlk,hdocs]
 have hd1:playDone (playMid P i) i={ P with lacks:=P.lacks.set i.toNat v,done:=P.done.set i.toNat true }:=by rw[hmid];rfl
 rw[hd1]
 by_cases hneg:v<0
 .rw[decide_eq_true hneg,cond_true]
  obtain⟨h1,h2,h3,h4,h5⟩:=FK (nthI l i) (nthI l i).eX { P with lacks:=P.lacks.set i.toNat v,done:=P.done.set i.toNat true }
  exact⟨base _ h1 h3 h4 λno=>by rw[h5 no,decide_eq_true hneg,Bool.true_and],h2⟩
 .rw[decide_eq_false hneg,cond_false]
  exact⟨base _ rfl rfl rfl λno=>by rw[decide_eq_false hneg,Bool.false_and,Bool.or_false],rfl⟩
end
theorem LZ(cmp:Int->Int->Int):∀(p:List Int)(x:Int),(insB cmp p x).Perm (x::p)
 |[],x=>List.Perm.refl _
 |y::p,x=>by
  unfold insB
  split
  .exact(List.Perm.cons y (LZ cmp p x)).trans (List.Perm.swap x y p)
  .exact List.Perm.refl _
theorem JS(cmp:Int->Int->Int):∀(xs p:List Int),(xs.foldl (insB cmp) p).Perm (xs++p)
 |[],p=>List.Perm.refl _
 |x::xs,p=>(JS cmp xs _).trans ((List.Perm.append_left xs (LZ cmp p x)).trans List.perm_middle)
theorem DC(t:Int):∀(s:List Int)(i:Nat),(signedUp t s i).Pairwise (·<·)/\∀x∈signedUp t s i,(i:Int)<=x
 |[],i=>⟨List.Pairwise.nil,λx hx=>(vA hx).elim⟩
 |y::s,i=>by
  obtain⟨h1,h2⟩:=DC t s (i+1)
  unfold signedUp
  split
  .refine⟨List.pairwise_cons.2 ⟨λx hx=>by have:=h2 x hx;omega,h1⟩,λx hx=>?_⟩
   grind
  .grind
theorem O1(signed:List Int)(t:Int):(aX signed t).Nodup/\∀x∈aX signed t,0<=x/\x<(signed.length:Int):=by
 have h:=Nj signed t aX.K1 (λa b=>cmp_Compare_int (nthI signed a) (nthI signed b)) (λa b=>J8 _ _) signed [] [] rfl
 simp only[xB,List.reverse_nil]at h
 have e:aX signed t=((signedUp t signed 0).foldl (insB λa b=>cmp_Compare_int (nthI signed a) (nthI signed b)) []).reverse:=h
 have hp:(aX signed t).Perm (signedUp t signed 0):=by
  grind [JS,nthI,signedUp]
 refine⟨hp.nodup_iff.2 ((DC t signed 0).1.imp λh=>Int.ne_of_lt h),λx hx=>?_⟩
 have:=FF t signed [] x (hp.mem_iff.1 hx)
 grind
theorem RM[Inhabited α]{m:Nat}(h:m<s.length):nthI s (m:Int)=s[m]:=by grind [nthI]
theorem Pu{l:List aj}{signed:List Int}{t:Int}{n:Nat}{y:Int}{eff:List Bool}{k:List Int->List Int}{lk:List Int}(hy:0<=y/\y<(lk.length:Int)):∀(s:List Nat)(i4:Nat)(v:Int),i4+s.length=(nthI l y).eQ.length ->
  bx.L4 l signed t n y eff k s i4 (lk.set y.toNat v)=k (lk.set y.toNat (lastF (failF l ((aX signed t).take n) eff (nthI signed y)) ((nthI l y).eQ.take s.length).reverse v))
 |[],i4,v,_=>rfl
 |q::s,i4,v,h=>by
  simp only[xA]at h
  have hlt:s.length<(nthI l y).eQ.length:=by omega
  have hno:nthI (nthI l y).eQ (((((nthI l y).eQ.length)-i4:Nat):Int)-1)=(nthI l y).eQ[s.length]'hlt:=by
   have:(((((nthI l y).eQ.length)-i4:Nat):Int)-1)=(s.length:Int):=by omega
   rw[this];exact RM hlt
  have hr:((nthI l y).eQ.take (s.length+1)).reverse=(nthI l y).eQ[s.length]'hlt::((nthI l y).eQ.take s.length).reverse:=by
   rw[List.take_succ_eq_append_getElem hlt,List.reverse_append];rfl
  have ih:=λv=>Pu (l:=l) (signed:=signed) (t:=t) (n:=n) (eff:=eff) (k:=k) hy s (i4+1) v (by omega)
  simp only[bx.L4,hno,Int.toNat_natCast,xA,hr,lastF,List.set_set]
  rw[ih,ih]
  unfold failF
  grind
section
variable {l:List aj} {signed:List Int} {t:Int} (hi:l.Pairwise (λa b=>a.No<b.No)) (hN:∀d∈l,∀x∈d.eQ,0<=x/\∃e∈l,e.No=x) (hsl:signed.length=l.length)
include hi hN hsl
theorem Pv(k:List Bool->List Int->List Int):∀(rest D:List Int)(P:ff)(eff:List Bool)(lk:List Int),aX signed t=D++rest->P.signed=signed->Gt l P D eff->lk.length=l.length ->
  (∀i,0<=i->i<(l.length:Int)->i∉D->nthI lk i=-1)->(∀i∈D,nthI eff i=decide (nthI lk i<0)) ->
  ∃eff' lk',bx.L2 l signed t k rest D.length eff lk=k eff' lk'/\Gt l (rest.foldl playStep P) (D++rest) eff'/\lk'.length=l.length/\∀i∈D++rest,nthI eff' i=decide (nthI lk' i<0)
 |[],D,P,eff,lk,_,_,S,hl,_,h2=>⟨eff,lk,rfl,by simpa using S,hl,by simpa using h2⟩
 |y::rest,D,P,eff,lk,ho,hsg,S,hl,h1,h2=>by
  obtain⟨hnd,hrg⟩:=O1 signed t
  have hD:∀k∈D,0<=k/\k<(l.length:Int):=λk hk=>by rw[←hsl];exact hrg k (by rw[ho];exact jN _ hk)
  have hy:0<=y/\y<(l.length:Int):=by rw[←hsl];exact hrg y (by rw[ho];simp)
  have hyn:y∉D:=by
   rw[ho]at hnd
   exact λh=>(Yj.1 hnd).2.2 _ h _ (zB ..) rfl
  have htake:(aX signed t).take D.length=D:=by rw[ho];simp
  obtain⟨S',hsg'⟩:=step17 hi hN S hD hy hyn
  rw[hsg]at S'
  have hlk:lk.set y.toNat (-1)=lk:=by
   apply List.ext_getElem (by simp)
   intro j a b
   rw[List.getElem_set]
   split
   .next e=>
    have:=h1 y hy.1 hy.2 hyn
    unfold nthI at this
    rw[List.getD_eq_getElem?_getD,List.getElem?_eq_getElem (by omega)]at this
    subst e;exact this.symm
   .rfl
  have h4:=Pu (l:=l) (signed:=signed) (t:=t) (n:=D.length) (eff:=eff) (lk:=lk) (k:=λz=>bx.L2 l signed t k rest (D.length+1) (eff.set y.toNat (decide ((nthI z y)<0))) z) (y:=y) (by rw[hl];exact hy) (xF ((nthI l y).eQ.length)) 0 (-1) (by simp)
  rw[hlk,List.length_range,List.take_length,htake]at h4
  generalize hv:lastF (failF l D eff (nthI signed y)) (nthI l y).eQ.reverse (-1)=v at h4
  have hmem:nthI l y∈l:=lu hy
  have hok:decide (v<0)=needF l D eff y (nthI signed y):=by
   rw[←hv,jF,decide_eq_true_iff,E6 _ _ _ λx hx=>(hN _ hmem x (List.mem_reverse.1 hx)).1]
   unfold needF
   rw[qP]
   simp
  have hz:nthI (lk.set y.toNat v) y=v:=by rw[pX (by rw[hl];exact hy) hy.1,if_pos rfl]
  have ih:=Pv k rest (D++[y]) (playStep P y) (eff.set y.toNat (needF l D eff y (nthI signed y))) (lk.set y.toNat v) (by rw[ho];simp) (hsg'.trans hsg) S' (by simp[hl])
   (λi a b c=>by
    have hne:i≠y:=λe=>c (by rw[e];simp)
    rw[pX (by rw[hl];exact hy) a,if_neg hne]
    exact h1 i a b λh=>c (jN _ h))
   (λi hm=>by
    rcases qE.1 hm with hm|hm
    .have hne:i≠y:=λe=>hyn (e▸hm)
     rw[pX (by rw[S.ln3];exact hy) (hD i hm).1,if_neg hne,pX (by rw[hl];exact hy) (hD i hm).1,if_neg hne]
     exact h2 i hm
    .rw[kB.1 hm,pX (by rw[S.ln3];exact hy) hy.1,if_pos rfl,hz,hok])
  obtain⟨eff',lk',e1,e2,e3,e4⟩:=ih
  refine⟨eff',lk',?_,by simpa using e2,e3,by simpa using e4⟩
  simp only[bx.L2]
  rw[h4]
  simp only[hz,hok]
  rw[←e1,kA,List.length_singleton]
end
theorem Pw(k:List Int->List Int):∀(s:List aj)(g:List Int),bx.L1 k s g=k (g++List.replicate s.length (-1))
 |[],g=>by simp[bx.L1]
 |y::s,g=>by
  simp only[bx.L1,Pw k s,xA,List.replicate_succ]
  simp
theorem Oz(l:List aj)(signed:List Int)(t:Int)(k:List Bool->Int×Int):∀(s:List aj)(i:Nat)(g:List Bool),il.L1 l signed t k s i g=k (g++(List.range' i s.length).map λj:Nat=>decide (nthI (bx l signed t) (j:Int)<0))
 |[],i,g=>by simp[il.L1]
 |y::s,i,g=>by
  simp only[il.L1,Oz l signed t k s,xA,List.range'_succ,jG]
  simp
section
variable {l:List aj} {signed:List Int} {t:Int} (hc:aR l=0) (hs:bT l signed=true)
include hc
theorem Ur:∀d∈l,∀x∈d.eQ,0<=x/\∃e∈l,e.No=x:=by
 intro d hd x hx
 refine⟨((Fp hc d hd).needs.1.1 x hx).1,?_⟩
 have h17:=qe hc
 have hth:∀(s pre:List aj),l=pre++s->dH.L1 l dH.K1 s pre.length=0->∀e∈s,gg l e.eQ=true:=by
  intro s
  induction s with
  |nil=>intro _ _ _ e he;exact(vA he).elim
  |cons y s ih=>
   intro pre e h
   simp only[dH.L1,Bool.cond_eq_ite]at h
   split at h
   .cases h
   .next hh=>
    simp only[xC,not_or,vD,Bool.not_eq_false]at hh
    intro z hz
    rcases vC.1 hz with rfl|hz
    .exact hh.2
    .exact ih (pre++[y]) (by rw[e];simp) (by simpa using h) z hz
 have hL:dH.L1 l dH.K1 l 0=0:=by
  unfold dH at h17
  rw[Bool.cond_eq_ite]at h17
  split at h17
  .cases h17
  .exact h17
 have:=EG l d.eQ (hth l [] rfl hL d hd) x hx
 obtain⟨e,he,h⟩:=List.any_eq_true.1 this
 exact⟨e,he,by simpa using h⟩
include hs
theorem play17(hi:0<=i/\i<(l.length:Int)):(cu (co l signed t) i t).1=(il l signed i t).1:=by
 have hinc:=PS hc
 have hN:=Ur hc
 have hsl:=(BG.1 hs).1
 obtain⟨hnd,hrg⟩:=O1 signed t
 have S0:Gt l (playP l signed) [] (List.replicate l.length false):=by
  refine⟨rfl,by simp[playP],by simp[playP],by simp,λj h1 h2=>?_,λk hk=>(vA hk).elim,λno=>by simp[playP,mgetD,mget?]⟩
  show nthI (List.replicate l.length false) j=false
  grind [nthI]
 obtain⟨eff,lk,e1,S,e3,e4⟩:=Pv hinc hN hsl bx.K2 (aX signed t) [] (playP l signed) (List.replicate l.length false) (List.replicate l.length (-1)) rfl rfl S0 (by simp)
  (λj h1 h2 _=>by
   unfold nthI
   rw[List.getD_eq_getElem?_getD,List.getElem?_replicate,if_pos (by omega)];rfl) (λk hk=>(vA hk).elim)
 rw[qD]at S e4
 have hP:co l signed t=(aX signed t).foldl playStep (playP l signed):=by
  unfold co
  rw[order17 (playP l signed) t]
  rfl
 have hLk:bx l signed t=lk:=by
  unfold bx
  rw[Pw,qD]
  exact e1
 rw[hP]
 have hO:∀k∈aX signed t,0<=k/\k<(l.length:Int):=λk hk=>by rw[←hsl];exact hrg k hk
 unfold il
 grind [il.K1,Oz,state17,nthI,RM]
theorem inforce17(ht:0<=t/\t<1099511627776):bR l signed t=ej l signed t:=by
 have h17:=qe hc
 have hL:∀(s pre:List aj)(g:List Int),l=pre++s->bR.L1 l signed t bR.K1 s pre.length g=ej.L1 l signed t ej.K1 s pre.length g:=by
  intro s
  induction s with
  |nil=>intro pre g _;rfl
  |cons y s ih=>
   intro pre g e
   have hst:=play17 (t:=t) hc hs (i:=(pre.length:Int)) ⟨by omega,by rw[e];simp;omega⟩
   have ih:=λg=>ih (pre++[y]) g (by rw[e];simp)
   rw[kA,List.length_singleton]at ih
   simp only[bR.L1,ej.L1,hst,ih]
 unfold bR ej
 rw[hc,h17,←Ia,hs,uS ht,show mr t=true from uS ht]
 exact hL l [] [] rfl
end
theorem Mm(l:List aj)(no:Int):cD l no<(l.length:Int):=by
 have key:∀(s:List aj)(i:Nat),cD.L1 no cD.K1 s i<((i+s.length:Nat):Int):=by
  intro s
  induction s with
  |nil=>intro i;simp only[cD.L1,cD.K1];omega
  |cons y s ih=>
   intro i
   simp only[cD.L1,Bool.cond_eq_ite,xA]
   split
   .omega
   .have:=ih (i+1);omega
 have:=key l 0
 rw[Nat.zero_add]at this
 exact this
theorem yL(r:Register)(d:aj)(p:aw)(t ad:Int):(eJ r d p t ad).length<=r.bS.length:=by
 have key:∀(s:List ae)(g:List Int),(eJ.L1 r d t ad eJ.K1 s g).length<=g.length+s.length:=by
  intro s
  induction s with
  |nil=>intro g;exact zE _
  |cons y s ih=>
   intro g
   simp only[eJ.L1,Bool.cond_eq_ite,xA]
   grind [EY]
 grind [eJ,xB,nthI,Fq]
structure XE(r:Register)(signed:List Int)(bD:Int):Prop where
 ix:0<=cI r bD/\cI r bD<(r.cj.length:Int)
 sg:signed.length=r.cj.length
 kd:0<=(nthI r.cj (cI r bD)).Kind
theorem jctx{r:Register}(hsm:smR r){signed:List Int}{u:List Use}{bD t ad:Int}(h:((jb r signed u bD t ad) != 0)=false):XE r signed bD:=by
 obtain⟨hc,hd,ht,hk,hs,hr⟩:=BW hsm (by simpa using h)
 have hco:=(BV hsm (u:=u) (t:=t) (ad:=ad) (signed:=signed) (bD:=bD) (by simpa using h)).1
 exact⟨⟨hd,(RG hd).1⟩,(BG.1 hs).1,hco.kind.1⟩
structure Xj(r:Register)(d:aj)(t ad:Int):Prop where
 ver:∀y∈(fY r.Versions d.At t ad).1,(0<=cR r y/\cR r y<(r.Versions.length:Int))/\(nthI r.Versions (cR r y)).aw.dt.length=(nthI r.Versions (cR r y)).aw.ey.length
 len:(fY r.Versions d.At t ad).1.length<=256
theorem Gn{r:Register}{t:Int}(h:fM r signed i t=false):(nthI r.cj i).At<=t:=by
 unfold fM at h
 grind
theorem vctx{r:Register}(hsm:smR r){signed:List Int}{u:List Use}{bD t ad:Int}(h:((jb r signed u bD t ad) != 0)=false)(hcl:fM r signed (cI r bD) t=false):Xj r (nthI r.cj (cI r bD)) t ad:=by
 obtain⟨hc,hd,ht,hk,hs,hr⟩:=BW hsm (by simpa using h)
 have hco:=(BV hsm (u:=u) (t:=t) (ad:=ad) (signed:=signed) (bD:=bD) (by simpa using h)).1
 have eT:=Gn hcl
 have h20:dE r.Versions=0:=xi hsm.vers ((kh _).1 hc).2.2.2.2.1
 have hJ:=Qd hco.vers h20 hco.good.at_ ht hk eT
 have hj:=BZ hco.vers hco.good.at_ ht hk eT
 refine⟨λy hy=>?_,?_⟩
 .rw[hJ]at hy
  obtain⟨v,hv,e⟩:=hj.mem y hy
  have hge:0<=cR r y/\cR r y<(r.Versions.length:Int):=by
   grind [cR,rver]
  refine⟨hge,?_⟩
  rcases policy30 (rCourt r bD t ad) y with⟨_,p2⟩|⟨_,p2⟩
  .have:cR r y<0:=p2
   omega
  .exact(uJ hco hsm p2).rules.1
 .rw[hJ]
  exact zN (Kj _ _ _ _) hco.vers.len
theorem Sa{r:Register}(h:mq r=true):r.cj.length<=8/\r.bS.length<=24:=by
 unfold mq at h
 grind
theorem WR{r:Register}(h:(((!(mq r))||decide (40<(signed.length:Int)))||decide (30<(u.length:Int)))=false):r.bS.length<=24:=by
 simp only[Bool.or_eq_false_iff,Bool.not_eq_false']at h
 exact(Sa h.1.1).2
theorem WQ{r:Register}(h:(((!(mq r))||decide (40<(signed.length:Int)))||decide (30<(u.length:Int)))=false):r.cj.length<20:=by grind [Bool.or_eq_false_iff,Bool.not_eq_false',Sa]
theorem QZ{r:Register}{t:Int}(h:0<=cI r bD):ah r.cj (λfX=>iV fX (rCourt r bD t ad))=cI r bD:=by
 have hno:=(RG h).2.2
 have e:(λfX=>iV fX (rCourt r bD t ad))=λfX=>bz fX bD:=by
  funext a
  show(a.No==(nthI r.cj (cI r bD)).No)=(a.No==bD)
  rw[hno]
 rw[e]
 exact(En bD r.cj 0).symm
theorem why17{t:Int}(hc:aR l=0)(hs:bT l signed=true)(ht:0<=t/\t<1099511627776){no:Int}(hn:∃d∈l,d.No=no):(i5 l signed no t).1=(pB l signed no t).1:=by
 obtain⟨dd,hdd,rfl⟩:=hn
 have hn:∃d∈l,d.No=dd.No:=⟨dd,hdd,rfl⟩
 have h17:=qe hc
 obtain⟨e1,e2,e3⟩:=JW (PS hc) hn
 have hp:=play17 (t:=t) hc hs ⟨e2,e3⟩
 unfold i5 pB
 rw[hc,h17,←Ia,hs,uS ht,show mr t=true from uS ht,uC,Lv l hdd,e1]
 grind
theorem Q3{α : Type}{f g:α->Bool}:∀{l:List α},(∀x∈l,f x=g x)->l.any f=l.any g
 |[],_=>rfl
 |y::l,h=>by simp only[List.any_cons,h y (zB ..),Q3 λx hx=>h x (qC _ hx)]
theorem has30(l:List Int)(n:Int):lD l n=l.any (·==n):=by
 have:∀s:List Int,lD.L1 n lD.K1 s=s.any (·==n):=by
  intro s
  induction s with
  |nil=>rfl
  |cons y s ih=>simp only[lD.L1,List.any_cons,ih];cases y==n<;>rfl
 exact this l
theorem cfD(f:aj->Bool)(l:List aj):j1 l f=l.any f:=by grind [j1,ah,D7]
theorem closedL(r:Register)(signed:List Int)(i t:Int):∀s:List aj,fM.L1 r signed i t fM.K1 s=s.any λy=>((lD y.eX ((nthI r.cj i).No))&&((pB r.cj signed y.No t).1 != 1))&&((pB r.cj signed y.No t).1 != 4)
 |[]=>rfl
 |y::s=>by
  simp only[fM.L1,List.any_cons,closedL r signed i t s]
  grind
theorem needsL(r:Register)(signed:List Int)(t:Int):∀s:List Int,ka.L1 r signed t ka.K1 s=s.all λy=>lD ((ej r.cj signed t).1) y
 |[]=>rfl
 |y::s=>by
  simp only[ka.L1,List.all_cons,needsL r signed t s]
  grind
section
variable {r:Register} (hsm:smR r) {signed:List Int} {u:List Use} {bD t ad:Int} (he:jb r signed u bD t ad=0)
include hsm he
theorem closed30:iy (rCourt r bD t ad) signed=fM r signed (cI r bD) t:=by
 obtain⟨hc,hd,ht,hk,hs,hr⟩:=BW hsm he
 have hdc:aR r.cj=0:=((kh r).1 hc).2.2.2.2.2.1
 unfold iy fM
 simp only[]
 rw[QZ hd]
 have hrv:ng (rCourt r bD t ad) signed=fM.L1 r signed (cI r bD) t fM.K1 r.cj:=by
  rw[closedL]
  unfold ng
  rw[cfD]
  refine Q3 λy hy=>?_
  unfold nw
  simp only[]
  rw[why17 hdc hs ht ⟨y,hy,rfl⟩,←Ez,has30]
  grind
 grind
theorem needs30:ki (rCourt r bD t ad) signed=!(ka r signed (nthI r.cj (cI r bD)) t):=by
 obtain⟨hc,hd,ht,hk,hs,hr⟩:=BW hsm he
 grind [ki,ka,n9,kh,needsL,inforce17,containsF,Q3,Ez,has30]
end
theorem LW(k:List Int->dT):∀(s g:List Int),eE.L3 k s g=k (s.foldl fu g)
 |[],g=>rfl
 |y::s,g=>by simp only[eE.L3,LW k s,zK]
theorem LX(r:Register)(d:aj)(t ad:Int)(k:List Bool->List Int->dT):∀(s:List Int)(g:List Bool)(w:List Int),eE.L1 r d t ad k s g w =
  k (g++s.map λy=>fV r d ((nthI r.Versions (cR r y)).aw) t ad) (s.foldl (λw y=>(eJ r d ((nthI r.Versions (cR r y)).aw) t ad).foldl fu w) w)
 |[],g,w=>by simp[eE.L1]
 |y::s,g,w=>by simp only[eE.L1,LW,LX r d t ad k s,jG,zK,zC,List.singleton_append]
theorem Mj:∀(s g:List Int),g.Pairwise (·<·)->(s.foldl fu g).Pairwise (·<·)/\∀x,x∈s.foldl fu g↔x∈g\/x∈s
 |[],g,h=>⟨h,λx=>by simp⟩
 |y::s,g,h=>by
  obtain⟨a,b⟩:=put30 h y
  obtain⟨c,d⟩:=Mj s (fu g y) a
  grind
theorem Mk(f:Int->List Int):∀(s g:List Int),g.Pairwise (·<·)->(s.foldl (λw y=>(f y).foldl fu w) g).Pairwise (·<·)/\∀x,x∈s.foldl (λw y=>(f y).foldl fu w) g↔x∈g\/x∈s.flatMap f
 |[],g,h=>⟨h,λx=>by simp⟩
 |y::s,g,h=>by
  obtain⟨a,b⟩:=Mj (f y) g h
  obtain⟨c,d⟩:=Mk f s _ a
  grind
theorem PO{α : Type}{f g:α->Int->α}:∀{l:List Int}(a:α),(∀x∈l,∀a,f a x=g a x)->l.foldl f a=l.foldl g a
 |[],a,_=>rfl
 |y::l,a,h=>by rw[zK,zK,h y (zB ..),PO _ λx hx=>h x (qC _ hx)]
section
variable {c:bZ} (h:kj c) (hsm:smR c.Register)
include h hsm
theorem permits30(hp:Qc p):fV c.Register c.bD p c.at_ c.ad=eo c p (cZ c p):=by
 have hoc:=((kh _).1 h.chk).1
 have key:∀(s:List ByteArray)(i:Nat)(g:List (List aV)),i+s.length<=32->(∀y∈g,y.length<=2000000) ->
   fV.L1 c.Register c.at_ c.ad (fV.K1 c.Register c.bD p c.at_ c.ad) s i g=eo.L1 c (eo.K1 c p (cZ c p)) s i g:=by
  intro s
  induction s with
  |nil=>
   intro i g _ hg
   simp only[fV.L1,eo.L1,fV.K1,eo.K1]
   rw[people30 h hp]
   obtain⟨a,b⟩:=permits21 (p:=p) (kind:=c.bD.Kind) (value:=c.bD.Value) (hs:=g) (w:=cZ c p) hp.sm hg
   grind
  |cons y s ih=>
   intro i g hi hg
   simp only[xA]at hi
   simp only[fV.L1,eo.L1]
   rw[Te hoc ⟨by omega,by omega⟩ h.time h.know]
   refine ih (i+1) _ (by omega) λy hy=>?_
   rcases qE.1 hy with hy|hy
   .exact hg y hy
   .rw[kB.1 hy];exact zN (BD _ _ _ _) hsm.2.1
 exact key p.aD 0 [] (by have:=hp.off;omega) λy hy=>(vA hy).elim
end
section
variable {r:Register} (hsm:smR r) {signed:List Int} {u:List Use} {bD t ad:Int} (he:jb r signed u bD t ad=0) (hcl:fM r signed (cI r bD) t=false)
include hsm he hcl
theorem judged30:eE r u (nthI r.cj (cI r bD)) t ad =
  (bif !(gB (rCourt r bD t ad))then⟨3,-1,(askJ (rCourt r bD t ad)).1,askAll (rCourt r bD t ad)⟩else
   bif !(judgeRoom (rCourt r bD t ad) r u t ad).2.1 then⟨4,(judgeRoom (rCourt r bD t ad) r u t ad).1,(askJ (rCourt r bD t ad)).1,askAll (rCourt r bD t ad)⟩else⟨0,-1,(askJ (rCourt r bD t ad)).1,askAll (rCourt r bD t ad)⟩):=by
 obtain⟨hc,hd,ht,hk,hs,hr⟩:=BW hsm he
 have hco:=(BV hsm he).1
 have eT:=Gn hcl
 have h20:dE r.Versions=0:=xi hsm.vers ((kh _).1 hc).2.2.2.2.1
 have hJ:=Qd hco.vers h20 hco.good.at_ ht hk eT
 have hj:=BZ hco.vers hco.good.at_ ht hk eT
 have hb:=(kh _).1 hc
 have hpol:∀y∈(aN r.Versions (nthI r.cj (cI r bD)).At t ad).1,Qc ((nthI r.Versions (cR r y)).aw)/\askP (rCourt r bD t ad) y=(nthI r.Versions (cR r y)).aw:=by
  intro y hy
  obtain⟨v,hv,e⟩:=hj.mem y hy
  rcases policy30 (rCourt r bD t ad) y with⟨_,p2⟩|⟨_,p2⟩
  .rcases rver y r.Versions 0 with⟨_,g2⟩|⟨a,w,b,g1,g2,_,_⟩
   .exact(g2 v hv e).elim
   .have:cR r y<0:=p2
    unfold cR at this
    rw[g2]at this
    omega
  .exact⟨uJ hco hsm p2,WS p2⟩
 have hans:(aN r.Versions (nthI r.cj (cI r bD)).At t ad).1.map (λy=>fV r (nthI r.cj (cI r bD)) ((nthI r.Versions (cR r y)).aw) t ad)=(askJ (rCourt r bD t ad)).1.map (askAns (rCourt r bD t ad)):=by
  refine List.map_congr_left λy hy=>?_
  obtain⟨p1,p2⟩:=hpol y hy
  unfold askAns askWho
  rw[p2]
  exact permits30 hco hsm p1
 have hwho:(aN r.Versions (nthI r.cj (cI r bD)).At t ad).1.foldl (λw y=>(eJ r (nthI r.cj (cI r bD)) ((nthI r.Versions (cR r y)).aw) t ad).foldl fu w) []=askAll (rCourt r bD t ad):=by
  rw[PO (g:=λw y=>(askWho (rCourt r bD t ad) y).foldl fu w) [] λy hy a=>by
   obtain⟨p1,p2⟩:=hpol y hy
   unfold askWho
   rw[p2]
   exact congrArg (λl:List Int=>l.foldl fu a) (people30 hco p1)]
  obtain⟨a,b⟩:=Mk (askWho (rCourt r bD t ad)) (askJ (rCourt r bD t ad)).1 [] List.Pairwise.nil
  exact(Lw (xs:=(askJ (rCourt r bD t ad)).1.flatMap (askWho (rCourt r bD t ad))) a λx=>by rw[b];simp).trans rfl
 have hRm:gH r.fF u (nthI r.cj (cI r bD)).Kind (nthI r.cj (cI r bD)).Value t ad=judgeRoom (rCourt r bD t ad) r u t ad:=by
  have hru:=SD hr
  exact(Vc hb.2.2.2.1 hru.1 hru.2 ((Q8 u).symm.trans hru.2) hco.good.kind hco.good.value ht hk).symm
 unfold eE
 rw[LX,hJ,hans,hwho,qD]
 unfold eE.K1
 rw[hRm,hJ,decide27]
 have hask:((!(ip (askJ (rCourt r bD t ad)).2.1 ((askJ (rCourt r bD t ad)).1.map (askAns (rCourt r bD t ad)))).1)||((ip (askJ (rCourt r bD t ad)).2.1 ((askJ (rCourt r bD t ad)).1.map (askAns (rCourt r bD t ad)))).2 != 0))=!(gB (rCourt r bD t ad)):=by
  unfold gB
  rw[MC]
  cases hm:(askJ (rCourt r bD t ad)).2.1==0 with
  |true=>
   have h0:(askJ (rCourt r bD t ad)).2.1=0:=by simpa using hm
   rw[h0]
   rfl
  |false=>
   grind
 show(bif _ then _ else _)=_
 rw[show((!(ip (aN r.Versions (nthI r.cj (cI r bD)).At t ad).2.1 ((askJ (rCourt r bD t ad)).1.map (askAns (rCourt r bD t ad)))).1)||((ip (aN r.Versions (nthI r.cj (cI r bD)).At t ad).2.1 ((askJ (rCourt r bD t ad)).1.map (askAns (rCourt r bD t ad)))).2 != 0))=!(gB (rCourt r bD t ad))from hask]
 rfl
end
end
section
def qU(bK:Register)(signed:List Int)(u:List Use)(bD:Int)(dh:Int)(ad:Int):Bool:=(bif(!yO)then false else(bif(((!(mq bK))||decide (40<(signed.length:Int)))||decide (30<(u.length:Int)))then true else((((cQ bK)==(ij bK))&&(oS ((da bK signed u bD dh ad).1) ((ii bK signed u bD dh ad).1)))&&((da bK signed u bD dh ad).2==(ii bK signed u bD dh ad).2))))
end
section
theorem Qr{l:List Budget}(h:bY l=0)(u:List Use):(bo l u 0 0 0 0).2.2=(gH l u 0 0 0 0).2.2:=by grind [bo,gH,Vc,Q8,tP]
theorem Uo{r:Register}{t:Int}(h:((decide (cI r bD<0)||(!(nL t)))||(!(nL ad)))=true):nr r bD t ad=.error 1:=by
 have e:ah r.cj (λfX=>bz fX bD)=cI r bD:=(En bD r.cj 0).symm
 unfold nr
 rw[e]
 have:((decide (cI r bD<0)||decide (min t ad<0))||decide (1099511627776<=max t ad))=true:=by
  simp only[nL,xC,vD,Bool.and_eq_false_iff,decide_eq_true_eq,decide_eq_false_iff_not]at h ⊢
  omega
 rw[this]
 rfl
theorem SO{r:Register}(hsm:smR r)(signed:List Int)(u:List Use)(bD t ad:Int):da r signed u bD t ad=ii r signed u bD t ad:=by
 cases hE:jb r signed u bD t ad != 0 with
 |false=>
  have he:jb r signed u bD t ad=0:=by simpa using hE
  rw[(BV hsm he).2]
  unfold ii judgeC
  rw[hE,closed30 hsm he,needs30 hsm he]
  cases hcl:fM r signed (cI r bD) t with
  |true=>rfl
  |false=>
   cases hn:ka r signed (nthI r.cj (cI r bD)) t with
   |false=>rfl
   |true=>
    simp only[cond_false,Bool.not_true]
    rw[judged30 hsm he hcl]
 |true=>
  unfold ii
  rw[hE]
  simp only[cond_true]
  unfold da
  unfold jb at hE ⊢
  cases hc:ij r != 0 with
  |true=>
   grind [judge30,LY]
  |false=>
   have h30:ij r=0:=by simpa using hc
   have h1:cQ r=0:=(judge30 hsm).2 h30
   have hb:=(kh r).1 h1
   rw[hc]at hE
   rw[h1,K0 hb.2.2.2.2.2.1 (qe hb.2.2.2.2.2.1),Qr hb.2.2.2.1]
   simp only[cond_false]at hE
   simp only[bne_self_eq_false,cond_false]
   cases h3:(ej r.cj signed 0).2 != 0 with
   |true=>rfl
   |false=>
    rw[h3]at hE
    simp only[cond_false]at hE ⊢
    cases h4:(gH r.fF u 0 0 0 0).2.2 != 0 with
    |true=>rfl
    |false=>
     rw[h4]at hE
     simp only[cond_false]at hE ⊢
     grind [Uo]
theorem S6{r:Register}(hsm:smR r):cQ r=ij r:=by
 have h2:ij r=0\/ij r=300:=by
  unfold ij
  grind
 grind [LY,judge30]
theorem judgeSpec_true{r:Register}(hsm:smR r)(signed:List Int)(u:List Use)(bD t ad:Int):qU r signed u bD t ad=true:=by
 unfold qU
 rw[show yO=true from rfl]
 simp only[Bool.not_true,cond_false]
 cases((!(mq r))||decide (40<(signed.length:Int)))||decide (30<(u.length:Int))with
 |true=>rfl
 |false=>
  simp only[cond_false]
  grind [oS,S6,SO,Qj]
end
variable {S:List Nat}
section
section
variable {P:Program} {b:Frame} {n:Nat} {k:List Item} {F:List Frame->(Machine->Prop)->Prop} {e:Env} {ds:List Deferred} {X:Cx} {h:HF} {L:LH}
variable {ops:Array Oper} {l:List Oper} {d:Nat} {ty:TypeId} {pos:String} {af:Array Edge} {g:Option (Nat×Bool)}
def memN:List Nat->Nat->Bool
 |[],_=>false
 |a::l,s=>bif kV s a then true else memN l s
def mix(S:List Nat)(e' e:Env):Env:=λs=>bif memN S s then e' s else e s
def subN:List Nat->List Nat->Bool
 |[],_=>true
 |a::l,S=>memN S a&&subN l S
def Agr(S:List Nat)(e e':Env):Prop:=∀s,memN S s=false->e' s=e s
theorem sy{e:Env}:Agr S e e:=λ_ _=>rfl
theorem uK{e e':Env}{d:Nat}{w:Value}(hd:memN S d=true)(h:Agr S e e'):Agr S e (upd e' d w):=λs hs=>by
 unfold upd
 cases hb:kV s d with
 |true=>rw[xL hb,hd]at hs;cases hs
 |false=>exact h s hs
theorem Uv{T:List Nat}(h:subN T S=true){s:Nat}(hs:memN S s=false):memN T s=false:=by
 induction T with
 |nil=>rfl
 |cons a T ih=>
  simp only[subN,jA]at h
  simp only[memN]
  cases hb:kV s a with
  |true=>rw[xL hb,h.1]at hs;cases hs
  |false=>exact ih h.2
theorem uL{T:List Nat}{e e' e2:Env}(hT:subN T S=true)(h:Agr S e e'):Agr S e (mix T e2 e'):=λs hs=>by
 unfold mix
 rw[Uv hT hs];exact h s hs
theorem Ro(m:Nat)(S:List Nat)(d:Nat)(v:Value)(t':(∀e',e' d=v->(ha:Agr S e e':=by repeat (first|exact sy|refine uK rfl ?_|refine uL rfl ?_))->TO P b n ops (l.drop m) k F e' ds X h L)->TO P b n ops l k F e ds X h L)(hk:∀e'',TO P b n ops (l.drop m) k F (upd (mix S e'' e) d v) ds X h L):TO P b n ops l k F e ds X h L:=
 t' λe' hv ha=>by
  have e1:upd (mix S e' e) d v=e':=funext λs=>by
   unfold upd
   cases hb:kV s d with
   |true=>rw[xL hb];exact hv.symm
   |false=>
    show mix S e' e s=e' s
    unfold mix
    cases hm:memN S s with
    |true=>rfl
    |false=>exact(ha s hm).symm
  have:=hk e'
  rw[e1]at this
  exact this
theorem dy{x z:α}{c:Bool}{o:Operand}{p q:Code}(hs:x=bif c then y else z)(hx:e.ev o=.bool c)(t1:c=true->x=y->TT P b n (.code p::k) F e ds X h L)(t2:c=false->x=z->TT P b n (.code q::k) F e ds X h L):TT P b n (.code (.cond o p q)::k) F e ds X h L:=by grind [lL]
end
end
end Go.Sg
